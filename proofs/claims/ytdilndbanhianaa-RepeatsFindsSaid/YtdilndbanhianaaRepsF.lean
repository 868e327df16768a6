/- What the reference's Find says, in the program's own plain words; no condition. -/
import Derived.Test.YtdilndbanhianaaRepsF0
import Derived.Test.YtdilndbanhianaaRepsR1
import Derived.Test.YtdilndbanhianaaP36
import Derived.Test.YtdilndbanhianaaP56
import Derived.Test.YtdilndbanhianaaP57
import Derived.Test.YtdilndbanhianaaP58
import Derived.Test.YtdilndbanhianaaP41
set_option linter.unusedVariables false
set_option linter.unusedSimpArgs false
namespace Go.Proofs.Ytdilndbanhianaa.P
open Go.RowKit Go.Proofs.YtdilndbanhianaaW.PrintWords Go.Proofs.YtdilndbanhianaaW.PrintLast Go.Proofs.YtdilndbanhianaaW.PrintMore
theorem same26_eq (a b : List S29) (hl : a.length ≤ 1000000) : Ev (fun k => dancestudioref26_Same.f k a b) (eqL a b) := by
  by_cases hlen : a.length = b.length
  · have main : ∀ d i, i + d = a.length → Ev (fun k => dancestudioref26_Same.l0 k a b (i : Int)) (eqL (a.drop i) (b.drop i)) := by
      intro d
      induction d with
      | zero =>
        intro i hi
        refine Ev.succ ?_
        rw [show a.drop i = [] from List.drop_eq_nil_of_le (by omega), show b.drop i = [] from List.drop_eq_nil_of_le (by omega)]
        simp only [dancestudioref26_Same.l0, ltI, show ¬ i < a.length by omega, ↓reduceIte, eqL]
        exact Ev.now _
      | succ d ih =>
        intro i hi
        have h : i < a.length := by omega
        have h' : i < b.length := by omega
        have ih' := ih (i + 1) (by omega)
        refine Ev.succ ?_
        rw [drop_cons29 h, drop_cons29 h']
        have en : neS' a[i] b[i] = (!(a[i].f0 == b[i].f0) || (!(a[i].f1 == b[i].f1) || (!(a[i].f2 == b[i].f2) || (!(a[i].f3 == b[i].f3) || (!(a[i].f4 == b[i].f4) || (!(a[i].f5 == b[i].f5) || (!(a[i].f6 == b[i].f6)))))))) := rfl
        simp only [dancestudioref26_Same.l0, ltI, h, h', ge0, ↓reduceIte, rd29_at h, rd29_at h', wrapS h (by omega : a.length ≤ 1000000), ← en, eqL]
        cases neS' a[i] b[i]
        · simp only [Bool.false_eq_true, ↓reduceIte, Bool.not_false, Bool.true_and]; exact ih'
        · simp only [↓reduceIte, Bool.not_true, Bool.false_and]; exact Ev.now _
    have := main a.length 0 (by omega)
    simp only [List.drop_zero] at this
    unfold dancestudioref26_Same.f
    simp only [show (a.length : Int) = (b.length : Int) by omega, ↓reduceIte]
    exact this
  · unfold dancestudioref26_Same.f
    simp only [show ¬ (a.length : Int) = (b.length : Int) by omega, ↓reduceIte, eqL_len hlen]
    exact Ev.now _
theorem sameR_refl (l : List S61) (hl : l.length ≤ 1000000) : Ev (fun k => dancestudioref26_SameRepeats.f k l l) true := by
  have main : ∀ d i, i + d = l.length → Ev (fun k => dancestudioref26_SameRepeats.l0 k l l (i : Int)) true := by
    intro d
    induction d with
    | zero => intro i hi; refine Ev.succ ?_; simp only [dancestudioref26_SameRepeats.l0, ltI, show ¬ i < l.length by omega, ↓reduceIte]; exact Ev.now _
    | succ d ih =>
      intro i hi
      have h : i < l.length := by omega
      refine Ev.succ ?_
      simp only [dancestudioref26_SameRepeats.l0, ltI, h, ge0, ↓reduceIte, wrapS h (by omega), beq_self_eq_true, Bool.not_true, Bool.or_self, Bool.false_eq_true]
      exact ih (i + 1) (by omega)
  have : (fun k => dancestudioref26_SameRepeats.f k l l) = fun k => dancestudioref26_SameRepeats.l0 k l l ((0 : Nat) : Int) := by
    funext k; simp [dancestudioref26_SameRepeats.f]
  rw [this]; exact main l.length 0 (by omega)
theorem perf1_eq (l : List S29) (q : List (S45 × Int)) (hl : l.length ≤ 256) (hq : q.length ≤ 3000) (ht : ∀ x ∈ q, x.2 = 1) : Ev (fun k => dancestudioref26_performed.f k l (q.map sc)) (q.foldl (perfS l) ([], 0)).1 := by
  have main : ∀ d j (st : List S29 × Int), j + d = q.length → st.1.length ≤ j * 256 → Ev (fun k => dancestudioref26_performed.l0 k l (q.map sc) st.1 st.2 (j : Int)) ((q.drop j).foldl (perfS l) st).1 := by
    intro d
    induction d with
    | zero =>
      intro j st hj _
      refine Ev.succ ?_
      rw [show q.drop j = [] from List.drop_eq_nil_of_le (by omega)]
      simp only [dancestudioref26_performed.l0, List.length_map, ltI, show ¬ j < q.length by omega, ↓reduceIte, List.foldl_nil]
      exact Ev.now _
    | succ d ih =>
      intro j st hj hst
      have h : j < q.length := by omega
      have h' : j < (q.map sc).length := by simpa using h
      have hx := ht q[j] (List.getElem_mem h)
      have hwl := withinP_len l q[j].1
      have hone : q[j].2.toNat = 1 := by omega
      have ih' := ih (j + 1) (perfS l st q[j]) (by omega) (by rw [perfS_len, hone]; omega)
      rw [List.drop_eq_getElem_cons h, List.foldl_cons]
      refine Ev.succ ?_
      simp only [dancestudioref26_performed.l0, List.length_map, ltI, h, ↓reduceIte]
      have inner : ∀ e c, c + e = q[j].2.toNat → Ev (fun k => dancestudioref26_performed.l1 k l (q.map sc) (repS l q[j] c st).1 (repS l q[j] c st).2 (j : Int) (c : Int)) ((q.drop (j + 1)).foldl (perfS l) (perfS l st q[j])).1 := by
        intro e
        induction e with
        | zero =>
          intro c hc
          obtain rfl : c = q[j].2.toNat := by omega
          refine Ev.succ ?_
          simp only [dancestudioref26_performed.l1, List.length_map, ltI, h, ge0, ↓reduceIte, rd88_at h', List.getElem_map, sc, show ¬ ((q[j].2.toNat : Nat) : Int) < q[j].2 by omega, wrapS h (by omega : q.length ≤ 1000000)]
          exact ih'
        | succ e ihe =>
          intro c hc
          have ihe' := ihe (c + 1) (by omega)
          refine Ev.succ ?_
          simp only [dancestudioref26_performed.l1, List.length_map, ltI, h, ge0, ↓reduceIte, rd88_at h', List.getElem_map, sc, show ((c : Nat) : Int) < q[j].2 by omega]
          refine rperf_l2 l q hl j h _ _ _ _ ?_ ?_
          · rw [repS_len]
            have : c * (withinP l q[j].1).length ≤ 1 * 256 := Nat.mul_le_mul (by omega) (by omega)
            omega
          · rw [show wrap64 ((c : Int) + 1) = ((c + 1 : Nat) : Int) by unfold wrap64; omega]
            exact ihe'
      exact inner q[j].2.toNat 0 (by omega)
  have := main q.length 0 ([], 0) (by omega) (by simp)
  rw [List.drop_zero] at this
  exact this
theorem perf_piece (l : List S29) {f t : Int} (h0 : 0 ≤ f) (h1 : f ≤ 8192) : ([((⟨f, t⟩ : S45), (1 : Int))].foldl (perfS l) ([], 0)).1 = pcS l f t := by
  show ((repS l (⟨f, t⟩, 1) 1 ([], 0)).1) = _
  simp only [repS, List.nil_append]
  rw [wrap_in (0 - f) (by omega) (by omega), Int.zero_sub]; rfl
theorem same_ref {l : List S29} {n : Int} (v : StaffOk l n) {a b m : Int} (h0 : 0 ≤ a) (h1 : a ≤ 8192) (h3 : 0 ≤ b) (h4 : b ≤ 200000) (hm : 1 ≤ m ∧ m ≤ 8192) : Ev (fun k => dancestudioref26_same.f k l n a b m) (decide (b + m ≤ n) && smP l a (a + m) b (b + m)) := by
  have hn := v.n1
  have hl := v.len
  have e1 : wrap64 (a + m) = a + m := wrap_in _ (by omega) (by omega)
  have e2 : wrap64 (b + m) = b + m := wrap_in _ (by omega) (by omega)
  have j0 : ∀ x : Bool, Ev (fun k => dancestudioref26_same.j0 k l a b m x) (if x = true then false else eqL (pcS l a (a + m)) (pcS l b (b + m))) ∨ 8192 < b := by
    intro x
    by_cases hb : 8192 < b
    · exact .inr hb
    · left
      refine Ev.succ ?_
      cases x
      · simp only [dancestudioref26_same.j0, Bool.false_eq_true, ↓reduceIte, e1, e2]
        have p1 := perf1_eq l [((⟨a, a + m⟩ : S45), (1 : Int))] hl (by simp) (by simp)
        have p2 := perf1_eq l [((⟨b, b + m⟩ : S45), (1 : Int))] hl (by simp) (by simp)
        rw [perf_piece l h0 h1] at p1
        rw [perf_piece l h3 (by omega)] at p2
        refine Ev.bind p1 ?_
        refine Ev.bind p2 ?_
        exact Ev.bind (same26_eq _ _ (by have := pcS_len l a (a + m); omega)) (Ev.now _)
      · simp only [dancestudioref26_same.j0, ↓reduceIte]; exact Ev.now _
  have jt : Ev (fun k => dancestudioref26_same.j0 k l a b m true) false := by
    refine Ev.succ ?_
    simp only [dancestudioref26_same.j0, ↓reduceIte]; exact Ev.now _
  unfold dancestudioref26_same.f smP
  simp only [e1, e2, GT.gt]
  by_cases c : n < b + m
  · have : decide (b + m ≤ n) = false := by simp; omega
    simp only [c, ↓reduceIte, this, Bool.false_and]; exact jt
  · have hd : decide (b + m ≤ n) = true := by simp; omega
    have j0' := fun x => (j0 x).resolve_right (by omega)
    simp only [c, ↓reduceIte, hd, Bool.true_and]
    refine Ev.bind (rcut26_eq l a (by omega)) ?_
    cases c1 : cutB l a
    · simp only [Bool.false_eq_true, ↓reduceIte, Bool.false_and]; exact jt
    · simp only [↓reduceIte, Bool.true_and]
      refine Ev.bind (rcut26_eq l _ (by omega)) ?_
      cases c2 : cutB l (a + m)
      · simp only [Bool.false_eq_true, ↓reduceIte, Bool.false_and]; exact jt
      · simp only [↓reduceIte, Bool.true_and]
        refine Ev.bind (rcut26_eq l _ (by omega)) ?_
        cases c3 : cutB l b
        · simp only [Bool.false_eq_true, ↓reduceIte, Bool.false_and]; exact jt
        · simp only [↓reduceIte, Bool.true_and]
          refine Ev.bind (rcut26_eq l _ (by omega)) ?_
          cases c4 : cutB l (b + m)
          · exact jt
          · exact j0' false
theorem fit_l1 {l : List S29} {n : Int} (v : StaffOk l n) {t m : Int} (ht : 0 ≤ t) (ht2 : t ≤ n) (hm : 1 ≤ m) (htm : m ≤ n) : ∀ f j : Nat, 1 ≤ j → j + f = 16 → Ev (fun k => dancestudioref26_fit.l1 k l n t m (j : Int)) (m, ((fo (foP l n t m) f j : Nat) : Int)) := by
  have hn := v.n1
  intro f
  induction f with
  | zero =>
    intro j h1 hj
    refine Ev.succ ?_
    simp only [dancestudioref26_fit.l1, show ¬ (j : Int) < 16 by omega, ↓reduceIte, fo]
    exact Ev.now _
  | succ f ih =>
    intro j h1 hj
    obtain ⟨b1, b2, b3⟩ := jm_b ⟨hm, by omega⟩ j (by omega)
    have ih' := ih (j + 1) (by omega) (by omega)
    have e1 : wrap64 ((j : Int) + 1) = ((j + 1 : Nat) : Int) := by unfold wrap64; omega
    have e2 : wrap64 ((j : Int) * m) = (j : Int) * m := wrap_in _ (by omega) (by omega)
    have e5 : wrap64 (t + (j : Int) * m) = t + (j : Int) * m := wrap_in _ (by omega) (by omega)
    refine Ev.succ ?_
    simp only [dancestudioref26_fit.l1, show (j : Int) < 16 by omega, ↓reduceIte, e1, e2, e5]
    refine Ev.bind (same_ref (a := t) (b := t + (j : Int) * m) v ht (by omega) (by omega) (by omega) ⟨hm, by omega⟩) ?_
    have ep : (decide (t + (j : Int) * m + m ≤ n) && smP l t (t + m) (t + (j : Int) * m) (t + (j : Int) * m + m)) = foP l n t m j := rfl
    rw [ep]
    cases hp : foP l n t m j
    · have : fo (foP l n t m) (f + 1) j = j := by simp only [fo]; rw [if_neg (by rw [hp]; decide)]
      rw [this]
      simp only [Bool.false_eq_true, ↓reduceIte]; exact Ev.now _
    · have : fo (foP l n t m) (f + 1) j = fo (foP l n t m) f (j + 1) := by simp only [fo]; rw [if_pos hp]
      rw [this]
      simp only [↓reduceIte]; exact ih'
theorem fit_l0 {l : List S29} {n unit t : Int} (v : StaffOk l n) (ht : 0 ≤ t) (ht2 : t ≤ n) (hu : 1 ≤ unit) (hun : unit ≤ n) : ∀ (f : Nat) (m : Int), 1 ≤ m → m ≤ 20000 → n < (f : Int) + m → Ev (fun k => dancestudioref26_fit.l0 k l n unit t m) (match seP l n unit t f m with | some x => (x.1, (x.2 : Int)) | none => (0, 0)) := by
  have hn := v.n1
  intro f
  induction f with
  | zero =>
    intro m hm hm2 hf
    refine Ev.succ ?_
    have e1 : wrap64 (2 * m) = 2 * m := wrap_in _ (by omega) (by omega)
    have e2 : wrap64 (t + 2 * m) = t + 2 * m := wrap_in _ (by omega) (by omega)
    simp only [dancestudioref26_fit.l0, e1, e2, show ¬ t + 2 * m ≤ n by omega, ↓reduceIte, seP]
    exact Ev.now _
  | succ f ih =>
    intro m hm hm2 hf
    refine Ev.succ ?_
    have e1 : wrap64 (2 * m) = 2 * m := wrap_in _ (by omega) (by omega)
    have e2 : wrap64 (t + 2 * m) = t + 2 * m := wrap_in _ (by omega) (by omega)
    have e3 : wrap64 (t + m) = t + m := wrap_in _ (by omega) (by omega)
    have e4 : wrap64 (m + unit) = m + unit := wrap_in _ (by omega) (by omega)
    simp only [dancestudioref26_fit.l0, e1, e2, e3, e4, seP]
    by_cases c : t + 2 * m ≤ n
    · simp only [c, ↓reduceIte]
      have e5 : t + ((1 : Nat) : Int) * m = t + m := by rw [Int.natCast_one, Int.one_mul]
      have hs := same_ref (a := t) (b := t + m) v ht (by omega) (by omega) (by omega) ⟨hm, by omega⟩
      have ep : (decide (t + m + m ≤ n) && smP l t (t + m) (t + m) (t + m + m)) = foP l n t m 1 := by unfold foP; rw [e5]
      rw [ep] at hs
      refine Ev.bind hs ?_
      cases hp : foP l n t m 1
      · simp only [Bool.false_eq_true, ↓reduceIte]
        exact ih (m + unit) (by omega) (by omega) (by omega)
      · simp only [↓reduceIte]
        exact fit_l1 v ht ht2 hm (by omega) 14 2 (by omega) rfl
    · simp only [c, ↓reduceIte]; exact Ev.now _
theorem ref_l0 {l : List S29} {n unit : Int} (v : StaffOk l n) (hn : n ≤ 300) (hu : 1 ≤ unit) (hun : unit ≤ n) : ∀ (f : Nat) (t : Int) (W : List (S45 × Int)) (tw : Int) (r : List S61), n < (f : Int) + t → 0 ≤ t → t ≤ n → 0 ≤ tw → tw ≤ t → (W.length : Int) ≤ t → (∀ x ∈ W, x.2 = 1) → r.length ≤ 16 →
    Ev (fun k => dancestudioref26_Find.l0 k l n unit (W.map sc) r tw t) (((fiP l n unit f t W tw r).1.foldl (perfS l) ([], 0)).1, (fiP l n unit f t W tw r).2.1, (fiP l n unit f t W tw r).2.2, 0) := by
  intro f
  induction f with
  | zero => intro t W tw r hf h0 h1; omega
  | succ f ih =>
    intro t W tw r hf h0 h1 h2 h3 h4 h5 h6
    refine Ev.succ ?_
    by_cases ct : t < n
    · obtain ⟨hst, hs16⟩ := stP_ok (l := l) (unit := unit) hu ct r.length
      have hmn := mn_b hu ct
      have hfi : fiP l n unit (f + 1) t W tw r = fiP l n unit f (t + (stP l n unit t r.length).1 * (stP l n unit t r.length).2) (W ++ [(⟨t, t + (stP l n unit t r.length).1⟩, 1)]) (tw + (stP l n unit t r.length).1) (if 1 < (stP l n unit t r.length).2 then r ++ [⟨⟨tw, tw + (stP l n unit t r.length).1⟩, (stP l n unit t r.length).2⟩] else r) := by
        show (if t < n then _ else _) = _
        rw [if_pos ct]
      rw [hfi]
      have e0 : wrap64 (n - t) = n - t := wrap_in _ (by omega) (by omega)
      simp only [dancestudioref26_Find.l0, ct, ↓reduceIte, e0]
      have hW : (W.map sc).length < 5864062014805 := by rw [List.length_map]; omega
      have hone : ∀ st : Int × Int, stP l n unit t r.length = st → st = (mn unit (n - t), 1) → Ev (fun k => dancestudioref26_Find.l0 k l n unit (W.map sc ++ [(⟨t, wrap64 (t + mn unit (n - t)), 1⟩ : S88)]) r (wrap64 (tw + mn unit (n - t))) (wrap64 (t + wrap64 (mn unit (n - t) * 1))))
          (((fiP l n unit f (t + st.1 * st.2) (W ++ [(⟨t, t + st.1⟩, 1)]) (tw + st.1) (if 1 < st.2 then r ++ [⟨⟨tw, tw + st.1⟩, st.2⟩] else r)).1.foldl (perfS l) ([], 0)).1, (fiP l n unit f (t + st.1 * st.2) (W ++ [(⟨t, t + st.1⟩, 1)]) (tw + st.1) (if 1 < st.2 then r ++ [⟨⟨tw, tw + st.1⟩, st.2⟩] else r)).2.1, (fiP l n unit f (t + st.1 * st.2) (W ++ [(⟨t, t + st.1⟩, 1)]) (tw + st.1) (if 1 < st.2 then r ++ [⟨⟨tw, tw + st.1⟩, st.2⟩] else r)).2.2, 0) := by
        rintro st - rfl
        simp only [Int.mul_one]
        rw [if_neg (by omega), wrap_in (t + mn unit (n - t)) (by omega) (by omega), wrap_in (tw + mn unit (n - t)) (by omega) (by omega), wrap_in (mn unit (n - t)) (by omega) (by omega), wrap_in (t + mn unit (n - t)) (by omega) (by omega)]
        have := ih (t + mn unit (n - t)) (W ++ [(⟨t, t + mn unit (n - t)⟩, 1)]) (tw + mn unit (n - t)) r (by omega) (by omega) (by omega) (by omega) (by omega) (by rw [List.length_append, List.length_singleton]; omega)
          (by intro x hx; rcases List.mem_append.mp hx with hx | hx; exact h5 x hx; rw [List.mem_singleton.mp hx]) h6
        rw [List.map_append] at this
        exact this
      by_cases c16 : r.length < 16
      · simp only [show (r.length : Int) < 16 by omega, ↓reduceIte]
        have hfit := fit_l0 v h0 h1 hu hun 9000 unit hu (by omega) (by omega)
        cases hse : seP l n unit t 9000 unit with
        | none =>
          have e : stP l n unit t r.length = (mn unit (n - t), 1) := by unfold stP; rw [if_pos c16, hse]; rfl
          rw [hse] at hfit
          refine Ev.bind (a := (0, 0)) hfit ?_
          simp only [↓reduceIte, hW]
          exact hone _ rfl e
        | some x =>
          have e : stP l n unit t r.length = (x.1, (x.2 : Int)) := by unfold stP; rw [if_pos c16, hse]; rfl
          rw [hse] at hfit
          refine Ev.bind (a := (x.1, (x.2 : Int))) hfit ?_
          rw [e] at hst
          obtain ⟨x1, x2, x3, x4, x5, x6⟩ := hst
          simp only at x1 x2 x3 x4 x5
          have h2x := (seP_spec l n unit t hu 9000 unit x hu hse).2.1
          simp only [show ¬ x.1 = 0 by omega, ↓reduceIte, show r.length < 5864062014805 by omega, hW]
          rw [e]
          simp only
          rw [if_pos (by omega), wrap_in (t + x.1) (by omega) (by omega), wrap_in (tw + x.1) (by omega) (by omega), wrap_in (x.1 * (x.2 : Int)) (by omega) (by omega), wrap_in (t + x.1 * (x.2 : Int)) (by omega) (by omega)]
          have := ih (t + x.1 * (x.2 : Int)) (W ++ [(⟨t, t + x.1⟩, 1)]) (tw + x.1) (r ++ [⟨⟨tw, tw + x.1⟩, (x.2 : Int)⟩]) (by omega) (by omega) (by omega) (by omega) (by omega) (by rw [List.length_append, List.length_singleton]; omega)
            (by intro y hy; rcases List.mem_append.mp hy with hy | hy; exact h5 y hy; rw [List.mem_singleton.mp hy]) (by rw [List.length_append, List.length_singleton]; omega)
          rw [List.map_append] at this
          exact this
      · have e : stP l n unit t r.length = (mn unit (n - t), 1) := by unfold stP; rw [if_neg c16]
        simp only [show ¬ (r.length : Int) < 16 by omega, ↓reduceIte, hW]
        exact hone _ rfl e
    · have hfi : fiP l n unit (f + 1) t W tw r = (W, tw, r) := by
        show (if t < n then _ else _) = _
        rw [if_neg ct]
      rw [hfi]
      simp only [dancestudioref26_Find.l0, ct, ↓reduceIte]
      exact Ev.bind (perf1_eq l W v.len (by omega) h5) (Ev.now _)
theorem rfind_eq (l : List S29) (n unit : Int) (hn : n ≤ 300 ∨ 8192 < n) : Ev (fun k => dancestudioref26_Find.f k l n unit) (findP l n unit) := by
  unfold dancestudioref26_Find.f findP
  refine Ev.bind (rchk_eq l n) ?_
  by_cases h1 : chkS l n = 0
  · have v := (chkS_ok l n).mp h1
    have hn' : n ≤ 300 := by have := v.n1; omega
    have n0 := v.n0
    simp only [h1, ↓reduceIte, not_true_eq_false]
    by_cases c1 : unit < 1
    · simp only [c1, ↓reduceIte, true_or]
      refine Ev.succ ?_
      simp only [dancestudioref26_Find.j0, ↓reduceIte]; exact Ev.now _
    · simp only [c1, ↓reduceIte, false_or, GT.gt]
      refine Ev.succ ?_
      by_cases c2 : n < unit
      · simp only [dancestudioref26_Find.j0, c2, decide_true, ↓reduceIte]; exact Ev.now _
      · simp only [dancestudioref26_Find.j0, c2, decide_false, Bool.false_eq_true, ↓reduceIte]
        exact ref_l0 v hn' (by omega) (by omega) 9000 0 [] 0 [] (by omega) (Int.le_refl _) (by omega) (Int.le_refl _) (Int.le_refl _) (by simp) (by simp) (by simp)
  · simp only [h1, ↓reduceIte, not_false_eq_true]; exact Ev.now _
end Go.Proofs.Ytdilndbanhianaa.P

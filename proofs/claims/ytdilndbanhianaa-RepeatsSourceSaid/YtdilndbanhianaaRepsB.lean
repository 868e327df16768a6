/- The symbol that begins at a performed tick is the written one that begins at its source; no condition. -/
import Derived.Test.YtdilndbanhianaaRepsV
set_option linter.unusedVariables false
set_option linter.unusedSimpArgs false
namespace Go.Proofs.Ytdilndbanhianaa.P
open Go.RowKit Go.Proofs.YtdilndbanhianaaW.PrintWords Go.Proofs.YtdilndbanhianaaW.PrintLast Go.Proofs.YtdilndbanhianaaW.PrintMore
def fndB (c t : Int) (s : S29) : Bool := decide (s.f1 = c) && decide (s.f2 = t)
def zS (s : S29) : S29 := ⟨s.f0, s.f1, 0, s.f3, s.f4, s.f5, s.f6⟩
/-- The first symbol of a column that begins at a tick, moved to 0. -/
def fnd (c t : Int) (l : List S29) : Option S29 := (l.find? (fndB c t)).map zS
theorem fnd_nil (c t : Int) : fnd c t [] = none := rfl
theorem fnd_yes {c t : Int} {s : S29} (l : List S29) (h : fndB c t s = true) : fnd c t (s :: l) = some (zS s) := by unfold fnd; rw [List.find?_cons, h]; rfl
theorem fnd_not {c t : Int} {s : S29} (l : List S29) (h : fndB c t s = false) : fnd c t (s :: l) = fnd c t l := by unfold fnd; rw [List.find?_cons, h]
theorem fnd_app (c t : Int) (a b : List S29) : fnd c t (a ++ b) = (fnd c t a).or (fnd c t b) := by
  unfold fnd; rw [List.find?_append]
  cases a.find? (fndB c t) <;> rfl
theorem fnd_piece0 (c t f g d : Int) (h1 : -8192 ≤ d) (h2 : d ≤ 8192) : ∀ l : List S29, (∀ s ∈ l, chkO s = 0) →
    fnd c t ((l.filter (inB f g)).map (movS d)) = if f ≤ t - d ∧ t - d < g then fnd c (t - d) l else none
  | [], _ => by simp [fnd_nil]
  | s :: l, hl => by
    have hs := hl s (by simp)
    have ih := fnd_piece0 c t f g d h1 h2 l (fun y hy => hl y (by simp [hy]))
    have ef := mov_f2 hs h1 h2
    have eb : fndB c t (movS d s) = fndB c (t - d) s := by
      unfold fndB
      rw [ef]
      have e1 : (movS d s).f1 = s.f1 := rfl
      rw [e1]
      have e2 : decide (s.f2 + d = t) = decide (s.f2 = t - d) := by rw [decide_eq_decide]; omega
      rw [e2]
    cases hi : inB f g s
    · rw [List.filter_cons_of_neg (by rw [hi]; decide), ih]
      by_cases c1 : f ≤ t - d ∧ t - d < g
      · rw [if_pos c1, if_pos c1]
        have : fndB c (t - d) s = false := by
          cases hh : fndB c (t - d) s
          · rfl
          · simp only [fndB, Bool.and_eq_true, decide_eq_true_eq] at hh
            have := hh.2
            simp only [inB, Bool.and_eq_false_iff, decide_eq_false_iff_not] at hi
            omega
        rw [fnd_not l this]
      · rw [if_neg c1, if_neg c1]
    · rw [List.filter_cons_of_pos hi, List.map_cons]
      cases hh : fndB c (t - d) s
      · rw [fnd_not _ (eb.trans hh), ih, fnd_not _ hh]
      · rw [fnd_yes _ (eb.trans hh), fnd_yes _ hh]
        simp only [fndB, Bool.and_eq_true, decide_eq_true_eq] at hh
        simp only [inB, Bool.and_eq_true, decide_eq_true_eq] at hi
        rw [if_pos (by omega)]; rfl
theorem fnd_piece {l : List S29} {n : Int} {x : S45 × Int} (v : StaffOk l n) (hx : SecOk n x) {a : Int} (ha : 0 ≤ a) (hb : a ≤ 8192) (c t : Int) :
    fnd c t ((withinP l x.1).map (movS (wrap64 (a - x.1.f0)))) = if a ≤ t ∧ t < a + (x.1.f1 - x.1.f0) then fnd c (x.1.f0 + (t - a)) l else none := by
  obtain ⟨h0, h1, h2, h3, h4⟩ := hx
  have hn := v.n1
  rw [wrap_in (a - x.1.f0) (by omega) (by omega)]
  unfold withinP
  rw [fnd_piece0 c t x.1.f0 x.1.f1 (a - x.1.f0) (by omega) (by omega) l v.all]
  by_cases q : a ≤ t ∧ t < a + (x.1.f1 - x.1.f0)
  · rw [if_pos q, if_pos (by omega), show t - (a - x.1.f0) = x.1.f0 + (t - a) by omega]
  · rw [if_neg q, if_neg (by omega)]
theorem repS_at {l : List S29} {n : Int} {x : S45 × Int} (hn : n ≤ 8192) (hx : SecOk n x) (st : List S29 × Int) (h0 : 0 ≤ st.2) :
    ∀ k : Nat, st.2 + (x.1.f1 - x.1.f0) * (k : Int) ≤ 1000000000 → (repS l x k st).2 = st.2 + (x.1.f1 - x.1.f0) * (k : Int)
  | 0, _ => by simp [repS]
  | k + 1, hb => by
    have hlt := hx.lt
    have hx0 := hx.f0
    have hx1 := hx.le
    have e : (x.1.f1 - x.1.f0) * ((k + 1 : Nat) : Int) = (x.1.f1 - x.1.f0) * (k : Int) + (x.1.f1 - x.1.f0) := by rw [Int.natCast_add, Int.mul_add]; simp
    have hk : 0 ≤ (x.1.f1 - x.1.f0) * (k : Int) := Int.mul_nonneg (by omega) (by omega)
    rw [e] at hb ⊢
    have ih := repS_at (l := l) hn hx st h0 k (by omega)
    show wrap64 ((repS l x k st).2 + wrap64 (x.1.f1 - x.1.f0)) = _
    rw [ih, wrap_in (x.1.f1 - x.1.f0) (by omega) (by omega), wrap_in _ (by omega) (by omega)]; omega
theorem perf_at {l : List S29} {n : Int} (hn : n ≤ 8192) : ∀ (q : List (S45 × Int)) (st : List S29 × Int), (∀ x ∈ q, SecOk n x) → 0 ≤ st.2 → st.2 + totQ q ≤ 1000000000 → (q.foldl (perfS l) st).2 = st.2 + totQ q
  | [], st, _, _, _ => by simp [totQ]
  | x :: q, st, h, h0, hb => by
    have hx := h x (by simp)
    have hq := totQ_b hn q (fun y hy => h y (by simp [hy]))
    have ht : ((x.2.toNat : Nat) : Int) = x.2 := Int.toNat_of_nonneg (by have := hx.t1; omega)
    have et : totQ (x :: q) = secM x + totQ q := rfl
    have hm : (x.1.f1 - x.1.f0) * ((x.2.toNat : Nat) : Int) = secM x := by rw [ht]; rfl
    have m0 := (secM_b hx hn).1
    rw [et] at hb ⊢
    have ia : (perfS l st x).2 = st.2 + secM x := by
      have := repS_at (l := l) hn hx st h0 x.2.toNat (by rw [hm]; omega)
      rw [hm] at this; exact this
    have ih := perf_at (l := l) hn q (perfS l st x) (fun y hy => h y (by simp [hy])) (by omega) (by omega)
    rw [List.foldl_cons, ih, ia]; omega
theorem or_none' {α : Type} (a : Option α) : a.or none = a := by cases a <;> rfl
theorem repS_fnd {l : List S29} {n : Int} {x : S45 × Int} (v : StaffOk l n) (hx : SecOk n x) (st : List S29 × Int) (h0 : 0 ≤ st.2) (c t : Int) :
    ∀ k : Nat, st.2 + (x.1.f1 - x.1.f0) * (k : Int) ≤ 8192 → fnd c t (repS l x k st).1 = (fnd c t st.1).or (if st.2 ≤ t ∧ t < st.2 + (x.1.f1 - x.1.f0) * (k : Int) then fnd c (x.1.f0 + (t - st.2) % (x.1.f1 - x.1.f0)) l else none)
  | 0, _ => by
    rw [if_neg (by simp), or_none']; rfl
  | k + 1, hb => by
    have hlt := hx.lt
    have e : (x.1.f1 - x.1.f0) * ((k + 1 : Nat) : Int) = (x.1.f1 - x.1.f0) * (k : Int) + (x.1.f1 - x.1.f0) := by rw [Int.natCast_add, Int.mul_add]; simp
    have hk : 0 ≤ (x.1.f1 - x.1.f0) * (k : Int) := Int.mul_nonneg (by omega) (by omega)
    rw [e] at hb ⊢
    have ih := repS_fnd v hx st h0 c t k (by omega)
    have ia := repS_at (l := l) v.n1 hx st h0 k (by omega)
    show fnd c t ((repS l x k st).1 ++ (withinP l x.1).map (movS (wrap64 ((repS l x k st).2 - x.1.f0)))) = _
    rw [fnd_app, ih, ia, fnd_piece v hx (by omega) (by omega)]
    by_cases c1 : t < st.2 + (x.1.f1 - x.1.f0) * (k : Int)
    · rw [if_neg (show ¬ (st.2 + (x.1.f1 - x.1.f0) * (k : Int) ≤ t ∧ t < st.2 + (x.1.f1 - x.1.f0) * (k : Int) + (x.1.f1 - x.1.f0)) by omega), or_none']
      by_cases c2 : st.2 ≤ t
      · rw [if_pos ⟨c2, c1⟩, if_pos (by omega)]
      · rw [if_neg (by omega), if_neg (by omega)]
    · rw [if_neg (show ¬ (st.2 ≤ t ∧ t < st.2 + (x.1.f1 - x.1.f0) * (k : Int)) by omega), or_none']
      by_cases c3 : t < st.2 + (x.1.f1 - x.1.f0) * (k : Int) + (x.1.f1 - x.1.f0)
      · rw [if_pos (by omega), if_pos (by omega)]
        have em : (t - st.2) % (x.1.f1 - x.1.f0) = t - (st.2 + (x.1.f1 - x.1.f0) * (k : Int)) := by
          have : t - st.2 = (t - (st.2 + (x.1.f1 - x.1.f0) * (k : Int))) + (x.1.f1 - x.1.f0) * (k : Int) := by omega
          rw [this, Int.add_mul_emod_self_left, Int.emod_eq_of_lt (by omega) (by omega)]
        rw [em]
      · rw [if_neg (by omega), if_neg (by omega)]
theorem perf_fnd {l : List S29} {n : Int} (v : StaffOk l n) (c t : Int) : ∀ (q : List (S45 × Int)) (st : List S29 × Int), (∀ x ∈ q, SecOk n x) → 0 ≤ st.2 → st.2 + totQ q ≤ 8192 →
    fnd c t (q.foldl (perfS l) st).1 = (fnd c t st.1).or (if st.2 ≤ t ∧ t < st.2 + totQ q then fnd c (srchv (t - st.2) q) l else none)
  | [], st, _, _, _ => by rw [if_neg (by simp only [totQ]; omega), or_none']; rfl
  | x :: q, st, h, h0, hb => by
    have hx := h x (by simp)
    have hq := totQ_b v.n1 q (fun y hy => h y (by simp [hy]))
    have ht : ((x.2.toNat : Nat) : Int) = x.2 := Int.toNat_of_nonneg (by have := hx.t1; omega)
    have et : totQ (x :: q) = secM x + totQ q := rfl
    have hm : (x.1.f1 - x.1.f0) * ((x.2.toNat : Nat) : Int) = secM x := by rw [ht]; rfl
    have m0 := (secM_b hx v.n1).1
    rw [et] at hb ⊢
    have ia : (perfS l st x).2 = st.2 + secM x := by
      have := repS_at (l := l) v.n1 hx st h0 x.2.toNat (by rw [hm]; omega)
      rw [hm] at this; exact this
    have if_ : fnd c t (perfS l st x).1 = (fnd c t st.1).or (if st.2 ≤ t ∧ t < st.2 + secM x then fnd c (x.1.f0 + (t - st.2) % (x.1.f1 - x.1.f0)) l else none) := by
      have := repS_fnd v hx st h0 c t x.2.toNat (by rw [hm]; omega)
      rw [hm] at this; exact this
    have ih := perf_fnd v c t q (perfS l st x) (fun y hy => h y (by simp [hy])) (by omega) (by omega)
    have es : srchv (t - st.2) (x :: q) = (if secM x ≤ t - st.2 then srchv (t - st.2 - secM x) q else x.1.f0 + (t - st.2) % (x.1.f1 - x.1.f0)) := rfl
    rw [List.foldl_cons, ih, if_, ia, es]
    by_cases c1 : st.2 ≤ t ∧ t < st.2 + secM x
    · rw [if_pos c1, if_neg (by omega), or_none', if_pos (by omega), if_neg (by omega)]
    · rw [if_neg c1, or_none']
      by_cases c2 : st.2 + secM x ≤ t ∧ t < st.2 + secM x + totQ q
      · rw [if_pos c2, if_pos (by omega), if_pos (by omega), show t - (st.2 + secM x) = t - st.2 - secM x by omega]
      · rw [if_neg c2, if_neg (by omega)]
theorem srchv_b {n : Int} (hn : n ≤ 8192) : ∀ (q : List (S45 × Int)) (t : Int), (∀ x ∈ q, SecOk n x) → 0 ≤ t → t < totQ q → 0 ≤ srchv t q ∧ srchv t q < n
  | [], t, _, h0, h1 => by simp only [totQ] at h1; omega
  | x :: q, t, h, h0, h1 => by
    have hx := h x (by simp)
    have et : totQ (x :: q) = secM x + totQ q := rfl
    have es : srchv t (x :: q) = (if secM x ≤ t then srchv (t - secM x) q else x.1.f0 + t % (x.1.f1 - x.1.f0)) := rfl
    rw [es]
    by_cases c : secM x ≤ t
    · rw [if_pos c]; exact srchv_b hn q _ (fun y hy => h y (by simp [hy])) (by omega) (by omega)
    · rw [if_neg c]
      obtain ⟨h0, h1, h2, h3, h4⟩ := hx
      have b1 := Int.emod_nonneg t (show x.1.f1 - x.1.f0 ≠ 0 by omega)
      have b2 := Int.emod_lt_of_pos t (show 0 < x.1.f1 - x.1.f0 by omega)
      omega
/-- The theorem of the stage: what begins at a performed tick. -/
theorem perform_fnd {l : List S29} {n : Int} {r : List S61} (h : rCheckP l n r = 0) (c t : Int) (h0 : 0 ≤ t) (h1 : t < perfP n r) :
    fnd c t (rPerformP l n r).1 = fnd c (srchv t (secsP n r)) l ∧ 0 ≤ srchv t (secsP n r) ∧ srchv t (secsP n r) < n := by
  obtain ⟨k1, k2, k3, k4, k5, k6, k7⟩ := rCheckP_facts h
  have v := (chkS_ok l n).mp k1
  have n0 := v.n0
  have hs := secsP_ok (n := n) (by omega) k3 k4
  have et := (source_val h t h0 h1).2
  have ep : (rPerformP l n r).1 = ((secsP n r).foldl (perfS l) ([], 0)).1 := by unfold rPerformP; rw [if_neg (not_not_intro h)]
  refine ⟨?_, srchv_b v.n1 _ t hs.1 h0 (by omega)⟩
  have e0 : (([] : List S29), (0 : Int)).2 = 0 := rfl
  rw [ep, perf_fnd v c t (secsP n r) ([], 0) hs.1 (Int.le_refl _) (by show (0 : Int) + _ ≤ _; omega), e0, if_pos (by omega), Int.sub_zero, fnd_nil]
  rfl
end Go.Proofs.Ytdilndbanhianaa.P

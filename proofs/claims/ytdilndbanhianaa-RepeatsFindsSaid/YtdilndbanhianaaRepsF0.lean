/- What repeats.Find says, in plain words; no condition. -/
import Derived.Test.YtdilndbanhianaaRepsV
import Derived.Test.YtdilndbanhianaaP38
import Derived.Test.YtdilndbanhianaaP39
import Derived.Test.YtdilndbanhianaaP40
set_option linter.unusedVariables false
set_option linter.unusedSimpArgs false
namespace Go.Proofs.Ytdilndbanhianaa.P
open Go.RowKit Go.Proofs.YtdilndbanhianaaW.PrintWords Go.Proofs.YtdilndbanhianaaW.PrintLast Go.Proofs.YtdilndbanhianaaW.PrintMore
def eqL : List S29 → List S29 → Bool
  | [], [] => true
  | a :: l, b :: m => !neS' a b && eqL l m
  | _, _ => false
theorem neS'_iff (a b : S29) : neS' a b = true ↔ a ≠ b := by
  unfold neS'
  cases a; cases b
  simp only [Bool.or_eq_true, Bool.not_eq_true', beq_eq_false_iff_ne, ne_eq, S29.mk.injEq]
  constructor
  · rintro h ⟨h0, h1, h2, h3, h4, h5, h6⟩; simp_all
  · intro h
    apply Classical.byContradiction
    intro k
    simp only [not_or, Decidable.not_not] at k
    exact h ⟨k.1, k.2.1, k.2.2.1, k.2.2.2.1, k.2.2.2.2.1, k.2.2.2.2.2.1, k.2.2.2.2.2.2⟩
theorem eqL_iff : ∀ a b : List S29, eqL a b = true ↔ a = b
  | [], [] => by simp [eqL]
  | [], _ :: _ => by simp [eqL]
  | _ :: _, [] => by simp [eqL]
  | a :: l, b :: m => by
    have ih := eqL_iff l m
    have hn := neS'_iff a b
    simp only [eqL, Bool.and_eq_true, Bool.not_eq_true', List.cons.injEq, ih]
    cases h : neS' a b
    · have : a = b := Classical.byContradiction fun c => by rw [hn.mpr c] at h; cases h
      simp [this]
    · have := hn.mp h
      simp [this]
theorem eqL_len {a b : List S29} (h : a.length ≠ b.length) : eqL a b = false := by
  cases e : eqL a b
  · rfl
  · exact absurd (congrArg List.length ((eqL_iff a b).mp e)) h
theorem slicesEq_eq (a b : List S29) (hl : a.length ≤ 1000000) : Ev (fun k => api_Symbol.f k a b) (eqL a b) := by
  by_cases hlen : a.length = b.length
  · have main : ∀ d i, i + d = a.length → Ev (fun k => api_Symbol.l0 k a b (a.length : Int) (i : Int)) (eqL (a.drop i) (b.drop i)) := by
      intro d
      induction d with
      | zero =>
        intro i hi
        refine Ev.succ ?_
        rw [show a.drop i = [] from List.drop_eq_nil_of_le (by omega), show b.drop i = [] from List.drop_eq_nil_of_le (by omega)]
        simp only [api_Symbol.l0, ltI, show ¬ i < a.length by omega, ↓reduceIte, eqL]
        exact Ev.now _
      | succ d ih =>
        intro i hi
        have h : i < a.length := by omega
        have h' : i < b.length := by omega
        have ih' := ih (i + 1) (by omega)
        refine Ev.succ ?_
        rw [drop_cons29 h, drop_cons29 h']
        have en : neS' a[i] b[i] = (!(a[i].f0 == b[i].f0) || (!(a[i].f1 == b[i].f1) || (!(a[i].f2 == b[i].f2) || (!(a[i].f3 == b[i].f3) || (!(a[i].f4 == b[i].f4) || (!(a[i].f5 == b[i].f5) || (!(a[i].f6 == b[i].f6)))))))) := rfl
        simp only [api_Symbol.l0, ltI, h, h', ge0, ↓reduceIte, rd29_at h, rd29_at h', wrapS h (by omega : a.length ≤ 1000000), ← en, eqL]
        cases neS' a[i] b[i]
        · simp only [Bool.false_eq_true, ↓reduceIte, Bool.not_false, Bool.true_and]; exact ih'
        · simp only [↓reduceIte, Bool.not_true, Bool.false_and]; exact Ev.now _
    have := main a.length 0 (by omega)
    simp only [List.drop_zero] at this
    unfold api_Symbol.f
    simp only [show (a.length : Int) = (b.length : Int) by omega, ↓reduceIte]
    rw [hlen] at this
    exact this
  · unfold api_Symbol.f
    simp only [show ¬ (a.length : Int) = (b.length : Int) by omega, ↓reduceIte, eqL_len hlen]
    exact Ev.now _
/-- The symbols that begin in some ticks, moved to 0. -/
def pcS (l : List S29) (f t : Int) : List S29 := (withinP l ⟨f, t⟩).map (movS (-f))
theorem pcS_len (l : List S29) (f t : Int) : (pcS l f t).length ≤ l.length := by unfold pcS; rw [List.length_map]; exact withinP_len l _
/-- Two spans can be cut out, and are the same. -/
def smP (l : List S29) (a a' b b' : Int) : Bool := cutB l a && (cutB l a' && (cutB l b && (cutB l b' && eqL (pcS l a a') (pcS l b b'))))
theorem any_or (p q : S29 → Bool) : ∀ l : List S29, l.any (fun x => p x || q x) = (l.any p || l.any q)
  | [] => rfl
  | a :: l => by
    simp only [List.any_cons, any_or p q l]
    cases p a <;> cases q a <;> cases l.any p <;> simp
theorem cutP_sm {l : List S29} {n : Int} (v : StaffOk l n) {f t : Int} (h0 : 0 ≤ f) (h1 : f < t) (h2 : t ≤ n) : cutP l n f t = if cutB l f = true ∧ cutB l t = true then (pcS l f t, 0) else ([], 17) := by
  have hn := v.n1
  have e : l.any (badC f t) = (l.any (acrB f) || l.any (acrB t)) := any_or _ _ l
  unfold cutP
  rw [if_neg (not_not_intro ((chkS_ok l n).mpr v)), if_neg (by omega), e, wrap_in (-f) (by omega) (by omega)]
  unfold cutB
  cases l.any (acrB f)
  · cases l.any (acrB t)
    · rfl
    · rfl
  · cases l.any (acrB t)
    · rfl
    · rfl
theorem same_code {l : List S29} {n : Int} (v : StaffOk l n) {a a' b b' : Int} (h0 : 0 ≤ a) (h1 : a < a') (h2 : a' ≤ n) (h3 : 0 ≤ b) (h4 : b < b') (h5 : b' ≤ n) : Ev (fun k => repeats_same.f k l n a a' b b') (smP l a a' b b') := by
  unfold repeats_same.f staff_Cut.f smP
  simp only [Option.bind_some, cutP_sm v h0 h1 h2, cutP_sm v h3 h4 h5]
  cases c1 : cutB l a
  · simp only [Bool.false_eq_true, false_and, ↓reduceIte, Bool.false_and]; exact Ev.now _
  · cases c2 : cutB l a'
    · simp only [Bool.false_eq_true, and_false, ↓reduceIte, Bool.false_and, Bool.and_false]; exact Ev.now _
    · cases c3 : cutB l b
      · simp only [Bool.false_eq_true, false_and, and_self, ↓reduceIte, Bool.false_and, Bool.and_false]; exact Ev.now _
      · cases c4 : cutB l b'
        · simp only [Bool.false_eq_true, and_false, and_self, ↓reduceIte, Bool.false_and, Bool.and_false]; exact Ev.now _
        · simp only [and_self, ↓reduceIte, Bool.true_and]
          exact Ev.bind (slicesEq_eq _ _ (by have := pcS_len l a a'; have := v.len; omega)) (Ev.now _)
def fo (P : Nat → Bool) : Nat → Nat → Nat
  | 0, j => j
  | f + 1, j => if P j = true then fo P f (j + 1) else j
theorem fo_spec (P : Nat → Bool) : ∀ f j, j ≤ fo P f j ∧ fo P f j ≤ j + f ∧ ∀ i, j ≤ i → i < fo P f j → P i = true
  | 0, j => ⟨Nat.le_refl _, Nat.le_refl _, fun i h1 h2 => absurd h2 (by simp only [fo]; omega)⟩
  | f + 1, j => by
    by_cases c : P j = true
    · have e : fo P (f + 1) j = fo P f (j + 1) := by simp only [fo, if_pos c]
      rw [e]
      obtain ⟨h1, h2, h3⟩ := fo_spec P f (j + 1)
      refine ⟨by omega, by omega, fun i hi hlt => ?_⟩
      by_cases ei : i = j
      · rw [ei]; exact c
      · exact h3 i (by omega) hlt
    · have e : fo P (f + 1) j = j := by simp only [fo, if_neg c]
      rw [e]
      exact ⟨Nat.le_refl _, by omega, fun i h1 h2 => by omega⟩
/-- The ticks t + j * m .. are the same as those from t on. -/
def foP (l : List S29) (n t m : Int) (j : Nat) : Bool := decide (t + (j : Int) * m + m ≤ n) && smP l t (t + m) (t + (j : Int) * m) (t + (j : Int) * m + m)
theorem jm_b {m : Int} (hm : 1 ≤ m ∧ m ≤ 8192) (j : Nat) (hj : j ≤ 16) : (j : Int) ≤ (j : Int) * m ∧ (j : Int) * m ≤ 131072 ∧ ((j + 1 : Nat) : Int) * m = (j : Int) * m + m := by
  have b0 : (j : Int) * 1 ≤ (j : Int) * m := Int.mul_le_mul_of_nonneg_left hm.1 (by omega)
  have b2 : (j : Int) * m ≤ 16 * 8192 := Int.mul_le_mul (by omega) (by omega) (by omega) (by omega)
  refine ⟨by omega, by omega, ?_⟩
  rw [Int.natCast_add, Int.add_mul]; simp
theorem follows_eq {l : List S29} {n : Int} (v : StaffOk l n) {t m : Int} (ht : 0 ≤ t) (hm : 1 ≤ m) (htm : t + m ≤ n) : ∀ f j : Nat, 1 ≤ j → j + f = 16 → Ev (fun k => repeats_follows.l0 k l n t m (j : Int)) ((fo (foP l n t m) f j : Nat) : Int) := by
  have hn := v.n1
  intro f
  induction f with
  | zero =>
    intro j h1 hj
    refine Ev.succ ?_
    simp only [repeats_follows.l0, show ¬ (j : Int) < 16 by omega, ↓reduceIte, fo]
    exact Ev.now _
  | succ f ih =>
    intro j h1 hj
    obtain ⟨b1, b2, b3⟩ := jm_b ⟨hm, by omega⟩ j (by omega)
    have ih' := ih (j + 1) (by omega) (by omega)
    have e1 : wrap64 ((j : Int) + 1) = ((j + 1 : Nat) : Int) := by unfold wrap64; omega
    have e2 : wrap64 ((j : Int) * m) = (j : Int) * m := wrap_in _ (by omega) (by omega)
    have e3 : wrap64 ((j : Int) * m + m) = (j : Int) * m + m := wrap_in _ (by omega) (by omega)
    have e4 : wrap64 (t + ((j : Int) * m + m)) = t + (j : Int) * m + m := by rw [wrap_in _ (by omega) (by omega)]; omega
    have e5 : wrap64 (t + (j : Int) * m) = t + (j : Int) * m := wrap_in _ (by omega) (by omega)
    have e6 : wrap64 (t + m) = t + m := wrap_in _ (by omega) (by omega)
    refine Ev.succ ?_
    simp only [repeats_follows.l0, show (j : Int) < 16 by omega, ↓reduceIte, e1, b3, e2, e3, e4, e5, e6]
    by_cases c : t + (j : Int) * m + m ≤ n
    · simp only [c, ↓reduceIte]
      refine Ev.bind (same_code v ht (by omega) htm (by omega) (by omega) c) ?_
      have ep : foP l n t m j = smP l t (t + m) (t + (j : Int) * m) (t + (j : Int) * m + m) := by unfold foP; rw [decide_eq_true c, Bool.true_and]
      rw [← ep]
      cases hp : foP l n t m j
      · have : fo (foP l n t m) (f + 1) j = j := by simp only [fo]; rw [if_neg (by rw [hp]; decide)]
        rw [this]
        simp only [Bool.false_eq_true, ↓reduceIte]; exact Ev.now _
      · have : fo (foP l n t m) (f + 1) j = fo (foP l n t m) f (j + 1) := by simp only [fo]; rw [if_pos hp]
        rw [this]
        simp only [↓reduceIte]; exact ih'
    · have hp : foP l n t m j = false := by unfold foP; rw [decide_eq_false c, Bool.false_and]
      have : fo (foP l n t m) (f + 1) j = j := by simp only [fo]; rw [if_neg (by rw [hp]; decide)]
      rw [this]
      simp only [c, ↓reduceIte]; exact Ev.now _
/-- The first length that fits, and how often. -/
def seP (l : List S29) (n unit t : Int) : Nat → Int → Option (Int × Nat)
  | 0, _ => none
  | f + 1, m => if t + 2 * m ≤ n then (if foP l n t m 1 = true then some (m, fo (foP l n t m) 14 2) else seP l n unit t f (m + unit)) else none
theorem seP_spec (l : List S29) (n unit t : Int) (hu : 1 ≤ unit) : ∀ f m x, 1 ≤ m → seP l n unit t f m = some x → 1 ≤ x.1 ∧ 2 ≤ x.2 ∧ x.2 ≤ 16 ∧ ∀ i, 1 ≤ i → i < x.2 → foP l n t x.1 i = true
  | 0, m, x, _, h => by simp [seP] at h
  | f + 1, m, x, hm, h => by
    simp only [seP] at h
    by_cases c : t + 2 * m ≤ n
    · rw [if_pos c] at h
      by_cases d : foP l n t m 1 = true
      · rw [if_pos d] at h
        obtain rfl := Option.some.inj h
        obtain ⟨h1, h2, h3⟩ := fo_spec (foP l n t m) 14 2
        refine ⟨hm, h1, h2, fun i hi hlt => ?_⟩
        by_cases e : i = 1
        · rw [e]; exact d
        · exact h3 i (by omega) hlt
      · rw [if_neg d] at h
        exact seP_spec l n unit t hu f (m + unit) x (by omega) h
    · rw [if_neg c] at h; cases h
def exP (n unit t : Int) : Option (Int × Nat) → Int × Int
  | some x => (x.1, (x.2 : Int))
  | none => (mn unit (n - t), 1)
/-- The ticks that are written next, and how often they follow each other. -/
def stP (l : List S29) (n unit t : Int) (c : Nat) : Int × Int := if c < 16 then exP n unit t (seP l n unit t 9000 unit) else (mn unit (n - t), 1)
theorem find_l1 {l : List S29} {n unit t tw : Int} {out : List S29} {r : List S61} (v : StaffOk l n) (ht : 0 ≤ t) (ht2 : t ≤ n) (hu : 1 ≤ unit) (hun : unit ≤ n) (d1 d2 : Int) (res : (List S29) × Int × (List S61) × Int) (hr : r.length < 16) : ∀ (f : Nat) (m : Int), 1 ≤ m → m ≤ 20000 → n < (f : Int) + m →
    Ev (fun k => repeats_Find.j4 k l n unit out r tw t (match seP l n unit t f m with | some x => x.1 | none => d1) (match seP l n unit t f m with | some x => (x.2 : Int) | none => d2)) res →
    Ev (fun k => repeats_Find.l1 k l n unit out r tw t d1 d2 m) res := by
  have hn := v.n1
  intro f
  induction f with
  | zero =>
    intro m hm hm2 hf hres
    have e1 : wrap64 (2 * m) = 2 * m := wrap_in _ (by omega) (by omega)
    have e2 : wrap64 (t + 2 * m) = t + 2 * m := wrap_in _ (by omega) (by omega)
    refine Ev.succ ?_
    simp only [repeats_Find.l1, show (r.length : Int) < 16 by omega, ↓reduceIte, e1, e2, show ¬ t + 2 * m ≤ n by omega, decide_false]
    refine Ev.succ ?_
    simp only [repeats_Find.j3, Bool.false_eq_true, ↓reduceIte]
    exact hres
  | succ f ih =>
    intro m hm hm2 hf hres
    have e1 : wrap64 (2 * m) = 2 * m := wrap_in _ (by omega) (by omega)
    have e2 : wrap64 (t + 2 * m) = t + 2 * m := wrap_in _ (by omega) (by omega)
    have e4 : wrap64 (m + unit) = m + unit := wrap_in _ (by omega) (by omega)
    refine Ev.succ ?_
    simp only [repeats_Find.l1, show (r.length : Int) < 16 by omega, ↓reduceIte, e1, e2]
    refine Ev.succ ?_
    simp only [seP] at hres
    by_cases c : t + 2 * m ≤ n
    · simp only [repeats_Find.j3, c, decide_true, ↓reduceIte]
      rw [if_pos c] at hres
      refine Ev.bind (follows_eq v ht hm (by omega) 15 1 (by omega) rfl) ?_
      cases hp : foP l n t m 1
      · have e : fo (foP l n t m) 15 1 = 1 := by simp only [fo]; rw [if_neg (by rw [hp]; decide)]
        rw [if_neg (by rw [hp]; decide)] at hres
        simp only [e, show ¬ ((1 : Nat) : Int) > 1 by omega, ↓reduceIte, e4]
        exact ih (m + unit) (by omega) (by omega) (by omega) hres
      · have e : fo (foP l n t m) 15 1 = fo (foP l n t m) 14 2 := by
          have : fo (foP l n t m) (14 + 1) 1 = if foP l n t m 1 = true then fo (foP l n t m) 14 2 else 1 := rfl
          rw [this, if_pos hp]
        rw [if_pos hp] at hres
        have h2 := (fo_spec (foP l n t m) 14 2).1
        simp only [e, show ((fo (foP l n t m) 14 2 : Nat) : Int) > 1 by omega, ↓reduceIte]
        exact hres
    · simp only [repeats_Find.j3, c, decide_false, Bool.false_eq_true, ↓reduceIte]
      rw [if_neg c] at hres
      exact hres
def fiP (l : List S29) (n unit : Int) : Nat → Int → List (S45 × Int) → Int → List S61 → List (S45 × Int) × Int × List S61
  | 0, _, W, tw, r => (W, tw, r)
  | f + 1, t, W, tw, r => if t < n then fiP l n unit f (t + (stP l n unit t r.length).1 * (stP l n unit t r.length).2) (W ++ [(⟨t, t + (stP l n unit t r.length).1⟩, 1)]) (tw + (stP l n unit t r.length).1) (if 1 < (stP l n unit t r.length).2 then r ++ [⟨⟨tw, tw + (stP l n unit t r.length).1⟩, (stP l n unit t r.length).2⟩] else r) else (W, tw, r)
structure StOk (l : List S29) (n t : Int) (x : Int × Int) : Prop where
  m1 : 1 ≤ x.1
  k1 : 1 ≤ x.2
  k16 : x.2 ≤ 16
  le : t + x.1 * x.2 ≤ n
  le1 : x.1 ≤ x.1 * x.2
  fol : ∀ i : Nat, 1 ≤ i → (i : Int) < x.2 → foP l n t x.1 i = true
theorem mn_b {n unit t : Int} (hu : 1 ≤ unit) (ht : t < n) : 1 ≤ mn unit (n - t) ∧ mn unit (n - t) ≤ n - t ∧ mn unit (n - t) ≤ unit := by
  unfold mn
  by_cases c : n - t < unit
  · rw [if_pos c]; omega
  · rw [if_neg c]; omega
theorem stP_ok {l : List S29} {n unit t : Int} (hu : 1 ≤ unit) (ht : t < n) (c : Nat) : StOk l n t (stP l n unit t c) ∧ (1 < (stP l n unit t c).2 → c < 16) := by
  have hmn := mn_b hu ht
  have hone : StOk l n t (mn unit (n - t), 1) := ⟨hmn.1, by simp only; omega, by simp only; omega, by simp only; omega, by simp only; omega, fun i h1 h2 => by simp only at h2; omega⟩
  unfold stP
  by_cases h : c < 16
  · rw [if_pos h]
    refine ⟨?_, fun _ => h⟩
    cases hs : seP l n unit t 9000 unit with
    | none => exact hone
    | some x =>
      obtain ⟨h1, h2, h3, h4⟩ := seP_spec l n unit t hu 9000 unit x hu hs
      have h5 := h4 (x.2 - 1) (by omega) (by omega)
      unfold foP at h5
      rw [Bool.and_eq_true, decide_eq_true_eq] at h5
      have e : (x.2 : Int) * x.1 = ((x.2 - 1 : Nat) : Int) * x.1 + x.1 := by
        have : (x.2 : Int) = ((x.2 - 1 : Nat) : Int) + 1 := by omega
        rw [this, Int.add_mul, Int.one_mul]
      have b : 1 * x.1 ≤ (x.2 : Int) * x.1 := Int.mul_le_mul_of_nonneg_right (by omega) (by omega)
      have ec : x.1 * (x.2 : Int) = (x.2 : Int) * x.1 := Int.mul_comm _ _
      exact ⟨h1, by show (1 : Int) ≤ (x.2 : Int); omega, by show (x.2 : Int) ≤ 16; omega, by show t + x.1 * (x.2 : Int) ≤ n; omega, by show x.1 ≤ x.1 * (x.2 : Int); omega, fun i hi hlt => h4 i hi (by have : (i : Int) < (x.2 : Int) := hlt; omega)⟩
  · rw [if_neg h]
    refine ⟨hone, fun hh => ?_⟩
    have : (1 : Int) < 1 := hh
    omega
/-- What Find says. -/
def findP (l : List S29) (n unit : Int) : List S29 × Int × List S61 × Int :=
  if ¬ chkS l n = 0 then ([], 0, [], chkS l n)
  else if unit < 1 ∨ n < unit then ([], 0, [], 1)
  else (((fiP l n unit 9000 0 [] 0 []).1.foldl (perfS l) ([], 0)).1, (fiP l n unit 9000 0 [] 0 []).2.1, (fiP l n unit 9000 0 [] 0 []).2.2, 0)
theorem perfS_one (l : List S29) (st : List S29 × Int) (f t : Int) : perfS l st (⟨f, t⟩, 1) = (st.1 ++ (withinP l ⟨f, t⟩).map (movS (wrap64 (st.2 - f))), wrap64 (st.2 + wrap64 (t - f))) := rfl
theorem ones_len {l : List S29} (hl : l.length ≤ 256) (q : List (S45 × Int)) (hq : ∀ x ∈ q, x.2 = 1) : ((q.foldl (perfS l) ([], 0)).1.length : Int) ≤ q.length * 256 := by
  have hc := perf_cnt l q ([], 0) (fun x hx => by rw [hq x hx]; omega)
  have hb : ∀ q : List (S45 × Int), (∀ x ∈ q, x.2 = 1) → cntQ l q ≤ q.length * 256 := by
    intro q
    induction q with
    | nil => intro _; simp [cntQ]
    | cons x q ihq =>
      intro hq
      have h1 := hq x (by simp)
      have h2 := withinP_len l x.1
      have := ihq (fun y hy => hq y (by simp [hy]))
      simp only [cntQ, h1, Int.mul_one, List.length_cons]; omega
  have := hb q hq
  rw [hc, List.length_nil]; omega
theorem code_l0 {l : List S29} {n unit : Int} (v : StaffOk l n) (hn : n ≤ 300) (hu : 1 ≤ unit) (hun : unit ≤ n) : ∀ (f : Nat) (t : Int) (W : List (S45 × Int)) (tw : Int) (r : List S61), n < (f : Int) + t → 0 ≤ t → t ≤ n → 0 ≤ tw → tw ≤ t → (W.length : Int) ≤ t → (∀ x ∈ W, x.2 = 1) → r.length ≤ 16 → (W.foldl (perfS l) ([], 0)).2 = tw →
    Ev (fun k => repeats_Find.l0 k l n unit (W.foldl (perfS l) ([], 0)).1 r tw t) (((fiP l n unit f t W tw r).1.foldl (perfS l) ([], 0)).1, (fiP l n unit f t W tw r).2.1, (fiP l n unit f t W tw r).2.2, 0) := by
  intro f
  induction f with
  | zero => intro t W tw r hf h0 h1; omega
  | succ f ih =>
    intro t W tw r hf h0 h1 h2 h3 h4 h5 h6 h7
    refine Ev.succ ?_
    by_cases ct : t < n
    · obtain ⟨hst, hs16⟩ := stP_ok (l := l) (unit := unit) hu ct r.length
      have hmn := mn_b hu ct
      have hfi : fiP l n unit (f + 1) t W tw r = fiP l n unit f (t + (stP l n unit t r.length).1 * (stP l n unit t r.length).2) (W ++ [(⟨t, t + (stP l n unit t r.length).1⟩, 1)]) (tw + (stP l n unit t r.length).1) (if 1 < (stP l n unit t r.length).2 then r ++ [⟨⟨tw, tw + (stP l n unit t r.length).1⟩, (stP l n unit t r.length).2⟩] else r) := by
        show (if t < n then _ else _) = _
        rw [if_pos ct]
      rw [hfi]
      have e0 : wrap64 (n - t) = n - t := wrap_in _ (by omega) (by omega)
      have j4 : ∀ m k : Int, StOk l n t (m, k) → (1 < k → r.length < 16) → Ev (fun kk => repeats_Find.j4 kk l n unit (W.foldl (perfS l) ([], 0)).1 r tw t m k)
          (((fiP l n unit f (t + m * k) (W ++ [(⟨t, t + m⟩, 1)]) (tw + m) (if 1 < k then r ++ [⟨⟨tw, tw + m⟩, k⟩] else r)).1.foldl (perfS l) ([], 0)).1, (fiP l n unit f (t + m * k) (W ++ [(⟨t, t + m⟩, 1)]) (tw + m) (if 1 < k then r ++ [⟨⟨tw, tw + m⟩, k⟩] else r)).2.1, (fiP l n unit f (t + m * k) (W ++ [(⟨t, t + m⟩, 1)]) (tw + m) (if 1 < k then r ++ [⟨⟨tw, tw + m⟩, k⟩] else r)).2.2, 0) := by
        intro m k hok hk16
        obtain ⟨x1, x2, x3, x4, x5, x6⟩ := hok
        simp only at x1 x2 x3 x4 x5
        have hl := v.len
        have hW1 : ∀ x ∈ W ++ [((⟨t, t + m⟩ : S45), (1 : Int))], x.2 = 1 := by
          intro y hy; rcases List.mem_append.mp hy with hy | hy; exact h5 y hy; rw [List.mem_singleton.mp hy]
        have ef : (W ++ [((⟨t, t + m⟩ : S45), (1 : Int))]).foldl (perfS l) ([], 0) = ((W.foldl (perfS l) ([], 0)).1 ++ (withinP l ⟨t, t + m⟩).map (movS (wrap64 (tw - t))), tw + m) := by
          rw [List.foldl_append]
          show perfS l (W.foldl (perfS l) ([], 0)) (⟨t, t + m⟩, 1) = _
          rw [perfS_one, h7, show t + m - t = m by omega, wrap_in m (by omega) (by omega), wrap_in (tw + m) (by omega) (by omega)]
        have hw0 := ones_len v.len W h5
        have hwl := withinP_len l ⟨t, t + m⟩
        refine Ev.succ ?_
        have e1 : wrap64 (t + m) = t + m := wrap_in _ (by omega) (by omega)
        have e2 : wrap64 (tw + m) = tw + m := wrap_in _ (by omega) (by omega)
        have e3 : wrap64 (m * k) = m * k := wrap_in _ (by omega) (by omega)
        have e4 : wrap64 (t + m * k) = t + m * k := wrap_in _ (by omega) (by omega)
        simp only [repeats_Find.j4, e1, e2, e3, e4]
        refine Ev.bind (within_eq l ⟨t, t + m⟩ (by omega)) ?_
        refine Ev.bind (rmoved_eq _ _ (by omega)) ?_
        simp only [List.length_map, show (W.foldl (perfS l) ([], 0)).1.length + (withinP l ⟨t, t + m⟩).length < 2513169434916 by omega, ↓reduceIte, Option.bind_some, GT.gt]
        have key : ∀ r' : List S61, r'.length ≤ 16 → Ev (fun kk => repeats_Find.l0 kk l n unit ((W.foldl (perfS l) ([], 0)).1 ++ (withinP l ⟨t, t + m⟩).map (movS (wrap64 (tw - t)))) r' (tw + m) (t + m * k))
            (((fiP l n unit f (t + m * k) (W ++ [(⟨t, t + m⟩, 1)]) (tw + m) r').1.foldl (perfS l) ([], 0)).1, (fiP l n unit f (t + m * k) (W ++ [(⟨t, t + m⟩, 1)]) (tw + m) r').2.1, (fiP l n unit f (t + m * k) (W ++ [(⟨t, t + m⟩, 1)]) (tw + m) r').2.2, 0) := by
          intro r' hr'
          have := ih (t + m * k) (W ++ [(⟨t, t + m⟩, 1)]) (tw + m) r' (by omega) (by omega) (by omega) (by omega) (by omega) (by rw [List.length_append, List.length_singleton]; omega) hW1 hr' (by rw [ef])
          rw [ef] at this
          exact this
        by_cases ck : 1 < k
        · have := hk16 ck
          simp only [ck, ↓reduceIte, show r.length < 5864062014805 by omega]
          exact key _ (by rw [List.length_append, List.length_singleton]; omega)
        · simp only [ck, ↓reduceIte]
          exact key r h6
      simp only [repeats_Find.l0, ct, ↓reduceIte, e0]
      have h4' := j4 (stP l n unit t r.length).1 (stP l n unit t r.length).2 hst hs16
      by_cases c16 : r.length < 16
      · refine find_l1 v h0 h1 hu hun (mn unit (n - t)) 1 _ c16 9000 unit hu (by omega) (by omega) ?_
        have e : stP l n unit t r.length = exP n unit t (seP l n unit t 9000 unit) := by unfold stP; rw [if_pos c16]
        cases hse : seP l n unit t 9000 unit with
        | none => rw [hse] at e; rw [e] at h4' ⊢; exact h4'
        | some x => rw [hse] at e; rw [e] at h4' ⊢; exact h4'
      · have e : stP l n unit t r.length = (mn unit (n - t), 1) := by unfold stP; rw [if_neg c16]
        refine Ev.succ ?_
        simp only [repeats_Find.l1, show ¬ (r.length : Int) < 16 by omega, ↓reduceIte]
        refine Ev.succ ?_
        simp only [repeats_Find.j3, Bool.false_eq_true, ↓reduceIte]
        rw [e] at h4' ⊢
        exact h4'
    · have hfi : fiP l n unit (f + 1) t W tw r = (W, tw, r) := by
        show (if t < n then _ else _) = _
        rw [if_neg ct]
      rw [hfi]
      simp only [repeats_Find.l0, ct, ↓reduceIte]
      exact Ev.now _
theorem fiP_b (l : List S29) (n unit : Int) (hn : n ≤ 8192) (hu : 1 ≤ unit) : ∀ (f : Nat) (t : Int) (W : List (S45 × Int)) (tw : Int) (r : List S61), 0 ≤ t → t ≤ n → (W.length : Int) ≤ t → (∀ x ∈ W, x.2 = 1) → r.length ≤ 16 →
    ((fiP l n unit f t W tw r).1.length : Int) ≤ n ∧ (∀ x ∈ (fiP l n unit f t W tw r).1, x.2 = 1) ∧ (fiP l n unit f t W tw r).2.2.length ≤ 16 := by
  intro f
  induction f with
  | zero => intro t W tw r h0 h1 h2 h3 h4; exact ⟨by show (W.length : Int) ≤ n; omega, h3, h4⟩
  | succ f ih =>
    intro t W tw r h0 h1 h2 h3 h4
    by_cases ct : t < n
    · obtain ⟨hst, hs16⟩ := stP_ok (l := l) (unit := unit) hu ct r.length
      have hfi : fiP l n unit (f + 1) t W tw r = fiP l n unit f (t + (stP l n unit t r.length).1 * (stP l n unit t r.length).2) (W ++ [(⟨t, t + (stP l n unit t r.length).1⟩, 1)]) (tw + (stP l n unit t r.length).1) (if 1 < (stP l n unit t r.length).2 then r ++ [⟨⟨tw, tw + (stP l n unit t r.length).1⟩, (stP l n unit t r.length).2⟩] else r) := by
        show (if t < n then _ else _) = _
        rw [if_pos ct]
      rw [hfi]
      obtain ⟨x1, x2, x3, x4, x5, x6⟩ := hst
      refine ih _ _ _ _ (by omega) (by omega) (by rw [List.length_append, List.length_singleton]; omega) (by intro y hy; rcases List.mem_append.mp hy with hy | hy; exact h3 y hy; rw [List.mem_singleton.mp hy]) ?_
      split
      · rename_i hk
        have := hs16 hk
        rw [List.length_append, List.length_singleton]; omega
      · exact h4
    · have hfi : fiP l n unit (f + 1) t W tw r = (W, tw, r) := by
        show (if t < n then _ else _) = _
        rw [if_neg ct]
      rw [hfi]
      exact ⟨by show (W.length : Int) ≤ n; omega, h3, h4⟩
theorem find_b (l : List S29) (n unit : Int) (hn : n ≤ 300 ∨ 8192 < n) : (findP l n unit).1.length ≤ 1000000 ∧ (findP l n unit).2.2.1.length ≤ 1000000 := by
  unfold findP
  by_cases h1 : chkS l n = 0
  · have v := (chkS_ok l n).mp h1
    have n0 := v.n0
    have n1 := v.n1
    rw [if_neg (not_not_intro h1)]
    by_cases h2 : unit < 1 ∨ n < unit
    · rw [if_pos h2]; exact ⟨by simp, by simp⟩
    · rw [if_neg h2]
      obtain ⟨b1, b2, b3⟩ := fiP_b l n unit n1 (by omega) 9000 0 [] 0 [] (Int.le_refl _) (by omega) (by simp) (by simp) (by simp)
      have := ones_len v.len _ b2
      exact ⟨by simp only; omega, by simp only; omega⟩
  · rw [if_pos h1]; exact ⟨by simp, by simp⟩
theorem find_eq (l : List S29) (n unit : Int) (hn : n ≤ 300 ∨ 8192 < n) : Ev (fun k => repeats_Find.f k l n unit) (findP l n unit) := by
  unfold repeats_Find.f staff_Check.f findP
  simp only [Option.bind_some]
  by_cases h1 : chkS l n = 0
  · have v := (chkS_ok l n).mp h1
    have hn' : n ≤ 300 := by have := v.n1; omega
    have n0 := v.n0
    simp only [h1, ↓reduceIte, not_true_eq_false]
    by_cases c1 : unit < 1
    · simp only [c1, ↓reduceIte, true_or]
      refine Ev.succ ?_
      simp only [repeats_Find.j0, ↓reduceIte]; exact Ev.now _
    · simp only [c1, ↓reduceIte, false_or, GT.gt]
      refine Ev.succ ?_
      by_cases c2 : n < unit
      · simp only [repeats_Find.j0, c2, decide_true, ↓reduceIte]; exact Ev.now _
      · simp only [repeats_Find.j0, c2, decide_false, Bool.false_eq_true, ↓reduceIte]
        exact code_l0 v hn' (by omega) (by omega) 9000 0 [] 0 [] (by omega) (Int.le_refl _) (by omega) (Int.le_refl _) (Int.le_refl _) (by simp) (by simp) (by simp) rfl
  · simp only [h1, ↓reduceIte, not_false_eq_true]; exact Ev.now _
end Go.Proofs.Ytdilndbanhianaa.P

/- What sections are, and what Length, Perform and Source of chapter 26 say in plain words; no condition. -/
import Derived.Test.YtdilndbanhianaaRpPerform
import Derived.Test.YtdilndbanhianaaRpSource
import Derived.Test.YtdilndbanhianaaP35
import Derived.Test.YtdilndbanhianaaP36
set_option linter.unusedVariables false
set_option linter.unusedSimpArgs false
namespace Go.Proofs.Ytdilndbanhianaa.P
open Go.RowKit Go.Proofs.YtdilndbanhianaaW.PrintWords Go.Proofs.YtdilndbanhianaaW.PrintLast Go.Proofs.YtdilndbanhianaaW.PrintMore
theorem perf_len (l : List S29) (hl : l.length ≤ 256) : ∀ (q : List (S45 × Int)) (st : List S29 × Int) (a : Int), (∀ x ∈ q, 1 ≤ x.2 ∧ x.2 ≤ 16) → (st.1.length : Int) = a → a + q.length * 4096 ≤ 1000000 → ((q.foldl (perfS l) st).1.length : Int) = q.foldl (symS l) a
  | [], st, a, _, h, _ => h
  | x :: q, st, a, ht, h, hb => by
    rw [List.foldl_cons, List.foldl_cons]
    have hx := ht x (by simp)
    have hwl := withinP_len l x.1
    have hm : x.2.toNat * (withinP l x.1).length ≤ 16 * 256 := Nat.mul_le_mul (by omega) (by omega)
    have hmul : (((withinP l x.1).length : Int) * x.2) = ((x.2.toNat * (withinP l x.1).length : Nat) : Int) := by
      rw [Int.natCast_mul, Int.toNat_of_nonneg (by omega), Int.mul_comm]
    simp only [List.length_cons] at hb
    have e : symS l a x = ((perfS l st x).1.length : Int) := by
      rw [perfS_len]; unfold symS
      have hi : wrap64 ((x.2.toNat * (withinP l x.1).length : Nat) : Int) = ((x.2.toNat * (withinP l x.1).length : Nat) : Int) := wrap_in _ (by omega) (by omega)
      rw [hmul, hi, wrap_in _ (by omega) (by omega), Int.natCast_add]; omega
    refine perf_len l hl q _ _ (fun y hy => ht y (by simp [hy])) e.symm ?_
    rw [e, perfS_len, Int.natCast_add]; omega
theorem syms_eq {l : List S29} {n : Int} {r : List S61} (hl : l.length ≤ 256) (hr : r.length ≤ 16) (hb : r.any (badR n) = false) : (((secsP n r).foldl (perfS l) ([], 0)).1.length : Int) = symsP l n r :=
  perf_len l hl (secsP n r) ([], 0) 0 (secs_times hb) rfl (by have := secsP_len n r; omega)
theorem drop_cons61 {l : List S61} {i : Nat} (h : i < l.length) : l.drop i = l[i] :: l.drop (i + 1) := List.drop_eq_getElem_cons h
theorem same26_refl (l : List S29) (hl : l.length ≤ 1000000) : Ev (fun k => dancestudioref26_Same.f k l l) true := by
  have main : ∀ d i, i + d = l.length → Ev (fun k => dancestudioref26_Same.l0 k l l (i : Int)) true := by
    intro d
    induction d with
    | zero => intro i hi; refine Ev.succ ?_; simp only [dancestudioref26_Same.l0, ltI, show ¬ i < l.length by omega, ↓reduceIte]; exact Ev.now _
    | succ d ih =>
      intro i hi
      have h : i < l.length := by omega
      refine Ev.succ ?_
      simp only [dancestudioref26_Same.l0, ltI, h, ge0, ↓reduceIte, wrapS h (by omega), beq_self_eq_true, Bool.not_true, Bool.or_self, Bool.false_eq_true]
      exact ih (i + 1) (by omega)
  have : (fun k => dancestudioref26_Same.f k l l) = fun k => dancestudioref26_Same.l0 k l l ((0 : Nat) : Int) := by
    funext k; simp [dancestudioref26_Same.f]
  rw [this]; exact main l.length 0 (by omega)
def rLengthP (l : List S29) (n : Int) (r : List S61) : Int × Int := if rCheckP l n r = 0 then (perfP n r, 0) else (0, rCheckP l n r)
theorem length_eq (l : List S29) (n : Int) (r : List S61) : repeats_Length.f l n r = some (rLengthP l n r) := by
  unfold repeats_Length.f rLengthP repeats_Check.f repeats_performed.f
  simp only [Option.bind_some]
  by_cases h : rCheckP l n r = 0
  · have hl := rCheckP_len h
    simp only [h, hl, ↓reduceIte, Option.bind_some]
  · simp only [h, ↓reduceIte]
structure SecOk (n : Int) (x : S45 × Int) : Prop where
  f0 : 0 ≤ x.1.f0
  lt : x.1.f0 < x.1.f1
  le : x.1.f1 ≤ n
  t1 : 1 ≤ x.2
  t16 : x.2 ≤ 16
/-- Sections that follow each other from one tick to another. -/
def Contig : Int → List (S45 × Int) → Int → Prop
  | a, [], b => a = b
  | a, x :: q, b => x.1.f0 = a ∧ Contig x.1.f1 q b
theorem contig_app : ∀ {q q' : List (S45 × Int)} {a b c : Int}, Contig a q b → Contig b q' c → Contig a (q ++ q') c
  | [], q', a, b, c, h, h' => by cases h; exact h'
  | x :: q, q', a, b, c, h, h' => ⟨h.1, contig_app h.2 h'⟩
theorem secR_ok {n : Int} {r : List S61} (hn : 0 ≤ n) (hb : r.any (badR n) = false) : ∀ k, k ≤ r.length → ordK r (k - 1) = false → (∀ x ∈ secR r k, SecOk n x) ∧ Contig 0 (secR r k) (atR r k) ∧ 0 ≤ atR r k ∧ atR r k ≤ n
  | 0, _, _ => ⟨by simp [secR], rfl, Int.le_refl _, hn⟩
  | k + 1, hk, ho => by
    have h : k < r.length := by omega
    have ho' : ordK r (k - 1) = false := by
      cases hc : ordK r (k - 1)
      · rfl
      · rw [ordK_mono r (k - 1) (k + 1 - 1) (by omega) hc] at ho; cases ho
    obtain ⟨i1, i2, i3, i4⟩ := secR_ok hn hb k (by omega) ho'
    have hbad := List.any_eq_false.mp hb r[k] (List.getElem_mem h)
    simp only [badR, Bool.or_eq_true, decide_eq_true_eq, not_or] at hbad
    have hat : atR r k ≤ r[k].f0.f0 := by
      cases k with
      | zero => show (0 : Int) ≤ _; omega
      | succ k =>
        rw [atR_step r k (by omega)]
        rw [show k + 1 + 1 - 1 = k + 1 by omega, ordK_step r k h, Bool.or_eq_false_iff] at ho
        have := ho.2
        simp only [decide_eq_false_iff_not] at this
        omega
    rw [secR_step r k h, atR_step r k h]
    by_cases c : atR r k < r[k].f0.f0
    · rw [if_pos c]
      refine ⟨fun x hx => ?_, contig_app i2 ⟨rfl, rfl, rfl⟩, by omega, by omega⟩
      rcases List.mem_append.mp hx with hx | hx
      · exact i1 x hx
      · simp at hx
        rcases hx with rfl | rfl
        · exact ⟨i3, c, by simp only; omega, by simp only; omega, by simp only; omega⟩
        · exact ⟨by simp only; omega, by simp only; omega, by simp only; omega, by simp only; omega, by simp only; omega⟩
    · rw [if_neg c, List.nil_append]
      refine ⟨fun x hx => ?_, contig_app i2 ⟨by simp only; omega, rfl⟩, by omega, by omega⟩
      rcases List.mem_append.mp hx with hx | hx
      · exact i1 x hx
      · simp at hx; subst hx
        exact ⟨by simp only; omega, by simp only; omega, by simp only; omega, by simp only; omega, by simp only; omega⟩
theorem secsP_ok {n : Int} {r : List S61} (hn : 0 ≤ n) (hb : r.any (badR n) = false) (ho : ordK r (r.length - 1) = false) : (∀ x ∈ secsP n r, SecOk n x) ∧ Contig 0 (secsP n r) n := by
  obtain ⟨i1, i2, i3, i4⟩ := secR_ok hn hb r.length (Nat.le_refl _) ho
  unfold secsP
  by_cases c : atR r r.length < n
  · rw [if_pos c]
    refine ⟨fun x hx => ?_, contig_app i2 ⟨rfl, rfl⟩⟩
    rcases List.mem_append.mp hx with hx | hx
    · exact i1 x hx
    · simp at hx; subst hx; exact ⟨i3, c, Int.le_refl _, by simp only; omega, by simp only; omega⟩
  · rw [if_neg c, List.append_nil]
    have e : atR r r.length = n := by omega
    rw [e] at i2
    exact ⟨i1, i2⟩
/-- A section's performed ticks. -/
def secM (x : S45 × Int) : Int := (x.1.f1 - x.1.f0) * x.2
theorem secM_b {n : Int} {x : S45 × Int} (h : SecOk n x) (hn : n ≤ 8192) : 1 ≤ secM x ∧ secM x ≤ 131072 ∧ wrap64 (wrap64 (x.1.f1 - x.1.f0) * x.2) = secM x ∧ wrap64 (x.1.f1 - x.1.f0) = x.1.f1 - x.1.f0 := by
  obtain ⟨h0, h1, h2, h3, h4⟩ := h
  have e : wrap64 (x.1.f1 - x.1.f0) = x.1.f1 - x.1.f0 := wrap_in _ (by omega) (by omega)
  have b1 : 1 * 1 ≤ (x.1.f1 - x.1.f0) * x.2 := Int.mul_le_mul (by omega) h3 (by omega) (by omega)
  have b2 : (x.1.f1 - x.1.f0) * x.2 ≤ 8192 * 16 := Int.mul_le_mul (by omega) h4 (by omega) (by omega)
  refine ⟨by unfold secM; omega, by unfold secM; omega, ?_, e⟩
  rw [e]; unfold secM; exact wrap_in _ (by omega) (by omega)
def totQ : List (S45 × Int) → Int
  | [] => 0
  | x :: q => secM x + totQ q
theorem totQ_b {n : Int} (hn : n ≤ 8192) : ∀ q : List (S45 × Int), (∀ x ∈ q, SecOk n x) → 0 ≤ totQ q ∧ totQ q ≤ q.length * 131072
  | [], _ => by simp [totQ]
  | x :: q, h => by
    have h1 := secM_b (h x (by simp)) hn
    have h2 := totQ_b hn q (fun y hy => h y (by simp [hy]))
    simp only [totQ, List.length_cons]; omega
theorem tick_sum {n : Int} (hn : n ≤ 8192) : ∀ (q : List (S45 × Int)) (a : Int), (∀ x ∈ q, SecOk n x) → 0 ≤ a → a + q.length * 131072 ≤ 1000000000 → q.foldl tickS a = a + totQ q
  | [], a, _, _, _ => by simp [totQ]
  | x :: q, a, h, h0, hb => by
    have h1 := secM_b (h x (by simp)) hn
    have h2 := totQ_b hn q (fun y hy => h y (by simp [hy]))
    simp only [List.length_cons] at hb
    have e : tickS a x = a + secM x := by unfold tickS; rw [h1.2.2.1]; exact wrap_in _ (by omega) (by omega)
    rw [List.foldl_cons, e, tick_sum hn q _ (fun y hy => h y (by simp [hy])) (by omega) (by omega)]
    simp only [totQ]; omega
/-- Where a performed tick comes from. -/
def srchv : Int → List (S45 × Int) → Int
  | _, [] => 0
  | t, x :: q => if secM x ≤ t then srchv (t - secM x) q else x.1.f0 + t % (x.1.f1 - x.1.f0)
theorem src_val {n : Int} {x : S45 × Int} (h : SecOk n x) (hn : n ≤ 8192) {t : Int} (ht : 0 ≤ t) : wrap64 (x.1.f0 + t.tmod (x.1.f1 - x.1.f0)) = x.1.f0 + t % (x.1.f1 - x.1.f0) := by
  obtain ⟨h0, h1, h2, h3, h4⟩ := h
  rw [Int.tmod_eq_emod_of_nonneg ht]
  have b1 := Int.emod_nonneg t (show x.1.f1 - x.1.f0 ≠ 0 by omega)
  have b2 := Int.emod_lt_of_pos t (show 0 < x.1.f1 - x.1.f0 by omega)
  exact wrap_in _ (by omega) (by omega)
theorem src_fold {n : Int} (hn : n ≤ 8192) (tick : Int) (ht : 0 ≤ tick ∧ tick ≤ 1000000000) : ∀ (q : List (S45 × Int)) (o a : Int), (∀ x ∈ q, SecOk n x) → 0 ≤ a → a + q.length * 131072 ≤ 1000000000 →
    (q.foldl (srcS tick) (o, a)).1 = if a ≤ tick ∧ tick < a + totQ q then srchv (tick - a) q else o
  | [], o, a, _, _, _ => by rw [if_neg (by simp only [totQ]; omega)]; rfl
  | x :: q, o, a, h, h0, hb => by
    have hx := h x (by simp)
    have h1 := secM_b hx hn
    have h2 := totQ_b hn q (fun y hy => h y (by simp [hy]))
    simp only [List.length_cons] at hb
    have ez : wrap64 (a + secM x) = a + secM x := wrap_in _ (by omega) (by omega)
    have e : srcS tick (o, a) x = (if a ≤ tick ∧ tick < a + secM x then x.1.f0 + (tick - a) % (x.1.f1 - x.1.f0) else o, a + secM x) := by
      have eu : srcS tick (o, a) x = (if a ≤ tick ∧ tick < wrap64 (a + wrap64 (wrap64 (x.1.f1 - x.1.f0) * x.2)) then wrap64 (x.1.f0 + (wrap64 (tick - a)).tmod (wrap64 (x.1.f1 - x.1.f0))) else o, wrap64 (a + wrap64 (wrap64 (x.1.f1 - x.1.f0) * x.2))) := rfl
      rw [eu, h1.2.2.1, h1.2.2.2, ez]
      by_cases c : a ≤ tick ∧ tick < a + secM x
      · rw [if_pos c, if_pos c, wrap_in (tick - a) (by omega) (by omega), src_val hx hn (by omega)]
      · rw [if_neg c, if_neg c]
    rw [List.foldl_cons, e, src_fold hn tick ht q _ _ (fun y hy => h y (by simp [hy])) (by omega) (by omega)]
    have et : totQ (x :: q) = secM x + totQ q := rfl
    have es : srchv (tick - a) (x :: q) = (if secM x ≤ tick - a then srchv (tick - a - secM x) q else x.1.f0 + (tick - a) % (x.1.f1 - x.1.f0)) := rfl
    by_cases c1 : a ≤ tick ∧ tick < a + secM x
    · rw [if_pos c1, if_neg (by omega), if_pos (by omega), es, if_neg (by omega)]
    · rw [if_neg c1]
      by_cases c2 : a + secM x ≤ tick ∧ tick < a + secM x + totQ q
      · rw [if_pos c2, if_pos (by omega), es, if_pos (by omega)]; congr 1; omega
      · rw [if_neg c2, if_neg (by omega)]
/-- What Source says of a tick that is performed. -/
theorem source_val {l : List S29} {n : Int} {r : List S61} (h : rCheckP l n r = 0) (t : Int) (h0 : 0 ≤ t) (h1 : t < perfP n r) : ((secsP n r).foldl (srcS t) (0, 0)).1 = srchv t (secsP n r) ∧ perfP n r = totQ (secsP n r) := by
  obtain ⟨k1, k2, k3, k4, k5, k6, k7⟩ := rCheckP_facts h
  have v := (chkS_ok l n).mp k1
  have hs := secsP_ok (by have := v.n0; omega) k3 k4
  have hlen := secsP_len n r
  have et : perfP n r = totQ (secsP n r) := by
    have := tick_sum v.n1 (secsP n r) 0 hs.1 (Int.le_refl _) (by omega)
    rw [Int.zero_add] at this; exact this
  refine ⟨?_, et⟩
  rw [src_fold v.n1 t ⟨h0, by omega⟩ (secsP n r) 0 0 hs.1 (Int.le_refl _) (by omega), if_pos (by omega), Int.sub_zero]
theorem rPerformP_small (l : List S29) (n : Int) (r : List S61) : (rPerformP l n r).1.length ≤ 1000000 := by
  unfold rPerformP
  by_cases h : rCheckP l n r = 0
  · obtain ⟨k1, k2, k3, k4, k5, k6, k7⟩ := rCheckP_facts h
    have v := (chkS_ok l n).mp k1
    rw [if_neg (not_not_intro h)]
    have := syms_eq (n := n) v.len k2 k3
    simp only; omega
  · rw [if_pos h]; simp
end Go.Proofs.Ytdilndbanhianaa.P

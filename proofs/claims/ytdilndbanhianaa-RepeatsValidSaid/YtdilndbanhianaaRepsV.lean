/- What is performed of valid repetitions is a staff; how long it is, and how many symbols it has; no condition. -/
import Derived.Test.YtdilndbanhianaaRepsW
import Derived.Test.YtdilndbanhianaaStaffC
set_option linter.unusedVariables false
set_option linter.unusedSimpArgs false
namespace Go.Proofs.Ytdilndbanhianaa.P
open Go.RowKit Go.Proofs.YtdilndbanhianaaW.PrintWords Go.Proofs.YtdilndbanhianaaW.PrintLast Go.Proofs.YtdilndbanhianaaW.PrintMore
/-- A staff up to some tick, of any length. -/
structure Stf (l : List S29) (n : Int) : Prop where
  all : ∀ s ∈ l, chkO s = 0
  ord : l.Pairwise (fun a b => ltS a b = true)
  le : ∀ s ∈ l, endS s ≤ n
  ap : l.Pairwise apS
theorem stf_nil : Stf [] 0 := ⟨by simp, List.Pairwise.nil, by simp, List.Pairwise.nil⟩
theorem stf_ok {l : List S29} {n : Int} (h : Stf l n) (n0 : 1 ≤ n) (n1 : n ≤ 8192) (len : l.length ≤ 256) : StaffOk l n := ⟨n0, n1, len, h.all, h.ord, h.le, h.ap⟩
theorem stf_of {l : List S29} {n : Int} (h : StaffOk l n) : Stf l n := ⟨h.all, h.ord, h.le, h.ap⟩
theorem stf_app {a b : List S29} {n m : Int} (ha : Stf a n) (hb : Stf b m) (hnm : n ≤ m) (hge : ∀ s ∈ b, n ≤ s.f2) : Stf (a ++ b) m where
  all := fun s h => (List.mem_append.mp h).elim (ha.all s) (hb.all s)
  ord := List.pairwise_append.mpr ⟨ha.ord, hb.ord, fun x hx y hy => by
    have h1 := ha.le x hx; have h2 := chkO_in x (ha.all x hx); have h3 := hge y hy
    unfold endS at h1
    simp only [ltS, lessB, decide_eq_true_eq]; omega⟩
  le := fun s h => (List.mem_append.mp h).elim (fun h => by have := ha.le s h; omega) (hb.le s)
  ap := List.pairwise_append.mpr ⟨ha.ap, hb.ap, fun x hx y hy _ => by have h1 := ha.le x hx; have h3 := hge y hy; omega⟩
theorem cut_no {l : List S29} {n t : Int} (v : StaffOk l n) (h : cutB l t = true) : ∀ s ∈ l, s.f2 < t → endS s ≤ t := by
  intro s hs hlt
  have e := endW_eq s (v.all s hs)
  unfold endW at e
  unfold cutB at h
  rw [Bool.not_eq_true'] at h
  have := List.any_eq_false.mp h s hs
  simp only [acrB, e, hlt, decide_true, Bool.true_and, decide_eq_true_eq] at this
  omega
theorem cut_yes {l : List S29} {n t : Int} (v : StaffOk l n) (h : ∀ s ∈ l, s.f2 < t → endS s ≤ t) : cutB l t = true := by
  unfold cutB
  rw [Bool.not_eq_true']
  refine List.any_eq_false.mpr fun s hs => ?_
  have e := endW_eq s (v.all s hs)
  unfold endW at e
  simp only [acrB, e, Bool.and_eq_true, decide_eq_true_eq]
  intro c
  have := h s hs c.1
  omega
theorem within_b {l : List S29} {n : Int} (v : StaffOk l n) {x : S45} (h : cutB l x.f1 = true) : ∀ s ∈ withinP l x, s ∈ l ∧ x.f0 ≤ s.f2 ∧ s.f2 < x.f1 ∧ endS s ≤ x.f1 := by
  intro s hs
  obtain ⟨h1, h2⟩ := List.mem_filter.mp hs
  simp only [inB, Bool.and_eq_true, decide_eq_true_eq] at h2
  exact ⟨h1, h2.1, h2.2, cut_no v h s h1 h2.2⟩
/-- The symbols of some ticks, moved. -/
theorem piece_stf {l : List S29} {n : Int} {x : S45 × Int} {a : Int} (v : StaffOk l n) (hx : SecOk n x) (hc : cutB l x.1.f1 = true) (ha : 0 ≤ a) (hb : a + (x.1.f1 - x.1.f0) ≤ 8192) :
    Stf ((withinP l x.1).map (movS (wrap64 (a - x.1.f0)))) (a + (x.1.f1 - x.1.f0)) ∧ ∀ s ∈ (withinP l x.1).map (movS (wrap64 (a - x.1.f0))), a ≤ s.f2 := by
  obtain ⟨h0, h1, h2, h3, h4⟩ := hx
  have hn := v.n1
  have hw := within_b v hc
  rw [wrap_in (a - x.1.f0) (by omega) (by omega)]
  have hl : (withinP l x.1).length ≤ 256 := Nat.le_trans (withinP_len l x.1) v.len
  refine ⟨stf_of (staff_shift (by omega) (by omega) (by omega) hb hl (fun s hs => v.all s (hw s hs).1) (v.ord.filter _) (v.ap.filter _) (fun s hs => ?_) (fun s hs => ?_)), fun s hs => ?_⟩
  · have := hw s hs; omega
  · have := hw s hs; omega
  · obtain ⟨y, hy, rfl⟩ := List.mem_map.mp hs
    have := hw y hy
    rw [mov_f2 (v.all y this.1) (by omega) (by omega)]; omega
theorem repS_stf {l : List S29} {n : Int} {x : S45 × Int} (v : StaffOk l n) (hx : SecOk n x) (hc : cutB l x.1.f1 = true) (st : List S29 × Int) (h : Stf st.1 st.2) (h0 : 0 ≤ st.2) :
    ∀ k : Nat, st.2 + (x.1.f1 - x.1.f0) * (k : Int) ≤ 8192 → Stf (repS l x k st).1 (repS l x k st).2 ∧ (repS l x k st).2 = st.2 + (x.1.f1 - x.1.f0) * (k : Int)
  | 0, _ => ⟨h, by simp [repS]⟩
  | k + 1, hb => by
    have hlt := hx.lt
    have e : (x.1.f1 - x.1.f0) * ((k + 1 : Nat) : Int) = (x.1.f1 - x.1.f0) * (k : Int) + (x.1.f1 - x.1.f0) := by rw [Int.natCast_add, Int.mul_add]; simp
    have hk : 0 ≤ (x.1.f1 - x.1.f0) * (k : Int) := Int.mul_nonneg (by omega) (by omega)
    rw [e] at hb ⊢
    obtain ⟨i1, i2⟩ := repS_stf v hx hc st h h0 k (by omega)
    have hn := v.n1
    have hx0 := hx.f0
    have hx1 := hx.le
    have ew : wrap64 (x.1.f1 - x.1.f0) = x.1.f1 - x.1.f0 := wrap_in _ (by omega) (by omega)
    obtain ⟨p1, p2⟩ := piece_stf (a := (repS l x k st).2) v hx hc (by omega) (by omega)
    have e2 : (repS l x (k + 1) st).2 = (repS l x k st).2 + (x.1.f1 - x.1.f0) := by
      show wrap64 ((repS l x k st).2 + wrap64 (x.1.f1 - x.1.f0)) = _
      rw [ew]; exact wrap_in _ (by omega) (by omega)
    refine ⟨?_, by rw [e2]; omega⟩
    rw [e2]
    exact stf_app i1 p1 (by omega) p2
theorem perf_stf {l : List S29} {n : Int} (v : StaffOk l n) : ∀ (q : List (S45 × Int)) (st : List S29 × Int), (∀ x ∈ q, SecOk n x) → (∀ x ∈ q, cutB l x.1.f1 = true) → Stf st.1 st.2 → 0 ≤ st.2 → st.2 + totQ q ≤ 8192 →
    Stf (q.foldl (perfS l) st).1 (st.2 + totQ q) ∧ (q.foldl (perfS l) st).2 = st.2 + totQ q
  | [], st, _, _, h, _, _ => by simp only [List.foldl_nil, totQ, Int.add_zero, and_true]; exact h
  | x :: q, st, h1, h2, h, h0, hb => by
    have hx := h1 x (by simp)
    have hq := totQ_b v.n1 q (fun y hy => h1 y (by simp [hy]))
    have ht : ((x.2.toNat : Nat) : Int) = x.2 := Int.toNat_of_nonneg (by have := hx.t1; omega)
    have et : totQ (x :: q) = secM x + totQ q := rfl
    rw [et] at hb ⊢
    have hm : (x.1.f1 - x.1.f0) * ((x.2.toNat : Nat) : Int) = secM x := by rw [ht]; rfl
    obtain ⟨i1, i2⟩ := repS_stf v hx (h2 x (by simp)) st h h0 x.2.toNat (by rw [hm]; omega)
    rw [hm] at i2
    have m0 := (secM_b hx v.n1).1
    have := perf_stf v q (perfS l st x) (fun y hy => h1 y (by simp [hy])) (fun y hy => h2 y (by simp [hy])) i1 (by show 0 ≤ (repS l x x.2.toNat st).2; omega) (by show (repS l x x.2.toNat st).2 + _ ≤ _; omega)
    rw [List.foldl_cons]
    have e : (perfS l st x).2 = st.2 + secM x := i2
    rw [e] at this
    rw [← Int.add_assoc]
    exact this
theorem secR_cut {l : List S29} {r : List S61} (h0 : cutB l 0 = true) (hb : r.any (badC26 l) = false) : ∀ k, k ≤ r.length → (∀ x ∈ secR r k, cutB l x.1.f0 = true ∧ cutB l x.1.f1 = true) ∧ cutB l (atR r k) = true
  | 0, _ => ⟨by simp [secR], h0⟩
  | k + 1, hk => by
    have h : k < r.length := by omega
    obtain ⟨i1, i2⟩ := secR_cut h0 hb k (by omega)
    have hbad := List.any_eq_false.mp hb r[k] (List.getElem_mem h)
    simp only [badC26, Bool.or_eq_true, Bool.not_eq_true', not_or, Bool.not_eq_false] at hbad
    rw [secR_step r k h, atR_step r k h]
    refine ⟨fun x hx => ?_, hbad.2⟩
    rcases List.mem_append.mp hx with hx | hx
    · exact i1 x hx
    · rcases List.mem_append.mp hx with hx | hx
      · by_cases c : atR r k < r[k].f0.f0
        · rw [if_pos c] at hx; simp at hx; subst hx; exact ⟨i2, hbad.1⟩
        · rw [if_neg c] at hx; simp at hx
      · simp at hx; subst hx; exact hbad
theorem secs_cut {l : List S29} {n : Int} {r : List S61} (v : StaffOk l n) (hb : r.any (badC26 l) = false) : ∀ x ∈ secsP n r, cutB l x.1.f0 = true ∧ cutB l x.1.f1 = true := by
  obtain ⟨c0, c1⟩ := cut_ends v
  obtain ⟨i1, i2⟩ := secR_cut c0 hb r.length (Nat.le_refl _)
  intro x hx
  unfold secsP at hx
  rcases List.mem_append.mp hx with hx | hx
  · exact i1 x hx
  · by_cases c : atR r r.length < n
    · rw [if_pos c] at hx; simp at hx; subst hx; exact ⟨i2, c1⟩
    · rw [if_neg c] at hx; simp at hx
/-! How long it is -/
theorem totQ_app : ∀ q q' : List (S45 × Int), totQ (q ++ q') = totQ q + totQ q'
  | [], q' => by simp [totQ]
  | x :: q, q' => by rw [List.cons_append]; simp only [totQ, totQ_app q q']; omega
/-- What the first k repetitions perform more than once. -/
def addT (r : List S61) : Nat → Int
  | 0 => 0
  | k + 1 => if h : k < r.length then addT r k + (r[k].f0.f1 - r[k].f0.f0) * (r[k].f1 - 1) else addT r k
theorem addT_step (r : List S61) (k : Nat) (h : k < r.length) : addT r (k + 1) = addT r k + (r[k].f0.f1 - r[k].f0.f0) * (r[k].f1 - 1) := by simp only [addT, dif_pos h]
theorem sec_m1 (a b : Int) : secM (⟨a, b⟩, 1) = b - a := by unfold secM; simp
theorem mul_m1 (d t : Int) : d * t = d + d * (t - 1) := by rw [Int.mul_sub]; omega
theorem totQ_secR (r : List S61) : ∀ k, k ≤ r.length → (∀ j (h : j < r.length), j < k → atR r j ≤ r[j].f0.f0) → totQ (secR r k) = atR r k + addT r k
  | 0, _, _ => by simp [secR, totQ, atR, addT]
  | k + 1, hk, ho => by
    have h : k < r.length := by omega
    have ih := totQ_secR r k (by omega) (fun j hj hjk => ho j hj (by omega))
    have hle := ho k h (by omega)
    rw [secR_step r k h, atR_step r k h, addT_step r k h, totQ_app, totQ_app, ih]
    have e1 : totQ [(r[k].f0, r[k].f1)] = (r[k].f0.f1 - r[k].f0.f0) + (r[k].f0.f1 - r[k].f0.f0) * (r[k].f1 - 1) := by
      simp only [totQ, Int.add_zero]; exact mul_m1 _ _
    rw [e1]
    by_cases c : atR r k < r[k].f0.f0
    · rw [if_pos c]
      simp only [totQ, sec_m1]; omega
    · rw [if_neg c]
      simp only [totQ]; omega
theorem at_le {n : Int} {r : List S61} (hb : r.any (badR n) = false) (ho : ordK r (r.length - 1) = false) : ∀ j (h : j < r.length), atR r j ≤ r[j].f0.f0 := by
  intro j h
  cases j with
  | zero =>
    have hbad := List.any_eq_false.mp hb r[0] (List.getElem_mem h)
    simp only [badR, Bool.or_eq_true, decide_eq_true_eq, not_or] at hbad
    show (0 : Int) ≤ _; omega
  | succ j =>
    rw [atR_step r j (by omega)]
    have ho' : ordK r (j + 1) = false := by
      cases hc : ordK r (j + 1)
      · rfl
      · rw [ordK_mono r (j + 1) (r.length - 1) (by omega) hc] at ho; cases ho
    rw [ordK_step r j h, Bool.or_eq_false_iff] at ho'
    have := ho'.2
    simp only [decide_eq_false_iff_not] at this
    omega
theorem totQ_secs {n : Int} {r : List S61} (hb : r.any (badR n) = false) (ho : ordK r (r.length - 1) = false) (hn : 0 ≤ n) : totQ (secsP n r) = n + addT r r.length := by
  obtain ⟨_, _, _, i4⟩ := secR_ok hn hb r.length (Nat.le_refl _) ho
  have := totQ_secR r r.length (Nat.le_refl _) (fun j h _ => at_le hb ho j h)
  unfold secsP
  rw [totQ_app, this]
  by_cases c : atR r r.length < n
  · rw [if_pos c]; simp only [totQ, sec_m1]; omega
  · rw [if_neg c]; simp only [totQ]; omega
theorem addT_b {n : Int} {r : List S61} (hn : n ≤ 8192) (hb : r.any (badR n) = false) : ∀ k, k ≤ r.length → 0 ≤ addT r k ∧ addT r k ≤ k * 131072
  | 0, _ => by simp [addT]
  | k + 1, hk => by
    have h : k < r.length := by omega
    have ih := addT_b hn hb k (by omega)
    have hbad := List.any_eq_false.mp hb r[k] (List.getElem_mem h)
    simp only [badR, Bool.or_eq_true, decide_eq_true_eq, not_or] at hbad
    rw [addT_step r k h]
    have b1 : 0 ≤ (r[k].f0.f1 - r[k].f0.f0) * (r[k].f1 - 1) := Int.mul_nonneg (by omega) (by omega)
    have b2 : (r[k].f0.f1 - r[k].f0.f0) * (r[k].f1 - 1) ≤ 8192 * 16 := Int.mul_le_mul (by omega) (by omega) (by omega) (by omega)
    omega
/-! How many symbols it has -/
def cntQ (l : List S29) : List (S45 × Int) → Int
  | [] => 0
  | x :: q => ((withinP l x.1).length : Int) * x.2 + cntQ l q
theorem cntQ_app (l : List S29) : ∀ q q' : List (S45 × Int), cntQ l (q ++ q') = cntQ l q + cntQ l q'
  | [], q' => by simp [cntQ]
  | x :: q, q' => by rw [List.cons_append]; simp only [cntQ, cntQ_app l q q']; omega
theorem perf_cnt (l : List S29) : ∀ (q : List (S45 × Int)) (st : List S29 × Int), (∀ x ∈ q, 1 ≤ x.2 ∧ x.2 ≤ 16) → ((q.foldl (perfS l) st).1.length : Int) = st.1.length + cntQ l q
  | [], st, _ => by simp [cntQ]
  | x :: q, st, h => by
    have hx := h x (by simp)
    have ih := perf_cnt l q (perfS l st x) (fun y hy => h y (by simp [hy]))
    rw [List.foldl_cons, ih]
    simp only [cntQ]
    have e : ((perfS l st x).1.length : Int) = st.1.length + ((withinP l x.1).length : Int) * x.2 := by
      unfold perfS
      rw [repS_len, Int.natCast_add, Int.natCast_mul, Int.toNat_of_nonneg (by omega), Int.mul_comm]
    rw [e]; omega
def befN (l : List S29) (t : Int) : Int := ((l.filter (fun s => decide (s.f2 < t))).length : Int)
theorem bef_add (a b : Int) (h : a ≤ b) : ∀ l : List S29, befN l a + ((l.filter (inB a b)).length : Int) = befN l b
  | [] => rfl
  | s :: l => by
    have ih := bef_add a b h l
    unfold befN at ih ⊢
    simp only [List.filter_cons]
    by_cases c1 : s.f2 < a
    · have c2 : s.f2 < b := by omega
      have c3 : inB a b s = false := by have : ¬ a ≤ s.f2 := by omega
                                        simp [inB, this]
      simp only [c1, c2, c3, decide_true, ↓reduceIte, Bool.false_eq_true, List.length_cons]; omega
    · by_cases c2 : s.f2 < b
      · have c3 : inB a b s = true := by have : a ≤ s.f2 := by omega
                                         simp [inB, this, c2]
        simp only [c1, c2, c3, decide_true, decide_false, ↓reduceIte, Bool.false_eq_true, List.length_cons]; omega
      · have c3 : inB a b s = false := by simp [inB, c2]
        simp only [c1, c2, c3, decide_false, ↓reduceIte, Bool.false_eq_true]; omega
def addC (l : List S29) (r : List S61) : Nat → Int
  | 0 => 0
  | k + 1 => if h : k < r.length then addC l r k + ((withinP l r[k].f0).length : Int) * (r[k].f1 - 1) else addC l r k
theorem addC_step (l : List S29) (r : List S61) (k : Nat) (h : k < r.length) : addC l r (k + 1) = addC l r k + ((withinP l r[k].f0).length : Int) * (r[k].f1 - 1) := by simp only [addC, dif_pos h]
theorem cntQ_secR (l : List S29) {n : Int} (r : List S61) (h0 : befN l 0 = 0) (hb : r.any (badR n) = false) : ∀ k, k ≤ r.length → (∀ j (h : j < r.length), j < k → atR r j ≤ r[j].f0.f0) → cntQ l (secR r k) = befN l (atR r k) + addC l r k
  | 0, _, _ => by simp only [secR, cntQ, atR, addC, h0]; rfl
  | k + 1, hk, ho => by
    have h : k < r.length := by omega
    have ih := cntQ_secR l r h0 hb k (by omega) (fun j hj hjk => ho j hj (by omega))
    have hle := ho k h (by omega)
    have hbad := List.any_eq_false.mp hb r[k] (List.getElem_mem h)
    simp only [badR, Bool.or_eq_true, decide_eq_true_eq, not_or] at hbad
    rw [secR_step r k h, atR_step r k h, addC_step l r k h, cntQ_app, cntQ_app, ih]
    have e1 : cntQ l [(r[k].f0, r[k].f1)] = ((withinP l r[k].f0).length : Int) + ((withinP l r[k].f0).length : Int) * (r[k].f1 - 1) := by
      simp only [cntQ, Int.add_zero]; exact mul_m1 _ _
    have e2 : befN l r[k].f0.f0 + ((withinP l r[k].f0).length : Int) = befN l r[k].f0.f1 := bef_add _ _ (by omega) l
    rw [e1]
    by_cases c : atR r k < r[k].f0.f0
    · rw [if_pos c]
      have e3 : befN l (atR r k) + ((withinP l ⟨atR r k, r[k].f0.f0⟩).length : Int) = befN l r[k].f0.f0 := bef_add _ _ (by omega) l
      simp only [cntQ, Int.mul_one]; omega
    · rw [if_neg c]
      have e3 : atR r k = r[k].f0.f0 := by omega
      rw [e3]
      simp only [cntQ]; omega
theorem bef_zero {l : List S29} {n : Int} (v : StaffOk l n) : befN l 0 = 0 ∧ befN l n = l.length := by
  constructor
  · unfold befN
    rw [List.filter_eq_nil_iff.mpr fun s hs => ?_]
    · rfl
    · have := ok_in v s hs
      have a : ¬ s.f2 < 0 := by omega
      simp [a]
  · unfold befN
    rw [List.filter_eq_self.mpr fun s hs => ?_]
    have := ok_in v s hs
    have a : s.f2 < n := by omega
    simp [a]
theorem cntQ_secs {l : List S29} {n : Int} {r : List S61} (v : StaffOk l n) (hb : r.any (badR n) = false) (ho : ordK r (r.length - 1) = false) : cntQ l (secsP n r) = l.length + addC l r r.length := by
  have hn := v.n0
  obtain ⟨_, _, _, i4⟩ := secR_ok (n := n) (by omega) hb r.length (Nat.le_refl _) ho
  obtain ⟨z0, z1⟩ := bef_zero v
  have := cntQ_secR l r z0 hb r.length (Nat.le_refl _) (fun j h _ => at_le hb ho j h)
  unfold secsP
  rw [cntQ_app, this]
  by_cases c : atR r r.length < n
  · rw [if_pos c]
    have e3 : befN l (atR r r.length) + ((withinP l ⟨atR r r.length, n⟩).length : Int) = befN l n := bef_add _ _ (by omega) l
    simp only [cntQ, Int.mul_one]; omega
  · rw [if_neg c]
    have e3 : atR r r.length = n := by omega
    rw [e3]
    simp only [cntQ]; omega
theorem addC_b {l : List S29} {n : Int} {r : List S61} (hl : l.length ≤ 256) (hb : r.any (badR n) = false) : ∀ k, k ≤ r.length → 0 ≤ addC l r k ∧ addC l r k ≤ k * 4096
  | 0, _ => by simp [addC]
  | k + 1, hk => by
    have h : k < r.length := by omega
    have ih := addC_b (l := l) hl hb k (by omega)
    have hbad := List.any_eq_false.mp hb r[k] (List.getElem_mem h)
    simp only [badR, Bool.or_eq_true, decide_eq_true_eq, not_or] at hbad
    have hw := withinP_len l r[k].f0
    rw [addC_step l r k h]
    have b1 : 0 ≤ ((withinP l r[k].f0).length : Int) * (r[k].f1 - 1) := Int.mul_nonneg (by omega) (by omega)
    have b2 : ((withinP l r[k].f0).length : Int) * (r[k].f1 - 1) ≤ 256 * 16 := Int.mul_le_mul (by omega) (by omega) (by omega) (by omega)
    omega
/-- The performed staff: it is one, with its length and number of symbols. -/
theorem perform_ok {l : List S29} {n : Int} {r : List S61} (h : rCheckP l n r = 0) :
    StaffOk (rPerformP l n r).1 (perfP n r) ∧ perfP n r = n + addT r r.length ∧ ((rPerformP l n r).1.length : Int) = l.length + addC l r r.length := by
  obtain ⟨k1, k2, k3, k4, k5, k6, k7⟩ := rCheckP_facts h
  have v := (chkS_ok l n).mp k1
  have n0 := v.n0
  have hs := secsP_ok (n := n) (by omega) k3 k4
  have hlen := secsP_len n r
  have et : perfP n r = totQ (secsP n r) := by
    have := tick_sum v.n1 (secsP n r) 0 hs.1 (Int.le_refl _) (by omega)
    rw [Int.zero_add] at this; exact this
  have e2 := totQ_secs k3 k4 (n := n) (by omega)
  have hcut := secs_cut v k5
  have hst := (perf_stf v (secsP n r) ([], 0) hs.1 (fun x hx => (hcut x hx).2) stf_nil (Int.le_refl _) (by show (0 : Int) + _ ≤ _; omega)).1
  have ha := addT_b v.n1 k3 r.length (Nat.le_refl _)
  have ep : (rPerformP l n r).1 = ((secsP n r).foldl (perfS l) ([], 0)).1 := by unfold rPerformP; rw [if_neg (not_not_intro h)]
  have ec := perf_cnt l (secsP n r) ([], 0) (secs_times k3)
  have es := syms_eq (n := n) v.len k2 k3
  have e3 := cntQ_secs v k3 k4
  rw [ep]
  have e0 : (0 : Int) + totQ (secsP n r) = perfP n r := by omega
  rw [e0] at hst
  refine ⟨stf_ok hst (by omega) (by omega) (by omega), by omega, ?_⟩
  rw [ec, e3, List.length_nil]; omega
end Go.Proofs.Ytdilndbanhianaa.P

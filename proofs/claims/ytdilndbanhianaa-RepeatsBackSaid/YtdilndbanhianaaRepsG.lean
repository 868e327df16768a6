/- What Find writes is performed as the staff again; no condition. -/
import Derived.Test.YtdilndbanhianaaRepsF0
import Derived.Test.YtdilndbanhianaaRepsB
set_option linter.unusedVariables false
set_option linter.unusedSimpArgs false
namespace Go.Proofs.Ytdilndbanhianaa.P
open Go.RowKit Go.Proofs.YtdilndbanhianaaW.PrintWords Go.Proofs.YtdilndbanhianaaW.PrintLast Go.Proofs.YtdilndbanhianaaW.PrintMore
/-- The symbols that begin before a tick. -/
def befL (l : List S29) (t : Int) : List S29 := l.filter (fun s => decide (s.f2 < t))
theorem bef_within {a b : Int} (h : a ≤ b) : ∀ {l : List S29}, l.Pairwise (fun a b => ltS a b = true) → befL l a ++ withinP l ⟨a, b⟩ = befL l b
  | [], _ => rfl
  | s :: l, ho => by
    obtain ⟨h1, h2⟩ := List.pairwise_cons.mp ho
    have ih := bef_within h h2
    unfold befL withinP at ih ⊢
    simp only at ih ⊢
    simp only [List.filter_cons]
    by_cases c1 : s.f2 < a
    · have c2 : s.f2 < b := by omega
      have c3 : inB a b s = false := by have : ¬ a ≤ s.f2 := by omega
                                        simp [inB, this]
      simp only [c1, c2, c3, decide_true, ↓reduceIte, Bool.false_eq_true, List.cons_append, ih]
    · by_cases c2 : s.f2 < b
      · have c3 : inB a b s = true := by have : a ≤ s.f2 := by omega
                                         simp [inB, this, c2]
        have e : l.filter (fun s => decide (s.f2 < a)) = [] := List.filter_eq_nil_iff.mpr fun x hx => by
          have := h1 x hx
          simp only [ltS, lessB, decide_eq_true_eq] at this ⊢
          omega
        rw [e, List.nil_append] at ih
        simp only [c1, c2, c3, decide_true, decide_false, ↓reduceIte, Bool.false_eq_true, e, List.nil_append, ih]
      · have c3 : inB a b s = false := by simp [inB, c2]
        simp only [c1, c2, c3, decide_false, ↓reduceIte, Bool.false_eq_true, ih]
theorem within_join {l : List S29} (ho : l.Pairwise (fun a b => ltS a b = true)) {a b c : Int} (h1 : a ≤ b) (h2 : b ≤ c) : withinP l ⟨a, b⟩ ++ withinP l ⟨b, c⟩ = withinP l ⟨a, c⟩ := by
  have e1 := bef_within h1 ho
  have e2 := bef_within h2 ho
  have e3 := bef_within (show a ≤ c by omega) ho
  have e4 : befL l a ++ (withinP l ⟨a, b⟩ ++ withinP l ⟨b, c⟩) = befL l a ++ withinP l ⟨a, c⟩ := by
    rw [← List.append_assoc, e1, e2, e3]
  exact List.append_cancel_left e4
theorem within_none {l : List S29} {a b : Int} (h : ∀ s ∈ l, s.f2 < a ∨ b ≤ s.f2) : withinP l ⟨a, b⟩ = [] := by
  unfold withinP
  refine List.filter_eq_nil_iff.mpr fun s hs => ?_
  have := h s hs
  simp only [inB, Bool.and_eq_true, decide_eq_true_eq]; omega
theorem within_nil (l : List S29) (a : Int) : withinP l ⟨a, a⟩ = [] := within_none fun s _ => by omega
theorem within_full {l : List S29} {a b : Int} (h : ∀ s ∈ l, a ≤ s.f2 ∧ s.f2 < b) : withinP l ⟨a, b⟩ = l := by
  unfold withinP
  refine List.filter_eq_self.mpr fun s hs => ?_
  have := h s hs
  simp only [inB, Bool.and_eq_true, decide_eq_true_eq]; omega
theorem within_app (a b : List S29) (x : S45) : withinP (a ++ b) x = withinP a x ++ withinP b x := List.filter_append ..
theorem mov_mov (d e : Int) (s : S29) : movS e (movS d s) = movS (d + e) s := by
  unfold movS
  simp only [S29.mk.injEq, and_true, true_and]
  unfold wrap64; omega
theorem map_mov_mov (d e : Int) (l : List S29) : (l.map (movS d)).map (movS e) = l.map (movS (d + e)) := by
  rw [List.map_map]
  exact List.map_congr_left fun s _ => mov_mov d e s
theorem stf_nil' (n : Int) : Stf [] n := ⟨by simp, List.Pairwise.nil, by simp, List.Pairwise.nil⟩
theorem stf_lt {l : List S29} {n : Int} (h : Stf l n) : ∀ s ∈ l, s.f2 < n := fun s hs => by
  have h1 := h.le s hs
  have h2 := chkO_in s (h.all s hs)
  unfold endS at h1; omega
theorem piece_stf0 {l : List S29} {n : Int} (v : StaffOk l n) {f t a : Int} (h0 : 0 ≤ f) (h1 : f ≤ t) (h2 : t ≤ n) (hc : cutB l t = true) (ha : 0 ≤ a) (hb : a + (t - f) ≤ 8192) :
    Stf ((withinP l ⟨f, t⟩).map (movS (a - f))) (a + (t - f)) ∧ ∀ s ∈ (withinP l ⟨f, t⟩).map (movS (a - f)), a ≤ s.f2 := by
  have hn := v.n1
  by_cases e : f = t
  · subst e
    rw [within_nil]
    exact ⟨stf_nil' _, by simp⟩
  · have := piece_stf (x := (⟨f, t⟩, 1)) (a := a) v ⟨h0, by show f < t; omega, h2, by show (1 : Int) ≤ 1; omega, by show (1 : Int) ≤ 16; omega⟩ hc ha hb
    rw [show wrap64 (a - ((⟨f, t⟩ : S45), (1 : Int)).1.f0) = a - f from wrap_in (a - f) (by omega) (by omega)] at this
    exact this
theorem repS_congr {a b : List S29} {x : S45 × Int} (h : withinP a x.1 = withinP b x.1) (st : List S29 × Int) : ∀ k, repS a x k st = repS b x k st
  | 0 => rfl
  | k + 1 => by simp only [repS, repS_congr h st k, h]
theorem perf_congr {a b : List S29} : ∀ (q : List (S45 × Int)) (st : List S29 × Int), (∀ x ∈ q, withinP a x.1 = withinP b x.1) → q.foldl (perfS a) st = q.foldl (perfS b) st
  | [], _, _ => rfl
  | x :: q, st, h => by
    rw [List.foldl_cons, List.foldl_cons]
    have e : perfS a st x = perfS b st x := repS_congr (h x (by simp)) st _
    rw [e]; exact perf_congr q _ (fun y hy => h y (by simp [hy]))
theorem atR_pre' (r : List S61) (x : S61) : ∀ j, j ≤ r.length → atR (r ++ [x]) j = atR r j
  | 0, _ => rfl
  | j + 1, h => by rw [atR_step (r ++ [x]) j (by simp; omega), atR_step r j h, List.getElem_append_left h]
theorem secR_pre' (r : List S61) (x : S61) : ∀ j, j ≤ r.length → secR (r ++ [x]) j = secR r j
  | 0, _ => rfl
  | j + 1, h => by rw [secR_step (r ++ [x]) j (by simp; omega), secR_step r j h, List.getElem_append_left h, secR_pre' r x j (by omega), atR_pre' r x j (by omega)]
theorem ordK_pre' (r : List S61) (x : S61) : ∀ j, j < r.length → ordK (r ++ [x]) j = ordK r j
  | 0, _ => rfl
  | j + 1, h => by rw [ordK_step (r ++ [x]) j (by simp; omega), ordK_step r j h, List.getElem_append_left h, List.getElem_append_left (by omega : j < r.length), ordK_pre' r x j (by omega)]
theorem last_at {r : List S61} {k : Nat} (hk : r.length = k + 1) : atR r r.length = (r[k]'(by omega)).f0.f1 := (congrArg (atR r) hk).trans (atR_step r k (by omega))
theorem within_mov0 {l : List S29} {n : Int} (v : StaffOk l n) (x : S45) : (withinP l x).map (movS 0) = withinP l x := map_mov0 _ (fun s hs => v.all s (List.mem_filter.mp hs).1)
/-- What holds of Find between two of its steps. -/
structure FInv (l : List S29) (n t : Int) (W : List (S45 × Int)) (tw : Int) (r : List S61) (aR : List S29) (tR : Int) : Prop where
  b0 : 0 ≤ tR
  b1 : tR ≤ t
  b2 : t ≤ n
  o0 : 0 ≤ atR r r.length
  o1 : atR r r.length ≤ tR
  d : tw - atR r r.length = t - tR
  w : W.foldl (perfS l) ([], 0) = (aR ++ (withinP l ⟨tR, t⟩).map (movS (atR r r.length - tR)), tw)
  cut : cutB l tR = true
  stf : Stf aR (atR r r.length)
  sec : (secR r r.length).foldl (perfS aR) ([], 0) = (befL l tR, tR)
  rl : r.length ≤ 16
  ra : ∀ x ∈ r, 0 ≤ x.f0.f0 ∧ x.f0.f0 < x.f0.f1 ∧ x.f0.f1 ≤ atR r r.length ∧ 2 ≤ x.f1 ∧ x.f1 ≤ 16
  ro : ordK r (r.length - 1) = false
  rc : ∀ x ∈ r, ∀ s ∈ aR, (s.f2 < x.f0.f0 → endS s ≤ x.f0.f0) ∧ (s.f2 < x.f0.f1 → endS s ≤ x.f0.f1)
  al : aR.length ≤ (befL l tR).length
theorem finv_nil {l : List S29} {n : Int} (v : StaffOk l n) : FInv l n 0 [] 0 [] [] 0 where
  b0 := Int.le_refl _
  b1 := Int.le_refl _
  b2 := by have := v.n0; omega
  o0 := Int.le_refl _
  o1 := Int.le_refl _
  d := rfl
  w := by rw [within_nil]; rfl
  cut := (cut_ends v).1
  stf := stf_nil
  sec := by
    have : befL l 0 = [] := List.filter_eq_nil_iff.mpr fun s hs => by
      have := ok_in v s hs
      have a : ¬ s.f2 < 0 := by omega
      simp [a]
    rw [this]; rfl
  rl := by simp
  ra := by simp
  ro := rfl
  rc := by simp
  al := by simp
theorem finv_one {l : List S29} {n t : Int} {W : List (S45 × Int)} {tw : Int} {r : List S61} {aR : List S29} {tR : Int} (v : StaffOk l n) (h : FInv l n t W tw r aR tR) {m : Int} (hm : 1 ≤ m) (hmn : t + m ≤ n) :
    FInv l n (t + m) (W ++ [(⟨t, t + m⟩, 1)]) (tw + m) r aR tR where
  b0 := h.b0
  b1 := by have := h.b1; omega
  b2 := hmn
  o0 := h.o0
  o1 := h.o1
  d := by have := h.d; omega
  w := by
    have hn := v.n1
    have hd := h.d
    have := h.b0; have := h.b1; have := h.b2; have := h.o0; have := h.o1
    rw [List.foldl_append, h.w]
    show perfS l _ (⟨t, t + m⟩, 1) = _
    rw [perfS_one]
    simp only
    rw [show t + m - t = m by omega, wrap_in m (by omega) (by omega), wrap_in (tw + m) (by omega) (by omega), wrap_in (tw - t) (by omega) (by omega), show tw - t = atR r r.length - tR by omega,
      List.append_assoc, ← List.map_append, within_join v.ord (by omega) (by omega)]
  cut := h.cut
  stf := h.stf
  sec := h.sec
  rl := h.rl
  ra := h.ra
  ro := h.ro
  rc := h.rc
  al := h.al
theorem fol_piece {l : List S29} {n : Int} (v : StaffOk l n) {t m : Int} {j : Nat} (h : foP l n t m j = true ∨ j = 0) : (withinP l ⟨t, t + m⟩).map (movS ((j : Int) * m)) = withinP l ⟨t + (j : Int) * m, t + (j : Int) * m + m⟩ := by
  have hz : ∀ x, (withinP l x).map (movS 0) = withinP l x := fun x => map_mov0 _ (fun s hs => v.all s (List.mem_filter.mp hs).1)
  rcases h with h | rfl
  · unfold foP smP at h
    simp only [Bool.and_eq_true, decide_eq_true_eq] at h
    have e := (eqL_iff _ _).mp h.2.2.2.2.2
    unfold pcS at e
    have e2 := congrArg (fun x => x.map (movS (t + (j : Int) * m))) e
    simp only [map_mov_mov] at e2
    rw [show -t + (t + (j : Int) * m) = (j : Int) * m by omega, show -(t + (j : Int) * m) + (t + (j : Int) * m) = 0 by omega, hz] at e2
    exact e2
  · rw [show ((0 : Nat) : Int) * m = 0 by simp, hz, Int.add_zero]
theorem rep_copies {l A : List S29} {n : Int} (v : StaffOk l n) {t m tw k : Int} (ht : 0 ≤ t) (hm : 1 ≤ m) (hk : k ≤ 16) (hw0 : 0 ≤ tw) (hw1 : tw ≤ t) (hle : t + m * k ≤ n) (hfol : ∀ i : Nat, 1 ≤ i → (i : Int) < k → foP l n t m i = true)
    (hw : withinP A ⟨tw, tw + m⟩ = (withinP l ⟨t, t + m⟩).map (movS (tw - t))) : ∀ j : Nat, (j : Int) ≤ k → repS A (⟨tw, tw + m⟩, k) j (befL l t, t) = (befL l (t + (j : Int) * m), t + (j : Int) * m)
  | 0, _ => by rw [show ((0 : Nat) : Int) * m = 0 by simp, Int.add_zero]; rfl
  | j + 1, hj => by
    have hn := v.n1
    have ih := rep_copies v ht hm hk hw0 hw1 hle hfol hw j (by omega)
    have b1 : (j : Int) * m + m ≤ m * k := by
      have : ((j + 1 : Nat) : Int) * m ≤ k * m := Int.mul_le_mul_of_nonneg_right hj (by omega)
      rw [Int.natCast_add, Int.add_mul] at this
      rw [Int.mul_comm m k]; simpa using this
    have b0 : 0 ≤ (j : Int) * m := Int.mul_nonneg (by omega) (by omega)
    have e : ((j + 1 : Nat) : Int) * m = (j : Int) * m + m := by rw [Int.natCast_add, Int.add_mul]; simp
    have hf : foP l n t m j = true ∨ j = 0 := by
      by_cases c : j = 0
      · exact .inr c
      · exact .inl (hfol j (by omega) (by omega))
    have ep := fol_piece v hf
    simp only [repS, ih, hw]
    rw [map_mov_mov, wrap_in (t + (j : Int) * m - tw) (by omega) (by omega), show tw - t + (t + (j : Int) * m - tw) = (j : Int) * m by omega, ep, bef_within (by omega) v.ord,
      show tw + m - tw = m by omega, wrap_in m (by omega) (by omega), wrap_in (t + (j : Int) * m + m) (by omega) (by omega), e, Int.add_assoc]
theorem finv_rep {l : List S29} {n t : Int} {W : List (S45 × Int)} {tw : Int} {r : List S61} {aR : List S29} {tR : Int} (v : StaffOk l n) (h : FInv l n t W tw r aR tR) {m k : Int} (hs : StOk l n t (m, k)) (hk : 1 < k) (hr : r.length < 16) :
    FInv l n (t + m * k) (W ++ [(⟨t, t + m⟩, 1)]) (tw + m) (r ++ [⟨⟨tw, tw + m⟩, k⟩]) (aR ++ (withinP l ⟨tR, t⟩).map (movS (atR r r.length - tR)) ++ (withinP l ⟨t, t + m⟩).map (movS (tw - t))) (t + m * k) := by
  obtain ⟨x1, x2, x3, x4, x5, x6⟩ := hs
  simp only at x1 x2 x3 x4 x5 x6
  obtain ⟨b0, b1, b2, o0, o1, hd, w, cut, stf, sec, rl, ra, ro, rc, al⟩ := h
  have hn := v.n1
  have ho : atR (r ++ [(⟨⟨tw, tw + m⟩, k⟩ : S61)]) (r ++ [(⟨⟨tw, tw + m⟩, k⟩ : S61)]).length = tw + m := by
    rw [List.length_append, List.length_singleton, atR_step _ _ (by simp), List.getElem_append_right (Nat.le_refl _)]
    simp
  obtain ⟨o, hoe⟩ : ∃ o, atR r r.length = o := ⟨_, rfl⟩
  rw [hoe] at o0 o1 hd w stf ra ⊢
  -- cuts
  have h1 := x6 1 (by omega) (by omega)
  unfold foP smP at h1
  simp only [Bool.and_eq_true, decide_eq_true_eq] at h1
  obtain ⟨-, c1, c2, -, -, -⟩ := h1
  obtain ⟨kn, hkn⟩ : ∃ kn : Nat, k = ((kn + 1 : Nat) : Int) := ⟨(k - 1).toNat, by omega⟩
  have hl := x6 kn (by omega) (by omega)
  unfold foP smP at hl
  simp only [Bool.and_eq_true, decide_eq_true_eq] at hl
  obtain ⟨-, -, -, -, c3, -⟩ := hl
  have ek : t + (kn : Int) * m + m = t + m * k := by
    rw [hkn, Int.natCast_add, Int.mul_add, Int.mul_comm m]; simp; omega
  rw [ek] at c3
  -- the three parts
  obtain ⟨p1, p2⟩ := piece_stf0 (f := tR) (t := t) (a := o) v b0 b1 b2 c1 o0 (by omega)
  obtain ⟨q1, q2⟩ := piece_stf0 (f := t) (t := t + m) (a := tw) v (by omega) (by omega) (by omega) c2 (by omega) (by omega)
  have etw : o + (t - tR) = tw := by omega
  have etm : tw + (t + m - t) = tw + m := by omega
  rw [etw] at p1
  rw [etm] at q1
  have s1 : Stf (aR ++ (withinP l ⟨tR, t⟩).map (movS (o - tR))) tw := stf_app stf p1 (by omega) p2
  have s2 : Stf (aR ++ (withinP l ⟨tR, t⟩).map (movS (o - tR)) ++ (withinP l ⟨t, t + m⟩).map (movS (tw - t))) (tw + m) := stf_app s1 q1 (by omega) q2
  have u1 := stf_lt stf
  have u2 := stf_lt p1
  have u3 := stf_lt q1
  refine ⟨by omega, Int.le_refl _, x4, by rw [ho]; omega, by rw [ho]; omega, by rw [ho]; omega, ?_, c3, by rw [ho]; exact s2, ?_, by rw [List.length_append, List.length_singleton]; omega, ?_, ?_, ?_, ?_⟩
  · rw [List.foldl_append, w]
    show perfS l _ (⟨t, t + m⟩, 1) = _
    rw [perfS_one]
    simp only
    rw [show t + m - t = m by omega, wrap_in m (by omega) (by omega), wrap_in (tw + m) (by omega) (by omega), wrap_in (tw - t) (by omega) (by omega), within_nil, List.map_nil, List.append_nil]
  · -- the sections
    have hbad : r.any (badR o) = false := List.any_eq_false.mpr fun x hx => by
      have := ra x hx
      simp only [badR, Bool.or_eq_true, decide_eq_true_eq, not_or]; omega
    obtain ⟨so, -, -, -⟩ := secR_ok o0 hbad r.length (Nat.le_refl _) ro
    rw [List.length_append, List.length_singleton, secR_step _ _ (by simp), List.getElem_append_right (Nat.le_refl _), secR_pre' r _ _ (Nat.le_refl _), atR_pre' r _ _ (Nat.le_refl _), hoe]
    simp only [Nat.sub_self, List.getElem_cons_zero]
    rw [List.foldl_append, List.foldl_append]
    have f1 : (secR r r.length).foldl (perfS (aR ++ (withinP l ⟨tR, t⟩).map (movS (o - tR)) ++ (withinP l ⟨t, t + m⟩).map (movS (tw - t)))) ([], 0) = (befL l tR, tR) := by
      rw [← sec]
      refine perf_congr _ _ fun x hx => ?_
      have := so x hx
      have hle := this.le
      rw [within_app, within_app, within_none (l := (withinP l ⟨tR, t⟩).map (movS (o - tR))) (a := x.1.f0) (b := x.1.f1) (fun s hs => by have := p2 s hs; omega),
        within_none (l := (withinP l ⟨t, t + m⟩).map (movS (tw - t))) (a := x.1.f0) (b := x.1.f1) (fun s hs => by have := q2 s hs; omega), List.append_nil, List.append_nil]
    rw [f1]
    have w3 : withinP (aR ++ (withinP l ⟨tR, t⟩).map (movS (o - tR)) ++ (withinP l ⟨t, t + m⟩).map (movS (tw - t))) ⟨tw, tw + m⟩ = (withinP l ⟨t, t + m⟩).map (movS (tw - t)) := by
      rw [within_app, within_app, within_none (l := aR) (fun s hs => by have := u1 s hs; omega), within_none (l := (withinP l ⟨tR, t⟩).map (movS (o - tR))) (fun s hs => by have := u2 s hs; omega),
        within_full (fun s hs => ⟨q2 s hs, u3 s hs⟩), List.nil_append, List.nil_append]
    have f2 : (if o < tw then [((⟨o, tw⟩ : S45), (1 : Int))] else []).foldl (perfS (aR ++ (withinP l ⟨tR, t⟩).map (movS (o - tR)) ++ (withinP l ⟨t, t + m⟩).map (movS (tw - t)))) (befL l tR, tR) = (befL l t, t) := by
      by_cases c : o < tw
      · rw [if_pos c]
        show perfS _ _ (⟨o, tw⟩, 1) = _
        have w2 : withinP (aR ++ (withinP l ⟨tR, t⟩).map (movS (o - tR)) ++ (withinP l ⟨t, t + m⟩).map (movS (tw - t))) ⟨o, tw⟩ = (withinP l ⟨tR, t⟩).map (movS (o - tR)) := by
          rw [within_app, within_app, within_none (l := aR) (fun s hs => by have := u1 s hs; omega), within_full (l := (withinP l ⟨tR, t⟩).map (movS (o - tR))) (fun s hs => ⟨p2 s hs, u2 s hs⟩),
            within_none (l := (withinP l ⟨t, t + m⟩).map (movS (tw - t))) (fun s hs => by have := q2 s hs; omega), List.nil_append, List.append_nil]
        rw [perfS_one, w2]
        simp only
        rw [map_mov_mov, wrap_in (tR - o) (by omega) (by omega), show o - tR + (tR - o) = 0 by omega, within_mov0 v, bef_within b1 v.ord,
          wrap_in (tw - o) (by omega) (by omega), wrap_in (tR + (tw - o)) (by omega) (by omega), show tR + (tw - o) = t by omega]
      · rw [if_neg c]
        have : tR = t := by omega
        rw [this]; rfl
    rw [f2]
    show perfS _ (befL l t, t) (⟨tw, tw + m⟩, k) = _
    unfold perfS
    have := rep_copies v (by omega) x1 x3 (by omega) (by omega) x4 x6 w3 k.toNat (by omega)
    rw [this]
    have e : ((k.toNat : Nat) : Int) * m = m * k := by rw [Int.toNat_of_nonneg (by omega), Int.mul_comm]
    rw [e]
  · intro x hx
    rw [ho]
    rcases List.mem_append.mp hx with hx | hx
    · have := ra x hx; omega
    · rw [List.mem_singleton.mp hx]; simp only; omega
  · rw [List.length_append, List.length_singleton, Nat.add_sub_cancel]
    by_cases c : r.length = 0
    · rw [c]; rfl
    · obtain ⟨j, hj⟩ : ∃ j, r.length = j + 1 := ⟨r.length - 1, by omega⟩
      have hj1 : j < r.length := by omega
      have hla := last_at hj
      rw [hoe] at hla
      rw [hj, ordK_step _ j (by simp; omega), ordK_pre' r _ j hj1]
      have : r.length - 1 = j := by omega
      rw [this] at ro
      rw [ro, Bool.false_or, decide_eq_false_iff_not, List.getElem_append_left hj1, ← hla]
      have e : ((r ++ [(⟨⟨tw, tw + m⟩, k⟩ : S61)])[j + 1]'(by simp; omega)) = ⟨⟨tw, tw + m⟩, k⟩ := by
        rw [List.getElem_append_right (by omega)]; simp
      rw [e]; simp only; omega
  · intro x hx s hs
    rcases List.mem_append.mp hx with hx | hx
    · have hrx := ra x hx
      rcases List.mem_append.mp hs with hs | hs
      · rcases List.mem_append.mp hs with hs | hs
        · exact rc x hx s hs
        · have := p2 s hs; omega
      · have := q2 s hs; omega
    · rw [List.mem_singleton.mp hx]
      simp only
      rcases List.mem_append.mp hs with hs | hs
      · have := s1.le s hs; omega
      · have := q2 s hs; have := q1.le s hs; omega
  · have e1 := congrArg List.length (bef_within b1 v.ord)
    have e2 := congrArg List.length (bef_within (show t ≤ t + m by omega) v.ord)
    have e3 := congrArg List.length (bef_within (show t + m ≤ t + m * k by omega) v.ord)
    simp only [List.length_append, List.length_map] at e1 e2 e3 ⊢
    omega
theorem finv_end {l : List S29} {n : Int} {W : List (S45 × Int)} {tw : Int} {r : List S61} {aR : List S29} {tR : Int} (v : StaffOk l n) (h : FInv l n n W tw r aR tR) :
    rCheckP (W.foldl (perfS l) ([], 0)).1 tw r = 0 ∧ rPerformP (W.foldl (perfS l) ([], 0)).1 tw r = (l, 0) ∧ perfP tw r = n ∧ tw ≤ n ∧ (W.foldl (perfS l) ([], 0)).1.length ≤ l.length := by
  obtain ⟨b0, b1, b2, o0, o1, hd, w, cut, stf, sec, rl, ra, ro, rc, al⟩ := h
  have hn := v.n1
  have n0 := v.n0
  obtain ⟨o, hoe⟩ : ∃ o, atR r r.length = o := ⟨_, rfl⟩
  rw [hoe] at o0 o1 hd w stf ra
  have w1 : (W.foldl (perfS l) ([], 0)).1 = aR ++ (withinP l ⟨tR, n⟩).map (movS (o - tR)) := by rw [w]
  obtain ⟨A, hA⟩ : ∃ A, (W.foldl (perfS l) ([], 0)).1 = A := ⟨_, rfl⟩
  rw [hA] at w1 ⊢
  obtain ⟨p1, p2⟩ := piece_stf0 (f := tR) (t := n) (a := o) v b0 b1 (Int.le_refl _) (cut_ends v).2 o0 (by omega)
  rw [show o + (n - tR) = tw by omega] at p1
  have s1 : Stf A tw := by rw [w1]; exact stf_app stf p1 (by omega) p2
  have u1 := stf_lt stf
  have u2 := stf_lt p1
  have hbn : befL l n = l := List.filter_eq_self.mpr fun s hs => by
    have := ok_in v s hs
    have a : s.f2 < n := by omega
    simp [a]
  have hlen : A.length ≤ l.length := by
    have e1 := congrArg List.length (bef_within b1 v.ord)
    rw [hbn, List.length_append] at e1
    rw [w1, List.length_append, List.length_map]; omega
  have htw : 1 ≤ tw := by
    by_cases c : tR < n
    · omega
    · by_cases e : r.length = 0
      · have : r = [] := List.length_eq_zero_iff.mp e
        subst this
        have := congrArg Prod.snd sec
        have h0 : (0 : Int) = tR := this
        omega
      · have hx := ra (r[0]'(by omega)) (List.getElem_mem _)
        omega
  have sA : StaffOk A tw := stf_ok s1 htw (by omega) (by have := v.len; omega)
  have hbad0 : r.any (badR o) = false := List.any_eq_false.mpr fun x hx => by
    have := ra x hx
    simp only [badR, Bool.or_eq_true, decide_eq_true_eq, not_or]; omega
  have hbad : r.any (badR tw) = false := List.any_eq_false.mpr fun x hx => by
    have := ra x hx
    simp only [badR, Bool.or_eq_true, decide_eq_true_eq, not_or]; omega
  obtain ⟨so, -, -, -⟩ := secR_ok o0 hbad0 r.length (Nat.le_refl _) ro
  have hcut : r.any (badC26 A) = false := List.any_eq_false.mpr fun x hx => by
    have hrx := ra x hx
    have g : ∀ t, t ≤ o → (∀ s ∈ aR, s.f2 < t → endS s ≤ t) → cutB A t = true := fun t ht hh => cut_yes sA fun s hs hlt => by
      rw [w1] at hs
      rcases List.mem_append.mp hs with hs | hs
      · exact hh s hs hlt
      · have := p2 s hs; omega
    have g1 := g x.f0.f0 (by omega) (fun s hs => (rc x hx s hs).1)
    have g2 := g x.f0.f1 (by omega) (fun s hs => (rc x hx s hs).2)
    simp [badC26, g1, g2]
  have hfold : (secsP tw r).foldl (perfS A) ([], 0) = (l, n) := by
    unfold secsP
    rw [List.foldl_append, hoe]
    have f1 : (secR r r.length).foldl (perfS A) ([], 0) = (befL l tR, tR) := by
      rw [← sec]
      refine perf_congr _ _ fun x hx => ?_
      have := so x hx
      have hle := this.le
      rw [w1, within_app, within_none (l := (withinP l ⟨tR, n⟩).map (movS (o - tR))) (a := x.1.f0) (b := x.1.f1) (fun s hs => by have := p2 s hs; omega), List.append_nil]
    rw [f1]
    by_cases c : o < tw
    · rw [if_pos c]
      show perfS _ _ (⟨o, tw⟩, 1) = _
      have w2 : withinP A ⟨o, tw⟩ = (withinP l ⟨tR, n⟩).map (movS (o - tR)) := by
        rw [w1, within_app, within_none (l := aR) (fun s hs => by have := u1 s hs; omega), within_full (l := (withinP l ⟨tR, n⟩).map (movS (o - tR))) (fun s hs => ⟨p2 s hs, u2 s hs⟩), List.nil_append]
      rw [perfS_one, w2]
      simp only
      rw [map_mov_mov, wrap_in (tR - o) (by omega) (by omega), show o - tR + (tR - o) = 0 by omega, within_mov0 v, bef_within b1 v.ord, hbn,
        wrap_in (tw - o) (by omega) (by omega), wrap_in (tR + (tw - o)) (by omega) (by omega), show tR + (tw - o) = n by omega]
    · rw [if_neg c]
      have : tR = n := by omega
      rw [this, hbn]; rfl
  have hs := secsP_ok (n := tw) (by omega) hbad ro
  have hsl := secsP_len tw r
  have tb := totQ_b (n := tw) (by omega) (secsP tw r) hs.1
  have hpos := perf_at (l := A) (n := tw) (by omega) (secsP tw r) ([], 0) hs.1 (Int.le_refl _) (by show (0 : Int) + _ ≤ _; omega)
  rw [hfold] at hpos
  have hper : perfP tw r = n := by
    have := tick_sum (n := tw) (by omega) (secsP tw r) 0 hs.1 (Int.le_refl _) (by omega)
    unfold perfP
    rw [this]; exact hpos.symm
  have hsym : symsP A tw r = l.length := by
    have := syms_eq (l := A) (n := tw) (r := r) (by have := v.len; omega) rl hbad
    rw [← this, hfold]
  have hchk : rCheckP A tw r = 0 := by
    unfold rCheckP
    rw [if_neg (not_not_intro ((chkS_ok A tw).mpr sA)), if_neg (by omega), if_neg (by rw [hbad]; exact Bool.false_ne_true), if_neg (by rw [ro]; exact Bool.false_ne_true), if_neg (by rw [hcut]; exact Bool.false_ne_true), if_neg (by rw [hper]; omega), if_neg (by rw [hsym]; have := v.len; omega)]
  refine ⟨hchk, ?_, hper, by omega, hlen⟩
  unfold rPerformP
  rw [if_neg (not_not_intro hchk), hfold]
theorem finv_fi {l : List S29} {n unit : Int} (v : StaffOk l n) (hu : 1 ≤ unit) : ∀ (f : Nat) (t : Int) (W : List (S45 × Int)) (tw : Int) (r : List S61) (aR : List S29) (tR : Int), n < (f : Int) + t → 0 ≤ t → FInv l n t W tw r aR tR →
    ∃ aR' tR', FInv l n n (fiP l n unit f t W tw r).1 (fiP l n unit f t W tw r).2.1 (fiP l n unit f t W tw r).2.2 aR' tR' := by
  intro f
  induction f with
  | zero => intro t W tw r aR tR hf h0 h; have := h.b2; omega
  | succ f ih =>
    intro t W tw r aR tR hf h0 h
    by_cases ct : t < n
    · obtain ⟨hst, hs16⟩ := stP_ok (l := l) (unit := unit) hu ct r.length
      have hfi : fiP l n unit (f + 1) t W tw r = fiP l n unit f (t + (stP l n unit t r.length).1 * (stP l n unit t r.length).2) (W ++ [(⟨t, t + (stP l n unit t r.length).1⟩, 1)]) (tw + (stP l n unit t r.length).1) (if 1 < (stP l n unit t r.length).2 then r ++ [⟨⟨tw, tw + (stP l n unit t r.length).1⟩, (stP l n unit t r.length).2⟩] else r) := by
        show (if t < n then _ else _) = _
        rw [if_pos ct]
      rw [hfi]
      clear hfi
      generalize stP l n unit t r.length = st at hst hs16 ⊢
      obtain ⟨m, k⟩ := st
      have m1 := hst.m1
      have k1 := hst.k1
      have le := hst.le
      have le1 := hst.le1
      simp only at hs16 m1 k1 le le1 ⊢
      by_cases hk : 1 < k
      · rw [if_pos hk]
        exact ih _ _ _ _ _ _ (by omega) (by omega) (finv_rep v h hst hk (hs16 hk))
      · rw [if_neg hk]
        have : k = 1 := by omega
        subst this
        rw [Int.mul_one] at le ⊢
        exact ih _ _ _ _ _ _ (by omega) (by omega) (finv_one v h m1 le)
    · have hfi : fiP l n unit (f + 1) t W tw r = (W, tw, r) := by
        show (if t < n then _ else _) = _
        rw [if_neg ct]
      rw [hfi]
      have : t = n := by have := h.b2; omega
      subst this
      exact ⟨aR, tR, h⟩
/-- What Find writes. -/
theorem find_back {l : List S29} {n unit : Int} (h : (findP l n unit).2.2.2 = 0) :
    StaffOk l n ∧ 1 ≤ unit ∧ unit ≤ n ∧ rPerformP (findP l n unit).1 (findP l n unit).2.1 (findP l n unit).2.2.1 = (l, 0) ∧ rLengthP (findP l n unit).1 (findP l n unit).2.1 (findP l n unit).2.2.1 = (n, 0) ∧ (findP l n unit).2.1 ≤ n ∧ (findP l n unit).1.length ≤ l.length := by
  unfold findP at h ⊢
  by_cases h1 : chkS l n = 0
  · have v := (chkS_ok l n).mp h1
    have n1 := v.n1
    rw [if_neg (not_not_intro h1)] at h ⊢
    by_cases h2 : unit < 1 ∨ n < unit
    · rw [if_pos h2] at h; cases h
    · rw [if_neg h2] at h ⊢
      obtain ⟨aR, tR, hi⟩ := finv_fi (unit := unit) v (by omega) 9000 0 [] 0 [] [] 0 (by omega) (Int.le_refl _) (finv_nil v)
      obtain ⟨e1, e2, e3, e4, e5⟩ := finv_end v hi
      refine ⟨v, by omega, by omega, e2, ?_, e4, e5⟩
      unfold rLengthP
      simp only
      rw [if_pos e1, e3]
  · rw [if_pos h1] at h; exact absurd h h1
end Go.Proofs.Ytdilndbanhianaa.P

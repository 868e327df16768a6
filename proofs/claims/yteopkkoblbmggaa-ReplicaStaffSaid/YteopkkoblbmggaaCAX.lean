/- Texts of this claim in one: VStfB, VStfC, PureReplicaStaff; no condition. -/
import Derived.Test.YteopkkoblbmggaaCAE
import Derived.Test.YteopkkoblbmggaaCAH
import Derived.Test.YteopkkoblbmggaaCAL
import Derived.Test.YteopkkoblbmggaaCAK
import Derived.Test.YteopkkoblbmggaaCAS
import Derived.Test.YteopkkoblbmggaaCAI
import Derived.Test.YteopkkoblbmggaaCAN
import Derived.Test.YteopkkoblbmggaaCAM
import Derived.Test.YteopkkoblbmggaaCAW
import Derived.Test.YteopkkoblbmggaaCAV
section
set_option linter.unusedVariables false
set_option linter.unusedSimpArgs false
namespace Go.Proofs.Yteopkkoblbmggaa.P
open Go.RowKit Go.Proofs.YteopkkoblbmggaaW.PrintWords Go.Proofs.YteopkkoblbmggaaW.PrintLast Go.Proofs.YteopkkoblbmggaaW.PrintMore
def insS (s : S26) : List S26 → List S26
  | [] => [s]
  | b :: B => if Y1x b s = true then b :: insS s B else if b.f0 = s.f0 ∧ b.f1 = s.f1 then b :: B else s :: b :: B
theorem Y36 (s : S26) : ∀ l, (insS s l).length ≤ l.length + 1
  | [] => by simp [insS]
  | b :: B => by
    have := Y36 s B
    unfold insS
    split
    · simp; omega
    · split <;> simp
theorem Y37 (s a : S26) : ∀ l, a ∈ insS s l ↔ a = s ∨ a ∈ l
  | [] => by simp [insS]
  | b :: B => by
    have ih := Y37 s a B
    unfold insS
    split
    · rw [List.mem_cons, ih, List.mem_cons]
      constructor
      · rintro (h | h | h)
        · exact Or.inr (Or.inl h)
        · exact Or.inl h
        · exact Or.inr (Or.inr h)
      · rintro (h | h | h)
        · exact Or.inr (Or.inl h)
        · exact Or.inl h
        · exact Or.inr (Or.inr h)
    · split
      · rename_i hq
        have : b = s := by cases b; cases s; simp at hq; simp [hq.1, hq.2]
        subst this
        simp
      · simp
theorem Y4H {a b : S26} (h : Y1x a b = false) (hn : ¬ (a.f0 = b.f0 ∧ a.f1 = b.f1)) : Y1x b a = true := by
  simp [Y1x, lessP] at *; omega
theorem Y2z (s : S26) : ∀ l, l.Pairwise (fun a b => Y1x a b = true) → (insS s l).Pairwise (fun a b => Y1x a b = true)
  | [], _ => by simp [insS]
  | b :: B, h => by
    have hb := List.pairwise_cons.1 h
    unfold insS
    split
    · rename_i hl
      refine List.pairwise_cons.2 ⟨fun a ha => ?_, Y2z s B hb.2⟩
      rcases (Y37 s a B).1 ha with rfl | ha
      · exact hl
      · exact hb.1 a ha
    · rename_i hl
      split
      · exact h
      · rename_i hn
        have hs := Y4H (by simpa using hl) hn
        refine List.pairwise_cons.2 ⟨fun a ha => ?_, h⟩
        rcases List.mem_cons.1 ha with rfl | ha
        · exact hs
        · exact Y2C hs (hb.1 a ha)
theorem Y44 (x0 : List S30) (p : Int) (i : Nat) (hi : i < x0.length) (hl0 : x0.length ≤ 1000) (r : List S26) (k : Nat) : ∀ (B A : List S26), A.length + B.length ≤ 1000 → Ya.l0 k x0 p (A ++ insS x0[i].f2 B) (wrap64 ((i : Int) + 1)) = some r → Ya.l1 (k + B.length + 1) x0 p (A ++ B) (i : Int) (A.length : Int) = some r
  | [], A, hl, h => by
    show Ya.l1 (k + 1) x0 p (A ++ []) (i : Int) (A.length : Int) = some r
    have hA : (A ++ ([] : List S26)).length = A.length := by simp
    simp only [List.length_nil] at hl
    unfold Ya.l1
    rw [if_neg (by rw [hA]; omega), if_pos (by omega), if_pos (by rw [hA]; omega), Option.bind_some, Int.toNat_natCast, List.append_nil, List.take_length, if_pos (by simp; omega), Option.bind_some, if_pos (by omega), if_pos (by omega), if_pos (by simp; omega), Option.bind_some, Option.bind_some, List.drop_length, if_pos (by simp; omega), Y1D hi]
    have : (([] ++ A) ++ [x0[i].f2]) ++ [] = A ++ insS x0[i].f2 [] := by simp [insS]
    show Ya.l0 k x0 p ((([] ++ A) ++ [x0[i].f2]) ++ []) (wrap64 ((i : Int) + 1)) = some r
    rw [this]
    exact h
  | b :: B, A, hl, h => by
    have hA : (A ++ b :: B).length = A.length + B.length + 1 := by simp; omega
    have hb : Yx (A ++ b :: B) (A.length : Int) = b := by
      rw [Y4V (by rw [hA]; omega)]
      simp
    simp only [List.length_cons] at hl
    unfold Ya.l1
    rw [if_pos (by rw [hA]; omega), if_pos (by omega), if_pos (by omega), if_pos (by omega), hb, Y1D hi, Y3i, Option.bind_some]
    unfold insS at h
    by_cases h1 : Y1x b x0[i].f2 = true
    · rw [if_pos (show lessP b.f0 b.f1 x0[i].f2.f0 x0[i].f2.f1 = true from h1)]
      rw [if_pos h1] at h
      have e : A ++ b :: B = (A ++ [b]) ++ B := by simp
      have hw : wrap64 ((A.length : Int) + 1) = ((A ++ [b]).length : Int) := by rw [List.length_append]; simp; unfold wrap64; omega
      rw [hw, e]
      refine Y44 x0 p i hi hl0 r k B (A ++ [b]) (by simp; omega) ?_
      rw [← h]; congr 1; simp
    · rw [if_neg (show ¬ lessP b.f0 b.f1 x0[i].f2.f0 x0[i].f2.f1 = true from h1)]
      rw [if_neg h1] at h
      by_cases h2 : b.f0 = x0[i].f2.f0 ∧ b.f1 = x0[i].f2.f1
      · rw [if_pos (by simp [h2.1, h2.2])]
        rw [if_pos h2] at h
        exact Y1E (fun k => (Ya.mono_l k).1 _ _ _ _) (by omega) h
      · rw [if_neg (by simp; intro a c; exact h2 ⟨a, c⟩)]
        rw [if_neg h2] at h
        rw [if_pos (by rw [hA]; omega), Option.bind_some, Int.toNat_natCast, List.take_left, if_pos (by simp; omega), Option.bind_some, if_pos (by simp; omega), Option.bind_some, Option.bind_some, List.drop_left, if_pos (by simp; omega)]
        have : (([] ++ A) ++ [x0[i].f2]) ++ (b :: B) = A ++ (x0[i].f2 :: b :: B) := by simp
        show Ya.l0 _ x0 p ((([] ++ A) ++ [x0[i].f2]) ++ (b :: B)) (wrap64 ((i : Int) + 1)) = some r
        rw [this]
        exact Y1E (fun k => (Ya.mono_l k).1 _ _ _ _) (by omega) h
def sgT (p : Int) : List S26 → List S30 → List S26
  | out, [] => out
  | out, e :: t => sgT p (if e.f1 = p then insS e.f2 out else out) t
theorem Y3k (x0 : List S30) (hl : x0.length ≤ 400) (p : Int) : ∀ (m i : Nat) (out : List S26), x0.length - i = m → i ≤ x0.length → out.length ≤ i → Ya.l0 (m * 1003 + 1) x0 p out (i : Int) = some (sgT p out (x0.drop i))
  | 0, i, out, hm, hi, ho => by
    unfold Ya.l0
    rw [if_neg (by omega), List.drop_eq_nil_of_le (by omega)]; rfl
  | m + 1, i, out, hm, hi, ho => by
    have hil : i < x0.length := by omega
    have hw : wrap64 ((i : Int) + 1) = ((i + 1 : Nat) : Int) := by unfold wrap64; omega
    rw [show (m + 1) * 1003 + 1 = (m * 1003 + 1003) + 1 by omega]
    unfold Ya.l0
    rw [if_pos (by omega), if_pos (by omega), Y1D hil, List.drop_eq_getElem_cons hil]
    unfold sgT
    by_cases hp : x0[i].f1 = p
    · rw [if_pos hp, if_pos hp]
      have ih := Y3k x0 hl p m (i + 1) (insS x0[i].f2 out) (by omega) (by omega) (by have := Y36 x0[i].f2 out; omega)
      rw [← hw] at ih
      have := Y44 x0 p i hil (by omega) _ (m * 1003 + 1) out [] (by simp; omega) (by simpa using ih)
      exact Y1E (fun k => (Ya.mono_l k).2 _ _ _ _ _) (by omega) this
    · rw [if_neg hp, if_neg hp, hw]
      exact Y1E (fun k => (Ya.mono_l k).1 _ _ _ _) (by omega) (Y3k x0 hl p m (i + 1) out (by omega) (by omega) (by omega))
theorem Y5v (k : Nat) (l : List S30) (hl : l.length ≤ 300) (p : Int) (hk : 310000 ≤ k) : Ya.f k l p = some (sgT p [] l) := by
  have h := Y3k l (by omega) p l.length 0 [] (by omega) (by omega) (by simp)
  rw [List.drop_zero] at h
  exact Y1E (fun k => (Ya.mono_l k).1 _ _ _ _) (by omega) h
theorem Y43 (p : Int) : ∀ (t : List S30) (out : List S26), out.Pairwise (fun a b => Y1x a b = true) → (sgT p out t).Pairwise (fun a b => Y1x a b = true) ∧ (∀ a, a ∈ sgT p out t ↔ a ∈ out ∨ ∃ e ∈ t, e.f1 = p ∧ e.f2 = a) ∧ (sgT p out t).length ≤ out.length + t.length
  | [], out, h => ⟨h, fun a => by simp [sgT], by simp [sgT]⟩
  | e :: t, out, h => by
    unfold sgT
    by_cases hp : e.f1 = p
    · rw [if_pos hp]
      obtain ⟨i1, i2, i3⟩ := Y43 p t (insS e.f2 out) (Y2z _ _ h)
      refine ⟨i1, fun a => ?_, by have := Y36 e.f2 out; simp; omega⟩
      rw [i2, Y37]
      constructor
      · rintro ((h | h) | ⟨x, hx, h⟩)
        · exact Or.inr ⟨e, List.mem_cons_self, hp, h.symm⟩
        · exact Or.inl h
        · exact Or.inr ⟨x, List.mem_cons_of_mem _ hx, h⟩
      · rintro (h | ⟨x, hx, h1, h2⟩)
        · exact Or.inl (Or.inr h)
        · rcases List.mem_cons.1 hx with rfl | hx
          · exact Or.inl (Or.inl h2.symm)
          · exact Or.inr ⟨x, hx, h1, h2⟩
    · rw [if_neg hp]
      obtain ⟨i1, i2, i3⟩ := Y43 p t out h
      refine ⟨i1, fun a => ?_, by simp; omega⟩
      rw [i2]
      constructor
      · rintro (h | ⟨x, hx, h⟩)
        · exact Or.inl h
        · exact Or.inr ⟨x, List.mem_cons_of_mem _ hx, h⟩
      · rintro (h | ⟨x, hx, h1, h2⟩)
        · exact Or.inl h
        · rcases List.mem_cons.1 hx with rfl | hx
          · exact absurd h1 hp
          · exact Or.inr ⟨x, hx, h1, h2⟩
theorem Y3B : ∀ {l1 l2 : List S26}, l1.Pairwise (fun a b => Y1x a b = true) → l2.Pairwise (fun a b => Y1x a b = true) → (∀ a, a ∈ l1 ↔ a ∈ l2) → l1 = l2
  | [], [], _, _, _ => rfl
  | [], y :: s, _, _, h => absurd ((h y).2 List.mem_cons_self) (by simp)
  | x :: r, [], _, _, h => absurd ((h x).1 List.mem_cons_self) (by simp)
  | x :: r, y :: s, h1, h2, h => by
    have p1 := List.pairwise_cons.1 h1
    have p2 := List.pairwise_cons.1 h2
    have e : x = y := by
      rcases List.mem_cons.1 ((h x).1 List.mem_cons_self) with e | hx
      · exact e
      · rcases List.mem_cons.1 ((h y).2 List.mem_cons_self) with e | hy
        · exact e.symm
        · have := Y2C (p1.1 y hy) (p2.1 x hx)
          rw [Y2n] at this; cases this
    subst e
    have ht : ∀ a, a ∈ r ↔ a ∈ s := fun a => by
      constructor
      · intro ha
        rcases List.mem_cons.1 ((h a).1 (List.mem_cons_of_mem _ ha)) with e | ha'
        · have := p1.1 a ha; rw [e, Y2n] at this; cases this
        · exact ha'
      · intro ha
        rcases List.mem_cons.1 ((h a).2 (List.mem_cons_of_mem _ ha)) with e | ha'
        · have := p2.1 a ha; rw [e, Y2n] at this; cases this
        · exact ha'
    rw [Y3B p1.2 p2.2 ht]
theorem Y3j {l : List S30} {s : SG} : ∀ {j : Nat}, s ∈ sgF l j ↔ (lasF l j s.p s.c s.d).isSome = true
  | 0 => by simp [sgF, lasF]
  | j + 1 => by
    have ih := @Y3j l s j
    by_cases hj : j < l.length
    · have hs : sgF l (j + 1) = if (lasF l j l[j].f1 l[j].f2.f0 l[j].f2.f1).isSome = true then sgF l j else sgF l j ++ [⟨l[j].f1, l[j].f2.f0, l[j].f2.f1⟩] := by rw [sgF, dif_pos hj]
      have hf : lasF l (j + 1) s.p s.c s.d = if s.p = l[j].f1 ∧ s.c = l[j].f2.f0 ∧ s.d = l[j].f2.f1 then some l[j] else lasF l j s.p s.c s.d := by rw [lasF, dif_pos hj]
      rw [hs, hf]
      by_cases he : s.p = l[j].f1 ∧ s.c = l[j].f2.f0 ∧ s.d = l[j].f2.f1
      · rw [if_pos he]
        have hse : s = ⟨l[j].f1, l[j].f2.f0, l[j].f2.f1⟩ := by cases s; simp at he; simp [he.1, he.2.1, he.2.2]
        simp only [Option.isSome_some, iff_true]
        by_cases hq : (lasF l j l[j].f1 l[j].f2.f0 l[j].f2.f1).isSome = true
        · rw [if_pos hq, ih, he.1, he.2.1, he.2.2]; exact hq
        · rw [if_neg hq]; exact List.mem_append.2 (Or.inr (by simp [hse]))
      · rw [if_neg he, ← ih]
        by_cases hq : (lasF l j l[j].f1 l[j].f2.f0 l[j].f2.f1).isSome = true
        · rw [if_pos hq]
        · rw [if_neg hq, List.mem_append]
          constructor
          · rintro (h | h)
            · exact h
            · have : s = ⟨l[j].f1, l[j].f2.f0, l[j].f2.f1⟩ := by simpa using h
              exact absurd (by rw [this]; exact ⟨rfl, rfl, rfl⟩) he
          · exact Or.inl
    · have hs : sgF l (j + 1) = sgF l j := by rw [sgF, dif_neg hj]
      have hf : lasF l (j + 1) s.p s.c s.d = lasF l j s.p s.c s.d := by rw [lasF, dif_neg hj]
      rw [hs, hf]; exact ih
theorem Y3y (l : List S30) : ∀ j, (sgF l j).Nodup
  | 0 => by simp [sgF]
  | j + 1 => by
    have ih := Y3y l j
    unfold sgF
    split
    · split
      · exact ih
      · rename_i hj hq
        refine List.nodup_append.2 ⟨ih, by simp, fun a ha b hb => ?_⟩
        rintro rfl
        obtain rfl : a = ⟨l[j].f1, l[j].f2.f0, l[j].f2.f1⟩ := by simpa using hb
        exact hq (Y3j.1 ha)
    · exact ih
theorem Y5c {d : Int} {l : List S30} (h : rchkP d l = 0) : (isrt ltG (sgF l l.length)).Pairwise (fun a b => ltG a b = true) := by
  have hn : (isrt ltG (sgF l l.length)).Nodup := (Y1y ltG _).nodup_iff.2 (Y3y l _)
  have hs := Y22 swoG (sgF l l.length)
  have h1 := Y2o (Y1y ltG (sgF l l.length)) (oneS h l.length)
  rw [List.pairwise_iff_getElem] at hs ⊢
  intro i j hi hj hij
  cases e : ltG (isrt ltG (sgF l l.length))[i] (isrt ltG (sgF l l.length))[j]
  · have := h1 _ (List.getElem_mem hi) _ (List.getElem_mem hj) e (hs i j hi hj hij)
    have hq := List.getElem_inj hn |>.1 this
    omega
  · rfl
def toT (x : SG) : S26 := ⟨x.c, x.d⟩
theorem Y5P {d : Int} {l : List S30} (h : rchkP d l = 0) (p : Int) : ((isrt ltG (sgF l l.length)).filter (fun x => x.p == p)).map toT = sgT p [] l := by
  obtain ⟨t1, t2, _⟩ := Y43 p l [] List.Pairwise.nil
  refine Y3B ?_ t1 (fun a => ?_)
  · rw [List.pairwise_map]
    exact (List.Pairwise.filter _ (Y5c h))
  · rw [t2, List.mem_map]
    constructor
    · rintro ⟨x, hx, rfl⟩
      obtain ⟨hm, hp⟩ := List.mem_filter.1 hx
      obtain ⟨e, he, rfl⟩ := Y27 ((Y1y ltG _).mem_iff.1 hm)
      exact Or.inr ⟨e, he, by simpa using hp, rfl⟩
    · rintro (h | ⟨e, he, hp, rfl⟩)
      · simp at h
      · obtain ⟨i, hi, rfl⟩ := List.getElem_of_mem he
        obtain ⟨y, hy⟩ := Y2f (l := l) (p := l[i].f1) (c := l[i].f2.f0) (d := l[i].f2.f1) (j := l.length) i hi hi ⟨rfl, rfl, rfl⟩
        refine ⟨⟨l[i].f1, l[i].f2.f0, l[i].f2.f1⟩, List.mem_filter.2 ⟨(Y1y ltG _).mem_iff.2 (Y3j.2 (by rw [hy]; rfl)), by simpa using hp⟩, rfl⟩
theorem Y45 (l : List S30) (a2 a3 : Int) (s : List SG) : ∀ j, j ≤ s.length → stS l a2 a3 s j = (s.take j).foldl (fun q x => stO l a2 a3 x q) ([], [])
  | 0, _ => by simp [stS]
  | j + 1, h => by
    have hj : j < s.length := by omega
    rw [stS, dif_pos hj, Y45 l a2 a3 s j (by omega), ← List.take_append_getElem hj, List.foldl_append]
    rfl
def stT (l : List S30) (a2 a3 : Int) (q : List S28 × List S26) (t : S26) : List S28 × List S26 := stO l a2 a3 ⟨a2, t.f0, t.f1⟩ q
theorem Y5C (l : List S30) (a2 a3 : Int) : ∀ (G : List SG) (q : List S28 × List S26), G.foldl (fun q x => stO l a2 a3 x q) q = ((G.filter (fun x => x.p == a2)).map toT).foldl (stT l a2 a3) q
  | [], q => rfl
  | x :: G, q => by
    rw [List.foldl_cons, Y5C l a2 a3 G]
    by_cases h : x.p = a2
    · rw [List.filter_cons_of_pos (by simpa using h), List.map_cons, List.foldl_cons]
      congr 1
      unfold stT toT
      rw [← h]
    · rw [List.filter_cons_of_neg (by simpa using h)]
      congr 1
      unfold stO
      rw [if_pos (Or.inl (by simpa using h))]
theorem Y5J {d : Int} {l : List S30} (h : rchkP d l = 0) (a2 a3 : Int) : stfP l a2 a3 = (sgT a2 [] l).foldl (stT l a2 a3) ([], []) := by
  unfold stfP
  rw [Y45 l a2 a3 _ _ (Nat.le_refl _), List.take_length, Y5C, Y5P h]
theorem Y3N (l : List S30) (a2 a3 : Int) : ∀ (T : List S26) (q : List S28 × List S26), (T.foldl (stT l a2 a3) q).1.length ≤ q.1.length + T.length ∧ (T.foldl (stT l a2 a3) q).2.length ≤ q.2.length + T.length
  | [], q => ⟨by simp, by simp⟩
  | t :: T, q => by
    have h1 := Y58 l a2 a3 ⟨a2, t.f0, t.f1⟩ q
    have h2 := Y3N l a2 a3 T (stT l a2 a3 q t)
    unfold stT at h1 h2
    rw [List.foldl_cons]
    simp only [List.length_cons]
    unfold stT
    exact ⟨by omega, by omega⟩
theorem Y3u (d : Int) (l : List S30) (hl : l.length ≤ 300) (a2 a3 : Int) (T : List S26) (hT : T.length ≤ 300) (h1 : OneEq ltY (T.foldl (stT l a2 a3) ([], [])).1) : ∀ (m i k : Nat) (q : List S28 × List S26), T.length - i = m → i ≤ T.length → 310000 + m < k → q = (T.take i).foldl (stT l a2 a3) ([], []) →
    Yc.l0 k a2 a3 q.1 q.2 T (i : Int) d l = some (isrt ltY (T.foldl (stT l a2 a3) ([], [])).1, (T.foldl (stT l a2 a3) ([], [])).2, 0)
  | 0, i, k, q, hm, hi, hk, hq => by
    obtain ⟨k, rfl⟩ : ∃ j, k = j + 1 := ⟨k - 1, by omega⟩
    have hi2 : i = T.length := by omega
    subst hi2
    rw [List.take_length] at hq
    have hlen := (Y3N l a2 a3 T ([], [])).1
    simp only [List.length_nil, Nat.zero_add] at hlen
    unfold Yc.l0
    rw [if_neg (by omega), hq, Y5u k _ (by omega) (by omega) h1]
    rfl
  | m + 1, i, k, q, hm, hi, hk, hq => by
    obtain ⟨k, rfl⟩ : ∃ j, k = j + 1 := ⟨k - 1, by omega⟩
    have hil : i < T.length := by omega
    have hw : wrap64 ((i : Int) + 1) = ((i + 1 : Nat) : Int) := by unfold wrap64; omega
    have hlen := Y3N l a2 a3 (T.take i) ([], [])
    rw [← hq] at hlen
    simp only [List.length_nil, Nat.zero_add, List.length_take] at hlen
    have hnext : stT l a2 a3 q T[i] = (T.take (i + 1)).foldl (stT l a2 a3) ([], []) := by
      rw [← List.take_append_getElem hil, List.foldl_append, ← hq]; rfl
    have ih := Y3u d l hl a2 a3 T hT h1 m (i + 1) k (stT l a2 a3 q T[i]) (by omega) (by omega) (by omega) hnext
    generalize (some (isrt ltY (T.foldl (stT l a2 a3) ([], [])).1, (T.foldl (stT l a2 a3) ([], [])).2, (0 : Int))) = R at ih ⊢
    unfold Yc.l0
    rw [if_pos (by omega), if_pos (by omega), Y4V hil, Y5s k l (by omega) a2 T[i].f0 T[i].f1 (by omega), Option.bind_some, hw]
    unfold stT stO at ih
    simp only [bne_self_eq_false, Bool.false_eq_true, false_or] at ih
    obtain ⟨y, hy⟩ : ∃ y, (lasF l l.length a2 T[i].f0 T[i].f1).getD z30 = y := ⟨_, rfl⟩
    rw [hy] at ih ⊢
    unfold tup
    simp only
    by_cases c1 : y.f3 = true
    · rw [if_pos c1] at ih ⊢
      exact ih
    · rw [if_neg c1] at ih ⊢
      rw [Y4B k q.1 (by omega) y.f4 (by omega), Option.bind_some]
      by_cases c2 : wrap64 (y.f4.f2 + y.f4.f3) ≤ a3
      · rw [if_pos c2]
        have c2' : ¬ (decide (a3 < wrap64 (y.f4.f2 + y.f4.f3)) = true) := by simp; exact c2
        by_cases c3 : meetP q.1 y.f4 = true
        · rw [if_neg (by rw [c3]; decide), if_pos (by omega)]
          rw [if_pos (Or.inr (Or.inr c3))] at ih
          exact ih
        · rw [if_pos (by simpa using c3)]
          by_cases c4 : (q.1.length : Int) < 256
          · rw [if_pos c4, if_pos (by omega)]
            rw [if_neg (by rintro (h | h | h); exact c2' h; simp at h; omega; exact c3 h)] at ih
            exact ih
          · rw [if_neg c4, if_pos (by omega)]
            rw [if_pos (Or.inr (Or.inl (by simp; omega)))] at ih
            exact ih
      · rw [if_neg c2, if_pos (by omega)]
        rw [if_pos (Or.inl (by simp; omega))] at ih
        exact ih
theorem Y4X (k : Nat) (d : Int) (l : List S30) (hl : l.length ≤ 300) (a2 a3 : Int) (hk : 320000 ≤ k) :
    Yc.f k d l a2 a3 = some (if rchkP d l = 0 then (if stfE a2 a3 = 0 then (isrt ltY (stfP l a2 a3).1, (stfP l a2 a3).2, 0) else ([], [], stfE a2 a3)) else ([], [], rchkP d l)) := by
  obtain ⟨k, rfl⟩ : ∃ j, k = j + 2 := ⟨k - 2, by omega⟩
  unfold Yc.f
  rw [Y5Z (k + 2) d l (by omega) (by omega), Option.bind_some]
  by_cases h : rchkP d l = 0
  rotate_left
  · rw [if_neg h, if_neg h]
  rw [if_pos h, if_pos h]
  have main : Yc.l0 k a2 a3 [] [] (sgT a2 [] l) 0 d l = some (isrt ltY (stfP l a2 a3).1, (stfP l a2 a3).2, 0) := by
    have hT := (Y43 a2 l [] List.Pairwise.nil).2.2
    simp only [List.length_nil, Nat.zero_add] at hT
    rw [Y5J h]
    refine Y3u d l hl a2 a3 (sgT a2 [] l) (by omega) (by rw [← Y5J h]; exact oneY h a2 a3) _ 0 k ([], []) rfl (by omega) (by omega) (by simp)
  have hu1 : ∀ b : Bool, Yc.j1 (k + 1) a2 a3 b d l = if b = true then (some (([] : List S28), ([] : List S26), (1 : Int))) else ((Ya.f k l a2).bind fun t635 => (Yc.l0 k a2 a3 ([] : List S28) ([] : List S26) t635 0 d l)) := fun b => by rw [Yc.j1]
  have hu0 : ∀ b : Bool, Yc.j0 (k + 2) a2 a3 b d l = if b = true then (some (([] : List S28), ([] : List S26), (33 : Int))) else (if a3 < 1 then (Yc.j1 (k + 1) a2 a3 true d l) else (Yc.j1 (k + 1) a2 a3 (decide (a3 > 8192)) d l)) := fun b => by rw [Yc.j0]
  have hj1 : Yc.j1 (k + 1) a2 a3 false d l = some (isrt ltY (stfP l a2 a3).1, (stfP l a2 a3).2, 0) := by
    rw [hu1, if_neg (by decide), Y5v k l hl a2 (by omega), Option.bind_some]
    exact main
  have hj0 : ∀ b : Bool, b = decide (a2 < 0 ∨ 12 ≤ a2) → Yc.j0 (k + 2) a2 a3 b d l = some (if stfE a2 a3 = 0 then (isrt ltY (stfP l a2 a3).1, (stfP l a2 a3).2, 0) else ([], [], stfE a2 a3)) := by
    intro b hb
    rw [hu0]
    by_cases e : a2 < 0 ∨ 12 ≤ a2
    · have hs : stfE a2 a3 = 33 := by unfold stfE; rw [if_pos e]
      rw [hs, if_pos (by rw [hb]; simpa using e), if_neg (by decide)]
    · rw [if_neg (by rw [hb]; simpa using e)]
      by_cases e1 : a3 < 1
      · have hs : stfE a2 a3 = 1 := by unfold stfE; rw [if_neg e, if_pos (Or.inl e1)]
        rw [hs, if_pos e1, hu1, if_pos rfl, if_neg (by decide)]
      · rw [if_neg e1]
        by_cases e2 : 8192 < a3
        · have hs : stfE a2 a3 = 1 := by unfold stfE; rw [if_neg e, if_pos (Or.inr e2)]
          rw [hs, hu1, if_pos (by simpa using e2), if_neg (by decide)]
        · have hs : stfE a2 a3 = 0 := by unfold stfE; rw [if_neg e, if_neg (by omega)]
          rw [hs, if_pos rfl, show decide (a3 > 8192) = false from by simpa using e2]
          exact hj1
  by_cases e : a2 < 0
  · rw [if_pos e]; exact hj0 true (by simp [e])
  · rw [if_neg e]; exact hj0 (decide (a2 > 11)) (by rw [decide_eq_decide]; omega)
theorem Y3x (l : List S28) (hl : l.length ≤ 1000000) : ∀ (m i k : Nat), l.length - i = m → i ≤ l.length → m + 1 ≤ k → Yp.l0 k l l (i : Int) = some true
  | 0, i, k, hm, hi, hk => by
    obtain ⟨k, rfl⟩ : ∃ j, k = j + 1 := ⟨k - 1, by omega⟩
    unfold Yp.l0
    rw [if_neg (by omega)]
  | m + 1, i, k, hm, hi, hk => by
    obtain ⟨k, rfl⟩ : ∃ j, k = j + 1 := ⟨k - 1, by omega⟩
    unfold Yp.l0
    rw [if_pos (by omega), if_pos (by omega), if_pos (by omega), if_neg (by simp), show wrap64 ((i : Int) + 1) = ((i + 1 : Nat) : Int) by unfold wrap64; omega]
    exact Y3x l hl m (i + 1) k (by omega) (by omega) (by omega)
theorem Y3J (k : Nat) (l : List S28) (hl : l.length ≤ 1000000) (hk : l.length + 1 ≤ k) : Yp.f k l l = some true := by
  unfold Yp.f
  rw [if_pos rfl]
  exact Y3x l hl l.length 0 k (by omega) (by omega) hk
theorem Y3A (l : List S26) (hl : l.length ≤ 1000000) : ∀ (m i k : Nat), l.length - i = m → i ≤ l.length → m + 1 ≤ k → Yk.l0 k l l (i : Int) = some true
  | 0, i, k, hm, hi, hk => by
    obtain ⟨k, rfl⟩ : ∃ j, k = j + 1 := ⟨k - 1, by omega⟩
    unfold Yk.l0
    rw [if_neg (by omega)]
  | m + 1, i, k, hm, hi, hk => by
    obtain ⟨k, rfl⟩ : ∃ j, k = j + 1 := ⟨k - 1, by omega⟩
    unfold Yk.l0
    rw [if_pos (by omega), if_pos (by omega), if_pos (by omega), if_neg (by simp), show wrap64 ((i : Int) + 1) = ((i + 1 : Nat) : Int) by unfold wrap64; omega]
    exact Y3A l hl m (i + 1) k (by omega) (by omega) (by omega)
theorem Y3O (k : Nat) (l : List S26) (hl : l.length ≤ 1000000) (hk : l.length + 1 ≤ k) : Yk.f k l l = some true := by
  unfold Yk.f
  rw [if_pos rfl]
  exact Y3A l hl l.length 0 k (by omega) (by omega) hk
theorem Y64 (l : List S30) (a2 a3 : Int) : (isrt ltY (stfP l a2 a3).1).length ≤ l.length ∧ (stfP l a2 a3).2.length ≤ l.length := by
  have h1 := Y2J l a2 a3 (isrt ltG (sgF l l.length)) (isrt ltG (sgF l l.length)).length
  have h2 := (Y1y ltG (sgF l l.length)).length_eq
  have h3 := Y2H l l.length
  rw [(Y1y ltY _).length_eq]
  unfold stfP
  exact ⟨by omega, by omega⟩
end Go.Proofs.Yteopkkoblbmggaa.P
end
section
set_option linter.unusedVariables false
set_option linter.unusedSimpArgs false
namespace Go.Proofs.Yteopkkoblbmggaa.Pure
open Go.RowKit Go.Proofs.Yteopkkoblbmggaa.P Go.Proofs.Yteopkkoblbmggaa.Open Go.Proofs.YteopkkoblbmggaaW.PrintWords Go.Proofs.YteopkkoblbmggaaW.PrintLast Go.Proofs.YteopkkoblbmggaaW.PrintMore
theorem ReplicaStaff (a0_0 : Int) (l0_1 : List S30) (a1 : Int) (a2 : Int) (w0_0 : okI a0_0) (w0_1 : l0_1.length ≤ maxLen ∧ l0_1.length * 104 ≤ 140737488351232 ∧ ∀ y ∈ l0_1, zT30 y) (w1 : okI a1) (w2 : okI a2) : ∃ k, YE.f k a0_0 l0_1 a1 a2 = some true := by
  refine ⟨400000, ?_⟩
  unfold YE.f
  rw [Y5e, Option.bind_some]
  by_cases hl : 40 < l0_1.length
  · rw [if_pos (by simpa using hl), Y2T 400000 (by decide)]; rfl
  · rw [if_neg (by simpa using hl), Y4X 400000 a0_0 l0_1 (by omega) a1 a2 (by decide)]
    have hs : Y1d.f a0_0 l0_1 a1 a2 = some (if rchkP a0_0 l0_1 = 0 then (if stfE a1 a2 = 0 then (isrt ltY (stfP l0_1 a1 a2).1, (stfP l0_1 a1 a2).2, 0) else ([], [], stfE a1 a2)) else ([], [], rchkP a0_0 l0_1)) := by
      unfold Y1d.f
      rw [if_pos (fun e he => zT_ok (w0_1.2.2 e he))]
      split
      · split <;> rfl
      · rfl
    have hlen : (if rchkP a0_0 l0_1 = 0 then (if stfE a1 a2 = 0 then (isrt ltY (stfP l0_1 a1 a2).1, (stfP l0_1 a1 a2).2, (0 : Int)) else ([], [], stfE a1 a2)) else ([], [], rchkP a0_0 l0_1)).1.length ≤ 40 ∧ (if rchkP a0_0 l0_1 = 0 then (if stfE a1 a2 = 0 then (isrt ltY (stfP l0_1 a1 a2).1, (stfP l0_1 a1 a2).2, (0 : Int)) else ([], [], stfE a1 a2)) else ([], [], rchkP a0_0 l0_1)).2.1.length ≤ 40 := by
      have := Y64 l0_1 a1 a2
      split
      · split
        · exact ⟨by simp only; omega, by simp only; omega⟩
        · exact ⟨by simp, by simp⟩
      · exact ⟨by simp, by simp⟩
    rw [hs, Option.bind_some, Option.bind_some]
    generalize (if rchkP a0_0 l0_1 = 0 then (if stfE a1 a2 = 0 then (isrt ltY (stfP l0_1 a1 a2).1, (stfP l0_1 a1 a2).2, (0 : Int)) else ([], [], stfE a1 a2)) else ([], [], rchkP a0_0 l0_1)) = v at hlen
    rw [Y3J 400000 v.1 (by omega) (by omega), Option.bind_some, if_pos rfl, Y3O 400000 v.2.1 (by omega) (by omega), Option.bind_some, if_pos rfl, if_pos rfl, Y2T 400000 (by decide)]
    rfl
end Go.Proofs.Yteopkkoblbmggaa.Pure
end

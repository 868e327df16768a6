/- Texts of this claim in one: VStaffV, VTakP, VRAddP, VStfA, VTknP, VP56; no condition. -/
import Derived.Test.YteopkkoblbmggaaQAAE
import Derived.Test.YteopkkoblbmggaaQAAL
import Derived.Test.YteopkkoblbmggaaQAAH
import Derived.Test.YteopkkoblbmggaaQAAM
import Derived.Test.YteopkkoblbmggaaQAAI
import Derived.Test.YteopkkoblbmggaaQAAN
import Derived.Test.YteopkkoblbmggaaQAAP
import Derived.Test.YteopkkoblbmggaaQAAW
import Derived.Test.YteopkkoblbmggaaQAAC
section
set_option linter.unusedVariables false
set_option linter.unusedSimpArgs false
namespace Go.Proofs.Yteopkkoblbmggaa.P
open Go.RowKit Go.Proofs.YteopkkoblbmggaaW.PrintWords Go.Proofs.YteopkkoblbmggaaW.PrintLast Go.Proofs.YteopkkoblbmggaaW.PrintMore
def apS (a b : S28) : Prop := a.f1 = b.f1 → endS a ≤ b.f2
structure Y69 (l : List S28) (n : Int) : Prop where
  n0 : 1 ≤ n
  n1 : n ≤ 8192
  len : l.length ≤ 256
  all : ∀ s ∈ l, chkO s = 0
  ord : l.Pairwise (fun a b => ltS a b = true)
  le : ∀ s ∈ l, endS s ≤ n
  ap : l.Pairwise apS
theorem Y2N : ∀ l : List S28, chk1 l = 0 ↔ ∀ s ∈ l, chkO s = 0
  | [] => by simp [chk1]
  | x :: l => by
    simp only [chk1, List.forall_mem_cons]
    by_cases hx : chkO x = 0
    · rw [if_pos hx, Y2N l]; simp [hx]
    · rw [if_neg hx]; simp [hx]
theorem Y6J {a b c : S28} (h1 : ltS a b = true) (h2 : ltS b c = true) : ltS a c = true := by
  simp only [ltS, lessB, decide_eq_true_eq] at *; omega
theorem Y46 : ∀ l : List S28, ordS l = true ↔ l.Pairwise (fun a b => ltS a b = true)
  | [] => by simp [ordS]
  | [a] => by simp [ordS, chk2]
  | a :: b :: l => by
    have ih := Y46 (b :: l)
    have e : ordS (a :: b :: l) = (ltS a b && ordS (b :: l)) := rfl
    rw [e, Bool.and_eq_true, ih, List.pairwise_cons (a := a)]
    constructor
    · rintro ⟨h1, h2⟩
      refine ⟨fun x hx => ?_, h2⟩
      rcases List.mem_cons.mp hx with rfl | hx
      · exact h1
      · exact Y6J h1 ((List.pairwise_cons.mp h2).1 x hx)
    · rintro ⟨h1, h2⟩
      exact ⟨h1 b (by simp), h2⟩
def Y3I (p : List S28) (E : List Int) : Prop := E.length = 9 ∧ (∀ y ∈ p, endS y ≤ E.getD y.f1.toNat 0) ∧ ∀ c, c < 9 → E.getD c 0 = 0 ∨ ∃ y ∈ p, y.f1.toNat = c ∧ endS y = E.getD c 0
theorem Y4z : Y3I [] [0, 0, 0, 0, 0, 0, 0, 0, 0] := ⟨rfl, by simp, fun c hc => .inl (by match c, hc with | 0, _ | 1, _ | 2, _ | 3, _ | 4, _ | 5, _ | 6, _ | 7, _ | 8, _ => rfl)⟩
theorem Y2B (E : List Int) (i j : Nat) (v : Int) (h : i < E.length) : (E.set i v).getD j 0 = if i = j then v else E.getD j 0 := by
  rw [List.getD_eq_getElem?_getD, List.getD_eq_getElem?_getD, List.getElem?_set]
  by_cases e : i = j
  · subst e; simp [h]
  · simp [e]
theorem Y41 {p : List S28} {E : List Int} {s : S28} (h : Y3I p E) (hs : chkO s = 0) (hlt : ¬ s.f2 < E.getD s.f1.toNat 0) : Y3I (p ++ [s]) (E.set s.f1.toNat (endS s)) := by
  obtain ⟨h9, h1, h2⟩ := h
  have hb := Y3s s hs
  have hi : s.f1.toNat < E.length := by omega
  refine ⟨by simp [h9], fun y hy => ?_, fun c hc => ?_⟩
  · rw [Y2B E _ _ _ hi]
    rcases List.mem_append.mp hy with hy | hy
    · have := h1 y hy
      split
      · rename_i e; rw [← e] at this; unfold endS at *; omega
      · exact this
    · simp at hy; subst hy; simp
  · rw [Y2B E _ _ _ hi]
    split
    · rename_i e; exact .inr ⟨s, by simp, e, rfl⟩
    · rcases h2 c hc with h | ⟨y, hy, e1, e2⟩
      · exact .inl h
      · exact .inr ⟨y, by simp [hy], e1, e2⟩
theorem Y4y {p : List S28} {E : List Int} {s : S28} (h : Y3I p E) (hs : chkO s = 0) (hp : ∀ y ∈ p, chkO y = 0) : s.f2 < E.getD s.f1.toNat 0 ↔ ∃ y ∈ p, y.f1 = s.f1 ∧ s.f2 < endS y := by
  obtain ⟨h9, h1, h2⟩ := h
  have hb := Y3s s hs
  constructor
  · intro hlt
    rcases h2 s.f1.toNat (by omega) with h | ⟨y, hy, e1, e2⟩
    · omega
    · have := Y3s y (hp y hy)
      exact ⟨y, hy, by omega, by omega⟩
  · rintro ⟨y, hy, e1, e2⟩
    have := h1 y hy
    rw [e1] at this; omega
theorem Y3N (n : Int) : ∀ (l p : List S28) (E : List Int), Y3I p E → (∀ y ∈ p, chkO y = 0) → (∀ y ∈ l, chkO y = 0) →
    (chk3 n E l = 0 ↔ (∀ s ∈ l, endS s ≤ n) ∧ l.Pairwise apS ∧ ∀ a ∈ p, ∀ b ∈ l, apS a b)
  | [], p, E, _, _, _ => by simp [chk3]
  | s :: l, p, E, hE, hp, hl => by
    have hs := hl s (by simp)
    have hhit := Y4y hE hs hp
    simp only [chk3]
    by_cases h1 : n < endS s
    · rw [if_pos h1]
      constructor
      · intro h; cases h
      · rintro ⟨h, -⟩; have := h s (by simp); omega
    · rw [if_neg h1]
      by_cases h2 : s.f2 < E.getD s.f1.toNat 0
      · rw [if_pos h2]
        obtain ⟨y, hy, e1, e2⟩ := hhit.mp h2
        constructor
        · intro h; cases h
        · rintro ⟨-, -, h⟩; have := h y hy s (by simp) e1; omega
      · rw [if_neg h2, Y3N n l (p ++ [s]) _ (Y41 hE hs h2) (by intro y hy; rcases List.mem_append.mp hy with hy | hy; exact hp y hy; simp at hy; subst hy; exact hs) (fun y hy => hl y (by simp [hy]))]
        have hps : ∀ a ∈ p, apS a s := fun a ha e => by
          apply Decidable.byContradiction
          intro c
          exact h2 (hhit.mpr ⟨a, ha, e, by omega⟩)
        constructor
        · rintro ⟨k1, k2, k3⟩
          refine ⟨fun x hx => ?_, List.pairwise_cons.mpr ⟨fun b hb => k3 s (by simp) b hb, k2⟩, fun a ha b hb => ?_⟩
          · rcases List.mem_cons.mp hx with rfl | hx
            · omega
            · exact k1 x hx
          · rcases List.mem_cons.mp hb with rfl | hb
            · exact hps a ha
            · exact k3 a (by simp [ha]) b hb
        · rintro ⟨k1, k2, k3⟩
          obtain ⟨k4, k5⟩ := List.pairwise_cons.mp k2
          refine ⟨fun x hx => k1 x (by simp [hx]), k5, fun a ha b hb => ?_⟩
          rcases List.mem_append.mp ha with ha | ha
          · exact k3 a ha b (by simp [hb])
          · simp at ha; subst ha; exact k4 b hb
theorem Y4R {n : Int} {l : List S28} (hl : ∀ y ∈ l, chkO y = 0) : chk3 n [0, 0, 0, 0, 0, 0, 0, 0, 0] l = 0 ↔ (∀ s ∈ l, endS s ≤ n) ∧ l.Pairwise apS := by
  rw [Y3N n l [] _ Y4z (by simp) hl]; simp
theorem Y6b (l : List S28) (n : Int) : chkS l n = 0 ↔ Y69 l n := by
  unfold chkS
  by_cases h1 : n < 1 ∨ 8192 < n
  · rw [if_pos h1]; exact ⟨(fun h => by cases h), fun h => by have := h.n0; have := h.n1; omega⟩
  · rw [if_neg h1]
    by_cases h2 : 256 < l.length
    · rw [if_pos h2]; exact ⟨(fun h => by cases h), fun h => by have := h.len; omega⟩
    · rw [if_neg h2]
      by_cases h3 : chk1 l = 0
      · rw [if_neg (not_not_intro h3)]
        have ha := (Y2N l).mp h3
        by_cases h4 : ordS l = true
        · rw [if_neg (by rw [h4]; decide), Y4R ha]
          exact ⟨fun h => ⟨by omega, by omega, by omega, ha, (Y46 l).mp h4, h.1, h.2⟩, fun h => ⟨h.le, h.ap⟩⟩
        · rw [if_pos (by simpa using h4)]
          exact ⟨(fun h => by cases h), fun h => absurd ((Y46 l).mpr h.ord) h4⟩
      · rw [if_pos h3]
        exact ⟨fun h => absurd h h3, fun h => absurd ((Y2N l).mpr h.all) h3⟩
def VS (l : List S30) (p : Int) (t : S26) : S30 := (lasF l l.length p t.f0 t.f1).getD z30
def ndS (l : List S30) (p : Int) (t : S26) : Bool := !(VS l p t).f3
def eqT (t x : S26) : Bool := x.f0 == t.f0 && (x.f1 == t.f1)
def inT (P : List S26) (t : S26) : Bool := P.any (eqT t)
def eqY (s x : S28) : Bool := x.f0 == s.f0 && (x.f1 == s.f1 && (x.f2 == s.f2 && (x.f3 == s.f3 && (x.f4 == s.f4 && (x.f5 == s.f5 && (x.f6 == s.f6))))))
theorem Y4Z (t x : S26) : eqT t x = true ↔ x = t := by
  cases t; cases x; simp [eqT]
theorem Y42 (t x : S28) : eqY t x = true ↔ x = t := by
  cases t; cases x; simp [eqY]
theorem Y44 (P : List S26) (t : S26) : inT P t = true ↔ t ∈ P := by
  unfold inT
  rw [List.any_eq_true]
  constructor
  · rintro ⟨x, hx, h⟩; rw [Y4Z] at h; exact h ▸ hx
  · exact fun h => ⟨t, h, (Y4Z t t).2 rfl⟩
theorem YQ : ∀ {X : List S28} {s : S28}, X.Pairwise (fun a b => a ≠ b) → s ∈ X → (X.filter (eqY s)).length = 1
  | [], _, _, h => absurd h List.not_mem_nil
  | x :: X, s, hp, hs => by
    have h1 := List.pairwise_cons.1 hp
    by_cases e : x = s
    · rw [List.filter_cons_of_pos ((Y42 s x).2 e), List.length_cons, List.filter_eq_nil_iff.2 (fun y hy h => h1.1 y hy (by rw [(Y42 s y).1 h, e])), List.length_nil]
    · rw [List.filter_cons_of_neg (fun h => e ((Y42 s x).1 h))]
      rcases List.mem_cons.1 hs with q | q
      · exact absurd q.symm e
      · exact YQ h1.2 q
theorem T_ne {T : List S26} (h : T.Pairwise (fun a b => YV a b = true)) : T.Pairwise (fun a b => a ≠ b) := h.imp (fun h e => by rw [e, Y1E] at h; cases h)
theorem Y5s (l : List S30) (a2 a3 : Int) (q : List S28 × List S26) (t : S26) :
    (ndS l a2 t = false ∧ stT l a2 a3 q t = q) ∨ (ndS l a2 t = true ∧ stT l a2 a3 q t = (q.1, q.2 ++ [t])) ∨
    (ndS l a2 t = true ∧ stT l a2 a3 q t = (q.1 ++ [(VS l a2 t).f4], q.2) ∧ wrap64 ((VS l a2 t).f4.f2 + (VS l a2 t).f4.f3) ≤ a3 ∧ q.1.length < 256) := by
  unfold stT stO
  show (_ ∧ (if (a2 != a2) = true ∨ (VS l a2 t).f3 = true then q else if decide (a3 < wrap64 ((VS l a2 t).f4.f2 + (VS l a2 t).f4.f3)) = true ∨ decide ((256 : Int) ≤ (q.1.length : Int)) = true ∨ meetP q.1 (VS l a2 t).f4 = true then (q.1, q.2 ++ [⟨t.f0, t.f1⟩]) else (q.1 ++ [(VS l a2 t).f4], q.2)) = q) ∨ (_ ∧ (if (a2 != a2) = true ∨ (VS l a2 t).f3 = true then q else if decide (a3 < wrap64 ((VS l a2 t).f4.f2 + (VS l a2 t).f4.f3)) = true ∨ decide ((256 : Int) ≤ (q.1.length : Int)) = true ∨ meetP q.1 (VS l a2 t).f4 = true then (q.1, q.2 ++ [⟨t.f0, t.f1⟩]) else (q.1 ++ [(VS l a2 t).f4], q.2)) = _) ∨ (_ ∧ (if (a2 != a2) = true ∨ (VS l a2 t).f3 = true then q else if decide (a3 < wrap64 ((VS l a2 t).f4.f2 + (VS l a2 t).f4.f3)) = true ∨ decide ((256 : Int) ≤ (q.1.length : Int)) = true ∨ meetP q.1 (VS l a2 t).f4 = true then (q.1, q.2 ++ [⟨t.f0, t.f1⟩]) else (q.1 ++ [(VS l a2 t).f4], q.2)) = _ ∧ _ ∧ _)
  unfold ndS
  cases hd : (VS l a2 t).f3
  · right
    rw [if_neg (by simp)]
    by_cases h : decide (a3 < wrap64 ((VS l a2 t).f4.f2 + (VS l a2 t).f4.f3)) = true ∨ decide ((256 : Int) ≤ (q.1.length : Int)) = true ∨ meetP q.1 (VS l a2 t).f4 = true
    · left; rw [if_pos h]; exact ⟨rfl, rfl⟩
    · right
      rw [if_neg h]
      refine ⟨rfl, rfl, ?_, ?_⟩
      · have : ¬ (a3 < wrap64 ((VS l a2 t).f4.f2 + (VS l a2 t).f4.f3)) := fun g => h (Or.inl (decide_eq_true g))
        omega
      · have : ¬ ((256 : Int) ≤ (q.1.length : Int)) := fun g => h (Or.inr (Or.inl (decide_eq_true g)))
        omega
  · left
    rw [if_pos (Or.inr rfl)]
    exact ⟨rfl, rfl⟩
theorem Y2a (l : List S30) (a2 a3 : Int) : ∀ (T : List S26) (q : List S28 × List S26), q.1.length ≤ 256 →
    ∃ U P, (T.filter (ndS l a2)).Perm (U ++ P) ∧ T.foldl (stT l a2 a3) q = (q.1 ++ U.map (fun t => (VS l a2 t).f4), q.2 ++ P) ∧ (q.1 ++ U.map (fun t => (VS l a2 t).f4)).length ≤ 256 ∧ ∀ u ∈ U, wrap64 ((VS l a2 u).f4.f2 + (VS l a2 u).f4.f3) ≤ a3
  | [], q, hq => ⟨[], [], List.Perm.refl _, by simp, by simpa using hq, by simp⟩
  | t :: T, q, hq => by
    rw [List.foldl_cons]
    rcases Y5s l a2 a3 q t with ⟨h1, h2⟩ | ⟨h1, h2⟩ | ⟨h1, h2, h3, h4⟩
    · obtain ⟨U, P, g1, g2, g3, g4⟩ := Y2a l a2 a3 T q hq
      rw [h2]
      exact ⟨U, P, by rw [List.filter_cons_of_neg (by rw [h1]; decide)]; exact g1, g2, g3, g4⟩
    · obtain ⟨U, P, g1, g2, g3, g4⟩ := Y2a l a2 a3 T (q.1, q.2 ++ [t]) hq
      rw [h2]
      refine ⟨U, t :: P, ?_, by rw [g2]; simp, g3, g4⟩
      rw [List.filter_cons_of_pos h1]
      exact (g1.cons t).trans List.perm_middle.symm
    · obtain ⟨U, P, g1, g2, g3, g4⟩ := Y2a l a2 a3 T (q.1 ++ [(VS l a2 t).f4], q.2) (by rw [List.length_append, List.length_singleton]; exact h4)
      rw [h2]
      refine ⟨t :: U, P, ?_, by rw [g2]; simp, by simpa using g3, fun u hu => ?_⟩
      · rw [List.filter_cons_of_pos h1]
        exact g1.cons t
      · rcases List.mem_cons.1 hu with rfl | hu
        · exact h3
        · exact g4 u hu
theorem Y6A {l : List S30} {p : Int} {t : S26} (h : t ∈ sgT p [] l) : VS l p t ∈ l ∧ (VS l p t).f1 = p ∧ (VS l p t).f2 = t := by
  have hq := ((Y3o p l [] List.Pairwise.nil).2.1 t).1 h
  rcases hq with hq | ⟨e, he, h1, h2⟩
  · exact absurd hq List.not_mem_nil
  · obtain ⟨i, hi, rfl⟩ := List.getElem_of_mem he
    obtain ⟨y, hy⟩ := Y1Y (l := l) (p := p) (c := t.f0) (d := t.f1) i hi hi ⟨h1.symm, by rw [h2], by rw [h2]⟩
    have hm := Y2I hy
    unfold VS
    rw [hy, Option.getD_some]
    refine ⟨hm.1, hm.2.1.symm, ?_⟩
    show y.f2 = t
    have e1 := hm.2.2.1
    have e2 := hm.2.2.2
    cases ht : t; cases hy2 : y.f2
    rw [ht, hy2] at e1 e2
    simp at e1 e2
    rw [e1, e2]
theorem Y5B {e : S30} (h : chk30 e = 0) (hd : e.f3 = false) : chkO e.f4 = 0 := by
  unfold chk30 chkE at h
  rw [hd] at h
  split at h
  · cases h
  · split at h
    · cases h
    · rw [if_neg (by decide)] at h
      exact h
structure Takn (l : List S30) (a2 a3 : Int) (U P : List S26) : Prop where
  perm : ((sgT a2 [] l).filter (ndS l a2)).Perm (U ++ P)
  tk : (stfP l a2 a3).1 = U.map (fun t => (VS l a2 t).f4)
  pk : (stfP l a2 a3).2 = P
  len : (stfP l a2 a3).1.length ≤ 256
  le : ∀ u ∈ U, wrap64 ((VS l a2 u).f4.f2 + (VS l a2 u).f4.f3) ≤ a3
theorem takn {d : Int} {l : List S30} (h : rchkP d l = 0) (a2 a3 : Int) : ∃ U P, Takn l a2 a3 U P := by
  obtain ⟨U, P, g1, g2, g3, g4⟩ := Y2a l a2 a3 (sgT a2 [] l) ([], []) (by simp)
  rw [← Y6O h] at g2
  refine ⟨U, P, g1, by rw [g2]; rfl, by rw [g2]; rfl, by rw [g2]; exact g3, g4⟩
theorem Y4l {tk : List S28} (h : Apart tk) : tk.Pairwise (fun a b => a ≠ b) := by
  refine (List.Pairwise.and_mem.1 h.2).imp ?_
  rintro a b ⟨ha, hb, hm⟩ e
  subst e
  have v := h.1 a ha
  obtain ⟨v1, v2, v3⟩ := v
  simp [meet1, Y2A (show 0 ≤ a.f2 + a.f3 by omega) (by omega)] at hm
  omega
theorem Y36 {d : Int} {l : List S30} (h : rchkP d l = 0) (a2 a3 : Int) : Apart (stfP l a2 a3).1 := Y2n h a2 a3 _
theorem Y5d {X Y : List S28} (h : X.Perm Y) (hy : Y.Pairwise (fun a b => a ≠ b)) : X.Pairwise (fun a b => a ≠ b) := (List.Perm.pairwise_iff (fun h e => h e.symm) h).2 hy
theorem Y4f {d : Int} {l : List S30} (h : rchkP d l = 0) {a2 a3 : Int} (hs : stfE a2 a3 = 0) : chkS (isrt ltY (stfP l a2 a3).1) a3 = 0 := by
  obtain ⟨U, P, ht⟩ := takn h a2 a3
  have hap := Y36 h a2 a3
  have hp := Y1j ltY (stfP l a2 a3).1
  have hmem : ∀ s, s ∈ isrt ltY (stfP l a2 a3).1 ↔ s ∈ (stfP l a2 a3).1 := fun s => hp.mem_iff
  have hok : ∀ s ∈ (stfP l a2 a3).1, okY s := hap.1
  have hall : ∀ s ∈ (stfP l a2 a3).1, chkO s = 0 ∧ s.f2 + s.f3 ≤ a3 := fun s hs' => by
    have hv := hok s hs'
    rw [ht.tk] at hs'
    obtain ⟨u, hu, rfl⟩ := List.mem_map.1 hs'
    have huT : u ∈ (sgT a2 [] l).filter (ndS l a2) := ht.perm.mem_iff.2 (List.mem_append_left _ hu)
    rw [List.mem_filter] at huT
    have hm := Y6A huT.1
    refine ⟨Y5B (Y2K h _ hm.1) (by simpa [ndS] using huT.2), ?_⟩
    have := ht.le u hu
    rw [Y2A (by have := hv.1; have := hv.2.1; omega) hv.2.2] at this
    exact this
  have hE : 1 ≤ a3 ∧ a3 ≤ 8192 := by
    unfold stfE at hs
    split at hs
    · cases hs
    · split at hs
      · cases hs
      · omega
  have hsort := Y22 swoY (stfP l a2 a3).1
  have hne := Y5d hp (Y4l hap)
  have hone : OneEq ltY (isrt ltY (stfP l a2 a3).1) := Y2v hp (Y3K hap)
  have hord : (isrt ltY (stfP l a2 a3).1).Pairwise (fun a b => ltY a b = true) := by
    refine (List.Pairwise.and_mem.1 (hsort.and hne)).imp ?_
    rintro a b ⟨ha, hb, h1, h2⟩
    cases hq : ltY a b
    · exact absurd (hone a ha b hb hq h1) h2
    · rfl
  have hmt : (isrt ltY (stfP l a2 a3).1).Pairwise (fun t x => meet1 x t = false) := by
    refine (List.Perm.pairwise_iff ?_ hp).2 hap.2
    intro x y hxy
    unfold meet1 at hxy ⊢
    rw [← hxy]
    rw [show (x.f1 == y.f1) = (y.f1 == x.f1) from BEq.comm]
    cases (y.f1 == x.f1) <;> cases decide (x.f2 < wrap64 (y.f2 + y.f3)) <;> cases decide (y.f2 < wrap64 (x.f2 + x.f3)) <;> rfl
  refine (Y6b _ _).2 ⟨hE.1, hE.2, ?_, fun s hs' => (hall s ((hmem s).1 hs')).1, hord, fun s hs' => (hall s ((hmem s).1 hs')).2, ?_⟩
  · rw [hp.length_eq]; exact ht.len
  · refine (List.Pairwise.and_mem.1 (hord.and hmt)).imp ?_
    rintro a b ⟨ha, hb, h1, h2⟩ he
    obtain ⟨va1, va2, va3⟩ := hok a ((hmem a).1 ha)
    obtain ⟨vb1, vb2, vb3⟩ := hok b ((hmem b).1 hb)
    simp only [meet1, Y2A (show 0 ≤ a.f2 + a.f3 by omega) (by omega), Y2A (show 0 ≤ b.f2 + b.f3 by omega) (by omega), he] at h2
    simp [ltY, lessB] at h1
    simp at h2
    unfold endS
    omega
theorem Y43 {U P : List S26} (h : (U ++ P).Pairwise (fun a b => a ≠ b)) : (U ++ P).filter (fun t => !inT P t) = U := by
  have h1 := List.pairwise_append.1 h
  rw [List.filter_append, List.filter_eq_self.2 (fun t ht => ?_), List.filter_eq_nil_iff.2 (fun t ht => ?_), List.append_nil]
  · rw [(Y44 P t).2 ht]; decide
  · cases hq : inT P t
    · rfl
    · exact absurd rfl (h1.2.2 t ht t ((Y44 P t).1 hq))
theorem Y37 {d : Int} {l : List S30} (h : rchkP d l = 0) (a2 a3 : Int) :
    ((sgT a2 [] l).filter (ndS l a2)).length = (isrt ltY (stfP l a2 a3).1).length + (stfP l a2 a3).2.length ∧
    ((sgT a2 [] l).filter (fun t => ndS l a2 t && !inT (stfP l a2 a3).2 t)).length = (isrt ltY (stfP l a2 a3).1).length ∧
    ∀ t ∈ sgT a2 [] l, ndS l a2 t = true → inT (stfP l a2 a3).2 t = false → ((isrt ltY (stfP l a2 a3).1).filter (eqY (VS l a2 t).f4)).length = 1 := by
  obtain ⟨U, P, ht⟩ := takn h a2 a3
  have hp := Y1j ltY (stfP l a2 a3).1
  have hT := T_ne (Y3o a2 l [] List.Pairwise.nil).1
  have hTf : ((sgT a2 [] l).filter (ndS l a2)).Pairwise (fun a b => a ≠ b) := hT.sublist List.filter_sublist
  have hUP : (U ++ P).Pairwise (fun a b => a ≠ b) := (List.Perm.pairwise_iff (fun h e => h e.symm) ht.perm).1 hTf
  have hl1 : (stfP l a2 a3).1.length = U.length := by rw [ht.tk, List.length_map]
  rw [ht.pk, hp.length_eq, hl1]
  refine ⟨?_, ?_, ?_⟩
  · rw [ht.perm.length_eq, List.length_append]
  · have hff : (sgT a2 [] l).filter (fun t => ndS l a2 t && !inT P t) = ((sgT a2 [] l).filter (ndS l a2)).filter (fun t => !inT P t) := by
      rw [List.filter_filter]
      exact List.filter_congr (fun t _ => Bool.and_comm _ _)
    rw [hff, (ht.perm.filter _).length_eq, Y43 hUP]
  · intro t htT hnd hin
    have hm : t ∈ U ++ P := ht.perm.mem_iff.1 (List.mem_filter.2 ⟨htT, hnd⟩)
    rcases List.mem_append.1 hm with hu | hp'
    · refine YQ (Y5d hp (Y4l (Y36 h a2 a3))) (hp.mem_iff.2 ?_)
      rw [ht.tk]
      exact List.mem_map.2 ⟨t, hu, rfl⟩
    · rw [(Y44 P t).2 hp'] at hin; cases hin
theorem Y1K {i : Nat} (h : i ≤ 2000000) : wrap64 ((i : Int) + 1) = ((i + 1 : Nat) : Int) := by unfold wrap64; omega
theorem Y6p {xs : List S26} {i : Nat} (h : i < xs.length) : Y1s xs (i : Int) = xs[i] := by
  unfold Y1s
  rw [Int.toNat_natCast, List.getD_eq_getElem?_getD, List.getElem?_eq_getElem h]; rfl
theorem Y4g (l : List S30) (L : List S28) (P : List S26) (a2 d : Int) (s : S28) (x10 : Int) (i B : Nat) (hi : i ≤ 1000) (hL : L.length ≤ 1000) : ∀ (m j f k : Nat), L.length - j = m → j ≤ L.length → f ≤ 100000 + j → B + m + 1 ≤ k →
    (∀ k, B ≤ k → Ya.l0 k a2 L P x10 ((f + ((L.drop j).filter (eqY s)).length : Nat) : Int) ((i + 1 : Nat) : Int) d l = some true) →
    Ya.l3 k a2 L P x10 (f : Int) (i : Int) false (j : Int) d l s.f0 s.f1 s.f2 s.f3 s.f4 s.f5 s.f6 = some true
  | 0, j, f, k, hm, hj, hf, hk, hn => by
    obtain ⟨k, rfl⟩ : ∃ q, k = q + 1 := ⟨k - 1, by omega⟩
    have h := hn k (by omega)
    rw [List.drop_of_length_le (by omega)] at h
    rw [Ya.l3, if_neg (by omega), Y1K (by omega)]
    exact h
  | m + 1, j, f, k, hm, hj, hf, hk, hn => by
    obtain ⟨k, rfl⟩ : ∃ q, k = q + 1 := ⟨k - 1, by omega⟩
    have hlt : j < L.length := by omega
    rw [Ya.l3, if_pos (by omega), if_neg (by decide), if_pos (by omega), Y30 hlt, Y1K (show j ≤ 2000000 by omega), Y1K (show f ≤ 2000000 by omega)]
    rw [List.drop_eq_getElem_cons hlt] at hn
    show (if eqY s L[j] = true then _ else _) = _
    by_cases he : eqY s L[j] = true
    · rw [if_pos he]
      refine Y4g l L P a2 d s x10 i B hi hL m (j + 1) (f + 1) k (by omega) (by omega) (by omega) (by omega) (fun q hq => ?_)
      have := hn q hq
      rw [List.filter_cons_of_pos he, List.length_cons] at this
      rw [show f + 1 + ((L.drop (j + 1)).filter (eqY s)).length = f + (((L.drop (j + 1)).filter (eqY s)).length + 1) by omega]
      exact this
    · rw [if_neg he]
      refine Y4g l L P a2 d s x10 i B hi hL m (j + 1) f k (by omega) (by omega) (by omega) (by omega) (fun q hq => ?_)
      have := hn q hq
      rw [List.filter_cons_of_neg he] at this
      exact this
theorem Y6R (l : List S30) (L : List S28) (P : List S26) (a2 d : Int) (s : S28) (x10 : Int) (i B f : Nat) (ex : Bool) (hi : i ≤ 1000) (hL : L.length ≤ 1000) (hf : f ≤ 100000)
    (hn : ∀ k, B ≤ k → Ya.l0 k a2 L P x10 ((f + (if ex = true then 0 else (L.filter (eqY s)).length) : Nat) : Int) ((i + 1 : Nat) : Int) d l = some true) (k : Nat) (hk : B + L.length + 1 ≤ k) :
    Ya.l3 k a2 L P x10 (f : Int) (i : Int) ex 0 d l s.f0 s.f1 s.f2 s.f3 s.f4 s.f5 s.f6 = some true := by
  cases ex
  · have := Y4g l L P a2 d s x10 i B hi hL L.length 0 f k (by omega) (by omega) (by omega) (by omega)
    rw [List.drop_zero] at this
    exact this hn
  · obtain ⟨k, rfl⟩ : ∃ q, k = q + 1 := ⟨k - 1, by omega⟩
    have h := hn k (by omega)
    rw [if_pos rfl, Nat.add_zero] at h
    rw [Ya.l3, Y1K (by omega)]
    by_cases hz : (0 : Int) < (L.length : Int)
    · rw [if_pos hz, if_pos rfl]; exact h
    · rw [if_neg hz]; exact h
theorem Y5u (l : List S30) (L : List S28) (P : List S26) (a2 d : Int) (e : S30) (s : S28) (x10 x11 : Int) (i B : Nat) (hP : P.length ≤ 1000) : ∀ (m j k : Nat) (b : Bool), P.length - j = m → j ≤ P.length → B + m + 1 ≤ k →
    (∀ k, B ≤ k → Ya.l3 k a2 L P x10 x11 (i : Int) (b || (P.drop j).any (eqT e.f2)) 0 d l s.f0 s.f1 s.f2 s.f3 s.f4 s.f5 s.f6 = some true) →
    Ya.l2 k a2 L P x10 x11 (i : Int) b (j : Int) d l e.f0.f0 e.f0.f1 e.f1 e.f2.f0 e.f2.f1 e.f3 e.f4.f0 e.f4.f1 e.f4.f2 e.f4.f3 e.f4.f4 e.f4.f5 e.f4.f6 s.f0 s.f1 s.f2 s.f3 s.f4 s.f5 s.f6 = some true
  | 0, j, k, b, hm, hj, hk, hn => by
    obtain ⟨k, rfl⟩ : ∃ q, k = q + 1 := ⟨k - 1, by omega⟩
    have h := hn k (by omega)
    rw [List.drop_of_length_le (by omega), List.any_nil, Bool.or_false] at h
    rw [Ya.l2, if_neg (by omega)]
    exact h
  | m + 1, j, k, b, hm, hj, hk, hn => by
    obtain ⟨k, rfl⟩ : ∃ q, k = q + 1 := ⟨k - 1, by omega⟩
    have hlt : j < P.length := by omega
    rw [List.drop_eq_getElem_cons hlt, List.any_cons] at hn
    rw [Ya.l2, if_pos (by omega), Y1K (show j ≤ 2000000 by omega)]
    cases b
    · rw [if_neg (by decide), if_pos (by omega), Y6p hlt]
      exact Y5u l L P a2 d e s x10 x11 i B hP m (j + 1) k (eqT e.f2 P[j]) (by omega) (by omega) (by omega) (fun q hq => by have := hn q hq; rw [Bool.false_or] at this; exact this)
    · rw [if_pos rfl]
      exact Y5u l L P a2 d e s x10 x11 i B hP m (j + 1) k true (by omega) (by omega) (by omega) (fun q hq => by have := hn q hq; rw [Bool.true_or] at this ⊢; exact this)
def fstB (l : List S30) (a2 : Int) (e : S30) (j : Nat) : Bool := (e.f1 == a2) && !(lasF l j a2 e.f2.f0 e.f2.f1).isSome
theorem Y5C {l : List S30} {a2 : Int} {e : S30} {j : Nat} (hj : j < l.length) : fstB l a2 e (j + 1) = (fstB l a2 e j && !(decide (l[j].f1 = a2) && (l[j].f2.f0 == e.f2.f0 && (l[j].f2.f1 == e.f2.f1)))) := by
  unfold fstB
  rw [show (lasF l (j + 1) a2 e.f2.f0 e.f2.f1) = (if h : j < l.length then (if a2 = l[j].f1 ∧ e.f2.f0 = l[j].f2.f0 ∧ e.f2.f1 = l[j].f2.f1 then some l[j] else lasF l j a2 e.f2.f0 e.f2.f1) else lasF l j a2 e.f2.f0 e.f2.f1) from rfl, dif_pos hj]
  by_cases h : a2 = l[j].f1 ∧ e.f2.f0 = l[j].f2.f0 ∧ e.f2.f1 = l[j].f2.f1
  · rw [if_pos h]
    have : (decide (l[j].f1 = a2) && (l[j].f2.f0 == e.f2.f0 && (l[j].f2.f1 == e.f2.f1))) = true := by
      rw [← h.1, ← h.2.1, ← h.2.2]; simp
    rw [this]
    simp
  · rw [if_neg h]
    have : (decide (l[j].f1 = a2) && (l[j].f2.f0 == e.f2.f0 && (l[j].f2.f1 == e.f2.f1))) = false := by
      rw [← Bool.not_eq_true]
      intro g
      simp at g
      exact h ⟨g.1.symm, g.2.1.symm, g.2.2.symm⟩
    rw [this]
    simp
theorem Y63 (l : List S30) (L : List S28) (P : List S26) (a2 d : Int) (e : S30) (x10 x11 : Int) (i B : Nat) (hi : i < l.length) (hl : l.length ≤ 1000)
    (hyes : fstB l a2 e i = true → ∀ k, B ≤ k → ((YD.f d l a2 e.f2.f0 e.f2.f1).bind fun bt924 => (if bt924.2.2.2.2.2.2.2.2 = 0 then (if bt924.2.2.2.2.2.2.2.1 = true then (Ya.l2 k a2 L P (wrap64 (x10 + 1)) x11 (i : Int) false 0 d l e.f0.f0 e.f0.f1 e.f1 e.f2.f0 e.f2.f1 e.f3 e.f4.f0 e.f4.f1 e.f4.f2 e.f4.f3 e.f4.f4 e.f4.f5 e.f4.f6 bt924.1 bt924.2.1 bt924.2.2.1 bt924.2.2.2.1 bt924.2.2.2.2.1 bt924.2.2.2.2.2.1 bt924.2.2.2.2.2.2.1) else (Ya.l0 k a2 L P x10 x11 (wrap64 ((i : Int) + 1)) d l)) else (none))) = some true)
    (hno : fstB l a2 e i = false → ∀ k, B ≤ k → Ya.l0 k a2 L P x10 x11 (wrap64 ((i : Int) + 1)) d l = some true) : ∀ (m j k : Nat), i - j = m → j ≤ i → B + m + 1 ≤ k →
    Ya.l1 k a2 L P x10 x11 (i : Int) (fstB l a2 e j) (j : Int) d l e.f0.f0 e.f0.f1 e.f1 e.f2.f0 e.f2.f1 e.f3 e.f4.f0 e.f4.f1 e.f4.f2 e.f4.f3 e.f4.f4 e.f4.f5 e.f4.f6 = some true
  | 0, j, k, hm, hj, hk => by
    obtain ⟨k, rfl⟩ : ∃ q, k = q + 1 := ⟨k - 1, by omega⟩
    obtain rfl : j = i := by omega
    rw [Ya.l1, if_neg (by omega)]
    cases hb : fstB l a2 e j
    · rw [if_neg (by decide)]; exact hno hb k (by omega)
    · rw [if_pos rfl]; exact hyes hb k (by omega)
  | m + 1, j, k, hm, hj, hk => by
    obtain ⟨k, rfl⟩ : ∃ q, k = q + 1 := ⟨k - 1, by omega⟩
    have hlt : j < l.length := by omega
    have hs := Y5C (l := l) (a2 := a2) (e := e) hlt
    have ih := Y63 l L P a2 d e x10 x11 i B hi hl hyes hno m (j + 1) k (by omega) (by omega) (by omega)
    rw [hs] at ih
    rw [Ya.l1, if_pos (by omega), Y1K (show j ≤ 2000000 by omega)]
    cases hb : fstB l a2 e j
    · rw [if_neg (by decide)]
      rw [hb, Bool.false_and] at ih
      exact ih
    · rw [if_pos rfl, if_pos (by omega), if_pos (by omega), Y1l hlt]
      rw [hb, Bool.true_and] at ih
      by_cases hp : l[j].f1 = a2
      · rw [if_pos hp]
        rw [decide_eq_true hp, Bool.true_and] at ih
        exact ih
      · rw [if_neg hp]
        rw [decide_eq_false hp, Bool.false_and] at ih
        exact ih
def Fsg (l : List S30) (a2 : Int) (i : Nat) : List S26 := ((sgF l i).filter (fun x => x.p == a2)).map toT
theorem Y5y {l : List S30} {a2 : Int} {i : Nat} (hi : i < l.length) : Fsg l a2 (i + 1) = Fsg l a2 i ++ (if fstB l a2 l[i] i = true then [l[i].f2] else []) := by
  unfold Fsg fstB
  rw [show sgF l (i + 1) = (if h : i < l.length then (if (lasF l i l[i].f1 l[i].f2.f0 l[i].f2.f1).isSome = true then sgF l i else sgF l i ++ [⟨l[i].f1, l[i].f2.f0, l[i].f2.f1⟩]) else sgF l i) from rfl, dif_pos hi]
  by_cases hp : l[i].f1 = a2
  · rw [hp, beq_self_eq_true, Bool.true_and]
    cases hq : (lasF l i a2 l[i].f2.f0 l[i].f2.f1).isSome
    · rw [if_neg (by decide), if_pos (show (!false) = true from rfl), List.filter_append, List.map_append, List.filter_cons_of_pos (by simp), List.filter_nil, List.map_cons, List.map_nil]
      rfl
    · rw [if_pos rfl, if_neg (show ¬ ((!true) = true) from by decide), List.append_nil]
  · rw [show (l[i].f1 == a2) = false from by simpa using hp, Bool.false_and, if_neg (show ¬ (false = true) from by decide), List.append_nil]
    split
    · rfl
    · rw [List.filter_append, List.filter_cons_of_neg (by simpa using hp), List.filter_nil, List.append_nil]
theorem Y5x {d : Int} {l : List S30} (h : rchkP d l = 0) (a2 : Int) : (Fsg l a2 l.length).Perm (sgT a2 [] l) := by
  rw [← Y4J h a2]
  exact (((Y1j ltG (sgF l l.length)).symm.filter _).map _)
theorem Y4I (l : List S30) (a2 : Int) (Q : S26 → Bool) (i : Nat) : ((Fsg l a2 i).filter Q).length ≤ i := by
  have h1 := List.length_filter_le Q (Fsg l a2 i)
  have h2 : (Fsg l a2 i).length ≤ i := by
    unfold Fsg
    rw [List.length_map]
    exact Nat.le_trans (List.length_filter_le _ _) (Y2w l i)
  omega
theorem Y6P {d : Int} {l : List S30} (h : rchkP d l = 0) (hz : ∀ e ∈ l, okE30 e) {a2 : Int} (h2 : okN a2) {i : Nat} (hi : i < l.length) (hf : l[i].f1 = a2) :
    YD.f d l a2 l[i].f2.f0 l[i].f2.f1 = some (if ndS l a2 l[i].f2 = true then ((VS l a2 l[i].f2).f4.f0, (VS l a2 l[i].f2).f4.f1, (VS l a2 l[i].f2).f4.f2, (VS l a2 l[i].f2).f4.f3, (VS l a2 l[i].f2).f4.f4, (VS l a2 l[i].f2).f4.f5, (VS l a2 l[i].f2).f4.f6, true, 0) else (0, 0, 0, 0, 0, 0, 0, false, 0)) := by
  obtain ⟨y, hy⟩ := Y1Y (l := l) (p := a2) (c := l[i].f2.f0) (d := l[i].f2.f1) i hi hi ⟨hf.symm, rfl, rfl⟩
  have hok := hz _ (List.getElem_mem hi)
  unfold YD.f
  rw [if_pos ⟨hz, h2, hok.2.1, hok.2.2⟩, if_pos h]
  unfold valR ndS VS
  rw [hy]
  simp only [Option.getD_some]
  cases y.f3 <;> rfl
theorem Y6Q (C : Nat) (hC : 7000 ≤ C) {d : Int} {l : List S30} (h : rchkP d l = 0) (hl : l.length ≤ 40) (hz : ∀ e ∈ l, okE30 e) {a2 a3 : Int} (h2 : okN a2) (L : List S28) (P : List S26) (eL : L = isrt ltY (stfP l a2 a3).1) (eP : P = (stfP l a2 a3).2) (hL : L.length ≤ 300) (hP : P.length ≤ 300) :
    ∀ (m i k : Nat), l.length - i = m → i ≤ l.length → m * 700 + C ≤ k →
    Ya.l0 k a2 L P ((((Fsg l a2 i).filter (ndS l a2)).length : Nat) : Int) ((((Fsg l a2 i).filter (fun t => ndS l a2 t && !inT P t)).length : Nat) : Int) (i : Int) d l = some true := by
  intro m
  induction m with
  | zero =>
    intro i k hm hi hk
    obtain ⟨k, rfl⟩ : ∃ q, k = q + 1 := ⟨k - 1, by omega⟩
    obtain rfl : i = l.length := by omega
    obtain ⟨c1, c2, _⟩ := Y37 h a2 a3
    have hp := Y5x h a2
    rw [← eL, ← eP] at c1 c2
    have e1 : ((Fsg l a2 l.length).filter (ndS l a2)).length = L.length + P.length := by rw [(hp.filter _).length_eq, c1]
    have e2 : ((Fsg l a2 l.length).filter (fun t => ndS l a2 t && !inT P t)).length = L.length := by rw [(hp.filter _).length_eq, c2]
    rw [Ya.l0, if_neg (by omega), e1, e2, if_pos (by unfold wrap64; omega), if_pos rfl, Y2p k (by omega)]
    rfl
  | succ m IH =>
    intro i k hm hi hk
    obtain ⟨k, rfl⟩ : ∃ q, k = q + 1 := ⟨k - 1, by omega⟩
    have hlt : i < l.length := by omega
    obtain ⟨B, hB⟩ : ∃ B, B = m * 700 + C := ⟨_, rfl⟩
    have hkB : B + 699 ≤ k := by omega
    have hi40 : i ≤ 40 := by omega
    rw [← hB] at IH
    clear hB hk
    have ih := fun q hq => IH (i + 1) q (by omega) (by omega) hq
    rw [Y5y hlt, List.filter_append, List.filter_append, List.length_append, List.length_append] at ih
    have hi2 : i ≤ 2000000 := by omega
    have hstart : fstB l a2 l[i] 0 = (l[i].f1 == a2) := by unfold fstB; simp [lasF]
    rw [Ya.l0, if_pos (by omega), if_pos (by omega), Y1l hlt, ← hstart]
    refine Y63 l L P a2 d l[i] _ _ i (B + 650) hlt (by omega) (fun hf q hq => ?_) (fun hf q hq => ?_) i 0 k (by omega) (by omega) (by omega)
    · have hpa : l[i].f1 = a2 := by
        unfold fstB at hf
        simp at hf
        exact hf.1
      rw [if_pos hf] at ih
      rw [Y6P h hz h2 hlt hpa, Option.bind_some]
      cases hnd : ndS l a2 l[i].f2
      · rw [if_neg (show ¬ (false = true) from by decide), if_pos rfl, if_neg (show ¬ (false = true) from by decide), Y1K hi2]
        have := ih q (by omega)
        rw [List.filter_cons_of_neg (by rw [hnd]; decide), List.filter_cons_of_neg (by rw [hnd, Bool.false_and]; decide)] at this
        simpa using this
      · rw [if_pos rfl, if_pos rfl, if_pos rfl, Y1K (Nat.le_trans (Y4I l a2 (ndS l a2) i) (by omega))]
        refine Y5u l L P a2 d l[i] (VS l a2 l[i].f2).f4 _ _ i (B + 340) (by omega) P.length 0 q false (by omega) (by omega) (by omega) (fun q hq => ?_)
        rw [List.drop_zero, Bool.false_or]
        refine Y6R l L P a2 d (VS l a2 l[i].f2).f4 _ i B _ _ (by omega) (by omega) (Nat.le_trans (Y4I l a2 _ i) (by omega)) (fun q hq => ?_) q (by omega)
        have := ih q hq
        rw [List.filter_cons_of_pos hnd, List.filter_nil, List.length_singleton] at this
        have hin : l[i].f2 ∈ sgT a2 [] l := ((Y3o a2 l [] List.Pairwise.nil).2.1 _).2 (Or.inr ⟨l[i], List.getElem_mem hlt, hpa, rfl⟩)
        cases hq2 : inT P l[i].f2
        · have hc := (Y37 h a2 a3).2.2 _ hin hnd (by rw [← eP]; exact hq2)
          rw [← eL] at hc
          rw [show P.any (eqT l[i].f2) = false from hq2, if_neg (by decide), hc]
          rw [List.filter_cons_of_pos (by rw [hnd, hq2]; rfl), List.filter_nil, List.length_singleton] at this
          exact this
        · rw [show P.any (eqT l[i].f2) = true from hq2, if_pos rfl]
          rw [List.filter_cons_of_neg (by rw [hnd, hq2]; decide), List.filter_nil, List.length_nil] at this
          exact this
    · rw [if_neg (by rw [hf]; decide)] at ih
      rw [Y1K hi2]
      have := ih q (by omega)
      simpa using this
end Go.Proofs.Yteopkkoblbmggaa.P
end
section
namespace Go.Proofs.Yteopkkoblbmggaa.P
open Go.RowKit Go.Proofs.YteopkkoblbmggaaW.PrintWords Go.Proofs.YteopkkoblbmggaaW.PrintLast Go.Proofs.YteopkkoblbmggaaW.PrintMore
attribute [local go_sem] YR YT Y11 Y12 YI YJ YS YU
set_option linter.unusedVariables false
set_option linter.unusedSimpArgs false
mutual
def YP.j0 : Nat → List Int → Int → Option (List Int)
 | 0, _, _ => none
 | k + 1, x0, x5 => YP.l0 k x0 x5
def YP.l0 : Nat → List Int → Int → Option (List Int)
 | 0, _, _ => none
 | k + 1, x0, x5 => if x5 ≥ 128 then (if x0.length < 140737488355328 then (YP.l0 k (x0 ++ [Go.bits .or .u8 ((x5) % 256) 128]) (x5 / 128)) else (none)) else (if x0.length < 140737488355328 then (some (x0 ++ [(x5) % 256])) else (none))
end
def YP.f (k : Nat) (l0 : List Int) (a1 : Int) : Option (List Int) := if a1 < 0 then (YP.j0 k l0 (Go.bits .xor .u64 18446744073709551615 (IntKind.u64.wrap ((IntKind.u64.wrap (a1)) * 2)))) else (YP.j0 k l0 (IntKind.u64.wrap ((IntKind.u64.wrap (a1)) * 2)))
theorem YP.mono_l : ∀ k, (∀ y0 y1, LeO (YP.j0 k y0 y1) (YP.j0 (k + 1) y0 y1)) ∧ (∀ y0 y1, LeO (YP.l0 k y0 y1) (YP.l0 (k + 1) y0 y1))
 | 0 => ⟨fun _ _ r h => by simp [YP.j0] at h, fun _ _ r h => by simp [YP.l0] at h⟩
 | k + 1 => by
  obtain ⟨ih0, ih1⟩ := YP.mono_l k
  refine ⟨?_, ?_⟩
  ·intro y0 y1
   unfold YP.j0
   repeat' first
   | (with_reducible exact ih0 _ _)
   | (with_reducible exact ih1 _ _)
   | (with_reducible exact LeO.refl _)
   | (with_reducible exact LeO.none _)
   | (with_reducible refine LeO.ite ?_ ?_)
   | (with_reducible refine LeO.bind ?_ (fun _ => ?_))
  ·intro y0 y1
   unfold YP.l0
   repeat' first
   | (with_reducible exact ih0 _ _)
   | (with_reducible exact ih1 _ _)
   | (with_reducible exact LeO.refl _)
   | (with_reducible exact LeO.none _)
   | (with_reducible refine LeO.ite ?_ ?_)
   | (with_reducible refine LeO.bind ?_ (fun _ => ?_))
theorem YP.mono : ∀ a0 a1 k, LeO (YP.f k a0 a1) (YP.f (k + 1) a0 a1) := by
 intro a0 a1 k
 obtain ⟨ih0, ih1⟩ := YP.mono_l k
 unfold YP.f
 repeat' first
   | (with_reducible exact ih0 _ _)
   | (with_reducible exact ih1 _ _)
   | (with_reducible exact LeO.refl _)
   | (with_reducible exact LeO.none _)
   | (with_reducible refine LeO.ite ?_ ?_)
   | (with_reducible refine LeO.bind ?_ (fun _ => ?_))
set_option maxHeartbeats 8000000 in
set_option maxRecDepth 100000 in
theorem YP.calls (k : Nat) (P0_ : Nat → Prop) (u9000_ : Value) (l0 : List Int) (a1 : Int) (r : List Int) (w0 w : World) (hB : Below w0.heap.size w0 w) (ho0 : Kd.R (Kd.int .u8) 5 w w0.heap.size P0_ u9000_ l0) (h : YP.f k l0 a1 = some r) :
  Calls Try.prog 144 #[u9000_, .int .i64 a1] w fun e w' => ∃ v0_ : Value, e = .returned (v0_) ∧ Kd.R (Kd.int .u8) 5 w' w0.heap.size (fun k_ => (P0_ k_ ∨ w.heap.size ≤ k_)) v0_ r ∧ Below w0.heap.size w0 w' ∧ Kept w w' (fun k_ => P0_ k_) := by
 have HO0 := Y0.mk (show Kd.R (Kd.int .u8) 5 w w0.heap.size (fun k_ => (P0_ k_ ∨ w.heap.size ≤ k_)) u9000_ l0 from Kd.R_mono ho0 (fun k_ hk => (.inl hk)))
 have HK := Y0.mk (Kept.refl w (fun k_ => P0_ k_))
 have HW0 := Y0.mk hB.size
 have HB := Y0.mk hB
 clear hB
 have H : (if a1 < 0 then (YP.j0 k l0 (Go.bits .xor .u64 18446744073709551615 (IntKind.u64.wrap ((IntKind.u64.wrap (a1)) * 2)))) else (YP.j0 k l0 (IntKind.u64.wrap ((IntKind.u64.wrap (a1)) * 2)))) = some r := h
 clear h
 have HC3 := Y0.mk H
 clear H
 go_enter Try.func144, Try.ntmps144
 go_upto_if 10 with (fail)
 go_cut [5] (fun v5 wc => ∃ (kq : Nat) (x5_2 : Int), v5 = .int .u64 x5_2 ∧ Y0 (YP.j0 kq l0 x5_2 = some r) ∧ Y0 (kq ≤ k) ∧ Y0 (Kd.R (Kd.int .u8) 5 wc w0.heap.size (fun k_ => (P0_ k_ ∨ w.heap.size ≤ k_)) u9000_ l0) ∧ Y0 (Kept w wc (fun k_ => P0_ k_)) ∧ Y0 (Below w0.heap.size w0 wc))
 case first =>
  have H := HC3.out
  clear HC3
  by_cases c4 : a1 < 0
  ·rw [if_pos c4] at H
   have c4b0 := decide_eq_true c4
   clear c4
   (first | rw [c4b0] | (simp only [i64_w, i32_w]; rw [c4b0]) | skip)
   have H' := Y0.mk H
   clear H
   go_wp2
   go_meet
   case rel => exact ⟨_, (Go.bits .xor .u64 18446744073709551615 (IntKind.u64.wrap ((IntKind.u64.wrap (a1)) * 2))), reS, H', ⟨by first | omega | exact Nat.le_refl _⟩, ⟨by (with_reducible repeat (first | apply Kd.R_alloc | apply Kd.R_drewN | apply Kd.R_drew)); exact HO0.out⟩, ⟨by repeat (first | (with_reducible first | exact HK.out | apply Kept.alloc | apply Kept.drewN | apply Kept.drew) | exact HK.out)⟩, ⟨hU HB.out⟩⟩
  ·rw [if_neg c4] at H
   have c4b0 := decide_eq_false c4
   clear c4
   (first | rw [c4b0] | (simp only [i64_w, i32_w]; rw [c4b0]) | skip)
   have H' := Y0.mk H
   clear H
   go_wp2
   go_meet
   case rel => exact ⟨_, (IntKind.u64.wrap ((IntKind.u64.wrap (a1)) * 2)), reS, H', ⟨by first | omega | exact Nat.le_refl _⟩, ⟨by (with_reducible repeat (first | apply Kd.R_alloc | apply Kd.R_drewN | apply Kd.R_drew)); exact HO0.out⟩, ⟨by repeat (first | (with_reducible first | exact HK.out | apply Kept.alloc | apply Kept.drewN | apply Kept.drew) | exact HK.out)⟩, ⟨hU HB.out⟩⟩
 case rest =>
  clear HC3
  try clear c1
  try clear p2
  try clear c4
  try clear c4b0
  obtain ⟨kq, x5_2, rfl, HA, HJ2, HO_0, HK, HB⟩ := hcut
  cases kq with
  | zero => exact absurd HA.out (by simp [YP.j0])
  | succ kj2 =>
   have H := HA.out
   clear HA
   simp only [YP.j0] at H
   have H' := Y0.mk H
   clear H
   go_wp2
   go_loopg [0, 5] kj2 (fun kq v0 v5 w' => ∃ (x0_2 : List Int) (x5_2 : Int), v5 = .int .u64 x5_2 ∧ Y0 (YP.l0 kq x0_2 x5_2 = some r) ∧ Y0 (kq ≤ kj2) ∧ Y0 (Kd.R (Kd.int .u8) 5 w' w0.heap.size (fun k_ => (P0_ k_ ∨ w.heap.size ≤ k_)) v0 x0_2) ∧ Y0 (Kept w w' (fun k_ => P0_ k_)) ∧ Y0 (Below w0.heap.size w0 w'))
   case atStart => exact ⟨(l0), (x5_2), reS, H', ⟨Nat.le_refl _⟩, ⟨by (with_reducible repeat (first | apply Kd.R_alloc | apply Kd.R_drewN | apply Kd.R_drew)); exact HO_0.out⟩, ⟨by repeat (first | (with_reducible first | exact HK.out | apply Kept.alloc | apply Kept.drewN | apply Kept.drew) | exact HK.out)⟩, ⟨hU HB.out⟩⟩
   case round =>
    clear H'
    try clear c1
    try clear p2
    try clear c4
    try clear c4b0
    try clear p2
    obtain ⟨x0_2, x5_2, rfl, HA, HK2, HO_0, HK, HB⟩ := hrel
    cases gk with
    | zero => exact absurd HA.out (by simp [YP.l0])
    | succ k2 =>
     have H := HA.out
     clear HA
     simp only [YP.l0] at H
     by_cases c5 : x5_2 ≥ 128
     ·rw [if_pos c5] at H
      have c5b0 := decide_eq_true c5
      clear c5
      obtain ⟨c6, H⟩ := iS H
      have LMc6 := Y0.mk c6
      clear c6
      obtain ⟨y1024, hy1024⟩ : ∃ y_ : List Int, y_ = (x0_2 ++ [Go.bits .or .u8 ((x5_2) % 256) 128]) := ⟨_, rfl⟩
      replace H : (YP.l0 k2 y1024 (x5_2 / 128)) = some r := by first | (rw [hy1024]; with_reducible exact H) | (have H2_ := (Option.bind_some _ _).symm.trans H; rw [hy1024]; with_reducible exact H2_) | (have H2_ := (Option.bind_some _ _).symm.trans H; with_reducible exact H2_) | with_reducible exact H | (rw [hy1024]; exact H) | exact H
      have Ny1024 := Y0.mk hy1024
      clear hy1024
      have H' := Y0.mk H
      clear H
      go_wp2_with (first | ((with_reducible refine Y1b (b := .append) (xs := #[.tmp 15, .tmp 19]) rfl ?_); at_builtin; refine Kd.R_append (Kd.int .u8) (w0 := w0) w0.heap.size rfl (.tmp 15) (.tmp 19) 60 5 (.int .u8 0) 1 rfl Try.underlying60 info5 rfl (by decide) (by omega) u0 x0_2 (Go.bits .or .u8 ((x5_2) % 256) 128) [.int .u8 (Go.bits .or .u8 ((x5_2) % 256) 128)] (fun k_ => (P0_ k_ ∨ w.heap.size ≤ k_)) (fun _ => False) rfl rfl ?aP (fun _ hk => hk.elim) ?aF ?aO ?aB ?aS ?aL ?_; (case aP => exact rfl); (case aB => exact (hU HB.out)); (case aF => exact (fun k_ hk => (.inr (Nat.le_trans (by first | exact HK.out.1 | exact (show Kept w _ (fun k_ => P0_ k_) from by repeat (first | (with_reducible first | exact HK.out | apply Kept.alloc | apply Kept.drewN | apply Kept.drew) | exact HK.out)).1) hk)))); (case aO => exact (Kd.rU HO_0.out)); (case aS => exact (Yf (hU HB.out))); (case aL => have := LMc6.out; omega); intro v_2 w7 ho hb hg hat; rw [← Ny1024.out] at ho; have n0_ := Y0.mk (hb); have n1_ := Y0.mk (Kept.of_grown (S := (fun k_ => P0_ k_)) hg (by repeat (first | (with_reducible first | exact HK.out | apply Kept.alloc | apply Kept.drewN | apply Kept.drew) | exact HK.out)) (fun k_ e_ => (HO_0.out.1 k_ e_))); have n2_ := Y0.mk (ho); clear HB; clear HK; clear HO_0; have HB := n0_; have HK := n1_; have O_4 := n2_; clear n0_ n1_ n2_; clear ho hb hg hat))
      go_roundg k2
      case measure => have := HJ2.out; have := HK2.out; omega
      case rel => exact ⟨(y1024), (x5_2 / 128), reS, H', ⟨by have := HJ2.out; have := HK2.out; omega⟩, ⟨by (with_reducible repeat (first | apply Kd.R_alloc | apply Kd.R_drewN | apply Kd.R_drew)); exact O_4.out⟩, ⟨by repeat (first | (with_reducible first | exact HK.out | apply Kept.alloc | apply Kept.drewN | apply Kept.drew) | exact HK.out)⟩, ⟨hU HB.out⟩⟩
     ·rw [if_neg c5] at H
      have c5b0 := decide_eq_false c5
      clear c5
      by_cases c8 : x0_2.length < 140737488355328
      rotate_left
      ·rw [if_neg c8] at H
       exact absurd H (by simp)
      rw [if_pos c8] at H
      have LMc8 := Y0.mk c8
      clear c8
      obtain ⟨y1027, hy1027⟩ : ∃ y_ : List Int, y_ = (x0_2 ++ [(x5_2) % 256]) := ⟨_, rfl⟩
      replace H : (some y1027) = some r := by first | (rw [hy1027]; with_reducible exact H) | (have H2_ := (Option.bind_some _ _).symm.trans H; rw [hy1027]; with_reducible exact H2_) | (have H2_ := (Option.bind_some _ _).symm.trans H; with_reducible exact H2_) | with_reducible exact H | (rw [hy1027]; exact H) | exact H
      have Ny1027 := Y0.mk hy1027
      clear hy1027
      obtain rfl := Option.some.inj H
      go_wp2_with (first | ((with_reducible refine Y1b (b := .append) (xs := #[.tmp 23, .tmp 26]) rfl ?_); at_builtin; refine Kd.R_append (Kd.int .u8) (w0 := w0) w0.heap.size rfl (.tmp 23) (.tmp 26) 60 5 (.int .u8 0) 1 rfl Try.underlying60 info5 rfl (by decide) (by omega) u0 x0_2 ((x5_2) % 256) [.int .u8 ((x5_2) % 256)] (fun k_ => (P0_ k_ ∨ w.heap.size ≤ k_)) (fun _ => False) rfl rfl ?aP (fun _ hk => hk.elim) ?aF ?aO ?aB ?aS ?aL ?_; (case aP => exact rfl); (case aB => exact (hU HB.out)); (case aF => exact (fun k_ hk => (.inr (Nat.le_trans (by first | exact HK.out.1 | exact (show Kept w _ (fun k_ => P0_ k_) from by repeat (first | (with_reducible first | exact HK.out | apply Kept.alloc | apply Kept.drewN | apply Kept.drew) | exact HK.out)).1) hk)))); (case aO => exact (Kd.rU HO_0.out)); (case aS => exact (Yf (hU HB.out))); (case aL => have := LMc8.out; omega); intro v_1 w9 ho hb hg hat; rw [← Ny1027.out] at ho; have n0_ := Y0.mk (hb); have n1_ := Y0.mk (Kept.of_grown (S := (fun k_ => P0_ k_)) hg (by repeat (first | (with_reducible first | exact HK.out | apply Kept.alloc | apply Kept.drewN | apply Kept.drew) | exact HK.out)) (fun k_ e_ => (HO_0.out.1 k_ e_))); have n2_ := Y0.mk (ho); clear HB; clear HK; clear HO_0; have HB := n0_; have HK := n1_; have O_2 := n2_; clear n0_ n1_ n2_; clear ho hb hg hat))
      go_ret
      exact ⟨_, reT, by (with_reducible repeat (first | apply Kd.R_alloc | apply Kd.R_drewN | apply Kd.R_drew)); exact O_2.out, hU HB.out, by repeat (first | (with_reducible first | exact HK.out | apply Kept.alloc | apply Kept.drewN | apply Kept.drew) | exact HK.out)⟩
def Y1Q.f (l0 : List Int) (a1 : Int) : Option (List Int) := if 0 ≤ (wrap64 ((l0.length : Int) + a1)) then (if (wrap64 ((l0.length : Int) + a1) : Int).toNat ≤ 281474976710656 then ((some (([] : List Int) : List Int)).bind fun y1030 => (if y1030.length + l0.length < 140737488355328 then (some (y1030 ++ l0)) else (none))) else (none)) else (none)
set_option maxHeartbeats 8000000 in
set_option maxRecDepth 100000 in
theorem Y1Q.calls (A0 : Option Addr) (c0 : Nat) (l0 : List Int) (a1 : Int) (r : List Int) (w : World) (hr0 : Kd.C (Kd.int .u8) w A0 l0.length l0) (hc0 : l0.length ≤ c0) (h : Y1Q.f l0 a1 = some r) :
  Calls Try.prog 145 #[.slice A0 l0.length c0, .int .i64 a1] w fun e w' => ∃ v0_ : Value, e = .returned (v0_) ∧ Kd.R (Kd.int .u8) 5 w' w.heap.size (fun _ => True) v0_ r ∧ Below w.heap.size w w' := by
 have HR0 := Y0.mk hr0
 have HC0 := Y0.mk hc0
 clear hr0 hc0
 have HB := Y0.mk (Below.refl w.heap.size w)
 have H : (if 0 ≤ (wrap64 ((l0.length : Int) + a1)) then (if (wrap64 ((l0.length : Int) + a1) : Int).toNat ≤ 281474976710656 then ((some (([] : List Int) : List Int)).bind fun y1030 => (if y1030.length + l0.length < 140737488355328 then (some (y1030 ++ l0)) else (none))) else (none)) else (none)) = some r := h
 clear h
 obtain ⟨ji3, hji3⟩ : ∃ j_ : Int, (wrap64 ((l0.length : Int) + a1)) = j_ := ⟨_, rfl⟩
 replace H : (if 0 ≤ (ji3) then (if (ji3 : Int).toNat ≤ 281474976710656 then ((some (([] : List Int) : List Int)).bind fun y1030 => (if y1030.length + l0.length < 140737488355328 then (some (y1030 ++ l0)) else (none))) else (none)) else (none)) = some r := by first | (rw [hji3] at H; exact H) | (simp only [hji3] at H ⊢; exact H)
 have hji3w : (IntKind.i64.wrap ((l0.length : Int) + a1)) = ji3 := (i64_w _).trans hji3
 by_cases c4 : 0 ≤ (ji3)
 rotate_left
 ·rw [if_neg c4] at H
  exact absurd H (by simp)
 rw [if_pos c4] at H
 have c4b0 := eq_true c4
 have c4b1 := decide_eq_true c4
 clear c4
 obtain ⟨c5, H⟩ := iS H
 have c5b0 := eq_true c5
 have c5b1 := decide_eq_true c5
 clear c5
 obtain ⟨y1030, hy1030⟩ : ∃ y_ : List Int, y_ = (([] : List Int)) := ⟨_, rfl⟩
 replace H : (if y1030.length + l0.length < 140737488355328 then (some (y1030 ++ l0)) else (none)) = some r := by first | (rw [hy1030]; with_reducible exact H) | (have H2_ := (Option.bind_some _ _).symm.trans H; rw [hy1030]; with_reducible exact H2_) | (have H2_ := (Option.bind_some _ _).symm.trans H; with_reducible exact H2_) | with_reducible exact H | (rw [hy1030]; exact H) | exact H
 have Ny1030 := Y0.mk hy1030
 clear hy1030
 obtain ⟨c6, H⟩ := iS H
 have LMc6 := Y0.mk c6
 clear c6
 obtain ⟨y1033, hy1033⟩ : ∃ y_ : List Int, y_ = (y1030 ++ l0) := ⟨_, rfl⟩
 replace H : (some y1033) = some r := by first | (rw [hy1033]; with_reducible exact H) | (have H2_ := (Option.bind_some _ _).symm.trans H; rw [hy1033]; with_reducible exact H2_) | (have H2_ := (Option.bind_some _ _).symm.trans H; with_reducible exact H2_) | with_reducible exact H | (rw [hy1033]; exact H) | exact H
 have Ny1033 := Y0.mk hy1033
 clear hy1033
 obtain rfl := Option.some.inj H
 go_enter Try.func145, Try.ntmps145
 go_wp2_with (first | ((with_reducible refine Ye (N := 10) rfl ?_); refine Kd.R_makecap (Kd.int .u8) _ 5 rfl (N := 10) rfl 60 _ _ rfl ji3 rfl rfl Try.underlying60 (.int .u8 0) 1 info5 rfl (by decide) (by omega) 0 (ok := fun _ => True) (okp := fun _ => True) rfl (fun _ hk => hk) trivial (of_decide_eq_true (by first | (with_reducible assumption) | assumption)) (Nat.le_trans (Nat.mul_le_mul_right _ (of_decide_eq_true (by first | (with_reducible assumption) | assumption) : ji3.toNat ≤ 281474976710656)) (by omega)) (Below.refl _ _) (Nat.le_refl _) ?_; intro v_0 w7 ho8 hb hg_ hnew_; clear hg_ hnew_; (first | rw [← Ny1030.out] at ho8 | (simp only [Int.reduceToNat] at ho8; rw [← Ny1030.out] at ho8)); have n0_ := Y0.mk (Kd.R_lower ho8 (Yf (hU HB.out))); have n1_ := Y0.mk (Y3 (hU HB.out) hb); clear HB; have O_1 := n0_; have HB := n1_; clear n0_ n1_; clear hb ho8) | ((with_reducible refine Y1b (b := .append) (xs := #[.tmp 11, .tmp 12]) rfl ?_); at_builtin; refine Kd.R_append_rows (Kd.int .u8) (w0 := w) w.heap.size rfl (.tmp 11) (.tmp 12) 60 5 (.int .u8 0) 1 rfl Try.underlying60 info5 rfl (by decide) (by omega) v_0 y1030 l0 _ _ _ (fun _ => True) (fun _ => False) rfl rfl ?aO ?aR (fun _ _ h => h) (fun _ h => h.elim) ?aF ?aB ?aS ?aL ?_; (case aR => repeat (first | exact (Kd.C_below HR0.out HB.out) | (with_reducible refine Kd.C_alloc ?_ _) | (with_reducible refine Kd.C_drewN ?_ _) | (with_reducible refine Kd.C_drew ?_))); (case aB => exact (hU HB.out)); (case aF => exact (fun _ _ => trivial)); (case aO => exact (Kd.rU O_1.out)); (case aS => exact (Yf (hU HB.out))); (case aL => have := LMc6.out; omega); intro v_3 w9 ho hb hg hat; rw [← Ny1033.out] at ho; have n0_ := Y0.mk (hb); have n1_ := Y0.mk (ho); clear HB; clear O_1; have HB := n0_; have O_5 := n1_; clear n0_ n1_; clear ho hb hg hat))
 go_ret
 exact ⟨_, by first | rfl | (simp [Y1m, Y1n] <;> rfl) | (simp only [← hji3]; first | rfl | (simp [Y1m, Y1n] <;> rfl)) | (simp [*, Y1m, Y1n] <;> rfl), by (with_reducible repeat (first | apply Kd.R_alloc | apply Kd.R_drewN | apply Kd.R_drew)); exact O_5.out, hU HB.out⟩
def Y16.f (k : Nat) (l0 : List Int) (a1 : Int) : Option (List Int) := (Y1Q.f l0 10).bind fun t_0 => ((YP.f k t_0 a1).bind fun t_1 => (some t_1))
theorem Y16.mono : ∀ a0 a1 k, LeO (Y16.f k a0 a1) (Y16.f (k + 1) a0 a1) := by
 intro a0 a1 k
 unfold Y16.f
 repeat' first
   | (with_reducible exact YP.mono _ _ _)
   | (with_reducible exact LeO.refl _)
   | (with_reducible exact LeO.none _)
   | (with_reducible refine LeO.ite ?_ ?_)
   | (with_reducible refine LeO.bind ?_ (fun _ => ?_))
set_option maxHeartbeats 8000000 in
set_option maxRecDepth 100000 in
theorem Y16.calls (k : Nat) (A0 : Option Addr) (c0 : Nat) (l0 : List Int) (a1 : Int) (r : List Int) (w : World) (hr0 : Kd.C (Kd.int .u8) w A0 l0.length l0) (hc0 : l0.length ≤ c0) (h : Y16.f k l0 a1 = some r) :
  Calls Try.prog 110 #[.slice A0 l0.length c0, .int .i64 a1] w fun e w' => ∃ v0_ : Value, e = .returned (v0_) ∧ Kd.R (Kd.int .u8) 5 w' w.heap.size (fun _ => True) v0_ r ∧ Below w.heap.size w w' := by
 have HR0 := Y0.mk hr0
 have HC0 := Y0.mk hc0
 clear hr0 hc0
 have HB := Y0.mk (Below.refl w.heap.size w)
 have H : ((Y1Q.f l0 10).bind fun t_0 => ((YP.f k t_0 a1).bind fun t_1 => (some t_1))) = some r := h
 clear h
 obtain ⟨t_0, A30, H⟩ := bS H
 replace H : ((YP.f k t_0 a1).bind fun t_1 => (some t_1)) = some r := H
 have A3 := Y0.mk A30
 clear A30
 obtain ⟨t_1, A40, H⟩ := bS H
 replace H : (some t_1) = some r := H
 have A4 := Y0.mk A40
 clear A40
 obtain rfl := Option.some.inj H
 go_enter Try.func110, Try.ntmps110
 go_wp2_with (first | ((with_reducible refine Yc (f := 145) rfl ?_); refine goesA (some 6) Try.func145 #[.slice A0 l0.length c0, .int .i64 10] ?_; (with_reducible refine (Y1Q.calls _ _ l0 10 t_0 _ ?side1 ?side2 A3.out).mono ?_); (case side1 => repeat (first | exact HR0.out | (with_reducible refine Kd.C_alloc ?_ _) | (with_reducible refine Kd.C_drewN ?_ _) | (with_reducible refine Kd.C_drew ?_))); (case side2 => exact HC0.out); rintro e w5 ⟨v_5, rfl, ho0, hb⟩; refine ⟨_, rfl, ?_⟩; replace O_0 := Y0.mk (Kd.R_lower ho0 (Yf (hU HB.out))); replace HB := Y0.mk (Y3 (hU HB.out) hb); (try clear hb); (try clear hb2); (try clear hk); (try clear hi); (try clear ho0); obtain ⟨Ao6, co6, eo6⟩ := Kd.R_slice O_0.out; subst eo6) | ((with_reducible refine Yc (f := 144) rfl ?_); refine goesA (some 8) Try.func144 #[.slice Ao6 t_0.length co6, .int .i64 a1] ?_; (with_reducible refine (YP.calls k (fun k_ => some k_ = (.slice Ao6 t_0.length co6 : Value).ownBlock) (.slice Ao6 t_0.length co6) t_0 a1 t_1 w _ ?side1 ?side2 A4.out).mono ?_); (case side1 => repeat (first | (with_reducible first | exact HB.out | apply Ys | apply Y1k | apply Yy) | exact HB.out)); (case side2 => exact Kd.R_tight rfl O_0.out); rintro e w7 ⟨v_4, rfl, ho0, hb, hkp⟩; refine ⟨_, rfl, ?_⟩; replace O_3 := Y0.mk (Kd.R_mono (ok' := fun k_ => True) ho0 (fun k_ hk_ => trivial)); replace HB := Y0.mk (hb); (try clear O_0); (try clear hb); (try clear hkp); (try clear ho0)))
 go_ret
 exact ⟨_, reT, by (with_reducible repeat (first | apply Kd.R_alloc | apply Kd.R_drewN | apply Kd.R_drew)); exact O_3.out, hU HB.out⟩
end Go.Proofs.Yteopkkoblbmggaa.P
end

/- Texts of this claim in one: VMrgP, VOrdP, VCnvP, PureReplicaConverges; no condition. -/
import Derived.Test.YteopkkoblbmggaaQAAE
import Derived.Test.YteopkkoblbmggaaQAAH
import Derived.Test.YteopkkoblbmggaaQAAR
import Derived.Test.YteopkkoblbmggaaQAAJ
import Derived.Test.YteopkkoblbmggaaQAAI
import Derived.Test.YteopkkoblbmggaaQAAM
import Derived.Test.YteopkkoblbmggaaQAAQ
import Derived.Test.YteopkkoblbmggaaQAAS
import Derived.Test.YteopkkoblbmggaaQAAN
import Derived.Test.YteopkkoblbmggaaQAAL
import Derived.Test.YteopkkoblbmggaaQAAP
import Derived.Test.YteopkkoblbmggaaQAAO
import Derived.Test.YteopkkoblbmggaaQAAT
section
set_option linter.unusedVariables false
set_option linter.unusedSimpArgs false
namespace Go.Proofs.Yteopkkoblbmggaa.P
open Go.RowKit Go.Proofs.YteopkkoblbmggaaW.PrintWords Go.Proofs.YteopkkoblbmggaaW.PrintLast Go.Proofs.YteopkkoblbmggaaW.PrintMore
def Y1C (A B : List S30) : Prop := ∀ a ∈ A, ∀ b ∈ B, a.f0.f0 = b.f0.f0 → a.f0.f1 = b.f0.f1 → a = b
theorem Y2X {a : S30} {A B : List S30} (h : ∀ b ∈ B, YV a.f0 b.f0 = true) : Y1C (a :: A) B ↔ Y1C A B := by
  constructor
  · exact fun q x hx => q x (List.mem_cons_of_mem _ hx)
  · intro q x hx b hb e0 e1
    rcases List.mem_cons.1 hx with rfl | hx
    · have := h b hb
      simp [YV, lessP] at this
      omega
    · exact q x hx b hb e0 e1
theorem Y2C {b : S30} {A B : List S30} (h : ∀ a ∈ A, YV b.f0 a.f0 = true) : Y1C A (b :: B) ↔ Y1C A B := by
  constructor
  · exact fun q x hx y hy => q x hx y (List.mem_cons_of_mem _ hy)
  · intro q x hx y hy e0 e1
    rcases List.mem_cons.1 hy with rfl | hy
    · have := h x hx
      simp [YV, lessP] at this
      omega
    · exact q x hx y hy e0 e1
theorem Y2V {a : S30} {A B : List S30} (hA : ∀ x ∈ A, YV a.f0 x.f0 = true) (hB : ∀ x ∈ B, YV a.f0 x.f0 = true) : Y1C (a :: A) (a :: B) ↔ Y1C A B := by
  constructor
  · exact fun q x hx y hy => q x (List.mem_cons_of_mem _ hx) y (List.mem_cons_of_mem _ hy)
  · intro q x hx y hy e0 e1
    rcases List.mem_cons.1 hx with ex | hx'
    · rcases List.mem_cons.1 hy with ey | hy'
      · rw [ex, ey]
      · have := hB y hy'; rw [ex] at e0 e1; simp [YV, lessP] at this; omega
    · rcases List.mem_cons.1 hy with ey | hy'
      · have := hA x hx'; rw [ey] at e0 e1; simp [YV, lessP] at this; omega
      · exact q x hx' y hy' e0 e1
abbrev Str (l : List S30) : Prop := l.Pairwise (fun x y => YV x.f0 y.f0 = true)
def fin (D : Int) (l : List S30) : Int × List S30 × Int := if (l.length : Int) > 512 then (0, [], 3) else (D, l, 0)
def Mrg (D : Int) (out A B : List S30) (r : Option (Int × List S30 × Int)) : Prop :=
  (Y1C A B → ∃ U, r = some (fin D (out ++ U)) ∧ Str U ∧ (∀ y, y ∈ U ↔ y ∈ A ∨ y ∈ B) ∧ U.length ≤ A.length + B.length) ∧ (¬ Y1C A B → r = some (0, [], 7))
theorem Y4u {D : Int} {out A B : List S30} {a : S30} {r : Option (Int × List S30 × Int)} (hA : ∀ x ∈ A, YV a.f0 x.f0 = true) (hB : ∀ x ∈ B, YV a.f0 x.f0 = true) (h : Mrg D (out ++ [a]) A B r) : Mrg D out (a :: A) B r := by
  refine ⟨fun hc => ?_, fun hc => h.2 (fun q => hc ((Y2X hB).2 q))⟩
  obtain ⟨U, hr, hs, hm, hl⟩ := h.1 ((Y2X hB).1 hc)
  refine ⟨a :: U, by rw [hr, List.append_assoc]; rfl, List.pairwise_cons.2 ⟨fun x hx => ?_, hs⟩, fun y => ?_, by simp; omega⟩
  · rcases (hm x).1 hx with hx | hx
    · exact hA x hx
    · exact hB x hx
  · rw [List.mem_cons, hm, List.mem_cons]
    exact or_assoc.symm
theorem Y3P {D : Int} {out A B : List S30} {b : S30} {r : Option (Int × List S30 × Int)} (hA : ∀ x ∈ A, YV b.f0 x.f0 = true) (hB : ∀ x ∈ B, YV b.f0 x.f0 = true) (h : Mrg D (out ++ [b]) A B r) : Mrg D out A (b :: B) r := by
  refine ⟨fun hc => ?_, fun hc => h.2 (fun q => hc ((Y2C hA).2 q))⟩
  obtain ⟨U, hr, hs, hm, hl⟩ := h.1 ((Y2C hA).1 hc)
  refine ⟨b :: U, by rw [hr, List.append_assoc]; rfl, List.pairwise_cons.2 ⟨fun x hx => ?_, hs⟩, fun y => ?_, by simp; omega⟩
  · rcases (hm x).1 hx with hx | hx
    · exact hA x hx
    · exact hB x hx
  · rw [List.mem_cons, hm, List.mem_cons]
    constructor
    · rintro (q | q | q)
      · exact Or.inr (Or.inl q)
      · exact Or.inl q
      · exact Or.inr (Or.inr q)
    · rintro (q | q | q)
      · exact Or.inr (Or.inl q)
      · exact Or.inl q
      · exact Or.inr (Or.inr q)
theorem Y5I {D : Int} {out A B : List S30} {a : S30} {r : Option (Int × List S30 × Int)} (hA : ∀ x ∈ A, YV a.f0 x.f0 = true) (hB : ∀ x ∈ B, YV a.f0 x.f0 = true) (h : Mrg D (out ++ [a]) A B r) : Mrg D out (a :: A) (a :: B) r := by
  refine ⟨fun hc => ?_, fun hc => h.2 (fun q => hc ((Y2V hA hB).2 q))⟩
  obtain ⟨U, hr, hs, hm, hl⟩ := h.1 ((Y2V hA hB).1 hc)
  refine ⟨a :: U, by rw [hr, List.append_assoc]; rfl, List.pairwise_cons.2 ⟨fun x hx => ?_, hs⟩, fun y => ?_, by simp; omega⟩
  · rcases (hm x).1 hx with hx | hx
    · exact hA x hx
    · exact hB x hx
  · rw [List.mem_cons, hm, List.mem_cons, List.mem_cons]
    constructor
    · rintro (q | q | q)
      · exact Or.inl (Or.inl q)
      · exact Or.inl (Or.inr q)
      · exact Or.inr (Or.inr q)
    · rintro ((q | q) | (q | q))
      · exact Or.inl q
      · exact Or.inr (Or.inl q)
      · exact Or.inl q
      · exact Or.inr (Or.inr q)
theorem Y6l (D : Int) (out : List S30) : Mrg D out [] [] (some (fin D out)) := by
  refine ⟨fun _ => ⟨[], by rw [List.append_nil], List.Pairwise.nil, fun y => by simp, Nat.zero_le _⟩, fun h => ?_⟩
  exact absurd (fun a ha => absurd ha (List.not_mem_nil)) h
theorem Y6k {D : Int} {out A B : List S30} (h : ¬ Y1C A B) : Mrg D out A B (some (0, [], 7)) := ⟨fun q => absurd q h, fun _ => rfl⟩
theorem eq30 {a b : S30} (h : eqE a b = true) : a = b := by
  obtain ⟨⟨a0, a1⟩, a2, ⟨a3, a4⟩, a5, ⟨a6, a7, a8, a9, a10, a11, a12⟩⟩ := a
  obtain ⟨⟨b0, b1⟩, b2, ⟨b3, b4⟩, b5, ⟨b6, b7, b8, b9, b10, b11, b12⟩⟩ := b
  simp [eqE] at h
  simp [h]
theorem Y1S {l : List S30} (h : Str l) {i : Nat} (hi : i < l.length) : ∀ x ∈ l.drop (i + 1), YV l[i].f0 x.f0 = true := by
  have : Str (l.drop i) := List.Pairwise.sublist (List.drop_sublist i l) h
  rw [List.drop_eq_getElem_cons hi] at this
  exact (List.pairwise_cons.1 this).1
theorem Y2z {i : Nat} (h : i ≤ 2000) : wrap64 ((i : Int) + 1) = ((i + 1 : Nat) : Int) := by unfold wrap64; omega
theorem m_end (dA dB D : Int) (A B : List S30) (i j k : Nat) (out : List S30) (hi : i = A.length) (hj : j = B.length) : Yb.l0 (k + 4) (i : Int) (j : Int) dA A dB B D out = some (fin D out) := by
  subst hi hj
  unfold fin
  rw [Yb.l0, if_neg (Int.lt_irrefl _), show decide ((B.length : Int) < (B.length : Int)) = false from decide_eq_false (Int.lt_irrefl _), Yb.j1, if_neg (by decide)]
  split <;> rfl
theorem m_r (dA dB D : Int) (A B : List S30) (i j k : Nat) (out : List S30) (hi : i = A.length) (hj : j < B.length) (hb : j ≤ 2000) (ho : out.length ≤ 1300) : Yb.l0 (k + 4) (i : Int) (j : Int) dA A dB B D out = Yb.l0 k (i : Int) ((j + 1 : Nat) : Int) dA A dB B D (out ++ [B[j]]) := by
  have hwj := Y2z hb
  rw [Yb.l0, if_neg (by omega), show decide ((j : Int) < (B.length : Int)) = true from decide_eq_true (by omega), Yb.j1, if_pos rfl, if_neg (by omega), if_neg (by omega), Yb.j2, if_neg (by decide), if_pos (by omega), Yb.j3, if_pos rfl, if_pos (by omega), if_pos (by omega), if_pos (by omega), Y1l hj, hwj]
theorem m_a (dA dB D : Int) (A B : List S30) (i j k : Nat) (out : List S30) (hi : i < A.length) : Yb.l0 (k + 4) (i : Int) (j : Int) dA A dB B D out = Yb.j1 (k + 3) (i : Int) (j : Int) true dA A dB B D out := by
  rw [Yb.l0, if_pos (by omega)]
theorem m_l (dA dB D : Int) (A B : List S30) (i j k : Nat) (out : List S30) (hi : i < A.length) (hj : j = B.length) (hb : i ≤ 2000) (ho : out.length ≤ 1300) : Yb.j1 (k + 3) (i : Int) (j : Int) true dA A dB B D out = Yb.l0 (k + 1) ((i + 1 : Nat) : Int) (j : Int) dA A dB B D (out ++ [A[i]]) := by
  have hwi := Y2z hb
  rw [Yb.j1, if_pos rfl, if_pos (by omega), Yb.j2, if_pos rfl, if_pos (by omega), if_pos (by omega), if_pos (by omega), Y1l hi, hwi]
theorem m_j1 (dA dB D : Int) (A B : List S30) (i j k : Nat) (out : List S30) (hi : i < A.length) (hj : j < B.length) : Yb.j1 (k + 3) (i : Int) (j : Int) true dA A dB B D out = Yb.j2 (k + 2) (i : Int) (j : Int) (YV A[i].f0 B[j].f0) dA A dB B D out := by
  rw [Yb.j1, if_pos rfl, if_neg (by omega), if_pos (by omega), if_pos (by omega), if_pos (by omega), if_pos (by omega), Y1l hi, Y1l hj, Y1F, Option.bind_some]
  rfl
theorem m_j2 (dA dB D : Int) (A B : List S30) (i j k : Nat) (out : List S30) (hi : i < A.length) (hj : j < B.length) : Yb.j2 (k + 2) (i : Int) (j : Int) false dA A dB B D out = Yb.j3 (k + 1) (i : Int) (j : Int) (YV B[j].f0 A[i].f0) dA A dB B D out := by
  rw [Yb.j2, if_neg (by decide), if_neg (by omega), if_pos (by omega), if_pos (by omega), if_pos (by omega), if_pos (by omega), Y1l hi, Y1l hj, Y1F, Option.bind_some]
  rfl
theorem m_j2t (dA dB D : Int) (A B : List S30) (i j k : Nat) (out : List S30) (hi : i < A.length) (hb : i ≤ 2000) (ho : out.length ≤ 1300) : Yb.j2 (k + 2) (i : Int) (j : Int) true dA A dB B D out = Yb.l0 (k + 1) ((i + 1 : Nat) : Int) (j : Int) dA A dB B D (out ++ [A[i]]) := by
  have hwi := Y2z hb
  rw [Yb.j2, if_pos rfl, if_pos (by omega), if_pos (by omega), if_pos (by omega), Y1l hi, hwi]
theorem m_j3t (dA dB D : Int) (A B : List S30) (i j k : Nat) (out : List S30) (hj : j < B.length) (hb : j ≤ 2000) (ho : out.length ≤ 1300) : Yb.j3 (k + 1) (i : Int) (j : Int) true dA A dB B D out = Yb.l0 k (i : Int) ((j + 1 : Nat) : Int) dA A dB B D (out ++ [B[j]]) := by
  have hwj := Y2z hb
  rw [Yb.j3, if_pos rfl, if_pos (by omega), if_pos (by omega), if_pos (by omega), Y1l hj, hwj]
theorem m_j3e (dA dB D : Int) (A B : List S30) (i j k : Nat) (out : List S30) (hi : i < A.length) (hj : j < B.length) (hbi : i ≤ 2000) (hb : j ≤ 2000) (ho : out.length ≤ 1300) (he : B[j] = A[i]) : Yb.j3 (k + 1) (i : Int) (j : Int) false dA A dB B D out = Yb.l0 k ((i + 1 : Nat) : Int) ((j + 1 : Nat) : Int) dA A dB B D (out ++ [A[i]]) := by
  have hwi := Y2z hbi
  have hwj := Y2z hb
  rw [Yb.j3, if_neg (by decide), if_pos (by omega), if_pos (by omega), if_pos (by omega), if_pos (by omega), Y1l hi, Y1l hj, if_neg (by rw [he]; simp), if_pos (by omega), hwi, hwj]
theorem m_j3n (dA dB D : Int) (A B : List S30) (i j k : Nat) (out : List S30) (hi : i < A.length) (hj : j < B.length) (hn : eqE A[i] B[j] = false) : Yb.j3 (k + 1) (i : Int) (j : Int) false dA A dB B D out = some (0, [], 7) := by
  have hb := congrArg (fun b => !b) hn
  simp only [eqE, Bool.not_and, Bool.not_false] at hb
  rw [Yb.j3, if_neg (by decide), if_pos (by omega), if_pos (by omega), if_pos (by omega), if_pos (by omega), Y1l hi, Y1l hj, if_pos hb]
theorem Y4V {a : S30} {l : List S30} : a ∈ a :: l := List.mem_cons_self
theorem Y6u {x y : S30} (h1 : YV x.f0 y.f0 = false) (h2 : YV y.f0 x.f0 = false) : x.f0.f0 = y.f0.f0 ∧ x.f0.f1 = y.f0.f1 := by
  simp [YV, lessP] at h1 h2
  omega
theorem under {a : S30} {l : List S30} {x : S30} (h : YV x.f0 a.f0 = true) (hl : ∀ y ∈ l, YV a.f0 y.f0 = true) : ∀ y ∈ a :: l, YV x.f0 y.f0 = true := by
  intro y hy
  rcases List.mem_cons.1 hy with rfl | hy
  · exact h
  · exact Y27 h (hl y hy)
theorem Y6K (dA dB D : Int) (A B : List S30) (hA : Str A) (hB : Str B) (i j k : Nat) (out : List S30) (hi : i < A.length) (hj : j < B.length) (hbi : i ≤ 2000) (hb : j ≤ 2000) (ho : out.length ≤ 1300)
    (h1 : Mrg D (out ++ [A[i]]) (A.drop (i + 1)) (B.drop j) (Yb.l0 (k + 1) ((i + 1 : Nat) : Int) (j : Int) dA A dB B D (out ++ [A[i]])))
    (h2 : Mrg D (out ++ [B[j]]) (A.drop i) (B.drop (j + 1)) (Yb.l0 k (i : Int) ((j + 1 : Nat) : Int) dA A dB B D (out ++ [B[j]])))
    (h3 : Mrg D (out ++ [A[i]]) (A.drop (i + 1)) (B.drop (j + 1)) (Yb.l0 k ((i + 1 : Nat) : Int) ((j + 1 : Nat) : Int) dA A dB B D (out ++ [A[i]]))) :
    Mrg D out (A.drop i) (B.drop j) (Yb.l0 (k + 4) (i : Int) (j : Int) dA A dB B D out) := by
  rw [m_a _ _ _ _ _ _ _ _ _ hi, m_j1 _ _ _ _ _ _ _ _ _ hi hj]
  cases c1 : YV A[i].f0 B[j].f0
  · rw [m_j2 _ _ _ _ _ _ _ _ _ hi hj]
    cases c2 : YV B[j].f0 A[i].f0
    · cases c3 : eqE A[i] B[j]
      · rw [m_j3n _ _ _ _ _ _ _ _ _ hi hj c3]
        refine Y6k (fun hc => ?_)
        have hst := Y6u c1 c2
        rw [List.drop_eq_getElem_cons hi, List.drop_eq_getElem_cons hj] at hc
        have he := hc A[i] Y4V B[j] Y4V hst.1 hst.2
        rw [← he] at c3
        simp [eqE] at c3
      · have he := eq30 c3
        rw [m_j3e _ _ _ _ _ _ _ _ _ hi hj hbi hb ho he.symm, List.drop_eq_getElem_cons hi, List.drop_eq_getElem_cons hj, ← he]
        exact Y5I (Y1S hA hi) (fun x hx => by rw [he]; exact Y1S hB hj x hx) h3
    · rw [m_j3t _ _ _ _ _ _ _ _ _ hj hb ho, List.drop_eq_getElem_cons hj]
      exact Y3P (by rw [List.drop_eq_getElem_cons hi]; exact under c2 (Y1S hA hi)) (Y1S hB hj) h2
  · rw [m_j2t _ _ _ _ _ _ _ _ _ hi hbi ho, List.drop_eq_getElem_cons hi]
    exact Y4u (Y1S hA hi) (by rw [List.drop_eq_getElem_cons hj]; exact under c1 (Y1S hB hj)) h1
theorem Y6L (dA dB D : Int) (A B : List S30) (hA : Str A) (i j k : Nat) (out : List S30) (hi : i < A.length) (hj : j = B.length) (hbi : i ≤ 2000) (ho : out.length ≤ 1300)
    (h1 : Mrg D (out ++ [A[i]]) (A.drop (i + 1)) (B.drop j) (Yb.l0 (k + 1) ((i + 1 : Nat) : Int) (j : Int) dA A dB B D (out ++ [A[i]]))) :
    Mrg D out (A.drop i) (B.drop j) (Yb.l0 (k + 4) (i : Int) (j : Int) dA A dB B D out) := by
  rw [m_a _ _ _ _ _ _ _ _ _ hi, m_l _ _ _ _ _ _ _ _ _ hi hj hbi ho, List.drop_eq_getElem_cons hi]
  refine Y4u (Y1S hA hi) (fun x hx => ?_) h1
  rw [List.drop_eq_nil_of_le (Nat.le_of_eq hj.symm)] at hx
  exact absurd hx List.not_mem_nil
theorem Y6j (dA dB D : Int) (A B : List S30) (hB : Str B) (i j k : Nat) (out : List S30) (hi : i = A.length) (hj : j < B.length) (hb : j ≤ 2000) (ho : out.length ≤ 1300)
    (h2 : Mrg D (out ++ [B[j]]) (A.drop i) (B.drop (j + 1)) (Yb.l0 k (i : Int) ((j + 1 : Nat) : Int) dA A dB B D (out ++ [B[j]]))) :
    Mrg D out (A.drop i) (B.drop j) (Yb.l0 (k + 4) (i : Int) (j : Int) dA A dB B D out) := by
  rw [m_r _ _ _ _ _ _ _ _ _ hi hj hb ho, List.drop_eq_getElem_cons hj]
  refine Y3P (fun x hx => ?_) (Y1S hB hj) h2
  rw [List.drop_eq_nil_of_le (Nat.le_of_eq hi.symm)] at hx
  exact absurd hx List.not_mem_nil
theorem Y60 (dA dB D : Int) (A B : List S30) (i j k : Nat) (out : List S30) (hi : i = A.length) (hj : j = B.length) : Mrg D out (A.drop i) (B.drop j) (Yb.l0 (k + 4) (i : Int) (j : Int) dA A dB B D out) := by
  rw [m_end _ _ _ _ _ _ _ _ _ hi hj, List.drop_eq_nil_of_le (Nat.le_of_eq hi.symm), List.drop_eq_nil_of_le (Nat.le_of_eq hj.symm)]
  exact Y6l D out
theorem Y2b (dA dB D : Int) (A B : List S30) (hA : Str A) (hB : Str B) (hlA : A.length ≤ 600) (hlB : B.length ≤ 600) : ∀ (m i j k : Nat) (out : List S30), (A.length - i) + (B.length - j) ≤ m → i ≤ A.length → j ≤ B.length → 4 * m + 4 ≤ k → out.length + m ≤ 1300 →
    Mrg D out (A.drop i) (B.drop j) (Yb.l0 k (i : Int) (j : Int) dA A dB B D out)
  | 0, i, j, k, out, hm, hi, hj, hk, ho => by
    have h1 : i = A.length := by omega
    have h2 : j = B.length := by omega
    obtain ⟨q, hq⟩ : ∃ q, k = q + 4 := ⟨k - 4, by omega⟩
    rw [hq]
    exact Y60 dA dB D A B i j q out h1 h2
  | m + 1, i, j, k, out, hm, hi, hj, hk, ho => by
    obtain ⟨q, hq⟩ : ∃ q, k = q + 4 := ⟨k - 4, by omega⟩
    rw [hq]
    have hk' : 4 * m + 4 ≤ q := by omega
    have hk1 : 4 * m + 4 ≤ q + 1 := by omega
    have ho' : ∀ x : S30, (out ++ [x]).length + m ≤ 1300 := fun x => by rw [List.length_append, List.length_singleton]; omega
    have hoo : out.length ≤ 1300 := by omega
    have bi : i ≤ 2000 := by omega
    have bj : j ≤ 2000 := by omega
    by_cases ci : i < A.length
    · by_cases cj : j < B.length
      · exact Y6K dA dB D A B hA hB i j q out ci cj bi bj hoo
          (Y2b dA dB D A B hA hB hlA hlB m (i + 1) j (q + 1) _ (by omega) ci hj hk1 (ho' _))
          (Y2b dA dB D A B hA hB hlA hlB m i (j + 1) q _ (by omega) hi cj hk' (ho' _))
          (Y2b dA dB D A B hA hB hlA hlB m (i + 1) (j + 1) q _ (by omega) ci cj hk' (ho' _))
      · exact Y6L dA dB D A B hA i j q out ci (by omega) bi hoo (Y2b dA dB D A B hA hB hlA hlB m (i + 1) j (q + 1) _ (by omega) ci hj hk1 (ho' _))
    · by_cases cj : j < B.length
      · exact Y6j dA dB D A B hB i j q out (by omega) cj bj hoo (Y2b dA dB D A B hA hB hlA hlB m i (j + 1) q _ (by omega) hi cj hk' (ho' _))
      · exact Y60 dA dB D A B i j q out (by omega) (by omega)
theorem Y4S : ∀ {l : List S30}, (∀ e ∈ l, chk30 e = 0) → Y1L l = 0
  | [], _ => rfl
  | x :: t, h => by
    unfold Y1L
    rw [if_pos (h x List.mem_cons_self)]
    exact Y4S fun e he => h e (List.mem_cons_of_mem _ he)
theorem Y62 : ∀ {l : List S30}, l.Pairwise (fun x y => YV x.f0 y.f0 = true) → ord30 l = true
  | [], _ => rfl
  | [x], _ => rfl
  | x :: z :: t, h => by
    have hp := List.pairwise_cons.1 h
    show (YV x.f0 z.f0 && ord30 (z :: t)) = true
    rw [hp.1 z List.mem_cons_self, Y62 hp.2]; rfl
theorem Y6o {d : Int} {l : List S30} (hd : 1 ≤ d ∧ d ≤ 64) (hl : l.length ≤ 512) (hc : ∀ e ∈ l, chk30 e = 0) (ho : ord30 l = true) (hk : ∀ e ∈ l, kno30 l e = true) : rchkP d l = 0 := by
  unfold rchkP
  rw [if_neg (by omega), if_neg (by omega), if_pos (Y4S hc), if_pos ho, if_pos (List.all_eq_true.2 hk)]
theorem Y2M : ∀ {l1 l2 : List S30}, l1.Pairwise (fun x y => YV x.f0 y.f0 = true) → l2.Pairwise (fun x y => YV x.f0 y.f0 = true) → (∀ a, a ∈ l1 ↔ a ∈ l2) → l1 = l2
  | [], [], _, _, _ => rfl
  | [], y :: s, _, _, h => absurd ((h y).2 List.mem_cons_self) (by simp)
  | x :: r, [], _, _, h => absurd ((h x).1 List.mem_cons_self) (by simp)
  | x :: r, y :: s, h1, h2, h => by
    have p1 := List.pairwise_cons.1 h1
    have p2 := List.pairwise_cons.1 h2
    have e : x = y := by
      rcases List.mem_cons.1 ((h x).1 List.mem_cons_self) with e | hx
      · exact e
      · rcases List.mem_cons.1 ((h y).2 List.mem_cons_self) with e | hy
        · exact e.symm
        · have := Y27 (p1.1 y hy) (p2.1 x hx)
          rw [Y1E] at this; cases this
    subst e
    have ht : ∀ a, a ∈ r ↔ a ∈ s := fun a => by
      constructor
      · intro ha
        rcases List.mem_cons.1 ((h a).1 (List.mem_cons_of_mem _ ha)) with e | ha'
        · have := p1.1 a ha; rw [e, Y1E] at this; cases this
        · exact ha'
      · intro ha
        rcases List.mem_cons.1 ((h a).2 (List.mem_cons_of_mem _ ha)) with e | ha'
        · have := p2.1 a ha; rw [e, Y1E] at this; cases this
        · exact ha'
    rw [Y2M p1.2 p2.2 ht]
structure Part (l O : List S30) : Prop where
  sub : ∀ x ∈ O, x ∈ l
  ord : O.Pairwise (fun x y => YV x.f0 y.f0 = true)
  kn : ∀ x ∈ O, kno30 O x = true
theorem Y4t {O O' : List S30} (h : ∀ x ∈ O, x ∈ O') {y : S30} (hk : kno30 O y = true) : kno30 O' y = true := by
  unfold kno30 fouB at *
  obtain ⟨x, hx, hq⟩ := List.any_eq_true.1 hk
  exact List.any_eq_true.2 ⟨x, h x hx, hq⟩
theorem Y5N {d : Int} {l : List S30} (h : rchkP d l = 0) : 1 ≤ d ∧ d ≤ 64 := by
  unfold rchkP at h
  split at h
  · cases h
  · omega
theorem Y1Z (k : Nat) {dA dB : Int} {A B : List S30} (hA : rchkP dA A = 0) (hB : rchkP dB B = 0) (lA : A.length ≤ 120) (lB : B.length ≤ 120) (hz : ∀ e, e ∈ A ∨ e ∈ B → okE30 e) (hk : 2000 ≤ k) :
    (Y1C A B → ∃ U, Yb.f k dA A dB B = some (dA, U, 0) ∧ Str U ∧ (∀ y, y ∈ U ↔ y ∈ A ∨ y ∈ B) ∧ U.length ≤ A.length + B.length ∧ rchkP dA U = 0) ∧ (¬ Y1C A B → Yb.f k dA A dB B = some (0, [], 7)) := by
  have cA : Yk.f dA A = some 0 := by unfold Yk.f; rw [if_pos (fun e he => hz e (Or.inl he)), hA]
  have cB : Yk.f dB B = some 0 := by unfold Yk.f; rw [if_pos (fun e he => hz e (Or.inr he)), hB]
  have hf : Yb.f k dA A dB B = Yb.l0 k 0 0 dA A dB B dA [] := by
    unfold Yb.f Y1v.f
    rw [cA, Option.bind_some, if_pos rfl, cB, Option.bind_some, Option.bind_some, if_pos rfl]
  have h := Y2b dA dB dA A B (Y2Z (Y24 hA).1) (Y2Z (Y24 hB).1) (by omega) (by omega) (A.length + B.length) 0 0 k [] (by omega) (by omega) (by omega) (by omega) (by simp; omega)
  rw [List.drop_zero, List.drop_zero] at h
  rw [hf]
  replace h : Mrg dA [] A B (Yb.l0 k 0 0 dA A dB B dA []) := h
  refine ⟨fun hc => ?_, h.2⟩
  obtain ⟨U, hr, hs, hm, hl⟩ := h.1 hc
  refine ⟨U, by rw [hr, List.nil_append]; unfold fin; rw [if_neg (by omega)], hs, hm, hl, Y6o (Y5N hA) (by omega) (fun e he => ?_) (Y62 hs) (fun e he => ?_)⟩
  · rcases (hm e).1 he with q | q
    · exact Y2K hA e q
    · exact Y2K hB e q
  · rcases (hm e).1 he with q | q
    · exact Y4t (fun x hx => (hm x).2 (Or.inl hx)) ((Y24 hA).2 e q)
    · exact Y4t (fun x hx => (hm x).2 (Or.inr hx)) ((Y24 hB).2 e q)
theorem Y2W {A B : List S30} (h : Y1C A B) : Y1C B A := fun a ha b hb e0 e1 => (h b hb a ha e0.symm e1.symm).symm
theorem Y5k (k : Nat) {d d' : Int} {U : List S30} (h : rchkP d U = 0) (h' : rchkP d' U = 0) (hz : ∀ e ∈ U, okE30 e) (hl : U.length ≤ 300) {a2 a3 : Int} (h2 : 0 ≤ a2 ∧ a2 < 12) (h3 : 1 ≤ a3 ∧ a3 ≤ 8192) (hk : 400 ≤ k) : Yu.f k d U d' U a2 a3 = some true := by
  have hs : stfE a2 a3 = 0 := by unfold stfE; rw [if_neg (by omega), if_neg (by omega)]
  have e1 : Yt.f d U a2 a3 = some (isrt ltY (stfP U a2 a3).1, (stfP U a2 a3).2, 0) := by unfold Yt.f; rw [if_pos hz, if_pos h, if_pos hs]
  have e2 : Yt.f d' U a2 a3 = some (isrt ltY (stfP U a2 a3).1, (stfP U a2 a3).2, 0) := by unfold Yt.f; rw [if_pos hz, if_pos h', if_pos hs]
  have hlen := Y5t U a2 a3
  unfold Yu.f
  rw [e1, Option.bind_some, e2, Option.bind_some, if_pos rfl, if_pos rfl, Y49 k _ (by simp only; omega) (by simp only; omega), Option.bind_some, if_pos rfl, Y4d k _ (by simp only; omega) (by simp only; omega)]
  rfl
end Go.Proofs.Yteopkkoblbmggaa.P
end
section
set_option linter.unusedVariables false
set_option linter.unusedSimpArgs false
namespace Go.Proofs.Yteopkkoblbmggaa.Pure
open Go.RowKit Go.Proofs.Yteopkkoblbmggaa.P Go.Proofs.Yteopkkoblbmggaa.Open Go.Proofs.YteopkkoblbmggaaW.PrintWords Go.Proofs.YteopkkoblbmggaaW.PrintLast Go.Proofs.YteopkkoblbmggaaW.PrintMore
theorem u64_ge (a : Int) : 0 ≤ IntKind.u64.wrap a := by
  simp [IntKind.wrap, IntKind.bits, IntKind.signed]
  omega
theorem part_ok (a : Int) : 0 ≤ wrap64 (Int.tmod (IntKind.u64.wrap a) 12) ∧ wrap64 (Int.tmod (IntKind.u64.wrap a) 12) < 12 := by
  have h1 := Int.tmod_nonneg 12 (u64_ge a)
  have h2 := Int.tmod_lt_of_pos (IntKind.u64.wrap a) (show (0 : Int) < 12 by omega)
  unfold wrap64
  omega
theorem len_ok (a : Int) : 1 ≤ wrap64 (1 + (wrap64 (Int.tmod (IntKind.u64.wrap a) 8192))) ∧ wrap64 (1 + (wrap64 (Int.tmod (IntKind.u64.wrap a) 8192))) ≤ 8192 := by
  have h1 := Int.tmod_nonneg 8192 (u64_ge a)
  have h2 := Int.tmod_lt_of_pos (IntKind.u64.wrap a) (show (0 : Int) < 8192 by omega)
  unfold wrap64
  omega
theorem ReplicaConverges (a0_0 : Int) (l0_1 : List S30) (a1_0 : Int) (l1_1 : List S30) (a2_0 : Int) (l2_1 : List S30) (a3 : Int) (a4 : Int) (w0_0 : okI a0_0) (w0_1 : l0_1.length ≤ maxLen ∧ l0_1.length * 104 ≤ 140737488351232 ∧ ∀ y ∈ l0_1, zT30 y) (w1_0 : okI a1_0) (w1_1 : l1_1.length ≤ maxLen ∧ l1_1.length * 104 ≤ 140737488351232 ∧ ∀ y ∈ l1_1, zT30 y) (w2_0 : okI a2_0) (w2_1 : l2_1.length ≤ maxLen ∧ l2_1.length * 104 ≤ 140737488351232 ∧ ∀ y ∈ l2_1, zT30 y) (w3 : okI a3) (w4 : okI a4) : ∃ k, Yx.f k a0_0 l0_1 a1_0 l1_1 a2_0 l2_1 a3 a4 = some true := by
  refine ⟨6000, ?_⟩
  have aw : ((Y9.f 6000).bind fun t => some t) = some true := by rw [Y2p 6000 (by decide)]; rfl
  have zA : ∀ e ∈ l0_1, okE30 e := fun e he => zT_ok (w0_1.2.2 e he)
  have zB : ∀ e ∈ l1_1, okE30 e := fun e he => zT_ok (w1_1.2.2 e he)
  have zC : ∀ e ∈ l2_1, okE30 e := fun e he => zT_ok (w2_1.2.2 e he)
  have cA : Yk.f a0_0 l0_1 = some (rchkP a0_0 l0_1) := by unfold Yk.f; rw [if_pos zA]
  have cB : Yk.f a1_0 l1_1 = some (rchkP a1_0 l1_1) := by unfold Yk.f; rw [if_pos zB]
  have cC : Yk.f a2_0 l2_1 = some (rchkP a2_0 l2_1) := by unfold Yk.f; rw [if_pos zC]
  unfold Yx.f
  rw [Y2H, Option.bind_some]
  by_cases g1 : 40 < l0_1.length
  · rw [if_pos (by simpa using g1)]; exact aw
  rw [if_neg (by simpa using g1), Y2H, Option.bind_some]
  by_cases g2 : 40 < l1_1.length
  · rw [if_pos (by simpa using g2)]; exact aw
  rw [if_neg (by simpa using g2), Y2H, Option.bind_some]
  by_cases g3 : 40 < l2_1.length
  · rw [if_pos (by simpa using g3)]; exact aw
  rw [if_neg (by simpa using g3), cA, Option.bind_some]
  by_cases vA : rchkP a0_0 l0_1 = 0
  rotate_left
  · rw [if_neg vA]; exact aw
  rw [if_pos vA, cB, Option.bind_some]
  by_cases vB : rchkP a1_0 l1_1 = 0
  rotate_left
  · rw [if_neg vB]; exact aw
  rw [if_pos vB, cC, Option.bind_some]
  by_cases vC : rchkP a2_0 l2_1 = 0
  rotate_left
  · rw [if_neg vC]; exact aw
  rw [if_pos vC]
  obtain ⟨ab1, ab2⟩ := Y1Z 6000 vA vB (by omega) (by omega) (fun e he => he.elim (zA e) (zB e)) (by decide)
  obtain ⟨ba1, ba2⟩ := Y1Z 6000 vB vA (by omega) (by omega) (fun e he => he.elim (zB e) (zA e)) (by decide)
  by_cases nab : Y1C l0_1 l1_1
  rotate_left
  · rw [ab2 nab, Option.bind_some, ba2 (fun q => nab (Y2W q)), Option.bind_some, if_pos rfl, if_neg (by decide)]; exact aw
  obtain ⟨U, hU, sU, mU, lU_, rU⟩ := ab1 nab
  obtain ⟨U', hU', sU', mU', _, rU'⟩ := ba1 (Y2W nab)
  have eU : U' = U := Y2M sU' sU (fun a => by rw [mU', mU]; exact Or.comm)
  rw [eU] at hU' rU'
  have zU : ∀ e ∈ U, okE30 e := fun e he => ((mU e).1 he).elim (zA e) (zB e)
  rw [hU, Option.bind_some, hU', Option.bind_some, if_pos rfl, if_pos rfl, if_pos rfl, if_pos rfl, Y2i 6000 U (by omega) (by omega), Option.bind_some, if_pos rfl, Y5k 6000 rU rU' zU (by omega) (part_ok a3) (len_ok a4) (by decide), Option.bind_some, if_pos rfl]
  obtain ⟨x1, x2⟩ := Y1Z 6000 rU vC (by omega) (by omega) (fun e he => he.elim (zU e) (zC e)) (by decide)
  obtain ⟨c1, c2⟩ := Y1Z 6000 vC vB (by omega) (by omega) (fun e he => he.elim (zC e) (zB e)) (by decide)
  by_cases nx : Y1C U l2_1
  rotate_left
  · rw [x2 nx, Option.bind_some]
    by_cases nc : Y1C l2_1 l1_1
    · obtain ⟨V, hV, _⟩ := c1 nc
      rw [hV, Option.bind_some, if_neg (by decide)]; exact aw
    · rw [c2 nc, Option.bind_some, if_neg (by decide)]; exact aw
  obtain ⟨X, hX, sX, mX, lX, rX⟩ := x1 nx
  by_cases nc : Y1C l2_1 l1_1
  rotate_left
  · rw [hX, Option.bind_some, c2 nc, Option.bind_some, if_pos rfl, if_neg (by decide)]; exact aw
  obtain ⟨V, hV, sV, mV, lV, rV2⟩ := c1 nc
  have zV : ∀ e ∈ V, okE30 e := fun e he => ((mV e).1 he).elim (zC e) (zB e)
  obtain ⟨y1, _⟩ := Y1Z 6000 rV2 vA (by omega) (by omega) (fun e he => he.elim (zV e) (zA e)) (by decide)
  have ny : Y1C V l0_1 := fun v hv a ha e0 e1 => by
    rcases (mV v).1 hv with q | q
    · exact (nx a ((mU a).2 (Or.inl ha)) v q e0.symm e1.symm).symm
    · exact (nab a ha v q e0.symm e1.symm).symm
  obtain ⟨Y, hY, sY, mY, lY, rY⟩ := y1 ny
  have eY : Y = X := Y2M sY sX (fun a => by
    rw [mY, mV, mX, mU]
    constructor
    · rintro ((q | q) | q)
      · exact Or.inr q
      · exact Or.inl (Or.inr q)
      · exact Or.inl (Or.inl q)
    · rintro ((q | q) | q)
      · exact Or.inr q
      · exact Or.inl (Or.inr q)
      · exact Or.inl (Or.inl q))
  rw [eY] at hY rY
  have zX : ∀ e ∈ X, okE30 e := fun e he => ((mX e).1 he).elim (zU e) (zC e)
  rw [hX, Option.bind_some, hV, Option.bind_some, if_pos rfl, if_pos rfl, hY, Option.bind_some, if_pos rfl, Y2i 6000 X (by omega) (by omega), Option.bind_some, if_pos rfl, Y5k 6000 rX rY zX (by omega) (part_ok a3) (len_ok a4) (by decide), Option.bind_some, if_pos rfl]
  obtain ⟨s1, _⟩ := Y1Z 6000 vA vA (by omega) (by omega) (fun e he => he.elim (zA e) (zA e)) (by decide)
  obtain ⟨S, hS, sS, mS, _, _⟩ := s1 (fun a ha b hb e0 e1 => Y5a (Y24 vA).1 ha hb e0 e1)
  have eS : S = l0_1 := Y2M sS (Y2Z (Y24 vA).1) (fun a => by rw [mS]; exact or_self_iff)
  rw [hS, eS, Option.bind_some, if_pos rfl]
  dsimp only
  rw [Y4F 6000 a0_0 l0_1 (by omega) (by omega), Option.bind_some, if_pos rfl]
  exact aw
end Go.Proofs.Yteopkkoblbmggaa.Pure
end

/- Texts of this claim in one: VOpen, VAwakeR, VMrgP, VRAddP, VOrdP, VCnvP, VMisP, VSamR, VExcP, PureReplicaExchange; no condition. -/
import Derived.Test.YteopkkoblbmggaaQBAC
import Derived.OpenShut
import Derived.SizedLaws
import Derived.ChangeArms
import Derived.Test.YteopkkoblbmggaaQBAD
import Derived.Test.YteopkkoblbmggaaQBAO
import Derived.Test.YteopkkoblbmggaaQBAE
import Derived.Test.YteopkkoblbmggaaQBAG
import Derived.Test.YteopkkoblbmggaaQBAQ
import Derived.Test.YteopkkoblbmggaaQBAJ
import Derived.Test.YteopkkoblbmggaaQBAI
import Derived.Test.YteopkkoblbmggaaQBAM
import Derived.Test.YteopkkoblbmggaaQBAN
import Derived.Test.YteopkkoblbmggaaQBAP
import Derived.Test.YteopkkoblbmggaaQBAH
import Derived.Test.YteopkkoblbmggaaQBAR
import Derived.Test.YteopkkoblbmggaaQBAK
import Derived.Test.YteopkkoblbmggaaQBAS
section
set_option linter.unusedVariables false
namespace Go.Proofs.Yteopkkoblbmggaa.Open
open Go.ChangeShapes Go.WideShapes Go.RowKit Go.Proofs.YteopkkoblbmggaaW.PrintWords
def Opens {α : Type} (P : Program) (t : TypeId) (d : Kd α) (ok : α → Prop) : Prop :=
  P.cellsOf t = d.sz ∧ ∀ (H : Type) (enc : TypeId × Value → H) (w : World) (sp : Nat → Bool) (hd : Bool) (fuel : Nat) (cs : List Value) (x : DataW H × List MemPlace),
    DataW.trod enc P w 0 sp hd fuel t cs = some x → (∀ n ∈ x.1.weights P t, n ≤ 140737488351232) → ∃ a, d.K w a cs ∧ ok a
def okI (n : Int) : Prop := -9223372036854775808 ≤ n ∧ n ≤ 9223372036854775807
theorem Y4Q {P : Program} {t : TypeId} (ht : P.underlying t = some (.int .i64)) (hc : P.cellsOf t = 1) : Opens P t (Kd.int .i64) okI :=
  ⟨hc, fun H enc w sp hd fuel cs x h _ => by
    obtain ⟨n, rfl, _, hw⟩ := DataW.trod_int ht h
    exact ⟨n, rfl, bounds_i64 hw⟩⟩
theorem Y4d {P : Program} {t : TypeId} (ht : P.underlying t = some .bool) (hc : P.cellsOf t = 1) : Opens P t Kd.bool (fun _ => True) :=
  ⟨hc, fun H enc w sp hd fuel cs x h _ => by
    obtain ⟨n, rfl, _⟩ := DataW.trod_bool ht h
    exact ⟨n, rfl, trivial⟩⟩
theorem Y21 {H : Type} {P : Program} {e : TypeId} {n : Nat} : ∀ {ds : List (DataW H)} {d : DataW H}, d ∈ ds → n ∈ d.weights P e → n ∈ DataW.weightsAll P e ds
  | d0 :: ds, d, hd, hn => by
    rw [DataW.weightsAll, List.mem_append]
    rcases List.mem_cons.1 hd with rfl | hd
    · exact .inl hn
    · exact .inr (Y21 hd hn)
theorem Y3z {α : Type} {P : Program} {t e : TypeId} {d : Kd α} {ok : α → Prop} (ht : P.underlying t = some (.slice e)) (hc : P.cellsOf t = 1) {B : Nat} (hB : P.bytesOf e = B) (ho : Opens P e d ok) :
    Opens P t (Kd.slice e d) (fun xs => xs.length ≤ maxLen ∧ xs.length * B ≤ 140737488351232 ∧ ∀ a ∈ xs, ok a) := by
  refine ⟨hc, fun H enc w sp hd fuel cs x h hw => ?_⟩
  rcases DataW.trod_slice ht h with ⟨rfl, _⟩ | ⟨a, len, cap, elems, rest, n, _, rfl, rfl, _, hlc, hcm, hel, helem, _, _⟩
  · exact ⟨[], ⟨none, 0, rfl, Nat.le_refl _, Kd.C_nil d w⟩, by simp, by simp, by simp⟩
  · have hwt : ∀ m ∈ (elems.length + rest.length) * P.bytesOf e :: (DataW.weightsAll P e (elems.map (·.1)) ++ DataW.weightsAll P e (rest.map (·.1))), m ≤ 140737488351232 := by
      intro m hm
      refine hw m ?_
      simp only [DataW.weights, ht, List.length_map]
      exact hm
    have key : ∀ i : Fin len, ∃ p : α, ok p ∧ ∃ c : List Value, c.length = d.sz ∧ d.K w p c ∧ ∀ j u, c[j]? = some u → w.cell? (a.add (i.1 * d.sz + j)) = some u := by
      intro i
      have hi := helem i.1 i.2
      have hlt : i.1 < elems.length := by have := i.2; omega
      rw [List.getElem?_eq_getElem hlt] at hi
      obtain ⟨c, hc1, hc2⟩ := Option.bind_eq_some_iff.1 hi
      obtain ⟨_, hl, hcell⟩ := World.cells?_some hc1
      obtain ⟨p, hp, hok⟩ := ho.2 H enc w sp hd n c _ hc2 (fun m hm => hwt m (List.mem_cons_of_mem _ (List.mem_append_left _ (Y21 (List.mem_map.2 ⟨_, List.getElem_mem hlt, rfl⟩) hm))))
      refine ⟨p, hok, c, by rw [hl, ho.1], hp, fun j u hu => ?_⟩
      have hj : j < P.cellsOf e := by rw [← hl]; exact (List.getElem?_eq_some_iff.1 hu).1
      have hh := hcell j hj
      rw [hu, Addr.add_add, ho.1] at hh
      exact hh
    have hlen : (List.ofFn fun i : Fin len => Classical.choose (key i)).length = len := List.length_ofFn
    have hmx : len ≤ 9223372036854775807 := by unfold maxLen at hcm; omega
    refine ⟨List.ofFn fun i : Fin len => Classical.choose (key i), ⟨some a, cap, by rw [hlen], by rw [hlen]; exact hlc, ?_⟩, by rw [hlen]; unfold maxLen at hcm ⊢; omega, ?_, ?_⟩
    · refine ⟨rfl, by rw [hlen]; exact hmx, fun _ => ⟨a, rfl, fun j p hp => ?_⟩⟩
      rw [List.getElem?_ofFn] at hp
      split at hp
      · rename_i hj
        injection hp with hp
        subst hp
        exact (Classical.choose_spec (key ⟨j, hj⟩)).2
      · cases hp
    · rw [hlen, ← hB]
      have := hwt _ List.mem_cons_self
      exact Nat.le_trans (Nat.mul_le_mul_right _ (by omega)) this
    · intro p hp
      obtain ⟨i, rfl⟩ := List.mem_ofFn.1 hp
      exact (Classical.choose_spec (key i)).1
def Y3J {α : Type} (P : Program) (fs : List Field) (o : Nat) (d : Kd α) (ok : α → Prop) : Prop :=
  ∀ (H : Type) (enc : TypeId × Value → H) (w : World) (sp : Nat → Bool) (hd : Bool) (fuel : Nat) (cs : List Value) (ys : List (DataW H × List MemPlace)),
    ys.length = fs.length → (∀ (i : Nat) (f : Field), fs[i]? = some f → DataW.trod enc P w 0 sp hd fuel f.type ((cs.drop f.offset).take (P.cellsOf f.type)) = ys[i]?) → cs.length = o + d.sz →
    (∀ n ∈ DataW.weightsEach P (fs.map (·.type)) (ys.map (·.1)), n ≤ 140737488351232) → ∃ a, d.K w a (cs.drop o) ∧ ok a
theorem Y1X {α : Type} {P : Program} {f : Field} {o : Nat} {d : Kd α} {ok : α → Prop} (hf : f.offset = o) (ho : Opens P f.type d ok) : Y3J P [f] o d ok := by
  intro H enc w sp hd fuel cs ys hl hy hcs hw
  match ys, hl with
  | [y], _ =>
    have h := hy 0 f rfl
    have e : (cs.drop f.offset).take (P.cellsOf f.type) = cs.drop o := by rw [hf, ho.1]; exact List.take_of_length_le (by rw [List.length_drop]; omega)
    rw [e] at h
    exact ho.2 H enc w sp hd fuel _ y h (fun n hn => hw n (by simpa [DataW.weightsEach] using hn))
theorem Y18 {α β : Type} {P : Program} {f : Field} {fs : List Field} {o : Nat} {d : Kd α} {d' : Kd β} {ok : α → Prop} {ok' : β → Prop} (hf : f.offset = o) (ho : Opens P f.type d ok) (hr : Y3J P fs (o + d.sz) d' ok') :
    Y3J P (f :: fs) o (Kd.pair d d') (fun a => ok a.1 ∧ ok' a.2) := by
  intro H enc w sp hd fuel cs ys hl hy hcs hw
  match ys, hl with
  | y :: ys, hl =>
    have h := hy 0 f rfl
    have hcs' : cs.length = o + (d.sz + d'.sz) := hcs
    rw [hf, ho.1] at h
    obtain ⟨a, ka, oa⟩ := ho.2 H enc w sp hd fuel _ y h (fun n hn => hw n (by simp only [List.map_cons, DataW.weightsEach, List.mem_append]; exact .inl hn))
    obtain ⟨b, kb, ob⟩ := hr H enc w sp hd fuel cs ys (by simpa using hl) (fun i g hg => by simpa using hy (i + 1) g (by simpa using hg)) (by omega) (fun n hn => hw n (by simp only [List.map_cons, DataW.weightsEach, List.mem_append]; exact .inr hn))
    refine ⟨(a, b), ⟨_, _, ?_, ka, kb⟩, oa, ob⟩
    rw [← List.drop_drop, List.take_append_drop]
theorem Y1B {α β : Type} {P : Program} {t : TypeId} {fs : List Field} {d : Kd α} {ok : α → Prop} (ht : P.underlying t = some (.struct fs.toArray)) (hc : P.cellsOf t = d.sz) (ho : Y3J P fs 0 d ok) (f : β → α) (g : α → β) (hfg : ∀ a, f (g a) = a) :
    Opens P t (Kd.iso d f) (fun b => ok (f b)) := by
  refine ⟨hc, fun H enc w sp hd fuel cs x h hw => ?_⟩
  obtain ⟨xs, n, _, rfl, hl, hxl, hx⟩ := DataW.trod_struct ht h
  obtain ⟨a, ha, hok⟩ := ho H enc w sp hd n cs xs (by simpa using hxl) (fun i f hf => hx i f (by simpa using hf)) (by omega) (fun m hm => hw m (by simp only [DataW.weights, ht]; exact hm))
  refine ⟨g a, ?_, by show ok (f (g a)); rw [hfg]; exact hok⟩
  show d.K w (f (g a)) cs
  rw [hfg]
  exact ha
section
variable {H : Type} {enc : TypeId × Value → H} {P : Program} {W : World} {ts : List TypeId} {ds : List (DataW H)} {j : Nat} {t : TypeId} {v : Value} {dd : DataW H} {p : List MemPlace} {sp : Nat → Bool} {hd : Bool}
theorem Y3W {α : Type} {d : Kd α} {ok : α → Prop} {r : Reach} {b : Nat} {fs : Array Field} (ho : Opens P t d ok) (ht : P.underlying t = some (.struct fs)) (hv : Value.okWide P W r b t v)
    (hsz : (DataW.weightsEach P ts ds).all (· ≤ reachBytes) = true) (htj : ts[j]? = some t) (hdj : ds[j]? = some dd) (h : DataW.Trod enc P W 0 sp hd t v dd p) : ∃ (a : α) (cs : Array Value), v = .agg cs ∧ d.K W a cs.toList ∧ ok a := by
  obtain ⟨cs, rfl, _⟩ := okWide_struct ht hv
  obtain ⟨fuel, hf⟩ := h
  obtain ⟨a, ha, hok⟩ := ho.2 H enc W sp hd fuel _ _ hf (fun n hn => by
    have := List.all_eq_true.1 hsz _ (DataW.weights_mem_each htj hdj n hn)
    exact of_decide_eq_true this)
  exact ⟨a, cs, rfl, ha, hok⟩
end
end Go.Proofs.Yteopkkoblbmggaa.Open
end
section
set_option linter.unusedVariables false
namespace Go.Proofs.Yteopkkoblbmggaa.P
open Go.RowKit Go.Proofs.YteopkkoblbmggaaW.PrintWords Go.Proofs.YteopkkoblbmggaaW.PrintLast Go.Proofs.YteopkkoblbmggaaW.PrintMore
set_option maxRecDepth 100000 in
theorem Y4r : Ya.f 400 = some true := by decide +kernel
theorem Y2P (k : Nat) (hk : 400 ≤ k) : Ya.f k = some true := Y3l (fun k => Ya.mono k) hk Y4r
theorem Y3T (d : Int) (l : List S30) : Yo.f d l = some (decide (40 < l.length)) := by
  unfold Yo.f
  congr 1
  rw [decide_eq_decide]
  omega
end Go.Proofs.Yteopkkoblbmggaa.P
end
section
set_option linter.unusedVariables false
set_option linter.unusedSimpArgs false
namespace Go.Proofs.Yteopkkoblbmggaa.P
open Go.RowKit Go.Proofs.YteopkkoblbmggaaW.PrintWords Go.Proofs.YteopkkoblbmggaaW.PrintLast Go.Proofs.YteopkkoblbmggaaW.PrintMore
def Y1P (A B : List S30) : Prop := ∀ a ∈ A, ∀ b ∈ B, a.f0.f0 = b.f0.f0 → a.f0.f1 = b.f0.f1 → a = b
theorem Y2B {a : S30} {A B : List S30} (h : ∀ b ∈ B, YI a.f0 b.f0 = true) : Y1P (a :: A) B ↔ Y1P A B := by
  constructor
  · exact fun q x hx => q x (List.mem_cons_of_mem _ hx)
  · intro q x hx b hb e0 e1
    rcases List.mem_cons.1 hx with rfl | hx
    · have := h b hb
      simp [YI, lessP] at this
      omega
    · exact q x hx b hb e0 e1
theorem Y2l {b : S30} {A B : List S30} (h : ∀ a ∈ A, YI b.f0 a.f0 = true) : Y1P A (b :: B) ↔ Y1P A B := by
  constructor
  · exact fun q x hx y hy => q x hx y (List.mem_cons_of_mem _ hy)
  · intro q x hx y hy e0 e1
    rcases List.mem_cons.1 hy with rfl | hy
    · have := h x hx
      simp [YI, lessP] at this
      omega
    · exact q x hx y hy e0 e1
theorem Y2A {a : S30} {A B : List S30} (hA : ∀ x ∈ A, YI a.f0 x.f0 = true) (hB : ∀ x ∈ B, YI a.f0 x.f0 = true) : Y1P (a :: A) (a :: B) ↔ Y1P A B := by
  constructor
  · exact fun q x hx y hy => q x (List.mem_cons_of_mem _ hx) y (List.mem_cons_of_mem _ hy)
  · intro q x hx y hy e0 e1
    rcases List.mem_cons.1 hx with ex | hx'
    · rcases List.mem_cons.1 hy with ey | hy'
      · rw [ex, ey]
      · have := hB y hy'; rw [ex] at e0 e1; simp [YI, lessP] at this; omega
    · rcases List.mem_cons.1 hy with ey | hy'
      · have := hA x hx'; rw [ey] at e0 e1; simp [YI, lessP] at this; omega
      · exact q x hx' y hy' e0 e1
abbrev Str (l : List S30) : Prop := l.Pairwise (fun x y => YI x.f0 y.f0 = true)
def fin (D : Int) (l : List S30) : Int × List S30 × Int := if (l.length : Int) > 512 then (0, [], 3) else (D, l, 0)
def Mrg (D : Int) (out A B : List S30) (r : Option (Int × List S30 × Int)) : Prop :=
  (Y1P A B → ∃ U, r = some (fin D (out ++ U)) ∧ Str U ∧ (∀ y, y ∈ U ↔ y ∈ A ∨ y ∈ B) ∧ U.length ≤ A.length + B.length) ∧ (¬ Y1P A B → r = some (0, [], 7))
theorem Y3V {D : Int} {out A B : List S30} {a : S30} {r : Option (Int × List S30 × Int)} (hA : ∀ x ∈ A, YI a.f0 x.f0 = true) (hB : ∀ x ∈ B, YI a.f0 x.f0 = true) (h : Mrg D (out ++ [a]) A B r) : Mrg D out (a :: A) B r := by
  refine ⟨fun hc => ?_, fun hc => h.2 (fun q => hc ((Y2B hB).2 q))⟩
  obtain ⟨U, hr, hs, hm, hl⟩ := h.1 ((Y2B hB).1 hc)
  refine ⟨a :: U, by rw [hr, List.append_assoc]; rfl, List.pairwise_cons.2 ⟨fun x hx => ?_, hs⟩, fun y => ?_, by simp; omega⟩
  · rcases (hm x).1 hx with hx | hx
    · exact hA x hx
    · exact hB x hx
  · rw [List.mem_cons, hm, List.mem_cons]
    exact or_assoc.symm
theorem Y3n {D : Int} {out A B : List S30} {b : S30} {r : Option (Int × List S30 × Int)} (hA : ∀ x ∈ A, YI b.f0 x.f0 = true) (hB : ∀ x ∈ B, YI b.f0 x.f0 = true) (h : Mrg D (out ++ [b]) A B r) : Mrg D out A (b :: B) r := by
  refine ⟨fun hc => ?_, fun hc => h.2 (fun q => hc ((Y2l hA).2 q))⟩
  obtain ⟨U, hr, hs, hm, hl⟩ := h.1 ((Y2l hA).1 hc)
  refine ⟨b :: U, by rw [hr, List.append_assoc]; rfl, List.pairwise_cons.2 ⟨fun x hx => ?_, hs⟩, fun y => ?_, by simp; omega⟩
  · rcases (hm x).1 hx with hx | hx
    · exact hA x hx
    · exact hB x hx
  · rw [List.mem_cons, hm, List.mem_cons]
    constructor
    · rintro (q | q | q)
      · exact Or.inr (Or.inl q)
      · exact Or.inl q
      · exact Or.inr (Or.inr q)
    · rintro (q | q | q)
      · exact Or.inr (Or.inl q)
      · exact Or.inl q
      · exact Or.inr (Or.inr q)
theorem Y5f {D : Int} {out A B : List S30} {a : S30} {r : Option (Int × List S30 × Int)} (hA : ∀ x ∈ A, YI a.f0 x.f0 = true) (hB : ∀ x ∈ B, YI a.f0 x.f0 = true) (h : Mrg D (out ++ [a]) A B r) : Mrg D out (a :: A) (a :: B) r := by
  refine ⟨fun hc => ?_, fun hc => h.2 (fun q => hc ((Y2A hA hB).2 q))⟩
  obtain ⟨U, hr, hs, hm, hl⟩ := h.1 ((Y2A hA hB).1 hc)
  refine ⟨a :: U, by rw [hr, List.append_assoc]; rfl, List.pairwise_cons.2 ⟨fun x hx => ?_, hs⟩, fun y => ?_, by simp; omega⟩
  · rcases (hm x).1 hx with hx | hx
    · exact hA x hx
    · exact hB x hx
  · rw [List.mem_cons, hm, List.mem_cons, List.mem_cons]
    constructor
    · rintro (q | q | q)
      · exact Or.inl (Or.inl q)
      · exact Or.inl (Or.inr q)
      · exact Or.inr (Or.inr q)
    · rintro ((q | q) | (q | q))
      · exact Or.inl q
      · exact Or.inr (Or.inl q)
      · exact Or.inl q
      · exact Or.inr (Or.inr q)
theorem Y5O (D : Int) (out : List S30) : Mrg D out [] [] (some (fin D out)) := by
  refine ⟨fun _ => ⟨[], by rw [List.append_nil], List.Pairwise.nil, fun y => by simp, Nat.zero_le _⟩, fun h => ?_⟩
  exact absurd (fun a ha => absurd ha (List.not_mem_nil)) h
theorem Y5N {D : Int} {out A B : List S30} (h : ¬ Y1P A B) : Mrg D out A B (some (0, [], 7)) := ⟨fun q => absurd q h, fun _ => rfl⟩
theorem eq30 {a b : S30} (h : eqE a b = true) : a = b := by
  obtain ⟨⟨a0, a1⟩, a2, ⟨a3, a4⟩, a5, ⟨a6, a7, a8, a9, a10, a11, a12⟩⟩ := a
  obtain ⟨⟨b0, b1⟩, b2, ⟨b3, b4⟩, b5, ⟨b6, b7, b8, b9, b10, b11, b12⟩⟩ := b
  simp [eqE] at h
  simp [h]
theorem Y1A {l : List S30} (h : Str l) {i : Nat} (hi : i < l.length) : ∀ x ∈ l.drop (i + 1), YI l[i].f0 x.f0 = true := by
  have : Str (l.drop i) := List.Pairwise.sublist (List.drop_sublist i l) h
  rw [List.drop_eq_getElem_cons hi] at this
  exact (List.pairwise_cons.1 this).1
theorem Y2k {i : Nat} (h : i ≤ 2000) : wrap64 ((i : Int) + 1) = ((i + 1 : Nat) : Int) := by unfold wrap64; omega
theorem m_end (dA dB D : Int) (A B : List S30) (i j k : Nat) (out : List S30) (hi : i = A.length) (hj : j = B.length) : Y9.l0 (k + 4) (i : Int) (j : Int) dA A dB B D out = some (fin D out) := by
  subst hi hj
  unfold fin
  rw [Y9.l0, if_neg (Int.lt_irrefl _), show decide ((B.length : Int) < (B.length : Int)) = false from decide_eq_false (Int.lt_irrefl _), Y9.j1, if_neg (by decide)]
  split <;> rfl
theorem m_r (dA dB D : Int) (A B : List S30) (i j k : Nat) (out : List S30) (hi : i = A.length) (hj : j < B.length) (hb : j ≤ 2000) (ho : out.length ≤ 1300) : Y9.l0 (k + 4) (i : Int) (j : Int) dA A dB B D out = Y9.l0 k (i : Int) ((j + 1 : Nat) : Int) dA A dB B D (out ++ [B[j]]) := by
  have hwj := Y2k hb
  rw [Y9.l0, if_neg (by omega), show decide ((j : Int) < (B.length : Int)) = true from decide_eq_true (by omega), Y9.j1, if_pos rfl, if_neg (by omega), if_neg (by omega), Y9.j2, if_neg (by decide), if_pos (by omega), Y9.j3, if_pos rfl, if_pos (by omega), if_pos (by omega), if_pos (by omega), Y1a hj, hwj]
theorem m_a (dA dB D : Int) (A B : List S30) (i j k : Nat) (out : List S30) (hi : i < A.length) : Y9.l0 (k + 4) (i : Int) (j : Int) dA A dB B D out = Y9.j1 (k + 3) (i : Int) (j : Int) true dA A dB B D out := by
  rw [Y9.l0, if_pos (by omega)]
theorem m_l (dA dB D : Int) (A B : List S30) (i j k : Nat) (out : List S30) (hi : i < A.length) (hj : j = B.length) (hb : i ≤ 2000) (ho : out.length ≤ 1300) : Y9.j1 (k + 3) (i : Int) (j : Int) true dA A dB B D out = Y9.l0 (k + 1) ((i + 1 : Nat) : Int) (j : Int) dA A dB B D (out ++ [A[i]]) := by
  have hwi := Y2k hb
  rw [Y9.j1, if_pos rfl, if_pos (by omega), Y9.j2, if_pos rfl, if_pos (by omega), if_pos (by omega), if_pos (by omega), Y1a hi, hwi]
theorem m_j1 (dA dB D : Int) (A B : List S30) (i j k : Nat) (out : List S30) (hi : i < A.length) (hj : j < B.length) : Y9.j1 (k + 3) (i : Int) (j : Int) true dA A dB B D out = Y9.j2 (k + 2) (i : Int) (j : Int) (YI A[i].f0 B[j].f0) dA A dB B D out := by
  rw [Y9.j1, if_pos rfl, if_neg (by omega), if_pos (by omega), if_pos (by omega), if_pos (by omega), if_pos (by omega), Y1a hi, Y1a hj, Y1t, Option.bind_some]
  rfl
theorem m_j2 (dA dB D : Int) (A B : List S30) (i j k : Nat) (out : List S30) (hi : i < A.length) (hj : j < B.length) : Y9.j2 (k + 2) (i : Int) (j : Int) false dA A dB B D out = Y9.j3 (k + 1) (i : Int) (j : Int) (YI B[j].f0 A[i].f0) dA A dB B D out := by
  rw [Y9.j2, if_neg (by decide), if_neg (by omega), if_pos (by omega), if_pos (by omega), if_pos (by omega), if_pos (by omega), Y1a hi, Y1a hj, Y1t, Option.bind_some]
  rfl
theorem m_j2t (dA dB D : Int) (A B : List S30) (i j k : Nat) (out : List S30) (hi : i < A.length) (hb : i ≤ 2000) (ho : out.length ≤ 1300) : Y9.j2 (k + 2) (i : Int) (j : Int) true dA A dB B D out = Y9.l0 (k + 1) ((i + 1 : Nat) : Int) (j : Int) dA A dB B D (out ++ [A[i]]) := by
  have hwi := Y2k hb
  rw [Y9.j2, if_pos rfl, if_pos (by omega), if_pos (by omega), if_pos (by omega), Y1a hi, hwi]
theorem m_j3t (dA dB D : Int) (A B : List S30) (i j k : Nat) (out : List S30) (hj : j < B.length) (hb : j ≤ 2000) (ho : out.length ≤ 1300) : Y9.j3 (k + 1) (i : Int) (j : Int) true dA A dB B D out = Y9.l0 k (i : Int) ((j + 1 : Nat) : Int) dA A dB B D (out ++ [B[j]]) := by
  have hwj := Y2k hb
  rw [Y9.j3, if_pos rfl, if_pos (by omega), if_pos (by omega), if_pos (by omega), Y1a hj, hwj]
theorem m_j3e (dA dB D : Int) (A B : List S30) (i j k : Nat) (out : List S30) (hi : i < A.length) (hj : j < B.length) (hbi : i ≤ 2000) (hb : j ≤ 2000) (ho : out.length ≤ 1300) (he : B[j] = A[i]) : Y9.j3 (k + 1) (i : Int) (j : Int) false dA A dB B D out = Y9.l0 k ((i + 1 : Nat) : Int) ((j + 1 : Nat) : Int) dA A dB B D (out ++ [A[i]]) := by
  have hwi := Y2k hbi
  have hwj := Y2k hb
  rw [Y9.j3, if_neg (by decide), if_pos (by omega), if_pos (by omega), if_pos (by omega), if_pos (by omega), Y1a hi, Y1a hj, if_neg (by rw [he]; simp), if_pos (by omega), hwi, hwj]
theorem m_j3n (dA dB D : Int) (A B : List S30) (i j k : Nat) (out : List S30) (hi : i < A.length) (hj : j < B.length) (hn : eqE A[i] B[j] = false) : Y9.j3 (k + 1) (i : Int) (j : Int) false dA A dB B D out = some (0, [], 7) := by
  have hb := congrArg (fun b => !b) hn
  simp only [eqE, Bool.not_and, Bool.not_false] at hb
  rw [Y9.j3, if_neg (by decide), if_pos (by omega), if_pos (by omega), if_pos (by omega), if_pos (by omega), Y1a hi, Y1a hj, if_pos hb]
theorem Y4w {a : S30} {l : List S30} : a ∈ a :: l := List.mem_cons_self
theorem Y5U {x y : S30} (h1 : YI x.f0 y.f0 = false) (h2 : YI y.f0 x.f0 = false) : x.f0.f0 = y.f0.f0 ∧ x.f0.f1 = y.f0.f1 := by
  simp [YI, lessP] at h1 h2
  omega
theorem under {a : S30} {l : List S30} {x : S30} (h : YI x.f0 a.f0 = true) (hl : ∀ y ∈ l, YI a.f0 y.f0 = true) : ∀ y ∈ a :: l, YI x.f0 y.f0 = true := by
  intro y hy
  rcases List.mem_cons.1 hy with rfl | hy
  · exact h
  · exact Y1S h (hl y hy)
theorem Y68 (dA dB D : Int) (A B : List S30) (hA : Str A) (hB : Str B) (i j k : Nat) (out : List S30) (hi : i < A.length) (hj : j < B.length) (hbi : i ≤ 2000) (hb : j ≤ 2000) (ho : out.length ≤ 1300)
    (h1 : Mrg D (out ++ [A[i]]) (A.drop (i + 1)) (B.drop j) (Y9.l0 (k + 1) ((i + 1 : Nat) : Int) (j : Int) dA A dB B D (out ++ [A[i]])))
    (h2 : Mrg D (out ++ [B[j]]) (A.drop i) (B.drop (j + 1)) (Y9.l0 k (i : Int) ((j + 1 : Nat) : Int) dA A dB B D (out ++ [B[j]])))
    (h3 : Mrg D (out ++ [A[i]]) (A.drop (i + 1)) (B.drop (j + 1)) (Y9.l0 k ((i + 1 : Nat) : Int) ((j + 1 : Nat) : Int) dA A dB B D (out ++ [A[i]]))) :
    Mrg D out (A.drop i) (B.drop j) (Y9.l0 (k + 4) (i : Int) (j : Int) dA A dB B D out) := by
  rw [m_a _ _ _ _ _ _ _ _ _ hi, m_j1 _ _ _ _ _ _ _ _ _ hi hj]
  cases c1 : YI A[i].f0 B[j].f0
  · rw [m_j2 _ _ _ _ _ _ _ _ _ hi hj]
    cases c2 : YI B[j].f0 A[i].f0
    · cases c3 : eqE A[i] B[j]
      · rw [m_j3n _ _ _ _ _ _ _ _ _ hi hj c3]
        refine Y5N (fun hc => ?_)
        have hst := Y5U c1 c2
        rw [List.drop_eq_getElem_cons hi, List.drop_eq_getElem_cons hj] at hc
        have he := hc A[i] Y4w B[j] Y4w hst.1 hst.2
        rw [← he] at c3
        simp [eqE] at c3
      · have he := eq30 c3
        rw [m_j3e _ _ _ _ _ _ _ _ _ hi hj hbi hb ho he.symm, List.drop_eq_getElem_cons hi, List.drop_eq_getElem_cons hj, ← he]
        exact Y5f (Y1A hA hi) (fun x hx => by rw [he]; exact Y1A hB hj x hx) h3
    · rw [m_j3t _ _ _ _ _ _ _ _ _ hj hb ho, List.drop_eq_getElem_cons hj]
      exact Y3n (by rw [List.drop_eq_getElem_cons hi]; exact under c2 (Y1A hA hi)) (Y1A hB hj) h2
  · rw [m_j2t _ _ _ _ _ _ _ _ _ hi hbi ho, List.drop_eq_getElem_cons hi]
    exact Y3V (Y1A hA hi) (by rw [List.drop_eq_getElem_cons hj]; exact under c1 (Y1A hB hj)) h1
theorem Y69 (dA dB D : Int) (A B : List S30) (hA : Str A) (i j k : Nat) (out : List S30) (hi : i < A.length) (hj : j = B.length) (hbi : i ≤ 2000) (ho : out.length ≤ 1300)
    (h1 : Mrg D (out ++ [A[i]]) (A.drop (i + 1)) (B.drop j) (Y9.l0 (k + 1) ((i + 1 : Nat) : Int) (j : Int) dA A dB B D (out ++ [A[i]]))) :
    Mrg D out (A.drop i) (B.drop j) (Y9.l0 (k + 4) (i : Int) (j : Int) dA A dB B D out) := by
  rw [m_a _ _ _ _ _ _ _ _ _ hi, m_l _ _ _ _ _ _ _ _ _ hi hj hbi ho, List.drop_eq_getElem_cons hi]
  refine Y3V (Y1A hA hi) (fun x hx => ?_) h1
  rw [List.drop_eq_nil_of_le (Nat.le_of_eq hj.symm)] at hx
  exact absurd hx List.not_mem_nil
theorem Y5L (dA dB D : Int) (A B : List S30) (hB : Str B) (i j k : Nat) (out : List S30) (hi : i = A.length) (hj : j < B.length) (hb : j ≤ 2000) (ho : out.length ≤ 1300)
    (h2 : Mrg D (out ++ [B[j]]) (A.drop i) (B.drop (j + 1)) (Y9.l0 k (i : Int) ((j + 1 : Nat) : Int) dA A dB B D (out ++ [B[j]]))) :
    Mrg D out (A.drop i) (B.drop j) (Y9.l0 (k + 4) (i : Int) (j : Int) dA A dB B D out) := by
  rw [m_r _ _ _ _ _ _ _ _ _ hi hj hb ho, List.drop_eq_getElem_cons hj]
  refine Y3n (fun x hx => ?_) (Y1A hB hj) h2
  rw [List.drop_eq_nil_of_le (Nat.le_of_eq hi.symm)] at hx
  exact absurd hx List.not_mem_nil
theorem Y5w (dA dB D : Int) (A B : List S30) (i j k : Nat) (out : List S30) (hi : i = A.length) (hj : j = B.length) : Mrg D out (A.drop i) (B.drop j) (Y9.l0 (k + 4) (i : Int) (j : Int) dA A dB B D out) := by
  rw [m_end _ _ _ _ _ _ _ _ _ hi hj, List.drop_eq_nil_of_le (Nat.le_of_eq hi.symm), List.drop_eq_nil_of_le (Nat.le_of_eq hj.symm)]
  exact Y5O D out
theorem Y1W (dA dB D : Int) (A B : List S30) (hA : Str A) (hB : Str B) (hlA : A.length ≤ 600) (hlB : B.length ≤ 600) : ∀ (m i j k : Nat) (out : List S30), (A.length - i) + (B.length - j) ≤ m → i ≤ A.length → j ≤ B.length → 4 * m + 4 ≤ k → out.length + m ≤ 1300 →
    Mrg D out (A.drop i) (B.drop j) (Y9.l0 k (i : Int) (j : Int) dA A dB B D out)
  | 0, i, j, k, out, hm, hi, hj, hk, ho => by
    have h1 : i = A.length := by omega
    have h2 : j = B.length := by omega
    obtain ⟨q, hq⟩ : ∃ q, k = q + 4 := ⟨k - 4, by omega⟩
    rw [hq]
    exact Y5w dA dB D A B i j q out h1 h2
  | m + 1, i, j, k, out, hm, hi, hj, hk, ho => by
    obtain ⟨q, hq⟩ : ∃ q, k = q + 4 := ⟨k - 4, by omega⟩
    rw [hq]
    have hk' : 4 * m + 4 ≤ q := by omega
    have hk1 : 4 * m + 4 ≤ q + 1 := by omega
    have ho' : ∀ x : S30, (out ++ [x]).length + m ≤ 1300 := fun x => by rw [List.length_append, List.length_singleton]; omega
    have hoo : out.length ≤ 1300 := by omega
    have bi : i ≤ 2000 := by omega
    have bj : j ≤ 2000 := by omega
    by_cases ci : i < A.length
    · by_cases cj : j < B.length
      · exact Y68 dA dB D A B hA hB i j q out ci cj bi bj hoo
          (Y1W dA dB D A B hA hB hlA hlB m (i + 1) j (q + 1) _ (by omega) ci hj hk1 (ho' _))
          (Y1W dA dB D A B hA hB hlA hlB m i (j + 1) q _ (by omega) hi cj hk' (ho' _))
          (Y1W dA dB D A B hA hB hlA hlB m (i + 1) (j + 1) q _ (by omega) ci cj hk' (ho' _))
      · exact Y69 dA dB D A B hA i j q out ci (by omega) bi hoo (Y1W dA dB D A B hA hB hlA hlB m (i + 1) j (q + 1) _ (by omega) ci hj hk1 (ho' _))
    · by_cases cj : j < B.length
      · exact Y5L dA dB D A B hB i j q out (by omega) cj bj hoo (Y1W dA dB D A B hA hB hlA hlB m i (j + 1) q _ (by omega) hi cj hk' (ho' _))
      · exact Y5w dA dB D A B i j q out (by omega) (by omega)
theorem Y43 {i : Nat} (h : i ≤ 2000000) : wrap64 ((i : Int) + 1) = ((i + 1 : Nat) : Int) := by unfold wrap64; omega
def stE (c d : Int) (e : S30) : Bool := e.f0.f0 == c && (e.f0.f1 == d)
theorem Y4a {a b c d e f : Int} (h : lessP a b c d = true) (g : lessP c d e f = true) : lessP a b e f = true := by
  unfold lessP at *
  simp only [decide_eq_true_eq] at *
  omega
theorem Y3X {x : S30} {t : List S30} (h : ord30 (x :: t) = true) : ord30 t = true ∧ ∀ e ∈ t, YI x.f0 e.f0 = true := by
  induction t generalizing x with
  | nil => exact ⟨rfl, fun e he => by cases he⟩
  | cons z t ih =>
    have h2 : (YI x.f0 z.f0 && ord30 (z :: t)) = true := h
    rw [Bool.and_eq_true] at h2
    obtain ⟨g1, g2⟩ := ih h2.2
    refine ⟨h2.2, fun e he => ?_⟩
    rcases List.mem_cons.1 he with rfl | he
    · exact h2.1
    · exact Y4a h2.1 (g2 e he)
theorem Y2F (c d : Int) (e : S30) : stE c d e = true ↔ e.f0.f0 = c ∧ e.f0.f1 = d := by unfold stE; simp
theorem Y5q {x y : S30} (h : eqE x y = true) : stE y.f0.f0 y.f0.f1 x = true := by
  unfold eqE at h
  unfold stE
  rw [Bool.and_eq_true] at h
  exact h.1
theorem Y3h (c d : Int) : ∀ l : List S30, ord30 l = true → l.any (stE c d) = thrP c d l
  | [], _ => rfl
  | x :: t, h => by
    obtain ⟨h1, h2⟩ := Y3X h
    have ih := Y3h c d t h1
    by_cases hq : lessP x.f0.f0 x.f0.f1 c d = true
    · have e1 : plcP c d (x :: t) = plcP c d t + 1 := by rw [plcP, if_pos hq]
      have e2 : stE c d x = false := by
        rw [← Bool.not_eq_true, Y2F]
        unfold lessP at hq
        simp only [decide_eq_true_eq] at hq
        omega
      rw [List.any_cons, e2, Bool.false_or, ih]
      unfold thrP
      rw [e1, List.getElem?_cons_succ]
    · have e1 : plcP c d (x :: t) = 0 := by rw [plcP, if_neg hq]
      have e3 : t.any (stE c d) = false := by
        rw [List.any_eq_false]
        intro e he hs
        have hl := h2 e he
        rw [Y2F] at hs
        unfold YI lessP at hl
        unfold lessP at hq
        simp only [decide_eq_true_eq] at hl hq
        omega
      rw [List.any_cons, e3, Bool.or_false]
      unfold thrP
      rw [e1, List.getElem?_cons_zero]
      rfl
theorem Y4F (y : S30) : ∀ l : List S30, ord30 l = true → thrP y.f0.f0 y.f0.f1 l = true → ∀ h : plcP y.f0.f0 y.f0.f1 l < l.length, l.any (fun e => eqE e y) = eqE (l[plcP y.f0.f0 y.f0.f1 l]'h) y
  | [], _, ht, _ => by cases ht
  | x :: t, ho, ht, h => by
    obtain ⟨h1, h2⟩ := Y3X ho
    by_cases hq : lessP x.f0.f0 x.f0.f1 y.f0.f0 y.f0.f1 = true
    · have e1 : plcP y.f0.f0 y.f0.f1 (x :: t) = plcP y.f0.f0 y.f0.f1 t + 1 := by rw [plcP, if_pos hq]
      have e2 : eqE x y = false := by
        rw [← Bool.not_eq_true]
        intro he
        have := Y5q he
        rw [Y2F] at this
        unfold lessP at hq
        simp only [decide_eq_true_eq] at hq
        omega
      have ht2 : thrP y.f0.f0 y.f0.f1 t = true := by
        unfold thrP at ht ⊢
        rw [e1, List.getElem?_cons_succ] at ht
        exact ht
      simp only [e1, List.getElem_cons_succ]
      rw [List.any_cons, e2, Bool.false_or, Y4F y t h1 ht2 (Y3g ht2)]
    · have e1 : plcP y.f0.f0 y.f0.f1 (x :: t) = 0 := by rw [plcP, if_neg hq]
      have e3 : t.any (fun e => eqE e y) = false := by
        rw [List.any_eq_false]
        intro e he hs
        have hl := h2 e he
        have := Y5q hs
        rw [Y2F] at this
        unfold YI lessP at hl
        unfold lessP at hq
        simp only [decide_eq_true_eq] at hl hq
        omega
      simp only [e1, List.getElem_cons_zero]
      rw [List.any_cons, e3, Bool.or_false]
theorem Y4t : ∀ {l : List S30}, (∀ e ∈ l, chk30 e = 0) → Y1y l = 0
  | [], _ => rfl
  | x :: t, h => by
    unfold Y1y
    rw [if_pos (h x List.mem_cons_self)]
    exact Y4t fun e he => h e (List.mem_cons_of_mem _ he)
theorem Y2T : ∀ {l : List S30}, l.Pairwise (fun x y => YI x.f0 y.f0 = true) → ord30 l = true
  | [], _ => rfl
  | [x], _ => rfl
  | x :: z :: t, h => by
    have hp := List.pairwise_cons.1 h
    show (YI x.f0 z.f0 && ord30 (z :: t)) = true
    rw [hp.1 z List.mem_cons_self, Y2T hp.2]; rfl
theorem Y4U {d : Int} {l : List S30} (hd : 1 ≤ d ∧ d ≤ 64) (hl : l.length ≤ 512) (hc : ∀ e ∈ l, chk30 e = 0) (ho : ord30 l = true) (hk : ∀ e ∈ l, kno30 l e = true) : rchkP d l = 0 := by
  unfold rchkP
  rw [if_neg (by omega), if_neg (by omega), if_pos (Y4t hc), if_pos ho, if_pos (List.all_eq_true.2 hk)]
theorem Y3F : ∀ {l O : List S30}, l.Pairwise (fun x y => YI x.f0 y.f0 = true) → O.Pairwise (fun x y => YI x.f0 y.f0 = true) → (∀ x ∈ O, x ∈ l) → O.length ≤ l.length
  | _, [], _, _, _ => Nat.zero_le _
  | [], x :: r, _, _, h => absurd (h x List.mem_cons_self) (by simp)
  | y :: s, x :: r, h1, h2, h => by
    have p1 := List.pairwise_cons.1 h1
    have p2 := List.pairwise_cons.1 h2
    rcases List.mem_cons.1 (h x List.mem_cons_self) with e | hx
    · subst e
      have := Y3F p1.2 p2.2 (fun a ha => by
        rcases List.mem_cons.1 (h a (List.mem_cons_of_mem _ ha)) with e | ha'
        · have := p2.1 a ha; rw [e, Y1o] at this; cases this
        · exact ha')
      simp; omega
    · have := Y3F p1.2 h2 (fun a ha => by
        rcases List.mem_cons.1 (h a ha) with e | ha'
        · exfalso
          subst e
          rcases List.mem_cons.1 ha with e | ha2
          · subst e; have := p1.1 a hx; rw [Y1o] at this; cases this
          · have := Y1S (p1.1 x hx) (p2.1 a ha2); rw [Y1o] at this; cases this
        · exact ha')
      simp at this ⊢; omega
theorem Y41 : ∀ {l1 l2 : List S30}, l1.Pairwise (fun x y => YI x.f0 y.f0 = true) → l2.Pairwise (fun x y => YI x.f0 y.f0 = true) → (∀ a, a ∈ l1 ↔ a ∈ l2) → l1 = l2
  | [], [], _, _, _ => rfl
  | [], y :: s, _, _, h => absurd ((h y).2 List.mem_cons_self) (by simp)
  | x :: r, [], _, _, h => absurd ((h x).1 List.mem_cons_self) (by simp)
  | x :: r, y :: s, h1, h2, h => by
    have p1 := List.pairwise_cons.1 h1
    have p2 := List.pairwise_cons.1 h2
    have e : x = y := by
      rcases List.mem_cons.1 ((h x).1 List.mem_cons_self) with e | hx
      · exact e
      · rcases List.mem_cons.1 ((h y).2 List.mem_cons_self) with e | hy
        · exact e.symm
        · have := Y1S (p1.1 y hy) (p2.1 x hx)
          rw [Y1o] at this; cases this
    subst e
    have ht : ∀ a, a ∈ r ↔ a ∈ s := fun a => by
      constructor
      · intro ha
        rcases List.mem_cons.1 ((h a).1 (List.mem_cons_of_mem _ ha)) with e | ha'
        · have := p1.1 a ha; rw [e, Y1o] at this; cases this
        · exact ha'
      · intro ha
        rcases List.mem_cons.1 ((h a).2 (List.mem_cons_of_mem _ ha)) with e | ha'
        · have := p2.1 a ha; rw [e, Y1o] at this; cases this
        · exact ha'
    rw [Y41 p1.2 p2.2 ht]
structure Part (l O : List S30) : Prop where
  sub : ∀ x ∈ O, x ∈ l
  ord : O.Pairwise (fun x y => YI x.f0 y.f0 = true)
  kn : ∀ x ∈ O, kno30 O x = true
theorem Y2q {O O' : List S30} (h : ∀ x ∈ O, x ∈ O') {y : S30} (hk : kno30 O y = true) : kno30 O' y = true := by
  unfold kno30 fouB at *
  obtain ⟨x, hx, hq⟩ := List.any_eq_true.1 hk
  exact List.any_eq_true.2 ⟨x, h x hx, hq⟩
theorem Y5c {O : List S30} {y : S30} (h : y ∈ O) (hf : fndsE y = true) : kno30 O y = true := by
  unfold kno30 fouB
  exact List.any_eq_true.2 ⟨y, h, by rw [hf]; simp⟩
theorem Y2e (y : S30) (l : List S30) (i : Nat) (a : S30) : a ∈ l.take i ++ y :: l.drop i ↔ a = y ∨ a ∈ l := by
  rw [List.mem_append, List.mem_cons]
  conv => rhs; rw [← List.take_append_drop i l, List.mem_append]
  constructor
  · rintro (h | h | h)
    · exact Or.inr (Or.inl h)
    · exact Or.inl h
    · exact Or.inr (Or.inr h)
  · rintro (h | h | h)
    · exact Or.inr (Or.inl h)
    · exact Or.inl h
    · exact Or.inr (Or.inr h)
theorem Y3q (c d : Int) : ∀ (l : List S30), (∀ x ∈ l.take (plcP c d l), lessP x.f0.f0 x.f0.f1 c d = true) ∧ (l.Pairwise (fun x y => YI x.f0 y.f0 = true) → ∀ x ∈ l.drop (plcP c d l), lessP x.f0.f0 x.f0.f1 c d = false)
  | [] => ⟨by simp [plcP], by simp [plcP]⟩
  | x :: t => by
    obtain ⟨i1, i2⟩ := Y3q c d t
    by_cases h : lessP x.f0.f0 x.f0.f1 c d = true
    · rw [plcP, if_pos h, List.take_succ_cons, List.drop_succ_cons]
      refine ⟨fun y hy => ?_, fun hp => i2 (List.pairwise_cons.1 hp).2⟩
      rcases List.mem_cons.1 hy with rfl | hy
      · exact h
      · exact i1 y hy
    · rw [plcP, if_neg h, List.take_zero, List.drop_zero]
      refine ⟨by simp, fun hp y hy => ?_⟩
      rcases List.mem_cons.1 hy with rfl | hy
      · simpa using h
      · have hl := (List.pairwise_cons.1 hp).1 y hy
        simp [YI, lessP] at *; omega
theorem Y5h {l : List S30} {d : Int} (hv : rchkP d l = 0) (hl : l.length ≤ 500) {D : Int} (hD : 1 ≤ D ∧ D ≤ 64) {O : List S30} (hO : Part l O) {y : S30} (hy : y ∈ l) :
    (addP D O y = (D, O, 0) ∧ y ∈ O) ∨ (addP D O y = (0, [], 6) ∧ fndsE y = false ∧ kno30 O y = false) ∨ (∃ O', addP D O y = (D, O', 0) ∧ Part l O' ∧ y ∈ O' ∧ ∀ x ∈ O, x ∈ O') := by
  obtain ⟨ho, hk⟩ := Y1j hv
  have hc := Y26 hv
  have hlen := Y3F (Y1T ho) hO.ord hO.sub
  have hr : rchkP D O = 0 := Y4U hD (by omega) (fun e he => hc e (hO.sub e he)) (Y2T hO.ord) hO.kn
  unfold addP
  rw [if_pos hr, if_pos (hc y hy)]
  by_cases hin : y ∈ O
  · left
    have hany : O.any (stE y.f0.f0 y.f0.f1) = true := List.any_eq_true.2 ⟨y, hin, by rw [Y2F]; exact ⟨rfl, rfl⟩⟩
    have ht : thrP y.f0.f0 y.f0.f1 O = true := by rw [← Y3h _ _ O (Y2T hO.ord)]; exact hany
    have hlt := Y3g ht
    have hh := Y4F y O (Y2T hO.ord) ht hlt
    have he : O.any (fun e => eqE e y) = true := List.any_eq_true.2 ⟨y, hin, by simp [eqE]⟩
    rw [he] at hh
    rw [if_pos ht, if_pos (by rw [Y1a hlt]; exact hh.symm)]
    exact ⟨rfl, hin⟩
  · right
    have hn : O.any (stE y.f0.f0 y.f0.f1) = false := by
      rw [List.any_eq_false]
      intro e he hs
      rw [Y2F] at hs
      exact hin (Y3b ho (hO.sub e he) hy hs.1 hs.2 ▸ he)
    have ht : ¬ thrP y.f0.f0 y.f0.f1 O = true := by rw [← Y3h _ _ O (Y2T hO.ord), hn]; decide
    rw [if_neg ht]
    by_cases hb : fndsE y = false ∧ kno30 O y = false
    · left
      rw [if_pos hb]
      exact ⟨rfl, hb⟩
    · right
      rw [if_neg hb, if_neg (by omega)]
      refine ⟨_, rfl, ⟨fun x hx => ?_, ?_, fun x hx => ?_⟩, (Y2e _ _ _ _).2 (Or.inl rfl), fun x hx => (Y2e _ _ _ _).2 (Or.inr hx)⟩
      · rcases (Y2e _ _ _ _).1 hx with rfl | hx
        · exact hy
        · exact hO.sub x hx
      · obtain ⟨s1, s2⟩ := Y3q y.f0.f0 y.f0.f1 O
        have s2 := s2 hO.ord
        have hp := hO.ord
        rw [← List.take_append_drop (plcP y.f0.f0 y.f0.f1 O) O, List.pairwise_append] at hp
        refine List.pairwise_append.2 ⟨hp.1, List.pairwise_cons.2 ⟨fun x hx => ?_, hp.2.1⟩, fun a ha b hb => ?_⟩
        · have h1 := s2 x hx
          have h2 : ¬ (x.f0.f0 = y.f0.f0 ∧ x.f0.f1 = y.f0.f1) := fun q => hin (Y3b ho (hO.sub x (List.mem_of_mem_drop hx)) hy q.1 q.2 ▸ List.mem_of_mem_drop hx)
          simp [YI, lessP] at *; omega
        · rcases List.mem_cons.1 hb with rfl | hb
          · exact s1 a ha
          · exact hp.2.2 a ha b hb
      · have hsub : ∀ x ∈ O, x ∈ O.take (plcP y.f0.f0 y.f0.f1 O) ++ y :: O.drop (plcP y.f0.f0 y.f0.f1 O) := fun x hx => (Y2e _ _ _ _).2 (Or.inr hx)
        rcases (Y2e _ _ _ _).1 hx with rfl | hx
        · cases hf : fndsE x with
          | true => exact Y5c ((Y2e _ _ _ _).2 (Or.inl rfl)) hf
          | false =>
            cases hq : kno30 O x with
            | true => exact Y2q hsub hq
            | false => exact absurd ⟨hf, hq⟩ hb
        · exact Y2q hsub (hO.kn x hx)
theorem Y3Z {d : Int} {l : List S30} (h : rchkP d l = 0) : 1 ≤ d ∧ d ≤ 64 := by
  unfold rchkP at h
  split at h
  · cases h
  · omega
theorem Y4K (k : Nat) {dA dB : Int} {A B : List S30} (hA : rchkP dA A = 0) (hB : rchkP dB B = 0) (lA : A.length ≤ 120) (lB : B.length ≤ 120) (hz : ∀ e, e ∈ A ∨ e ∈ B → okE30 e) (hk : 2000 ≤ k) :
    (Y1P A B → ∃ U, Y9.f k dA A dB B = some (dA, U, 0) ∧ Str U ∧ (∀ y, y ∈ U ↔ y ∈ A ∨ y ∈ B) ∧ U.length ≤ A.length + B.length ∧ rchkP dA U = 0) ∧ (¬ Y1P A B → Y9.f k dA A dB B = some (0, [], 7)) := by
  have cA : Ym.f dA A = some 0 := by unfold Ym.f; rw [if_pos (fun e he => hz e (Or.inl he)), hA]
  have cB : Ym.f dB B = some 0 := by unfold Ym.f; rw [if_pos (fun e he => hz e (Or.inr he)), hB]
  have hf : Y9.f k dA A dB B = Y9.l0 k 0 0 dA A dB B dA [] := by
    unfold Y9.f YK.f
    rw [cA, Option.bind_some, if_pos rfl, cB, Option.bind_some, Option.bind_some, if_pos rfl]
  have h := Y1W dA dB dA A B (Y1T (Y1j hA).1) (Y1T (Y1j hB).1) (by omega) (by omega) (A.length + B.length) 0 0 k [] (by omega) (by omega) (by omega) (by omega) (by simp; omega)
  rw [List.drop_zero, List.drop_zero] at h
  rw [hf]
  replace h : Mrg dA [] A B (Y9.l0 k 0 0 dA A dB B dA []) := h
  refine ⟨fun hc => ?_, h.2⟩
  obtain ⟨U, hr, hs, hm, hl⟩ := h.1 hc
  refine ⟨U, by rw [hr, List.nil_append]; unfold fin; rw [if_neg (by omega)], hs, hm, hl, Y4U (Y3Z hA) (by omega) (fun e he => ?_) (Y2T hs) (fun e he => ?_)⟩
  · rcases (hm e).1 he with q | q
    · exact Y26 hA e q
    · exact Y26 hB e q
  · rcases (hm e).1 he with q | q
    · exact Y2q (fun x hx => (hm x).2 (Or.inl hx)) ((Y1j hA).2 e q)
    · exact Y2q (fun x hx => (hm x).2 (Or.inr hx)) ((Y1j hB).2 e q)
theorem Y4A (x y : S30) : eqE x y = true ↔ x = y := by
  constructor
  · intro h
    obtain ⟨⟨a0, a1⟩, a2, ⟨a3, a4⟩, a5, ⟨a6, a7, a8, a9, a10, a11, a12⟩⟩ := x
    obtain ⟨⟨b0, b1⟩, b2, ⟨b3, b4⟩, b5, ⟨b6, b7, b8, b9, b10, b11, b12⟩⟩ := y
    simp [eqE] at h
    simp [h]
  · rintro rfl
    simp [eqE]
def hasE (B : List S30) (e : S30) : Bool := B.any (fun b => eqE b e)
theorem Y3U (B : List S30) (e : S30) : hasE B e = true ↔ e ∈ B := by
  unfold hasE
  rw [List.any_eq_true]
  constructor
  · rintro ⟨x, hx, h⟩; rw [Y4A] at h; exact h ▸ hx
  · exact fun h => ⟨e, h, (Y4A e e).2 rfl⟩
def misP (A B : List S30) : List S30 := A.filter (fun e => !hasE B e)
theorem Y1K {A B : List S30} {e : S30} : e ∈ misP A B ↔ e ∈ A ∧ e ∉ B := by
  unfold misP
  rw [List.mem_filter, ← Y3U B e]
  cases hasE B e <;> simp
def neE (x y : S30) : Bool := ((!(x.f0.f0 == y.f0.f0) || (!(x.f0.f1 == y.f0.f1))) || (!(x.f1 == y.f1) || ((!(x.f2.f0 == y.f2.f0) || (!(x.f2.f1 == y.f2.f1))) || (!(x.f3 == y.f3) || ((!(x.f4.f0 == y.f4.f0) || (!(x.f4.f1 == y.f4.f1) || (!(x.f4.f2 == y.f4.f2) || (!(x.f4.f3 == y.f4.f3) || (!(x.f4.f4 == y.f4.f4) || (!(x.f4.f5 == y.f4.f5) || (!(x.f4.f6 == y.f4.f6)))))))))))))
theorem Y6a (x y : S30) : neE x y = !eqE x y := by
  unfold neE eqE
  simp only [Bool.not_and]
theorem Y4M (k : Nat) (c d : Int) (B : List S30) (hl : B.length ≤ 1000000) (hk : B.length + 1 ≤ k) : Yi.f k B c d = some ((plcP c d B : Int), thrP c d B) := by
  have := Y3Y c d B k 0 (by omega) (by omega) hl
  rw [List.drop_zero, Nat.zero_add] at this
  exact this
theorem Y4L (dB : Int) (A B : List S30) (hB : ord30 B = true) (lA : A.length ≤ 1000) (lB : B.length ≤ 1000) : ∀ (m i k : Nat) (out : List S30), A.length - i = m → i ≤ A.length → out.length ≤ i → m + B.length + 3 ≤ k →
    Yk.l0 k out A (A.length : Int) (i : Int) dB B = some (out ++ misP (A.drop i) B, 0)
  | 0, i, k, out, hm, hi, ho, hk => by
    obtain ⟨k, rfl⟩ : ∃ q, k = q + 1 := ⟨k - 1, by omega⟩
    rw [Yk.l0, if_neg (by omega), List.drop_of_length_le (by omega)]
    show _ = some (out ++ [], 0)
    rw [List.append_nil]
  | m + 1, i, k, out, hm, hi, ho, hk => by
    obtain ⟨k, rfl⟩ : ∃ q, k = q + 1 := ⟨k - 1, by omega⟩
    have hlt : i < A.length := by omega
    have hi2 : i ≤ 2000000 := by omega
    have ih := fun o h => Y4L dB A B hB lA lB m (i + 1) k o (by omega) (by omega) h (by omega)
    rw [Yk.l0, if_pos (by omega), if_pos (by omega), if_pos (by omega), Y1a hlt, Y4M k _ _ B (by omega) (by omega), Option.bind_some, Y43 hi2, List.drop_eq_getElem_cons hlt]
    dsimp only
    have hyes : hasE B A[i] = true → misP (A[i] :: A.drop (i + 1)) B = misP (A.drop (i + 1)) B := fun h => List.filter_cons_of_neg (by rw [h]; decide)
    have hno : hasE B A[i] = false → misP (A[i] :: A.drop (i + 1)) B = A[i] :: misP (A.drop (i + 1)) B := fun h => List.filter_cons_of_pos (by rw [h]; rfl)
    by_cases ht : thrP A[i].f0.f0 A[i].f0.f1 B = true
    · have hp := Y3g ht
      rw [if_pos ht, if_pos (by omega), if_pos (by omega), Y1a hp]
      have hat := Y4F A[i] B hB ht hp
      show (if neE B[plcP A[i].f0.f0 A[i].f0.f1 B] A[i] = true then _ else _) = _
      rw [Y6a, ← hat]
      cases hq : hasE B A[i]
      · rw [show B.any (fun e => eqE e A[i]) = false from hq, if_pos (show (!false) = true from rfl), if_pos (by omega), hno hq]
        rw [show out ++ A[i] :: misP (A.drop (i + 1)) B = (out ++ [A[i]]) ++ misP (A.drop (i + 1)) B by simp]
        exact ih (out ++ [A[i]]) (by rw [List.length_append, List.length_singleton]; omega)
      · rw [show B.any (fun e => eqE e A[i]) = true from hq, if_neg (show ¬ ((!true) = true) from by decide), hyes hq]
        exact ih out (by omega)
    · rw [if_neg ht, if_pos (by omega)]
      have hq : hasE B A[i] = false := by
        rw [← Bool.not_eq_true, Y3U]
        intro hin
        refine ht ?_
        rw [← Y3h _ _ B hB]
        exact List.any_eq_true.2 ⟨A[i], hin, by rw [Y2F]; exact ⟨rfl, rfl⟩⟩
      rw [hno hq, show out ++ A[i] :: misP (A.drop (i + 1)) B = (out ++ [A[i]]) ++ misP (A.drop (i + 1)) B by simp]
      exact ih (out ++ [A[i]]) (by rw [List.length_append, List.length_singleton]; omega)
theorem Y1L (k : Nat) {dA dB : Int} {A B : List S30} (hA : rchkP dA A = 0) (hB : rchkP dB B = 0) (lA : A.length ≤ 600) (lB : B.length ≤ 600) (zA : ∀ e ∈ A, okE30 e) (zB : ∀ e ∈ B, okE30 e) (hk : 2000 ≤ k) : Yk.f k dA A dB B = some (misP A B, 0) := by
  have cA : Ym.f dA A = some 0 := by unfold Ym.f; rw [if_pos zA, hA]
  have cB : Ym.f dB B = some 0 := by unfold Ym.f; rw [if_pos zB, hB]
  unfold Yk.f YK.f
  rw [cA, Option.bind_some, if_pos rfl, cB, Option.bind_some, Option.bind_some, if_pos rfl]
  have := Y4L dB A B (Y1j hB).1 (by omega) (by omega) A.length 0 k [] (by omega) (by omega) (by simp) (by omega)
  rw [List.drop_zero, List.nil_append] at this
  exact this
def zN (n : Int) : Prop := -9223372036854775808 ≤ n ∧ n ≤ 9223372036854775807
def zT26 (x : S26) : Prop := zN x.f0 ∧ zN x.f1
def zT28 (x : S28) : Prop := zN x.f0 ∧ zN x.f1 ∧ zN x.f2 ∧ zN x.f3 ∧ zN x.f4 ∧ zN x.f5 ∧ zN x.f6
def zT30 (x : S30) : Prop := zT26 x.f0 ∧ zN x.f1 ∧ zT26 x.f2 ∧ True ∧ zT28 x.f4
theorem zN_ok {n : Int} (h : zN n) : okN n := by
  have e1 : IntKind.i64.min = -9223372036854775808 := rfl
  have e2 : IntKind.i64.max = 9223372036854775807 := rfl
  unfold okN
  simp only [Lit.wf, e1, e2, Bool.and_eq_true, decide_eq_true_eq]
  exact h
theorem zT_ok {x : S30} (h : zT30 x) : okE30 x := by
  obtain ⟨_, c, ⟨d, e⟩, _⟩ := h
  exact ⟨zN_ok c, zN_ok d, zN_ok e⟩
theorem Y2n (l : List S30) (hl : l.length ≤ 1000000) : ∀ (m i k : Nat), l.length - i = m → i ≤ l.length → m + 1 ≤ k → Yg.l0 k l l (i : Int) = some true
  | 0, i, k, hm, hi, hk => by
    obtain ⟨k, rfl⟩ : ∃ j, k = j + 1 := ⟨k - 1, by omega⟩
    unfold Yg.l0
    rw [if_neg (by omega)]
  | m + 1, i, k, hm, hi, hk => by
    obtain ⟨k, rfl⟩ : ∃ j, k = j + 1 := ⟨k - 1, by omega⟩
    unfold Yg.l0
    rw [if_pos (by omega), if_pos (by omega), if_pos (by omega), if_neg (by simp), show wrap64 ((i : Int) + 1) = ((i + 1 : Nat) : Int) by unfold wrap64; omega]
    exact Y2n l hl m (i + 1) k (by omega) (by omega) (by omega)
theorem Y3A (k : Nat) (l : List S30) (hl : l.length ≤ 1000000) (hk : l.length + 1 ≤ k) : Yg.f k l l = some true := by
  unfold Yg.f
  rw [if_pos rfl]
  exact Y2n l hl l.length 0 k (by omega) (by omega) hk
theorem Y4g (k : Nat) (d : Int) (l : List S30) (hl : l.length ≤ 1000000) (hk : l.length + 1 ≤ k) : Yy.f k d l d l = some true := by
  unfold Yy.f
  rw [if_pos rfl, Y3A k l hl hk]
  rfl
theorem Y58 {y : S30} (h : chk30 y = 0) : YI y.f0 y.f2 = false := by
  unfold chk30 chkE at h
  split at h
  · cases h
  · rename_i hn
    cases hq : YI y.f0 y.f2
    · rfl
    · exact absurd (Or.inr (Or.inr hq)) hn
theorem Y49 {a b : S26} (h1 : YI b a = false) (h2 : ¬ (a.f0 = b.f0 ∧ a.f1 = b.f1)) : YI a b = true := by
  simp [YI, lessP] at *
  omega
theorem Y46 {d : Int} {B : List S30} (hB : rchkP d B = 0) {y : S30} (hy : y ∈ B) : fndsE y = true ∨ ∃ x ∈ B, YI x.f0 y.f0 = true ∧ fndsE x = true ∧ y.f1 = x.f1 ∧ y.f2.f0 = x.f2.f0 ∧ y.f2.f1 = x.f2.f1 := by
  obtain ⟨x, hx, x3, x0, x1, x2, x4, x5⟩ := Y23 ((Y1j hB).2 y hy)
  have hxf : fndsE x = true := by
    unfold fndsE
    rw [x3]
    simp
    omega
  by_cases he : x.f0.f0 = y.f0.f0 ∧ x.f0.f1 = y.f0.f1
  · left
    rw [← Y3b (Y1j hB).1 hx hy he.1 he.2]
    exact hxf
  · right
    refine ⟨x, hx, Y49 ?_ he, hxf, x2.symm, x4.symm, x5.symm⟩
    have := Y58 (Y26 hB y hy)
    simp [YI, lessP] at *
    omega
theorem Y67 {O : List S30} {x y : S30} (hx : x ∈ O) (hf : fndsE x = true) (h : y.f1 = x.f1 ∧ y.f2.f0 = x.f2.f0 ∧ y.f2.f1 = x.f2.f1) : kno30 O y = true := by
  unfold kno30 fouB
  exact List.any_eq_true.2 ⟨x, hx, by rw [hf]; simp; omega⟩
theorem Y5M {A B : List S30} (h : Str A) : Str (misP A B) := h.sublist List.filter_sublist
theorem Y4B (dA dB : Int) (A B U : List S30) (hA : rchkP dA A = 0) (hB : rchkP dB B = 0) (hU : rchkP dA U = 0) (lA : A.length ≤ 40) (lB : B.length ≤ 40) (lU : U.length ≤ 80) (zU : ∀ e ∈ U, okE30 e) (hm : ∀ y, y ∈ U ↔ y ∈ A ∨ y ∈ B) (F : Nat) (hF : 2000 ≤ F) : ∀ (m i k : Nat) (O : List S30), (misP B A).length - i = m → i ≤ (misP B A).length → F + m + 1 ≤ k →
    Part U O → (∀ x ∈ A, x ∈ O) → (∀ x ∈ (misP B A).take i, x ∈ O) →
    Yc.l0 k (misP B A) (i : Int) dA A dB B dA U dA O = some true
  | 0, i, k, O, hm0, hi, hk, hO, h1, h2 => by
    obtain ⟨k, rfl⟩ : ∃ q, k = q + 1 := ⟨k - 1, by omega⟩
    rw [List.take_of_length_le (by omega)] at h2
    have hAU : misP A U = [] := List.eq_nil_iff_forall_not_mem.2 fun x hx => (Y1K.1 hx).2 ((hm x).2 (Or.inl (Y1K.1 hx).1))
    have hBU : misP B U = [] := List.eq_nil_iff_forall_not_mem.2 fun x hx => (Y1K.1 hx).2 ((hm x).2 (Or.inr (Y1K.1 hx).1))
    have hUU : misP U U = [] := List.eq_nil_iff_forall_not_mem.2 fun x hx => (Y1K.1 hx).2 (Y1K.1 hx).1
    have zA : ∀ e ∈ A, okE30 e := fun e he => zU e ((hm e).2 (Or.inl he))
    have zB : ∀ e ∈ B, okE30 e := fun e he => zU e ((hm e).2 (Or.inr he))
    have eO : O = U := Y41 hO.ord (Y1T (Y1j hU).1) (fun a => ⟨hO.sub a, fun ha => by
      rcases (hm a).1 ha with q | q
      · exact h1 a q
      · by_cases g : a ∈ A
        · exact h1 a g
        · exact h2 a (Y1K.2 ⟨q, g⟩)⟩)
    rw [Yc.l0, if_neg (by omega), eO, Y1L k hA hU (by omega) (by omega) zA zU (by omega), Option.bind_some, Y1L k hB hU (by omega) (by omega) zB zU (by omega), Option.bind_some, Y1L k hU hU (by omega) (by omega) zU zU (by omega), Option.bind_some, hAU, hBU, hUU]
    dsimp only
    rw [if_pos rfl, if_pos rfl, if_pos rfl, if_pos (show ((([] : List S30).length : Nat) : Int) = 0 from rfl), if_pos (show ((([] : List S30).length : Nat) : Int) = 0 from rfl), if_pos (show ((([] : List S30).length : Nat) : Int) = 0 from rfl), Y4g k dA U (by omega) (by omega), Option.bind_some, if_pos rfl, Y2P k (by omega)]
    rfl
  | m + 1, i, k, O, hm0, hi, hk, hO, h1, h2 => by
    obtain ⟨k, rfl⟩ : ∃ q, k = q + 1 := ⟨k - 1, by omega⟩
    have hlt : i < (misP B A).length := by omega
    have hll : (misP B A).length ≤ 40 := Nat.le_trans (List.length_filter_le _ _) lB
    have hi2 : i ≤ 2000000 := by omega
    have hyM : (misP B A)[i] ∈ misP B A := List.getElem_mem hlt
    have hyB := (Y1K.1 hyM).1
    have hyU : (misP B A)[i] ∈ U := (hm _).2 (Or.inr hyB)
    rw [Yc.l0, if_pos (by omega), if_pos (by omega), Y1a hlt, Y43 hi2]
    have ha : YJ.f dA O (misP B A)[i].f0.f0 (misP B A)[i].f0.f1 (misP B A)[i].f1 (misP B A)[i].f2.f0 (misP B A)[i].f2.f1 (misP B A)[i].f3 (misP B A)[i].f4.f0 (misP B A)[i].f4.f1 (misP B A)[i].f4.f2 (misP B A)[i].f4.f3 (misP B A)[i].f4.f4 (misP B A)[i].f4.f5 (misP B A)[i].f4.f6 = some (addP dA O (misP B A)[i]) := by
      unfold YJ.f
      rw [if_pos ⟨fun e he => zU e (hO.sub e he), zU _ hyU⟩]
      rfl
    rw [ha, Option.bind_some]
    have hstep : ∀ O', Part U O' → (misP B A)[i] ∈ O' → (∀ x ∈ O, x ∈ O') → Yc.l0 k (misP B A) ((i + 1 : Nat) : Int) dA A dB B dA U dA O' = some true := fun O' p1 p2 p3 => by
      refine Y4B dA dB A B U hA hB hU lA lB lU zU hm F hF m (i + 1) k O' (by omega) (by omega) (by omega) p1 (fun x hx => p3 x (h1 x hx)) (fun x hx => ?_)
      rw [← List.take_append_getElem hlt] at hx
      rcases List.mem_append.1 hx with hx | hx
      · exact p3 x (h2 x hx)
      · rw [List.mem_singleton.1 hx]; exact p2
    rcases Y5h hU (by omega) (Y3Z hA) hO hyU with ⟨g, hin⟩ | ⟨g, g1, g2⟩ | ⟨O', g, hp, hin, hs⟩
    · rw [g, if_pos rfl]
      exact hstep O hO hin (fun x hx => hx)
    · exfalso
      rcases Y46 hB hyB with q | ⟨x, hx, hl, hf, he⟩
      · rw [q] at g1; cases g1
      · have hxO : x ∈ O := by
          by_cases gx : x ∈ A
          · exact h1 x gx
          · refine h2 x ?_
            obtain ⟨j, hj, ej⟩ := List.getElem_of_mem (Y1K.2 ⟨hx, gx⟩ : x ∈ misP B A)
            have hst : Str (misP B A) := Y5M (Y1T (Y1j hB).1)
            have hji : j < i := by
              rcases Nat.lt_trichotomy j i with q | q | q
              · exact q
              · exfalso
                subst q
                rw [ej, Y1o] at hl
                cases hl
              · exfalso
                have h3 := List.pairwise_iff_getElem.1 hst i j hlt hj q
                rw [ej] at h3
                have := Y1S hl h3
                rw [Y1o] at this
                cases this
            rw [← ej]
            have : (misP B A)[j] = ((misP B A).take i)[j]'(by rw [List.length_take]; omega) := by rw [List.getElem_take]
            rw [this]
            exact List.getElem_mem _
        rw [Y67 hxO hf he] at g2
        cases g2
    · rw [g, if_pos rfl]
      exact hstep O' hp hin hs
end Go.Proofs.Yteopkkoblbmggaa.P
end
section
set_option linter.unusedVariables false
set_option linter.unusedSimpArgs false
namespace Go.Proofs.Yteopkkoblbmggaa.Pure
open Go.RowKit Go.Proofs.Yteopkkoblbmggaa.P Go.Proofs.Yteopkkoblbmggaa.Open Go.Proofs.YteopkkoblbmggaaW.PrintWords Go.Proofs.YteopkkoblbmggaaW.PrintLast Go.Proofs.YteopkkoblbmggaaW.PrintMore
theorem ReplicaExchange (a0_0 : Int) (l0_1 : List S30) (a1_0 : Int) (l1_1 : List S30) (w0_0 : okI a0_0) (w0_1 : l0_1.length ≤ maxLen ∧ l0_1.length * 104 ≤ 140737488351232 ∧ ∀ y ∈ l0_1, zT30 y) (w1_0 : okI a1_0) (w1_1 : l1_1.length ≤ maxLen ∧ l1_1.length * 104 ≤ 140737488351232 ∧ ∀ y ∈ l1_1, zT30 y) : ∃ k, Yc.f k a0_0 l0_1 a1_0 l1_1 = some true := by
  refine ⟨6000, ?_⟩
  have aw : ((Ya.f 6000).bind fun t => some t) = some true := by rw [Y2P 6000 (by decide)]; rfl
  have zA : ∀ e ∈ l0_1, okE30 e := fun e he => zT_ok (w0_1.2.2 e he)
  have zB : ∀ e ∈ l1_1, okE30 e := fun e he => zT_ok (w1_1.2.2 e he)
  have cA : Ym.f a0_0 l0_1 = some (rchkP a0_0 l0_1) := by unfold Ym.f; rw [if_pos zA]
  have cB : Ym.f a1_0 l1_1 = some (rchkP a1_0 l1_1) := by unfold Ym.f; rw [if_pos zB]
  unfold Yc.f
  rw [Y3T, Option.bind_some]
  by_cases g1 : 40 < l0_1.length
  · rw [if_pos (by simpa using g1)]; exact aw
  rw [if_neg (by simpa using g1), Y3T, Option.bind_some]
  by_cases g2 : 40 < l1_1.length
  · rw [if_pos (by simpa using g2)]; exact aw
  rw [if_neg (by simpa using g2)]
  by_cases vA : rchkP a0_0 l0_1 = 0
  rotate_left
  · unfold Y9.f YK.f
    rw [cA, Option.bind_some, if_neg vA, Option.bind_some, if_neg vA, Option.bind_some, if_neg vA]; exact aw
  by_cases vB : rchkP a1_0 l1_1 = 0
  rotate_left
  · unfold Y9.f YK.f
    rw [cA, Option.bind_some, if_pos vA, cB, Option.bind_some, Option.bind_some, if_neg vB, Option.bind_some, if_neg vB]; exact aw
  obtain ⟨ab1, ab2⟩ := Y4K 6000 vA vB (by omega) (by omega) (fun e he => he.elim (zA e) (zB e)) (by decide)
  by_cases nab : Y1P l0_1 l1_1
  rotate_left
  · rw [ab2 nab, Option.bind_some, if_neg (by decide)]; exact aw
  obtain ⟨U, hU, sU, mU, lU_, rU⟩ := ab1 nab
  have zU : ∀ e ∈ U, okE30 e := fun e he => ((mU e).1 he).elim (zA e) (zB e)
  rw [hU, Option.bind_some, if_pos rfl, Y1L 6000 vB vA (by omega) (by omega) zB zA (by decide), Option.bind_some, if_pos rfl]
  exact Y4B a0_0 a1_0 l0_1 l1_1 U vA vB rU (by omega) (by omega) (by omega) zU mU 5000 (by decide) (misP l1_1 l0_1).length 0 6000 l0_1 (by omega) (by omega) (by have : (misP l1_1 l0_1).length ≤ l1_1.length := List.length_filter_le _ _; omega)
    ⟨fun x hx => (mU x).2 (Or.inl hx), Y1T (Y1j vA).1, (Y1j vA).2⟩ (fun x hx => hx) (by simp)
end Go.Proofs.Yteopkkoblbmggaa.Pure
end

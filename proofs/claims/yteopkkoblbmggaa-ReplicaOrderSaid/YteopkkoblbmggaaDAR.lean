/- Texts of this claim in one: VOpen, VAwakeR, VRAddP, VOrdP, VSamR, PureReplicaOrder; no condition. -/
import Derived.Test.YteopkkoblbmggaaDAB
import Derived.OpenShut
import Derived.SizedLaws
import Derived.ChangeArms
import Derived.Test.YteopkkoblbmggaaDAE
import Derived.Test.YteopkkoblbmggaaDAC
import Derived.Test.YteopkkoblbmggaaDAO
import Derived.Test.YteopkkoblbmggaaDAH
import Derived.Test.YteopkkoblbmggaaDAJ
import Derived.Test.YteopkkoblbmggaaDAI
import Derived.Test.YteopkkoblbmggaaDAN
import Derived.Test.YteopkkoblbmggaaDAM
import Derived.Test.YteopkkoblbmggaaDAP
import Derived.Test.YteopkkoblbmggaaDAQ
section
set_option linter.unusedVariables false
namespace Go.Proofs.Yteopkkoblbmggaa.Open
open Go.ChangeShapes Go.WideShapes Go.RowKit Go.Proofs.YteopkkoblbmggaaW.PrintWords
def Opens {α : Type} (P : Program) (t : TypeId) (d : Kd α) (ok : α → Prop) : Prop :=
  P.cellsOf t = d.sz ∧ ∀ (H : Type) (enc : TypeId × Value → H) (w : World) (sp : Nat → Bool) (hd : Bool) (fuel : Nat) (cs : List Value) (x : DataW H × List MemPlace),
    DataW.trod enc P w 0 sp hd fuel t cs = some x → (∀ n ∈ x.1.weights P t, n ≤ 140737488351232) → ∃ a, d.K w a cs ∧ ok a
def okI (n : Int) : Prop := -9223372036854775808 ≤ n ∧ n ≤ 9223372036854775807
theorem Y48 {P : Program} {t : TypeId} (ht : P.underlying t = some (.int .i64)) (hc : P.cellsOf t = 1) : Opens P t (Kd.int .i64) okI :=
  ⟨hc, fun H enc w sp hd fuel cs x h _ => by
    obtain ⟨n, rfl, _, hw⟩ := DataW.trod_int ht h
    exact ⟨n, rfl, bounds_i64 hw⟩⟩
theorem Y4z {P : Program} {t : TypeId} (ht : P.underlying t = some (.int .u8)) (hc : P.cellsOf t = 1) : Opens P t (Kd.int .u8) (fun n => 0 ≤ n ∧ n ≤ 255) :=
  ⟨hc, fun H enc w sp hd fuel cs x h _ => by
    obtain ⟨n, rfl, _, hw⟩ := DataW.trod_int ht h
    exact ⟨n, rfl, bounds_u8 hw⟩⟩
theorem Y3D {P : Program} {t : TypeId} (ht : P.underlying t = some .bool) (hc : P.cellsOf t = 1) : Opens P t Kd.bool (fun _ => True) :=
  ⟨hc, fun H enc w sp hd fuel cs x h _ => by
    obtain ⟨n, rfl, _⟩ := DataW.trod_bool ht h
    exact ⟨n, rfl, trivial⟩⟩
theorem Y1L {H : Type} {P : Program} {e : TypeId} {n : Nat} : ∀ {ds : List (DataW H)} {d : DataW H}, d ∈ ds → n ∈ d.weights P e → n ∈ DataW.weightsAll P e ds
  | d0 :: ds, d, hd, hn => by
    rw [DataW.weightsAll, List.mem_append]
    rcases List.mem_cons.1 hd with rfl | hd
    · exact .inl hn
    · exact .inr (Y1L hd hn)
theorem Y2b {α : Type} {P : Program} {t e : TypeId} {d : Kd α} {ok : α → Prop} (ht : P.underlying t = some (.slice e)) (hc : P.cellsOf t = 1) {B : Nat} (hB : P.bytesOf e = B) (ho : Opens P e d ok) :
    Opens P t (Kd.slice e d) (fun xs => xs.length ≤ maxLen ∧ xs.length * B ≤ 140737488351232 ∧ ∀ a ∈ xs, ok a) := by
  refine ⟨hc, fun H enc w sp hd fuel cs x h hw => ?_⟩
  rcases DataW.trod_slice ht h with ⟨rfl, _⟩ | ⟨a, len, cap, elems, rest, n, _, rfl, rfl, _, hlc, hcm, hel, helem, _, _⟩
  · exact ⟨[], ⟨none, 0, rfl, Nat.le_refl _, Kd.C_nil d w⟩, by simp, by simp, by simp⟩
  · have hwt : ∀ m ∈ (elems.length + rest.length) * P.bytesOf e :: (DataW.weightsAll P e (elems.map (·.1)) ++ DataW.weightsAll P e (rest.map (·.1))), m ≤ 140737488351232 := by
      intro m hm
      refine hw m ?_
      simp only [DataW.weights, ht, List.length_map]
      exact hm
    have key : ∀ i : Fin len, ∃ p : α, ok p ∧ ∃ c : List Value, c.length = d.sz ∧ d.K w p c ∧ ∀ j u, c[j]? = some u → w.cell? (a.add (i.1 * d.sz + j)) = some u := by
      intro i
      have hi := helem i.1 i.2
      have hlt : i.1 < elems.length := by have := i.2; omega
      rw [List.getElem?_eq_getElem hlt] at hi
      obtain ⟨c, hc1, hc2⟩ := Option.bind_eq_some_iff.1 hi
      obtain ⟨_, hl, hcell⟩ := World.cells?_some hc1
      obtain ⟨p, hp, hok⟩ := ho.2 H enc w sp hd n c _ hc2 (fun m hm => hwt m (List.mem_cons_of_mem _ (List.mem_append_left _ (Y1L (List.mem_map.2 ⟨_, List.getElem_mem hlt, rfl⟩) hm))))
      refine ⟨p, hok, c, by rw [hl, ho.1], hp, fun j u hu => ?_⟩
      have hj : j < P.cellsOf e := by rw [← hl]; exact (List.getElem?_eq_some_iff.1 hu).1
      have hh := hcell j hj
      rw [hu, Addr.add_add, ho.1] at hh
      exact hh
    have hlen : (List.ofFn fun i : Fin len => Classical.choose (key i)).length = len := List.length_ofFn
    have hmx : len ≤ 9223372036854775807 := by unfold maxLen at hcm; omega
    refine ⟨List.ofFn fun i : Fin len => Classical.choose (key i), ⟨some a, cap, by rw [hlen], by rw [hlen]; exact hlc, ?_⟩, by rw [hlen]; unfold maxLen at hcm ⊢; omega, ?_, ?_⟩
    · refine ⟨rfl, by rw [hlen]; exact hmx, fun _ => ⟨a, rfl, fun j p hp => ?_⟩⟩
      rw [List.getElem?_ofFn] at hp
      split at hp
      · rename_i hj
        injection hp with hp
        subst hp
        exact (Classical.choose_spec (key ⟨j, hj⟩)).2
      · cases hp
    · rw [hlen, ← hB]
      have := hwt _ List.mem_cons_self
      exact Nat.le_trans (Nat.mul_le_mul_right _ (by omega)) this
    · intro p hp
      obtain ⟨i, rfl⟩ := List.mem_ofFn.1 hp
      exact (Classical.choose_spec (key i)).1
def Y3f {α : Type} (P : Program) (fs : List Field) (o : Nat) (d : Kd α) (ok : α → Prop) : Prop :=
  ∀ (H : Type) (enc : TypeId × Value → H) (w : World) (sp : Nat → Bool) (hd : Bool) (fuel : Nat) (cs : List Value) (ys : List (DataW H × List MemPlace)),
    ys.length = fs.length → (∀ (i : Nat) (f : Field), fs[i]? = some f → DataW.trod enc P w 0 sp hd fuel f.type ((cs.drop f.offset).take (P.cellsOf f.type)) = ys[i]?) → cs.length = o + d.sz →
    (∀ n ∈ DataW.weightsEach P (fs.map (·.type)) (ys.map (·.1)), n ≤ 140737488351232) → ∃ a, d.K w a (cs.drop o) ∧ ok a
theorem Y1I {α : Type} {P : Program} {f : Field} {o : Nat} {d : Kd α} {ok : α → Prop} (hf : f.offset = o) (ho : Opens P f.type d ok) : Y3f P [f] o d ok := by
  intro H enc w sp hd fuel cs ys hl hy hcs hw
  match ys, hl with
  | [y], _ =>
    have h := hy 0 f rfl
    have e : (cs.drop f.offset).take (P.cellsOf f.type) = cs.drop o := by rw [hf, ho.1]; exact List.take_of_length_le (by rw [List.length_drop]; omega)
    rw [e] at h
    exact ho.2 H enc w sp hd fuel _ y h (fun n hn => hw n (by simpa [DataW.weightsEach] using hn))
theorem YY {α β : Type} {P : Program} {f : Field} {fs : List Field} {o : Nat} {d : Kd α} {d' : Kd β} {ok : α → Prop} {ok' : β → Prop} (hf : f.offset = o) (ho : Opens P f.type d ok) (hr : Y3f P fs (o + d.sz) d' ok') :
    Y3f P (f :: fs) o (Kd.pair d d') (fun a => ok a.1 ∧ ok' a.2) := by
  intro H enc w sp hd fuel cs ys hl hy hcs hw
  match ys, hl with
  | y :: ys, hl =>
    have h := hy 0 f rfl
    have hcs' : cs.length = o + (d.sz + d'.sz) := hcs
    rw [hf, ho.1] at h
    obtain ⟨a, ka, oa⟩ := ho.2 H enc w sp hd fuel _ y h (fun n hn => hw n (by simp only [List.map_cons, DataW.weightsEach, List.mem_append]; exact .inl hn))
    obtain ⟨b, kb, ob⟩ := hr H enc w sp hd fuel cs ys (by simpa using hl) (fun i g hg => by simpa using hy (i + 1) g (by simpa using hg)) (by omega) (fun n hn => hw n (by simp only [List.map_cons, DataW.weightsEach, List.mem_append]; exact .inr hn))
    refine ⟨(a, b), ⟨_, _, ?_, ka, kb⟩, oa, ob⟩
    rw [← List.drop_drop, List.take_append_drop]
theorem Y1u {α β : Type} {P : Program} {t : TypeId} {fs : List Field} {d : Kd α} {ok : α → Prop} (ht : P.underlying t = some (.struct fs.toArray)) (hc : P.cellsOf t = d.sz) (ho : Y3f P fs 0 d ok) (f : β → α) (g : α → β) (hfg : ∀ a, f (g a) = a) :
    Opens P t (Kd.iso d f) (fun b => ok (f b)) := by
  refine ⟨hc, fun H enc w sp hd fuel cs x h hw => ?_⟩
  obtain ⟨xs, n, _, rfl, hl, hxl, hx⟩ := DataW.trod_struct ht h
  obtain ⟨a, ha, hok⟩ := ho H enc w sp hd n cs xs (by simpa using hxl) (fun i f hf => hx i f (by simpa using hf)) (by omega) (fun m hm => hw m (by simp only [DataW.weights, ht]; exact hm))
  refine ⟨g a, ?_, by show ok (f (g a)); rw [hfg]; exact hok⟩
  show d.K w (f (g a)) cs
  rw [hfg]
  exact ha
section
variable {H : Type} {enc : TypeId × Value → H} {P : Program} {W : World} {ts : List TypeId} {ds : List (DataW H)} {j : Nat} {t : TypeId} {v : Value} {dd : DataW H} {p : List MemPlace} {sp : Nat → Bool} {hd : Bool}
theorem Y4x {α : Type} {d : Kd α} {ok : α → Prop} {r : Reach} {b : Nat} {fs : Array Field} (ho : Opens P t d ok) (ht : P.underlying t = some (.struct fs)) (hv : Value.okWide P W r b t v)
    (hsz : (DataW.weightsEach P ts ds).all (· ≤ reachBytes) = true) (htj : ts[j]? = some t) (hdj : ds[j]? = some dd) (h : DataW.Trod enc P W 0 sp hd t v dd p) : ∃ (a : α) (cs : Array Value), v = .agg cs ∧ d.K W a cs.toList ∧ ok a := by
  obtain ⟨cs, rfl, _⟩ := okWide_struct ht hv
  obtain ⟨fuel, hf⟩ := h
  obtain ⟨a, ha, hok⟩ := ho.2 H enc W sp hd fuel _ _ hf (fun n hn => by
    have := List.all_eq_true.1 hsz _ (DataW.weights_mem_each htj hdj n hn)
    exact of_decide_eq_true this)
  exact ⟨a, cs, rfl, ha, hok⟩
theorem Y4y {α : Type} {d : Kd α} {ok : List α → Prop} {r : Reach} {b : Nat} {e : TypeId} (ho : Opens P t (Kd.slice e d) ok) (ht : P.underlying t = some (.slice e)) (hv : Value.okWide P W r b t v)
    (hsz : (DataW.weightsEach P ts ds).all (· ≤ reachBytes) = true) (htj : ts[j]? = some t) (hdj : ds[j]? = some dd) (h : DataW.Trod enc P W 0 sp hd t v dd p) :
    ∃ (xs : List α) (A : Option Addr) (c : Nat), v = .slice A xs.length c ∧ xs.length ≤ c ∧ d.C W A xs.length xs ∧ ok xs := by
  obtain ⟨A, len, cap, rfl⟩ := okWide_slice ht hv
  obtain ⟨fuel, hf⟩ := h
  obtain ⟨xs, ⟨A', c', he, hl, hC⟩, hok⟩ := ho.2 H enc W sp hd fuel _ _ hf (fun n hn => by
    have := List.all_eq_true.1 hsz _ (DataW.weights_mem_each htj hdj n hn)
    exact of_decide_eq_true this)
  simp only [Value.cells] at he
  injection he with he _
  exact ⟨xs, A', c', he, hl, hC, hok⟩
end
end Go.Proofs.Yteopkkoblbmggaa.Open
end
section
set_option linter.unusedVariables false
namespace Go.Proofs.Yteopkkoblbmggaa.P
open Go.RowKit Go.Proofs.YteopkkoblbmggaaW.PrintWords Go.Proofs.YteopkkoblbmggaaW.PrintLast Go.Proofs.YteopkkoblbmggaaW.PrintMore
set_option maxRecDepth 100000 in
theorem Y3Q : Y8.f 400 = some true := by decide +kernel
theorem Y1S (k : Nat) (hk : 400 ≤ k) : Y8.f k = some true := Y2S (fun k => Y8.mono k) hk Y3Q
theorem Y2A (d : Int) (l : List S30) : Yw.f d l = some (decide (40 < l.length)) := by
  unfold Yw.f
  congr 1
  rw [decide_eq_decide]
  omega
end Go.Proofs.Yteopkkoblbmggaa.P
end
section
set_option linter.unusedVariables false
set_option linter.unusedSimpArgs false
namespace Go.Proofs.Yteopkkoblbmggaa.P
open Go.RowKit Go.Proofs.YteopkkoblbmggaaW.PrintWords Go.Proofs.YteopkkoblbmggaaW.PrintLast Go.Proofs.YteopkkoblbmggaaW.PrintMore
def stE (c d : Int) (e : S30) : Bool := e.f0.f0 == c && (e.f0.f1 == d)
theorem Y3A {a b c d e f : Int} (h : lessP a b c d = true) (g : lessP c d e f = true) : lessP a b e f = true := by
  unfold lessP at *
  simp only [decide_eq_true_eq] at *
  omega
theorem Y3r {x : S30} {t : List S30} (h : ord30 (x :: t) = true) : ord30 t = true ∧ ∀ e ∈ t, Y14 x.f0 e.f0 = true := by
  induction t generalizing x with
  | nil => exact ⟨rfl, fun e he => by cases he⟩
  | cons z t ih =>
    have h2 : (Y14 x.f0 z.f0 && ord30 (z :: t)) = true := h
    rw [Bool.and_eq_true] at h2
    obtain ⟨g1, g2⟩ := ih h2.2
    refine ⟨h2.2, fun e he => ?_⟩
    rcases List.mem_cons.1 he with rfl | he
    · exact h2.1
    · exact Y3A h2.1 (g2 e he)
theorem Y2w (c d : Int) (e : S30) : stE c d e = true ↔ e.f0.f0 = c ∧ e.f0.f1 = d := by unfold stE; simp
theorem Y4M {x y : S30} (h : eqE x y = true) : stE y.f0.f0 y.f0.f1 x = true := by
  unfold eqE at h
  unfold stE
  rw [Bool.and_eq_true] at h
  exact h.1
theorem Y3d (c d : Int) : ∀ l : List S30, ord30 l = true → l.any (stE c d) = thrP c d l
  | [], _ => rfl
  | x :: t, h => by
    obtain ⟨h1, h2⟩ := Y3r h
    have ih := Y3d c d t h1
    by_cases hq : lessP x.f0.f0 x.f0.f1 c d = true
    · have e1 : plcP c d (x :: t) = plcP c d t + 1 := by rw [plcP, if_pos hq]
      have e2 : stE c d x = false := by
        rw [← Bool.not_eq_true, Y2w]
        unfold lessP at hq
        simp only [decide_eq_true_eq] at hq
        omega
      rw [List.any_cons, e2, Bool.false_or, ih]
      unfold thrP
      rw [e1, List.getElem?_cons_succ]
    · have e1 : plcP c d (x :: t) = 0 := by rw [plcP, if_neg hq]
      have e3 : t.any (stE c d) = false := by
        rw [List.any_eq_false]
        intro e he hs
        have hl := h2 e he
        rw [Y2w] at hs
        unfold Y14 lessP at hl
        unfold lessP at hq
        simp only [decide_eq_true_eq] at hl hq
        omega
      rw [List.any_cons, e3, Bool.or_false]
      unfold thrP
      rw [e1, List.getElem?_cons_zero]
      rfl
theorem Y4N (y : S30) : ∀ l : List S30, ord30 l = true → thrP y.f0.f0 y.f0.f1 l = true → ∀ h : plcP y.f0.f0 y.f0.f1 l < l.length, l.any (fun e => eqE e y) = eqE (l[plcP y.f0.f0 y.f0.f1 l]'h) y
  | [], _, ht, _ => by cases ht
  | x :: t, ho, ht, h => by
    obtain ⟨h1, h2⟩ := Y3r ho
    by_cases hq : lessP x.f0.f0 x.f0.f1 y.f0.f0 y.f0.f1 = true
    · have e1 : plcP y.f0.f0 y.f0.f1 (x :: t) = plcP y.f0.f0 y.f0.f1 t + 1 := by rw [plcP, if_pos hq]
      have e2 : eqE x y = false := by
        rw [← Bool.not_eq_true]
        intro he
        have := Y4M he
        rw [Y2w] at this
        unfold lessP at hq
        simp only [decide_eq_true_eq] at hq
        omega
      have ht2 : thrP y.f0.f0 y.f0.f1 t = true := by
        unfold thrP at ht ⊢
        rw [e1, List.getElem?_cons_succ] at ht
        exact ht
      simp only [e1, List.getElem_cons_succ]
      rw [List.any_cons, e2, Bool.false_or, Y4N y t h1 ht2 (Y3c ht2)]
    · have e1 : plcP y.f0.f0 y.f0.f1 (x :: t) = 0 := by rw [plcP, if_neg hq]
      have e3 : t.any (fun e => eqE e y) = false := by
        rw [List.any_eq_false]
        intro e he hs
        have hl := h2 e he
        have := Y4M hs
        rw [Y2w] at this
        unfold Y14 lessP at hl
        unfold lessP at hq
        simp only [decide_eq_true_eq] at hl hq
        omega
      simp only [e1, List.getElem_cons_zero]
      rw [List.any_cons, e3, Bool.or_false]
theorem Y3S : ∀ {l : List S30}, (∀ e ∈ l, chk30 e = 0) → Y1q l = 0
  | [], _ => rfl
  | x :: t, h => by
    unfold Y1q
    rw [if_pos (h x List.mem_cons_self)]
    exact Y3S fun e he => h e (List.mem_cons_of_mem _ he)
theorem Y2U : ∀ {l : List S30}, l.Pairwise (fun x y => Y14 x.f0 y.f0 = true) → ord30 l = true
  | [], _ => rfl
  | [x], _ => rfl
  | x :: z :: t, h => by
    have hp := List.pairwise_cons.1 h
    show (Y14 x.f0 z.f0 && ord30 (z :: t)) = true
    rw [hp.1 z List.mem_cons_self, Y2U hp.2]; rfl
theorem Y57 {d : Int} {l : List S30} (hd : 1 ≤ d ∧ d ≤ 64) (hl : l.length ≤ 512) (hc : ∀ e ∈ l, chk30 e = 0) (ho : ord30 l = true) (hk : ∀ e ∈ l, kno30 l e = true) : rchkP d l = 0 := by
  unfold rchkP
  rw [if_neg (by omega), if_neg (by omega), if_pos (Y3S hc), if_pos ho, if_pos (List.all_eq_true.2 hk)]
theorem Y39 : ∀ {l O : List S30}, l.Pairwise (fun x y => Y14 x.f0 y.f0 = true) → O.Pairwise (fun x y => Y14 x.f0 y.f0 = true) → (∀ x ∈ O, x ∈ l) → O.length ≤ l.length
  | _, [], _, _, _ => Nat.zero_le _
  | [], x :: r, _, _, h => absurd (h x List.mem_cons_self) (by simp)
  | y :: s, x :: r, h1, h2, h => by
    have p1 := List.pairwise_cons.1 h1
    have p2 := List.pairwise_cons.1 h2
    rcases List.mem_cons.1 (h x List.mem_cons_self) with e | hx
    · subst e
      have := Y39 p1.2 p2.2 (fun a ha => by
        rcases List.mem_cons.1 (h a (List.mem_cons_of_mem _ ha)) with e | ha'
        · have := p2.1 a ha; rw [e, Y1p] at this; cases this
        · exact ha')
      simp; omega
    · have := Y39 p1.2 h2 (fun a ha => by
        rcases List.mem_cons.1 (h a ha) with e | ha'
        · exfalso
          subst e
          rcases List.mem_cons.1 ha with e | ha2
          · subst e; have := p1.1 a hx; rw [Y1p] at this; cases this
          · have := Y28 (p1.1 x hx) (p2.1 a ha2); rw [Y1p] at this; cases this
        · exact ha')
      simp at this ⊢; omega
theorem Y3u : ∀ {l1 l2 : List S30}, l1.Pairwise (fun x y => Y14 x.f0 y.f0 = true) → l2.Pairwise (fun x y => Y14 x.f0 y.f0 = true) → (∀ a, a ∈ l1 ↔ a ∈ l2) → l1 = l2
  | [], [], _, _, _ => rfl
  | [], y :: s, _, _, h => absurd ((h y).2 List.mem_cons_self) (by simp)
  | x :: r, [], _, _, h => absurd ((h x).1 List.mem_cons_self) (by simp)
  | x :: r, y :: s, h1, h2, h => by
    have p1 := List.pairwise_cons.1 h1
    have p2 := List.pairwise_cons.1 h2
    have e : x = y := by
      rcases List.mem_cons.1 ((h x).1 List.mem_cons_self) with e | hx
      · exact e
      · rcases List.mem_cons.1 ((h y).2 List.mem_cons_self) with e | hy
        · exact e.symm
        · have := Y28 (p1.1 y hy) (p2.1 x hx)
          rw [Y1p] at this; cases this
    subst e
    have ht : ∀ a, a ∈ r ↔ a ∈ s := fun a => by
      constructor
      · intro ha
        rcases List.mem_cons.1 ((h a).1 (List.mem_cons_of_mem _ ha)) with e | ha'
        · have := p1.1 a ha; rw [e, Y1p] at this; cases this
        · exact ha'
      · intro ha
        rcases List.mem_cons.1 ((h a).2 (List.mem_cons_of_mem _ ha)) with e | ha'
        · have := p2.1 a ha; rw [e, Y1p] at this; cases this
        · exact ha'
    rw [Y3u p1.2 p2.2 ht]
structure Part (l O : List S30) : Prop where
  sub : ∀ x ∈ O, x ∈ l
  ord : O.Pairwise (fun x y => Y14 x.f0 y.f0 = true)
  kn : ∀ x ∈ O, kno30 O x = true
theorem Y2G {O O' : List S30} (h : ∀ x ∈ O, x ∈ O') {y : S30} (hk : kno30 O y = true) : kno30 O' y = true := by
  unfold kno30 fouB at *
  obtain ⟨x, hx, hq⟩ := List.any_eq_true.1 hk
  exact List.any_eq_true.2 ⟨x, h x hx, hq⟩
theorem Y4u {O : List S30} {y : S30} (h : y ∈ O) (hf : fndsE y = true) : kno30 O y = true := by
  unfold kno30 fouB
  exact List.any_eq_true.2 ⟨y, h, by rw [hf]; simp⟩
theorem Y1N (y : S30) (l : List S30) (i : Nat) (a : S30) : a ∈ l.take i ++ y :: l.drop i ↔ a = y ∨ a ∈ l := by
  rw [List.mem_append, List.mem_cons]
  conv => rhs; rw [← List.take_append_drop i l, List.mem_append]
  constructor
  · rintro (h | h | h)
    · exact Or.inr (Or.inl h)
    · exact Or.inl h
    · exact Or.inr (Or.inr h)
  · rintro (h | h | h)
    · exact Or.inr (Or.inl h)
    · exact Or.inl h
    · exact Or.inr (Or.inr h)
theorem Y2W (c d : Int) : ∀ (l : List S30), (∀ x ∈ l.take (plcP c d l), lessP x.f0.f0 x.f0.f1 c d = true) ∧ (l.Pairwise (fun x y => Y14 x.f0 y.f0 = true) → ∀ x ∈ l.drop (plcP c d l), lessP x.f0.f0 x.f0.f1 c d = false)
  | [] => ⟨by simp [plcP], by simp [plcP]⟩
  | x :: t => by
    obtain ⟨i1, i2⟩ := Y2W c d t
    by_cases h : lessP x.f0.f0 x.f0.f1 c d = true
    · rw [plcP, if_pos h, List.take_succ_cons, List.drop_succ_cons]
      refine ⟨fun y hy => ?_, fun hp => i2 (List.pairwise_cons.1 hp).2⟩
      rcases List.mem_cons.1 hy with rfl | hy
      · exact h
      · exact i1 y hy
    · rw [plcP, if_neg h, List.take_zero, List.drop_zero]
      refine ⟨by simp, fun hp y hy => ?_⟩
      rcases List.mem_cons.1 hy with rfl | hy
      · simpa using h
      · have hl := (List.pairwise_cons.1 hp).1 y hy
        simp [Y14, lessP] at *; omega
theorem Y4B {l : List S30} {d : Int} (hv : rchkP d l = 0) (hl : l.length ≤ 40) {D : Int} (hD : 1 ≤ D ∧ D ≤ 64) {O : List S30} (hO : Part l O) {y : S30} (hy : y ∈ l) :
    (addP D O y = (D, O, 0) ∧ y ∈ O) ∨ (addP D O y = (0, [], 6) ∧ fndsE y = false ∧ kno30 O y = false) ∨ (∃ O', addP D O y = (D, O', 0) ∧ Part l O' ∧ y ∈ O' ∧ ∀ x ∈ O, x ∈ O') := by
  obtain ⟨ho, hk⟩ := Y2L hv
  have hc := Y3s hv
  have hlen := Y39 (Y2J ho) hO.ord hO.sub
  have hr : rchkP D O = 0 := Y57 hD (by omega) (fun e he => hc e (hO.sub e he)) (Y2U hO.ord) hO.kn
  unfold addP
  rw [if_pos hr, if_pos (hc y hy)]
  by_cases hin : y ∈ O
  · left
    have hany : O.any (stE y.f0.f0 y.f0.f1) = true := List.any_eq_true.2 ⟨y, hin, by rw [Y2w]; exact ⟨rfl, rfl⟩⟩
    have ht : thrP y.f0.f0 y.f0.f1 O = true := by rw [← Y3d _ _ O (Y2U hO.ord)]; exact hany
    have hlt := Y3c ht
    have hh := Y4N y O (Y2U hO.ord) ht hlt
    have he : O.any (fun e => eqE e y) = true := List.any_eq_true.2 ⟨y, hin, by simp [eqE]⟩
    rw [he] at hh
    rw [if_pos ht, if_pos (by rw [Y1r hlt]; exact hh.symm)]
    exact ⟨rfl, hin⟩
  · right
    have hn : O.any (stE y.f0.f0 y.f0.f1) = false := by
      rw [List.any_eq_false]
      intro e he hs
      rw [Y2w] at hs
      exact hin (Y32 ho (hO.sub e he) hy hs.1 hs.2 ▸ he)
    have ht : ¬ thrP y.f0.f0 y.f0.f1 O = true := by rw [← Y3d _ _ O (Y2U hO.ord), hn]; decide
    rw [if_neg ht]
    by_cases hb : fndsE y = false ∧ kno30 O y = false
    · left
      rw [if_pos hb]
      exact ⟨rfl, hb⟩
    · right
      rw [if_neg hb, if_neg (by omega)]
      refine ⟨_, rfl, ⟨fun x hx => ?_, ?_, fun x hx => ?_⟩, (Y1N _ _ _ _).2 (Or.inl rfl), fun x hx => (Y1N _ _ _ _).2 (Or.inr hx)⟩
      · rcases (Y1N _ _ _ _).1 hx with rfl | hx
        · exact hy
        · exact hO.sub x hx
      · obtain ⟨s1, s2⟩ := Y2W y.f0.f0 y.f0.f1 O
        have s2 := s2 hO.ord
        have hp := hO.ord
        rw [← List.take_append_drop (plcP y.f0.f0 y.f0.f1 O) O, List.pairwise_append] at hp
        refine List.pairwise_append.2 ⟨hp.1, List.pairwise_cons.2 ⟨fun x hx => ?_, hp.2.1⟩, fun a ha b hb => ?_⟩
        · have h1 := s2 x hx
          have h2 : ¬ (x.f0.f0 = y.f0.f0 ∧ x.f0.f1 = y.f0.f1) := fun q => hin (Y32 ho (hO.sub x (List.mem_of_mem_drop hx)) hy q.1 q.2 ▸ List.mem_of_mem_drop hx)
          simp [Y14, lessP] at *; omega
        · rcases List.mem_cons.1 hb with rfl | hb
          · exact s1 a ha
          · exact hp.2.2 a ha b hb
      · have hsub : ∀ x ∈ O, x ∈ O.take (plcP y.f0.f0 y.f0.f1 O) ++ y :: O.drop (plcP y.f0.f0 y.f0.f1 O) := fun x hx => (Y1N _ _ _ _).2 (Or.inr hx)
        rcases (Y1N _ _ _ _).1 hx with rfl | hx
        · cases hf : fndsE x with
          | true => exact Y4u ((Y1N _ _ _ _).2 (Or.inl rfl)) hf
          | false =>
            cases hq : kno30 O x with
            | true => exact Y2G hsub hq
            | false => exact absurd ⟨hf, hq⟩ hb
        · exact Y2G hsub (hO.kn x hx)
def addO (D : Int) (O : List S30) (y : S30) : List S30 := if (addP D O y).2.2 = 0 then (addP D O y).2.1 else O
theorem Y3N {l : List S30} {d : Int} (hv : rchkP d l = 0) (hl : l.length ≤ 40) {D : Int} (hD : 1 ≤ D ∧ D ≤ 64) {O : List S30} (hO : Part l O) {y : S30} (hy : y ∈ l) :
    Part l (addO D O y) ∧ (∀ x ∈ O, x ∈ addO D O y) ∧ (fndsE y = true ∨ kno30 O y = true → y ∈ addO D O y) ∧ ((addP D O y).2.2 = 6 ∧ addO D O y = O ∨ (addP D O y).2.2 = 0 ∧ (addP D O y).1 = D ∧ (addP D O y).2.1 = addO D O y) := by
  unfold addO
  rcases Y4B hv hl hD hO hy with ⟨h, hin⟩ | ⟨h, h1, h2⟩ | ⟨O', h, hp, hin, hs⟩
  · rw [h, if_pos rfl]; exact ⟨hO, fun x hx => hx, fun _ => hin, Or.inr ⟨rfl, rfl, rfl⟩⟩
  · rw [h, if_neg (by decide)]
    refine ⟨hO, fun x hx => hx, fun q => ?_, Or.inl ⟨rfl, rfl⟩⟩
    rw [h1, h2] at q
    rcases q with q | q <;> cases q
  · rw [h, if_pos rfl]; exact ⟨hp, hs, fun _ => hin, Or.inr ⟨rfl, rfl, rfl⟩⟩
theorem Y2d {l : List S30} {d : Int} (hv : rchkP d l = 0) (hl : l.length ≤ 40) {D : Int} (hD : 1 ≤ D ∧ D ≤ 64) : ∀ (T O : List S30), (∀ y ∈ T, y ∈ l) → Part l O →
    Part l (T.foldl (addO D) O) ∧ (∀ x ∈ O, x ∈ T.foldl (addO D) O) ∧ ∀ y ∈ T, fndsE y = true ∨ kno30 O y = true → y ∈ T.foldl (addO D) O
  | [], O, _, hO => ⟨hO, fun x hx => hx, by simp⟩
  | t :: T, O, hT, hO => by
    obtain ⟨a1, a2, a3, _⟩ := Y3N hv hl hD hO (hT t List.mem_cons_self)
    obtain ⟨b1, b2, b3⟩ := Y2d hv hl hD T (addO D O t) (fun y hy => hT y (List.mem_cons_of_mem _ hy)) a1
    refine ⟨b1, fun x hx => b2 x (a2 x hx), fun y hy hq => ?_⟩
    rcases List.mem_cons.1 hy with rfl | hy
    · exact b2 _ (a3 hq)
    · exact b3 y hy (hq.imp id (Y2G a2))
def rnds (D : Int) (T : List S30) : Nat → List S30 → List S30
  | 0, O => O
  | n + 1, O => rnds D T n (T.foldl (addO D) O)
theorem Y2e {l : List S30} {d : Int} (hv : rchkP d l = 0) (hl : l.length ≤ 40) {D : Int} (hD : 1 ≤ D ∧ D ≤ 64) {T : List S30} (hT : ∀ y ∈ T, y ∈ l) : ∀ (n : Nat) (O : List S30), Part l O → Part l (rnds D T n O) ∧ ∀ x ∈ O, x ∈ rnds D T n O
  | 0, O, h => ⟨h, fun x hx => hx⟩
  | n + 1, O, h => by
    obtain ⟨b1, b2, _⟩ := Y2d hv hl hD T O hT h
    obtain ⟨c1, c2⟩ := Y2e hv hl hD hT n _ b1
    exact ⟨c1, fun x hx => c2 x (b2 x hx)⟩
theorem Y4G {l : List S30} {d : Int} (hv : rchkP d l = 0) (hl : l.length ≤ 40) {D : Int} (hD : 1 ≤ D ∧ D ≤ 64) {T : List S30} (hT : ∀ y, y ∈ T ↔ y ∈ l) : rnds D T l.length [] = l := by
  have hE : Part l [] := ⟨by simp, List.Pairwise.nil, by simp⟩
  obtain ⟨ho, hk⟩ := Y2L hv
  have hT' : ∀ y ∈ T, y ∈ l := fun y hy => (hT y).1 hy
  have hp := Y2e hv hl hD hT' l.length [] hE
  refine Y3u hp.1.ord (Y2J ho) (fun a => ⟨hp.1.sub a, fun ha => ?_⟩)
  obtain ⟨x, hx, x3, x0, x1, x2, x4, x5⟩ := Y1O (hk a ha)
  have hxf : fndsE x = true := by
    unfold fndsE
    rw [x3]
    simp
    omega
  obtain ⟨n, hn⟩ : ∃ n, l.length = n + 1 := ⟨l.length - 1, by have := List.length_pos_of_mem ha; omega⟩
  rw [hn]
  obtain ⟨b1, b2, b3⟩ := Y2d hv hl hD T [] hT' hE
  have hx1 : x ∈ T.foldl (addO D) [] := b3 x ((hT x).2 hx) (Or.inl hxf)
  show a ∈ rnds D T n (T.foldl (addO D) [])
  cases n with
  | zero =>
    have hax : a = x := by
      obtain ⟨i, hi, rfl⟩ := List.getElem_of_mem ha
      obtain ⟨j, hj, rfl⟩ := List.getElem_of_mem hx
      have : i = j := by omega
      subst this; rfl
    rw [hax]
    exact hx1
  | succ n =>
    obtain ⟨c1, c2, c3⟩ := Y2d hv hl hD T _ hT' b1
    have hka : kno30 (T.foldl (addO D) []) a = true := by
      unfold kno30 fouB
      refine List.any_eq_true.2 ⟨x, hx1, ?_⟩
      rw [hxf]
      simp
      omega
    exact (Y2e hv hl hD hT' n _ c1).2 a (c3 a ((hT a).2 ha) (Or.inr hka))
def zN (n : Int) : Prop := -9223372036854775808 ≤ n ∧ n ≤ 9223372036854775807
def zT26 (x : S26) : Prop := zN x.f0 ∧ zN x.f1
def zT28 (x : S28) : Prop := zN x.f0 ∧ zN x.f1 ∧ zN x.f2 ∧ zN x.f3 ∧ zN x.f4 ∧ zN x.f5 ∧ zN x.f6
def zT30 (x : S30) : Prop := zT26 x.f0 ∧ zN x.f1 ∧ zT26 x.f2 ∧ True ∧ zT28 x.f4
theorem zN_ok {n : Int} (h : zN n) : okN n := by
  have e1 : IntKind.i64.min = -9223372036854775808 := rfl
  have e2 : IntKind.i64.max = 9223372036854775807 := rfl
  unfold okN
  simp only [Lit.wf, e1, e2, Bool.and_eq_true, decide_eq_true_eq]
  exact h
theorem zT_ok {x : S30} (h : zT30 x) : okE30 x := by
  obtain ⟨_, c, ⟨d, e⟩, _⟩ := h
  exact ⟨zN_ok c, zN_ok d, zN_ok e⟩
theorem Y20 (l : List S30) (hl : l.length ≤ 1000000) : ∀ (m i k : Nat), l.length - i = m → i ≤ l.length → m + 1 ≤ k → Yd.l0 k l l (i : Int) = some true
  | 0, i, k, hm, hi, hk => by
    obtain ⟨k, rfl⟩ : ∃ j, k = j + 1 := ⟨k - 1, by omega⟩
    unfold Yd.l0
    rw [if_neg (by omega)]
  | m + 1, i, k, hm, hi, hk => by
    obtain ⟨k, rfl⟩ : ∃ j, k = j + 1 := ⟨k - 1, by omega⟩
    unfold Yd.l0
    rw [if_pos (by omega), if_pos (by omega), if_pos (by omega), if_neg (by simp), show wrap64 ((i : Int) + 1) = ((i + 1 : Nat) : Int) by unfold wrap64; omega]
    exact Y20 l hl m (i + 1) k (by omega) (by omega) (by omega)
theorem Y34 (k : Nat) (l : List S30) (hl : l.length ≤ 1000000) (hk : l.length + 1 ≤ k) : Yd.f k l l = some true := by
  unfold Yd.f
  rw [if_pos rfl]
  exact Y20 l hl l.length 0 k (by omega) (by omega) hk
end Go.Proofs.Yteopkkoblbmggaa.P
end
section
set_option linter.unusedVariables false
set_option linter.unusedSimpArgs false
namespace Go.Proofs.Yteopkkoblbmggaa.Pure
open Go.RowKit Go.Proofs.Yteopkkoblbmggaa.P Go.Proofs.Yteopkkoblbmggaa.Open Go.Proofs.YteopkkoblbmggaaW.PrintWords Go.Proofs.YteopkkoblbmggaaW.PrintLast Go.Proofs.YteopkkoblbmggaaW.PrintMore
theorem u64_small (n : Nat) (h : n ≤ 1000) : IntKind.u64.wrap (wrap64 ((n : Int) + 1)) = (n : Int) + 1 := by
  have : wrap64 ((n : Int) + 1) = (n : Int) + 1 := by unfold wrap64; omega
  rw [this]
  simp [IntKind.wrap, IntKind.bits, IntKind.signed]
  omega
theorem u64_pos (a : Int) : 0 ≤ IntKind.u64.wrap a := by
  simp [IntKind.wrap, IntKind.bits, IntKind.signed]
  omega
theorem idx_ok (n : Nat) (h : n ≤ 1000) (a : Int) : ∃ q : Nat, q ≤ n ∧ wrap64 (Int.tmod (IntKind.u64.wrap a) (IntKind.u64.wrap (wrap64 ((n : Int) + 1)))) = (q : Int) := by
  rw [u64_small n h]
  have h1 := Int.tmod_nonneg ((n : Int) + 1) (u64_pos a)
  have h2 := Int.tmod_lt_of_pos (IntKind.u64.wrap a) (show 0 < (n : Int) + 1 by omega)
  refine ⟨(Int.tmod (IntKind.u64.wrap a) ((n : Int) + 1)).toNat, by omega, ?_⟩
  unfold wrap64
  omega
theorem ord_l0 (a0 a1 : Int) (o : List Int) (l : List S30) (hl : l.length ≤ 40) (F : Nat) : ∀ (m j : Nat) (T : List S30), l.length - j = m → j ≤ l.length → T.length = j → (∀ y, y ∈ T ↔ y ∈ l.take j) →
    ∃ T', (∀ y, y ∈ T' ↔ y ∈ l) ∧ T'.length = l.length ∧ Y4.l0 (F + m + 1) a1 o T (j : Int) a0 l = Y4.l1 F T' 0 a0 l (wrap64 (1 + (Int.tmod (wrap64 a1) 64))) []
  | 0, j, T, hm, hj, hT, hq => by
    have e : j = l.length := by omega
    subst e
    refine ⟨T, fun y => by rw [hq, List.take_length], hT, ?_⟩
    unfold Y4.l0
    rw [if_neg (by omega)]
  | m + 1, j, T, hm, hj, hT, hq => by
    have hjl : j < l.length := by omega
    have hw : wrap64 ((j : Int) + 1) = ((j + 1 : Nat) : Int) := by unfold wrap64; omega
    have next : ∀ q : Nat, q ≤ T.length → (T.take q ++ l[j] :: T.drop q).length = j + 1 ∧ ∀ y, y ∈ T.take q ++ l[j] :: T.drop q ↔ y ∈ l.take (j + 1) := fun q hqT => by
      refine ⟨by simp; omega, fun y => ?_⟩
      rw [Y1N, hq, ← List.take_append_getElem hjl, List.mem_append, List.mem_singleton]
      exact Or.comm
    have step : ∃ q : Nat, q ≤ T.length ∧ Y4.l0 (F + (m + 1) + 1) a1 o T (j : Int) a0 l = Y4.l0 (F + m + 1) a1 o (T.take q ++ l[j] :: T.drop q) ((j + 1 : Nat) : Int) a0 l := by
      rw [show F + (m + 1) + 1 = (F + m + 1) + 1 by omega]
      by_cases h2 : j < o.length
      · obtain ⟨q, hqn, hqe⟩ := idx_ok T.length (by omega) (rd o (j : Int))
        refine ⟨q, hqn, ?_⟩
        conv => lhs; unfold Y4.l0
        rw [if_pos (by omega), if_pos (by omega), if_pos (by omega), if_neg (by rw [u64_small _ (by omega)]; omega), hqe, if_pos (by omega), if_pos (by omega), Option.bind_some, Int.toNat_natCast, if_pos (by simp; omega), Option.bind_some, if_pos (by simp; omega), Option.bind_some, Option.bind_some, if_pos (by simp; omega), Y1r hjl, hw]
        congr 1
        simp
      · refine ⟨0, Nat.zero_le _, ?_⟩
        conv => lhs; unfold Y4.l0
        rw [if_pos (by omega), if_neg (by omega), if_pos (by omega), Option.bind_some, if_pos (by simp), Option.bind_some, if_pos (by omega), if_pos (by simp), Option.bind_some, Option.bind_some, if_pos (by simp; omega), Y1r hjl, hw]
        congr 1
    obtain ⟨q, hqT, hs⟩ := step
    obtain ⟨n1, n2⟩ := next q hqT
    obtain ⟨T', t1, t2, t3⟩ := ord_l0 a0 a1 o l hl F m (j + 1) _ (by omega) (by omega) n1 n2
    exact ⟨T', t1, t2, hs.trans t3⟩
theorem ord_l2 (a0 : Int) (l : List S30) (hl : l.length ≤ 40) {d : Int} (hv : rchkP d l = 0) (hz : ∀ e ∈ l, okE30 e) {D : Int} (hD : 1 ≤ D ∧ D ≤ 64) (T : List S30) (hT : ∀ y ∈ T, y ∈ l) (hTl : T.length ≤ 40) (r : Int) (F : Nat) : ∀ (m i : Nat) (O : List S30), T.length - i = m → i ≤ T.length → Part l O →
    Y4.l2 (F + m + 1) T r (i : Int) a0 l D O = Y4.l1 F T (wrap64 (r + 1)) a0 l D ((T.drop i).foldl (addO D) O)
  | 0, i, O, hm, hi, hO => by
    conv => lhs; unfold Y4.l2
    rw [if_neg (by omega), List.drop_eq_nil_of_le (by omega)]
    rfl
  | m + 1, i, O, hm, hi, hO => by
    have hil : i < T.length := by omega
    have hw : wrap64 ((i : Int) + 1) = ((i + 1 : Nat) : Int) := by unfold wrap64; omega
    obtain ⟨a1, a2, a3, a4⟩ := Y3N hv hl hD hO (hT T[i] (List.getElem_mem hil))
    have ha : Yt.f D O T[i].f0.f0 T[i].f0.f1 T[i].f1 T[i].f2.f0 T[i].f2.f1 T[i].f3 T[i].f4.f0 T[i].f4.f1 T[i].f4.f2 T[i].f4.f3 T[i].f4.f4 T[i].f4.f5 T[i].f4.f6 = some (addP D O T[i]) := by
      unfold Yt.f
      rw [if_pos ⟨fun e he => hz e (hO.sub e he), hz _ (hT T[i] (List.getElem_mem hil))⟩]
      rfl
    rw [show F + (m + 1) + 1 = (F + m + 1) + 1 by omega]
    conv => lhs; unfold Y4.l2
    rw [if_pos (by omega), if_pos (by omega), Y1r hil, ha, Option.bind_some, hw, List.drop_eq_getElem_cons hil, List.foldl_cons]
    have ih := ord_l2 a0 l hl hv hz hD T hT hTl r F m (i + 1) (addO D O T[i]) (by omega) (by omega) a1
    rcases a4 with ⟨h6, he⟩ | ⟨h0, h1, h2⟩
    · rw [if_pos h6]
      rw [he] at ih ⊢
      exact ih
    · rw [if_neg (by rw [h0]; decide), if_pos h0, if_pos h1, h1, h2]
      exact ih
theorem ord_l1 (a0 : Int) (l : List S30) (hl : l.length ≤ 40) {d : Int} (hv : rchkP d l = 0) (hz : ∀ e ∈ l, okE30 e) {D : Int} (hD : 1 ≤ D ∧ D ≤ 64) (T : List S30) (hT : ∀ y ∈ T, y ∈ l) (hTl : T.length ≤ 40) : ∀ (m r : Nat) (O : List S30), l.length - r = m → r ≤ l.length → Part l O → rnds D T m O = l →
    Y4.l1 (6000 + m * (T.length + 2) + 1) T (r : Int) a0 l D O = some true
  | 0, r, O, hm, hr, hO, he => by
    have e : O = l := he
    subst e
    conv => lhs; unfold Y4.l1
    rw [if_neg (by omega), Y34 _ _ (by omega) (by omega), Option.bind_some, if_pos rfl, Y1S _ (by omega)]
    rfl
  | m + 1, r, O, hm, hr, hO, he => by
    have hw : wrap64 ((r : Int) + 1) = ((r + 1 : Nat) : Int) := by unfold wrap64; omega
    have hf : 6000 + (m + 1) * (T.length + 2) = (6000 + m * (T.length + 2) + 1) + T.length + 1 := by rw [Nat.add_mul]; omega
    conv => lhs; unfold Y4.l1
    rw [if_pos (by omega), hf]
    have h2 := ord_l2 a0 l hl hv hz hD T hT hTl (r : Int) (6000 + m * (T.length + 2) + 1) T.length 0 O (by omega) (by omega) hO
    rw [List.drop_zero, hw] at h2
    refine h2.trans ?_
    exact ord_l1 a0 l hl hv hz hD T hT hTl m (r + 1) _ (by omega) (by omega) (Y2d hv hl hD T O hT hO).1 he
theorem ReplicaOrder (a0_0 : Int) (l0_1 : List S30) (a1 : Int) (l2 : List Int) (w0_0 : okI a0_0) (w0_1 : l0_1.length ≤ maxLen ∧ l0_1.length * 104 ≤ 140737488351232 ∧ ∀ y ∈ l0_1, zT30 y) (w1 : 0 ≤ a1 ∧ a1 ≤ 255) (w2 : l2.length ≤ maxLen ∧ l2.length * 8 ≤ 140737488351232 ∧ ∀ y ∈ l2, (okI y)) : ∃ k, Y4.f k a0_0 l0_1 a1 l2 = some true := by
  have hz : ∀ e ∈ l0_1, okE30 e := fun e he => zT_ok (w0_1.2.2 e he)
  have hc : Yp.f a0_0 l0_1 = some (rchkP a0_0 l0_1) := by unfold Yp.f; rw [if_pos hz]
  by_cases hl : 40 < l0_1.length
  · refine ⟨6000, ?_⟩
    unfold Y4.f
    rw [Y2A, Option.bind_some, if_pos (by simpa using hl), Y1S 6000 (by decide)]; rfl
  · by_cases hv : rchkP a0_0 l0_1 = 0
    · obtain ⟨T, t1, t2, t3⟩ := ord_l0 a0_0 a1 l2 l0_1 (by omega) (6000 + l0_1.length * (l0_1.length + 2) + 1) l0_1.length 0 [] (by omega) (by omega) rfl (by simp)
      refine ⟨(6000 + l0_1.length * (l0_1.length + 2) + 1) + l0_1.length + 1, ?_⟩
      unfold Y4.f
      rw [Y2A, Option.bind_some, if_neg (by simpa using hl), hc, Option.bind_some, if_pos hv]
      refine t3.trans ?_
      have hD : 1 ≤ wrap64 (1 + (Int.tmod (wrap64 a1) 64)) ∧ wrap64 (1 + (Int.tmod (wrap64 a1) 64)) ≤ 64 := by
        have e1 : wrap64 a1 = a1 := by unfold wrap64; omega
        rw [e1]
        have h1 := Int.tmod_nonneg 64 w1.1
        have h2 := Int.tmod_lt_of_pos a1 (show (0 : Int) < 64 by omega)
        unfold wrap64
        omega
      have h := ord_l1 a0_0 l0_1 (by omega) hv hz hD T (fun y hy => (t1 y).1 hy) (by omega) l0_1.length 0 [] (by omega) (by omega) ⟨by simp, List.Pairwise.nil, by simp⟩ (Y4G hv (by omega) hD t1)
      rw [t2] at h
      exact h
    · refine ⟨6000, ?_⟩
      unfold Y4.f
      rw [Y2A, Option.bind_some, if_neg (by simpa using hl), hc, Option.bind_some, if_neg hv, Y1S 6000 (by decide)]; rfl
end Go.Proofs.Yteopkkoblbmggaa.Pure
end

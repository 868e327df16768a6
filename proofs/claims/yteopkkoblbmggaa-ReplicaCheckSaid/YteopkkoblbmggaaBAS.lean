/- Texts of this claim in one: VOpen, VAwakeR, VRSymP, VRPutP, VRAddP, VSamR; no condition. -/
import Derived.Test.YteopkkoblbmggaaBAB
import Derived.OpenShut
import Derived.SizedLaws
import Derived.ChangeArms
import Derived.Test.YteopkkoblbmggaaBAE
import Derived.Test.YteopkkoblbmggaaBAO
import Derived.Test.YteopkkoblbmggaaBAP
import Derived.Test.YteopkkoblbmggaaBAH
import Derived.Test.YteopkkoblbmggaaBAQ
import Derived.Test.YteopkkoblbmggaaBAG
import Derived.Test.YteopkkoblbmggaaBAR
import Derived.Test.YteopkkoblbmggaaBAI
section
set_option linter.unusedVariables false
namespace Go.Proofs.Yteopkkoblbmggaa.Open
open Go.ChangeShapes Go.WideShapes Go.RowKit Go.Proofs.YteopkkoblbmggaaW.PrintWords
def Opens {α : Type} (P : Program) (t : TypeId) (d : Kd α) (ok : α → Prop) : Prop :=
  P.cellsOf t = d.sz ∧ ∀ (H : Type) (enc : TypeId × Value → H) (w : World) (sp : Nat → Bool) (hd : Bool) (fuel : Nat) (cs : List Value) (x : DataW H × List MemPlace),
    DataW.trod enc P w 0 sp hd fuel t cs = some x → (∀ n ∈ x.1.weights P t, n ≤ 140737488351232) → ∃ a, d.K w a cs ∧ ok a
def okI (n : Int) : Prop := -9223372036854775808 ≤ n ∧ n ≤ 9223372036854775807
theorem Y3a {P : Program} {t : TypeId} (ht : P.underlying t = some (.int .i64)) (hc : P.cellsOf t = 1) : Opens P t (Kd.int .i64) okI :=
  ⟨hc, fun H enc w sp hd fuel cs x h _ => by
    obtain ⟨n, rfl, _, hw⟩ := DataW.trod_int ht h
    exact ⟨n, rfl, bounds_i64 hw⟩⟩
theorem Y2K {P : Program} {t : TypeId} (ht : P.underlying t = some .bool) (hc : P.cellsOf t = 1) : Opens P t Kd.bool (fun _ => True) :=
  ⟨hc, fun H enc w sp hd fuel cs x h _ => by
    obtain ⟨n, rfl, _⟩ := DataW.trod_bool ht h
    exact ⟨n, rfl, trivial⟩⟩
theorem Y22 {H : Type} {P : Program} {e : TypeId} {n : Nat} : ∀ {ds : List (DataW H)} {d : DataW H}, d ∈ ds → n ∈ d.weights P e → n ∈ DataW.weightsAll P e ds
  | d0 :: ds, d, hd, hn => by
    rw [DataW.weightsAll, List.mem_append]
    rcases List.mem_cons.1 hd with rfl | hd
    · exact .inl hn
    · exact .inr (Y22 hd hn)
theorem Y2s {α : Type} {P : Program} {t e : TypeId} {d : Kd α} {ok : α → Prop} (ht : P.underlying t = some (.slice e)) (hc : P.cellsOf t = 1) {B : Nat} (hB : P.bytesOf e = B) (ho : Opens P e d ok) :
    Opens P t (Kd.slice e d) (fun xs => xs.length ≤ maxLen ∧ xs.length * B ≤ 140737488351232 ∧ ∀ a ∈ xs, ok a) := by
  refine ⟨hc, fun H enc w sp hd fuel cs x h hw => ?_⟩
  rcases DataW.trod_slice ht h with ⟨rfl, _⟩ | ⟨a, len, cap, elems, rest, n, _, rfl, rfl, _, hlc, hcm, hel, helem, _, _⟩
  · exact ⟨[], ⟨none, 0, rfl, Nat.le_refl _, Kd.C_nil d w⟩, by simp, by simp, by simp⟩
  · have hwt : ∀ m ∈ (elems.length + rest.length) * P.bytesOf e :: (DataW.weightsAll P e (elems.map (·.1)) ++ DataW.weightsAll P e (rest.map (·.1))), m ≤ 140737488351232 := by
      intro m hm
      refine hw m ?_
      simp only [DataW.weights, ht, List.length_map]
      exact hm
    have key : ∀ i : Fin len, ∃ p : α, ok p ∧ ∃ c : List Value, c.length = d.sz ∧ d.K w p c ∧ ∀ j u, c[j]? = some u → w.cell? (a.add (i.1 * d.sz + j)) = some u := by
      intro i
      have hi := helem i.1 i.2
      have hlt : i.1 < elems.length := by have := i.2; omega
      rw [List.getElem?_eq_getElem hlt] at hi
      obtain ⟨c, hc1, hc2⟩ := Option.bind_eq_some_iff.1 hi
      obtain ⟨_, hl, hcell⟩ := World.cells?_some hc1
      obtain ⟨p, hp, hok⟩ := ho.2 H enc w sp hd n c _ hc2 (fun m hm => hwt m (List.mem_cons_of_mem _ (List.mem_append_left _ (Y22 (List.mem_map.2 ⟨_, List.getElem_mem hlt, rfl⟩) hm))))
      refine ⟨p, hok, c, by rw [hl, ho.1], hp, fun j u hu => ?_⟩
      have hj : j < P.cellsOf e := by rw [← hl]; exact (List.getElem?_eq_some_iff.1 hu).1
      have hh := hcell j hj
      rw [hu, Addr.add_add, ho.1] at hh
      exact hh
    have hlen : (List.ofFn fun i : Fin len => Classical.choose (key i)).length = len := List.length_ofFn
    have hmx : len ≤ 9223372036854775807 := by unfold maxLen at hcm; omega
    refine ⟨List.ofFn fun i : Fin len => Classical.choose (key i), ⟨some a, cap, by rw [hlen], by rw [hlen]; exact hlc, ?_⟩, by rw [hlen]; unfold maxLen at hcm ⊢; omega, ?_, ?_⟩
    · refine ⟨rfl, by rw [hlen]; exact hmx, fun _ => ⟨a, rfl, fun j p hp => ?_⟩⟩
      rw [List.getElem?_ofFn] at hp
      split at hp
      · rename_i hj
        injection hp with hp
        subst hp
        exact (Classical.choose_spec (key ⟨j, hj⟩)).2
      · cases hp
    · rw [hlen, ← hB]
      have := hwt _ List.mem_cons_self
      exact Nat.le_trans (Nat.mul_le_mul_right _ (by omega)) this
    · intro p hp
      obtain ⟨i, rfl⟩ := List.mem_ofFn.1 hp
      exact (Classical.choose_spec (key i)).1
def Y3q {α : Type} (P : Program) (fs : List Field) (o : Nat) (d : Kd α) (ok : α → Prop) : Prop :=
  ∀ (H : Type) (enc : TypeId × Value → H) (w : World) (sp : Nat → Bool) (hd : Bool) (fuel : Nat) (cs : List Value) (ys : List (DataW H × List MemPlace)),
    ys.length = fs.length → (∀ (i : Nat) (f : Field), fs[i]? = some f → DataW.trod enc P w 0 sp hd fuel f.type ((cs.drop f.offset).take (P.cellsOf f.type)) = ys[i]?) → cs.length = o + d.sz →
    (∀ n ∈ DataW.weightsEach P (fs.map (·.type)) (ys.map (·.1)), n ≤ 140737488351232) → ∃ a, d.K w a (cs.drop o) ∧ ok a
theorem Y1B {α : Type} {P : Program} {f : Field} {o : Nat} {d : Kd α} {ok : α → Prop} (hf : f.offset = o) (ho : Opens P f.type d ok) : Y3q P [f] o d ok := by
  intro H enc w sp hd fuel cs ys hl hy hcs hw
  match ys, hl with
  | [y], _ =>
    have h := hy 0 f rfl
    have e : (cs.drop f.offset).take (P.cellsOf f.type) = cs.drop o := by rw [hf, ho.1]; exact List.take_of_length_le (by rw [List.length_drop]; omega)
    rw [e] at h
    exact ho.2 H enc w sp hd fuel _ y h (fun n hn => hw n (by simpa [DataW.weightsEach] using hn))
theorem YU {α β : Type} {P : Program} {f : Field} {fs : List Field} {o : Nat} {d : Kd α} {d' : Kd β} {ok : α → Prop} {ok' : β → Prop} (hf : f.offset = o) (ho : Opens P f.type d ok) (hr : Y3q P fs (o + d.sz) d' ok') :
    Y3q P (f :: fs) o (Kd.pair d d') (fun a => ok a.1 ∧ ok' a.2) := by
  intro H enc w sp hd fuel cs ys hl hy hcs hw
  match ys, hl with
  | y :: ys, hl =>
    have h := hy 0 f rfl
    have hcs' : cs.length = o + (d.sz + d'.sz) := hcs
    rw [hf, ho.1] at h
    obtain ⟨a, ka, oa⟩ := ho.2 H enc w sp hd fuel _ y h (fun n hn => hw n (by simp only [List.map_cons, DataW.weightsEach, List.mem_append]; exact .inl hn))
    obtain ⟨b, kb, ob⟩ := hr H enc w sp hd fuel cs ys (by simpa using hl) (fun i g hg => by simpa using hy (i + 1) g (by simpa using hg)) (by omega) (fun n hn => hw n (by simp only [List.map_cons, DataW.weightsEach, List.mem_append]; exact .inr hn))
    refine ⟨(a, b), ⟨_, _, ?_, ka, kb⟩, oa, ob⟩
    rw [← List.drop_drop, List.take_append_drop]
theorem Y1v {α β : Type} {P : Program} {t : TypeId} {fs : List Field} {d : Kd α} {ok : α → Prop} (ht : P.underlying t = some (.struct fs.toArray)) (hc : P.cellsOf t = d.sz) (ho : Y3q P fs 0 d ok) (f : β → α) (g : α → β) (hfg : ∀ a, f (g a) = a) :
    Opens P t (Kd.iso d f) (fun b => ok (f b)) := by
  refine ⟨hc, fun H enc w sp hd fuel cs x h hw => ?_⟩
  obtain ⟨xs, n, _, rfl, hl, hxl, hx⟩ := DataW.trod_struct ht h
  obtain ⟨a, ha, hok⟩ := ho H enc w sp hd n cs xs (by simpa using hxl) (fun i f hf => hx i f (by simpa using hf)) (by omega) (fun m hm => hw m (by simp only [DataW.weights, ht]; exact hm))
  refine ⟨g a, ?_, by show ok (f (g a)); rw [hfg]; exact hok⟩
  show d.K w (f (g a)) cs
  rw [hfg]
  exact ha
section
variable {H : Type} {enc : TypeId × Value → H} {P : Program} {W : World} {ts : List TypeId} {ds : List (DataW H)} {j : Nat} {t : TypeId} {v : Value} {dd : DataW H} {p : List MemPlace} {sp : Nat → Bool} {hd : Bool}
theorem Y2h {α : Type} {d : Kd α} {ok : α → Prop} {r : Reach} {b : Nat} {fs : Array Field} (ho : Opens P t d ok) (ht : P.underlying t = some (.struct fs)) (hv : Value.okWide P W r b t v)
    (hsz : (DataW.weightsEach P ts ds).all (· ≤ reachBytes) = true) (htj : ts[j]? = some t) (hdj : ds[j]? = some dd) (h : DataW.Trod enc P W 0 sp hd t v dd p) : ∃ (a : α) (cs : Array Value), v = .agg cs ∧ d.K W a cs.toList ∧ ok a := by
  obtain ⟨cs, rfl, _⟩ := okWide_struct ht hv
  obtain ⟨fuel, hf⟩ := h
  obtain ⟨a, ha, hok⟩ := ho.2 H enc W sp hd fuel _ _ hf (fun n hn => by
    have := List.all_eq_true.1 hsz _ (DataW.weights_mem_each htj hdj n hn)
    exact of_decide_eq_true this)
  exact ⟨a, cs, rfl, ha, hok⟩
end
end Go.Proofs.Yteopkkoblbmggaa.Open
end
section
set_option linter.unusedVariables false
namespace Go.Proofs.Yteopkkoblbmggaa.P
open Go.RowKit Go.Proofs.YteopkkoblbmggaaW.PrintWords Go.Proofs.YteopkkoblbmggaaW.PrintLast Go.Proofs.YteopkkoblbmggaaW.PrintMore
set_option maxRecDepth 100000 in
theorem Y3Y : Yb.f 400 = some true := by decide +kernel
theorem Y1R (k : Nat) (hk : 400 ≤ k) : Yb.f k = some true := Y38 (fun k => Yb.mono k) hk Y3Y
theorem Y3B (d : Int) (l : List S30) : YF.f d l = some (decide (40 < l.length)) := by
  unfold YF.f
  congr 1
  rw [decide_eq_decide]
  omega
theorem Y5v (d : Int) (l : List S30) : ∃ b, Y14.f d l = some b ∧ (b = false → l.length ≤ 513) := by
  unfold Y14.f
  rw [Y3B, Option.bind_some]
  by_cases h : 40 < l.length
  · rw [if_pos (by simpa using h)]
    by_cases h2 : (l.length : Int) < 511
    · rw [if_pos h2]; exact ⟨true, rfl, fun h => by cases h⟩
    · rw [if_neg h2]
      refine ⟨_, rfl, fun hq => ?_⟩
      simp at hq
      omega
  · rw [if_neg (by simpa using h)]
    exact ⟨false, rfl, fun _ => by omega⟩
end Go.Proofs.Yteopkkoblbmggaa.P
end
section
set_option linter.unusedVariables false
set_option linter.unusedSimpArgs false
namespace Go.Proofs.Yteopkkoblbmggaa.P
open Go.RowKit Go.Proofs.YteopkkoblbmggaaW.PrintWords Go.Proofs.YteopkkoblbmggaaW.PrintLast Go.Proofs.YteopkkoblbmggaaW.PrintMore
theorem Y42 (j : Nat) (k c : Int) (h : ¬ (k < 1 ∨ 4 < k)) : Yo.f (j + 1) k c = some (decide (colP k c)) := by
  unfold Yo.f Yo.j0 colP
  grind
theorem Y2O (j : Nat) (x : Bool) (k c b l d v m : Int) (h1 : ¬ (k < 1 ∨ 4 < k)) (hc : 0 ≤ c ∧ c ≤ 8) : Ye.j1 (j + 2) x k c b l d v m = some (if x = true then 1 else sayC k c d v m) := by
  simp only [Ye.j1, sayC]
  rw [Y37 (c - 2) (by omega) (by omega)]
  cases x with
  | true => simp
  | false =>
    simp only [if_neg (show ¬ (false = true) by decide)]
    by_cases k1 : k = 1
    · rw [if_pos k1, if_pos k1]
      have e : YR.f d v = some (if 0 ≤ d ∧ d ≤ 8 ∧ -1 ≤ v ∧ v ≤ 1 then 0 else 1) := YS.dcheck_eq d v
      rw [e, Option.bind_some]
      by_cases h : 0 ≤ d ∧ d ≤ 8 ∧ -1 ≤ v ∧ v ≤ 1
      · rw [if_pos h, if_pos h, if_pos rfl]; split <;> rfl
      · rw [if_neg h, if_neg h, if_neg (by decide)]
    · rw [if_neg k1, if_neg k1]
      by_cases k3 : k = 3
      · rw [if_pos k3, if_neg (by omega), if_pos k3]
        simp only [YS.f, Option.bind_some]
      · rw [if_neg k3, if_neg k3]
        simp only [Ye.j2]
        by_cases k2 : k = 2
        · by_cases h : d = 0 <;> by_cases h' : v = 0 <;> by_cases h'' : m = 0 <;> simp [h, h', h'', k2]
        · have k4 : k = 4 := by omega
          by_cases h : d = 0 <;> by_cases h' : v = 0 <;> simp [k4, h, h']
          by_cases a : m < -16 <;> by_cases a' : 16 < m <;> by_cases a'' : m = 0 <;> simp [a, a', a'']
theorem Y3N (j : Nat) (x : Bool) (k c b l d v m : Int) (hx : x = false) (h1 : ¬ (k < 1 ∨ 4 < k)) : Ye.j0 (j + 3) x k c b l d v m = some (chkP k c b l d v m) := by
  subst hx
  simp only [Ye.j0, chkP, if_neg h1]
  rw [Y42 (j + 1) k c h1, if_neg (by decide)]
  simp only [Option.bind_some, decide_eq_true_eq]
  by_cases h2 : colP k c
  · have hc : 0 ≤ c ∧ c ≤ 8 := by unfold colP at h2; grind
    rw [if_pos h2, if_neg (not_not_intro h2), Y2O j _ k c b l d v m h1 hc, Y2O j _ k c b l d v m h1 hc]
    by_cases h3 : b < 0 ∨ 8191 < b
    · rw [if_pos (by omega : b < 0 ∨ 8191 < b ∨ l < 1 ∨ 8192 - b < l)]
      rcases h3 with h3 | h3
      · rw [if_pos h3]; rfl
      · rw [if_neg (by omega), if_pos (by omega)]; rfl
    · rw [Y37 (8192 - b) (by omega) (by omega), if_neg (by omega), if_neg (by omega)]
      by_cases h4 : l < 1 ∨ 8192 - b < l
      · rw [if_pos (by omega : b < 0 ∨ 8191 < b ∨ l < 1 ∨ 8192 - b < l)]
        rcases h4 with h4 | h4
        · rw [if_pos h4]; rfl
        · by_cases h5 : l < 1
          · rw [if_pos h5]; rfl
          · rw [if_neg h5, if_pos (by simpa using h4)]
      · rw [if_neg (by omega), if_neg (by simp; omega), if_neg (by omega : ¬ (b < 0 ∨ 8191 < b ∨ l < 1 ∨ 8192 - b < l))]
  · rw [if_neg h2, if_pos h2]
theorem Y3j (j : Nat) (k c b l d v m : Int) : Ye.f (j + 3) k c b l d v m = some (chkP k c b l d v m) := by
  unfold Ye.f
  by_cases h1 : k < 1 ∨ 4 < k
  · have e : chkP k c b l d v m = 9 := by rw [chkP, if_pos h1]
    rw [e]
    rcases h1 with h1 | h1
    · rw [if_pos h1]; simp [Ye.j0]
    · rw [if_neg (by omega)]; simp [Ye.j0, h1]
  · rw [if_neg (by omega)]
    exact Y3N j _ k c b l d v m (by simp; omega) h1
theorem Y3O (c d : Int) : YH.f c d = some (valP c d) := by
  unfold YH.f valP
  by_cases h1 : 1 ≤ c <;> by_cases h2 : c ≤ 1000000 <;> by_cases h3 : 1 ≤ d <;> by_cases h4 : d ≤ 64 <;> simp [h1, h2, h3, h4, GE.ge]
theorem Y3D (a b c d : Int) : YO.f a b c d = some (lessP a b c d) := by
  unfold YO.f lessP
  by_cases h2 : a = c
  · simp [h2]
  · simp [h2]
theorem Y5g (j : Nat) (x : Bool) (a0 a1 a2 a3 a4 : Int) (a5 : Bool) (a6 a7 a8 a9 a10 a11 a12 : Int) :
    Yh.j0 (j + 5) x a0 a1 a2 a3 a4 a5 a6 a7 a8 a9 a10 a11 a12 = some (if x = true then 43 else if a2 < 0 ∨ 12 ≤ a2 then 33
      else if a5 = true then (if a6 = 0 ∧ a7 = 0 ∧ a8 = 0 ∧ a9 = 0 ∧ a10 = 0 ∧ a11 = 0 ∧ a12 = 0 then 0 else 2) else chkP a6 a7 a8 a9 a10 a11 a12) := by
  have e := Y4W (j + 1) x a0 a1 a2 a3 a4 a5 a6 a7 a8 a9 a10 a11 a12
  rw [← e]
  simp only [Yh.j0, Yh.j1, Yx.j0, Yx.j1, Y2x, Y3j]
theorem Y4l (j : Nat) (a0 a1 a2 a3 a4 : Int) (a5 : Bool) (a6 a7 a8 a9 a10 a11 a12 : Int) :
    Yh.f (j + 5) a0 a1 a2 a3 a4 a5 a6 a7 a8 a9 a10 a11 a12 = some (chkE a0 a1 a2 a3 a4 a5 a6 a7 a8 a9 a10 a11 a12) := by
  unfold Yh.f chkE
  simp only [Y3O, Y3D, Option.bind_some, Y5g]
  cases h1 : valP a0 a1 <;> cases h2 : valP a3 a4 <;> cases h3 : lessP a0 a1 a3 a4 <;> simp
theorem Y2k {i : Nat} (h : i ≤ 2000000) : wrap64 ((i : Int) + 1) = ((i + 1 : Nat) : Int) := by unfold wrap64; omega
def fndB (x y : S30) : Bool := fndsE x && decide (y.f1 = x.f1 ∧ y.f2.f0 = x.f2.f0 ∧ y.f2.f1 = x.f2.f1)
theorem Y47 (x y : S30) : Y18.f x.f0.f0 x.f0.f1 x.f1 x.f2.f0 x.f2.f1 x.f3 x.f4.f0 x.f4.f1 x.f4.f2 x.f4.f3 x.f4.f4 x.f4.f5 x.f4.f6 y.f0.f0 y.f0.f1 y.f1 y.f2.f0 y.f2.f1 y.f3 y.f4.f0 y.f4.f1 y.f4.f2 y.f4.f3 y.f4.f4 y.f4.f5 y.f4.f6 = some (fndB x y) := by
  unfold Y18.f
  by_cases h1 : x.f1 = y.f1
  · rw [if_pos h1]
    by_cases h3 : x.f3 = true
    · rw [if_pos h3]
      congr 1
      unfold fndB fndsE
      rw [h3]
      rfl
    · rw [if_neg h3]
      have h3' : x.f3 = false := by simpa using h3
      by_cases h4 : (x.f0.f0 == y.f2.f0 && (x.f0.f1 == y.f2.f1)) = true
      · rw [if_pos h4]
        congr 1
        rw [Bool.eq_iff_iff]
        simp only [Bool.and_eq_true, beq_iff_eq] at h4
        simp [fndB, fndsE, h3']
        omega
      · rw [if_neg h4]
        congr 1
        symm
        rw [← Bool.not_eq_true]
        simp only [Bool.and_eq_true, beq_iff_eq] at h4
        simp [fndB, fndsE, h3']
        omega
  · rw [if_neg h1]
    congr 1
    symm
    rw [← Bool.not_eq_true]
    simp [fndB]
    intro _ h
    exact absurd h.symm h1
theorem Y2H (l : List S30) (hl : l.length ≤ 1000000) (y : S30) : ∀ (m i k : Nat), l.length - i = m → i ≤ l.length → m + 1 ≤ k → Yl.l0 k l (i : Int) y.f0.f0 y.f0.f1 y.f1 y.f2.f0 y.f2.f1 y.f3 y.f4.f0 y.f4.f1 y.f4.f2 y.f4.f3 y.f4.f4 y.f4.f5 y.f4.f6 = some ((l.drop i).any (fun e => fndB e y))
  | 0, i, k, hm, hi, hk => by
    obtain ⟨k, rfl⟩ : ∃ j, k = j + 1 := ⟨k - 1, by omega⟩
    unfold Yl.l0
    rw [if_neg (by omega), List.drop_of_length_le (by omega)]
    rfl
  | m + 1, i, k, hm, hi, hk => by
    obtain ⟨k, rfl⟩ : ∃ j, k = j + 1 := ⟨k - 1, by omega⟩
    have hlt : i < l.length := by omega
    unfold Yl.l0
    rw [if_pos (by omega), if_pos (by omega), Y1G hlt, Y47, Option.bind_some, Y2k (by omega), List.drop_eq_getElem_cons hlt, List.any_cons]
    cases fndB l[i] y
    · rw [if_neg (by decide), Y2H l hl y m (i + 1) k (by omega) (by omega) (by omega), Bool.false_or]
    · rw [if_pos rfl, Bool.true_or]
theorem Y3G (k : Nat) (l : List S30) (hl : l.length ≤ 1000000) (y : S30) (hk : l.length + 1 ≤ k) : Yl.f k l y.f0.f0 y.f0.f1 y.f1 y.f2.f0 y.f2.f1 y.f3 y.f4.f0 y.f4.f1 y.f4.f2 y.f4.f3 y.f4.f4 y.f4.f5 y.f4.f6 = some (kno30 l y) := by
  have := Y2H l hl y l.length 0 k (by omega) (by omega) hk
  rw [List.drop_zero] at this
  exact this
theorem Y4p (d : Int) (l : List S30) (hl : l.length ≤ 1000000) : ∀ (m i k : Nat), l.length - i = m → i ≤ l.length → m + l.length + 2 ≤ k → Ya.l2 k (i : Int) d l = some (if (l.drop i).all (kno30 l) = true then 0 else 6)
  | 0, i, k, hm, hi, hk => by
    obtain ⟨k, rfl⟩ : ∃ j, k = j + 1 := ⟨k - 1, by omega⟩
    unfold Ya.l2
    rw [if_neg (by omega), List.drop_of_length_le (by omega)]
    rfl
  | m + 1, i, k, hm, hi, hk => by
    obtain ⟨k, rfl⟩ : ∃ j, k = j + 1 := ⟨k - 1, by omega⟩
    have hlt : i < l.length := by omega
    unfold Ya.l2
    rw [if_pos (by omega), if_pos (by omega), Y1G hlt, Y3G k l hl l[i] (by omega), Option.bind_some, Y2k (by omega), List.drop_eq_getElem_cons hlt, List.all_cons]
    cases kno30 l l[i]
    · rw [if_neg (by decide), Bool.false_and, if_neg (by decide)]
    · rw [if_pos rfl, Y4p d l hl m (i + 1) k (by omega) (by omega) (by omega), Bool.true_and]
theorem Y4o (d : Int) (l : List S30) (hl : l.length ≤ 1000000) : ∀ (m i k : Nat), l.length - i = m → 1 ≤ i → (i ≤ l.length ∨ i = 1) → m + 2 * l.length + 3 ≤ k → Ya.l1 k (i : Int) d l = some (if ord30 (l.drop (i - 1)) = true then (if l.all (kno30 l) = true then 0 else 6) else 5)
  | 0, i, k, hm, h1, hi, hk => by
    obtain ⟨k, rfl⟩ : ∃ j, k = j + 1 := ⟨k - 1, by omega⟩
    unfold Ya.l1
    have ho : ord30 (l.drop (i - 1)) = true := by
      have : (l.drop (i - 1)).length ≤ 1 := by rw [List.length_drop]; omega
      match hd : l.drop (i - 1), this with
      | [], _ => rfl
      | [a], _ => rfl
      | a :: b :: t, h => simp at h
    rw [if_neg (by omega), ho, if_pos rfl]
    have := Y4p d l hl l.length 0 k (by omega) (by omega) (by omega)
    rw [List.drop_zero] at this
    exact this
  | m + 1, i, k, hm, h1, hi, hk => by
    obtain ⟨k, rfl⟩ : ∃ j, k = j + 1 := ⟨k - 1, by omega⟩
    have hlt : i < l.length := by omega
    obtain ⟨p, rfl⟩ : ∃ p, i = p + 1 := ⟨i - 1, by omega⟩
    have hlp : p < l.length := by omega
    unfold Ya.l1
    have hw : wrap64 (((p + 1 : Nat) : Int) - 1) = (p : Int) := by unfold wrap64; omega
    rw [hw, if_pos (by omega), if_pos (by omega), if_pos (by omega), if_pos (by omega), Y1G hlp, Y1G hlt, Y3D, Option.bind_some, Y2k (by omega), Nat.add_sub_cancel, List.drop_eq_getElem_cons hlp, List.drop_eq_getElem_cons hlt]
    show _ = some (if (Y1T l[p].f0 l[p + 1].f0 && ord30 (l[p + 1] :: l.drop (p + 1 + 1))) = true then _ else _)
    have hd := List.drop_eq_getElem_cons hlt
    rw [← hd]
    unfold Y1T
    cases lessP l[p].f0.f0 l[p].f0.f1 l[p + 1].f0.f0 l[p + 1].f0.f1
    · rw [if_neg (by decide), Bool.false_and, if_neg (by decide)]
    · rw [if_pos rfl, Bool.true_and, Y4o d l hl m (p + 1 + 1) k (by omega) (by omega) (by omega) (by omega)]
      rfl
theorem Y4n (d : Int) (l : List S30) (hl : l.length ≤ 1000000) : ∀ (m i k : Nat), l.length - i = m → i ≤ l.length → m + 3 * l.length + 10 ≤ k → Ya.l0 k (i : Int) d l = some (if Y1I (l.drop i) = 0 then (if ord30 l = true then (if l.all (kno30 l) = true then 0 else 6) else 5) else Y1I (l.drop i))
  | 0, i, k, hm, hi, hk => by
    obtain ⟨k, rfl⟩ : ∃ j, k = j + 1 := ⟨k - 1, by omega⟩
    unfold Ya.l0
    rw [if_neg (by omega), List.drop_of_length_le (by omega)]
    have := Y4o d l hl (l.length - 1) 1 k (by omega) (by omega) (by omega) (by omega)
    rw [show 1 - 1 = 0 from rfl, List.drop_zero] at this
    exact this
  | m + 1, i, k, hm, hi, hk => by
    obtain ⟨k, rfl⟩ : ∃ j, k = j + 1 := ⟨k - 1, by omega⟩
    have hlt : i < l.length := by omega
    unfold Ya.l0
    obtain ⟨q, rfl⟩ : ∃ q, k = q + 5 := ⟨k - 5, by omega⟩
    rw [if_pos (by omega), if_pos (by omega), Y1G hlt, Y4l, Option.bind_some, Y2k (by omega), List.drop_eq_getElem_cons hlt]
    show _ = some (if (if chk30 l[i] = 0 then Y1I (l.drop (i + 1)) else chk30 l[i]) = 0 then _ else (if chk30 l[i] = 0 then Y1I (l.drop (i + 1)) else chk30 l[i]))
    by_cases hz : chk30 l[i] = 0
    · rw [if_pos hz, if_pos (show chkE _ _ _ _ _ _ _ _ _ _ _ _ _ = 0 from hz), Y4n d l hl m (i + 1) (q + 5) (by omega) (by omega) (by omega)]
    · rw [if_neg hz, if_neg (show ¬ chkE _ _ _ _ _ _ _ _ _ _ _ _ _ = 0 from hz), if_neg hz]
      rfl
theorem Y4m (k : Nat) (d : Int) (l : List S30) (hl : l.length ≤ 1000000) (hk : 4 * l.length + 20 ≤ k) : Ya.f k d l = some (rchkP d l) := by
  obtain ⟨k, rfl⟩ : ∃ j, k = j + 1 := ⟨k - 1, by omega⟩
  unfold Ya.f rchkP
  have h0 := Y4n d l hl l.length 0 k (by omega) (by omega) (by omega)
  rw [List.drop_zero] at h0
  by_cases h1 : d < 1
  · rw [if_pos h1, if_pos (Or.inl h1)]
    rfl
  · rw [if_neg h1]
    show (if decide (d > 64) = true then some 43 else if (l.length : Int) > 512 then some 3 else Ya.l0 k 0 d l) = _
    by_cases h2 : 64 < d
    · rw [if_pos (Or.inr h2), if_pos (decide_eq_true h2)]
    · rw [if_neg (show ¬ (d < 1 ∨ 64 < d) by omega), if_neg (show ¬ decide (d > 64) = true by simpa using h2)]
      by_cases h3 : 512 < l.length
      · rw [if_pos h3, if_pos (by omega)]
      · rw [if_neg h3, if_neg (by omega)]
        exact h0
def zN (n : Int) : Prop := -9223372036854775808 ≤ n ∧ n ≤ 9223372036854775807
def zT26 (x : S26) : Prop := zN x.f0 ∧ zN x.f1
def zT28 (x : S28) : Prop := zN x.f0 ∧ zN x.f1 ∧ zN x.f2 ∧ zN x.f3 ∧ zN x.f4 ∧ zN x.f5 ∧ zN x.f6
def zT30 (x : S30) : Prop := zT26 x.f0 ∧ zN x.f1 ∧ zT26 x.f2 ∧ True ∧ zT28 x.f4
theorem zN_ok {n : Int} (h : zN n) : okN n := by
  have e1 : IntKind.i64.min = -9223372036854775808 := rfl
  have e2 : IntKind.i64.max = 9223372036854775807 := rfl
  unfold okN
  simp only [Lit.wf, e1, e2, Bool.and_eq_true, decide_eq_true_eq]
  exact h
theorem zT_ok {x : S30} (h : zT30 x) : okE30 x := by
  obtain ⟨_, c, ⟨d, e⟩, _⟩ := h
  exact ⟨zN_ok c, zN_ok d, zN_ok e⟩
end Go.Proofs.Yteopkkoblbmggaa.P
end

/- Texts of this claim in one: VMapE, VMapT, VSCheckP, VShelf, VSortRow, VSorts, VLast; no condition. -/
import Derived.Test.YteopkkoblbmggaaGreatQZAE
import Derived.Test.YteopkkoblbmggaaGreatQZAF
import Derived.Test.YteopkkoblbmggaaGreatQZAH
import Derived.Maps.OwnSet
import Derived.Maps.OwnOps
import Derived.DeepKeys4
import Derived.Test.YteopkkoblbmggaaGreatQZAL
import Derived.Test.YteopkkoblbmggaaGreatProg
import Derived.Shelf.SlSortCmp.WholeK
import Derived.Shelf.SlicesQ.IndexFunc
import Derived.Shelf.SlGeneric
import Derived.Ground.SlsfProg
import Derived.Ground.SlgfProg
import Derived.Test.YteopkkoblbmggaaGreatQZAA
import Derived.Shelf.SlSortCmp.NoneTotal
import Derived.Deep.Light
import Derived.WalkSpells
section
set_option linter.unusedVariables false
set_option linter.unusedSimpArgs false
namespace Go.Proofs.YteopkkoblbmggaaGreat.P
open Go.RowKit Go.Maps Go.Proofs.YteopkkoblbmggaaGreatW.PrintWords Go.Proofs.YteopkkoblbmggaaGreatW.PrintLast Go.Proofs.YteopkkoblbmggaaGreatW.PrintMore
def rV (v : Value) : Option (DataW Value × List MemPlace) := some (.held v, [])
def vE (x : S52) : Value := .agg #[.int .i64 x.f0.f0, .int .i64 x.f0.f1, .int .i64 x.f1, .int .i64 x.f2.f0, .int .i64 x.f2.f1, .bool x.f3, .int .i64 x.f4.f0, .int .i64 x.f4.f1, .int .i64 x.f4.f2, .int .i64 x.f4.f3, .int .i64 x.f4.f4, .int .i64 x.f4.f5, .int .i64 x.f4.f6]
theorem zeroV (w : World) : (zeroValue 52).run Tryz.prog w = .ok (vE z52) w := by kernel_rfl
def SaysE (D : DataW Value) (f : Int → Int → Int → Option S52) : Prop := ∀ p c d, okN p → okN c → okN d → D.atKey (kS p c d) (.held (vE z52)) = .held (vE ((f p c d).getD z52)) ∧ Maps.has D (kS p c d) = (f p c d).isSome
theorem Y3H : SaysE (.map []) (fun _ _ _ => none) := fun _ _ _ _ _ _ => ⟨rfl, rfl⟩
theorem Y52 {D : DataW Value} {f : Int → Int → Int → Option S52} (h : SaysE D f) (hD : IsMap D) {p c d : Int} (h1 : okN p) (h2 : okN c) (h3 : okN d) (x : S52) :
    SaysE (D.put (kS p c d) (.held (vE x))) (fun p' c' d' => if p' = p ∧ c' = c ∧ d' = d then some x else f p' c' d') := by
  intro p' c' d' g1 g2 g3; by_cases e : p' = p ∧ c' = c ∧ d' = d
  · obtain ⟨rfl, rfl, rfl⟩ := e
    rw [atKey_put_same hD (lawS.key (Y1D h1 h2 h3)), has_put_same hD (lawS.key (Y1D h1 h2 h3))]
    simp
  · have hne : kS p' c' d' ≠ kS p c d := fun q => e (Y5z g1 g2 g3 h1 h2 h3 q)
    rw [atKey_put_other hne, has_put_other hne]; simp only [if_neg e]; exact h p' c' d' g1 g2 g3
section
variable {P : Program} {ops : Array Oper} {rest : List Oper} {o : Oper} {a : Act} {Q : Exit → Act → World → Prop}
theorem Y20 (w : World) (hg : o.guard = none) (m x : Operand) (t : TypeId) (hop : o.op = Op.lookup t m x true)
    (k e : TypeId) (K : Keyed P k) (ht : P.underlying t = some (.map k e)) (hz : (zeroValue e).run P w = .ok (vE z52) w) (b n : Nat) (D : DataW Value)
    (hm : a.eval m = .map (some b)) (hown : w.ownsMap P k rV b n D) (key : Value) (kl : Lit) (hx : a.eval x = key) (hkey : keyOf P k key = some kl) (y : S52) (hr : D.atKey kl (.held (vE z52)) = .held (vE y)) (s : Bool) (hs : Maps.has D kl = s)
    (hK : wpList P ops Q rest (a.put o.dst (.tuple #[vE y, .bool s])) w) : wpList P ops Q (o :: rest) a w :=
  wpList_lookup_own_ok w hg m x t hop k e K ht rV hz (.held (vE z52)) [] rfl b n D hm hown key kl hx hkey (fun v ps hv => by
    have : v = vE y := by
      have h1 : (some (DataW.held v, ([] : List MemPlace))) = some (D.atKey kl (.held (vE z52)), ps) := hv; rw [hr] at h1
      simpa using congrArg Prod.fst (Option.some.inj h1)
    subst this; subst hs
    exact hK)
theorem Y2N (w : World) (hg : o.guard = none) (m x : Operand) (t : TypeId) (hop : o.op = Op.lookup t m x false)
    (k e : TypeId) (K : Keyed P k) (ht : P.underlying t = some (.map k e)) (hz : (zeroValue e).run P w = .ok (vE z52) w) (b n : Nat) (D : DataW Value)
    (hm : a.eval m = .map (some b)) (hown : w.ownsMap P k rV b n D) (key : Value) (kl : Lit) (hx : a.eval x = key) (hkey : keyOf P k key = some kl) (y : S52) (hr : D.atKey kl (.held (vE z52)) = .held (vE y))
    (hK : wpList P ops Q rest (a.put o.dst (vE y)) w) : wpList P ops Q (o :: rest) a w := by
  refine wpList_plain hg fun K' hK' => ?_
  obtain ⟨v, ps, hrun, hv⟩ := hown.lookup K ht hz (R := rV) (zd := .held (vE z52)) (zp := []) rfl hkey
  have : v = vE y := by
    have h1 : (some (DataW.held v, ([] : List MemPlace))) = some (D.atKey kl (.held (vE z52)), ps) := hv; rw [hr] at h1
    simpa using congrArg Prod.fst (Option.some.inj h1)
  subst this; unfold Oper.wp
  simp [execOp, hop, hm, hx, hrun, Result.andThen]
  exact hK' _ _ hK
theorem Y48 {W : World} (k : TypeId) (hgd : o.guard = none)
    (hrun : (execOp a.eval o).run P W = .ok (.value (.map (some W.heap.size))) (W.alloc (.map #[] 0)))
    (h : ∀ m, m = W.heap.size → ∀ w1, w1.ownsMap P k rV m 0 (.map []) → Below W.heap.size W w1 → wpList P ops Q rest (a.put o.dst (.map (some m))) w1) : wpList P ops Q (o :: rest) a W :=
  Kd.event_run hgd hrun (h _ rfl _ (World.ownsMap_made _ _ _ _) (YA (Below.refl _ _) _))
end
section
variable {H : Type} {P : Program} {k : TypeId} {R : Value → Option (DataW H × List MemPlace)} {m n g t : Nat} {cs : Array Value} {D : DataW H} {W w1 : World}
theorem Y4M (ho : W.ownsMap P k R m n D) (h : W.heap[g]? = some (.cells cs t (0, 0))) : g ≠ m := by
  rintro rfl; obtain ⟨es, clock, hb, _⟩ := ho; rw [h] at hb; cases hb
theorem Y3R (h : W.heap[g]? = some (.cells cs t (0, 0))) (ho : W.ownsMap P k R m n D) (hg : W.grownBy w1 (some m)) : w1.heap[g]? = some (.cells cs t (0, 0)) :=
  (hg.block g (Y1e h) (fun e => Y4M ho h (Option.some.inj e))).trans h
theorem Y29 (h : W.ownsMap P k R m n D) (hb : Below W.heap.size W w1) : w1.ownsMap P k R m n D := by
  have hlt := h.lt; obtain ⟨es, clock, hbk, F, hs, hD⟩ := h; exact ⟨es, clock, (hb.block m hlt).trans hbk, F, hs, hD⟩
theorem Y1C {α : Type} {d : Kd α} {e base : Nat} {ok : Nat → Prop} {v : Value} {xs : List α} (ho : W.ownsMap P k R m n D) (h : d.R e W base ok v xs) : some m ≠ v.ownBlock := by
  intro hk; obtain ⟨cells, hc⟩ := Y2G h.2.choose_spec.1 m hk.symm; exact Y4M ho hc rfl
theorem Y2s {α : Type} {d : Kd α} {e base : Nat} {ok : Nat → Prop} {v : Value} {xs : List α} (h : d.R e W base ok v xs) (hg : W.heap[g]? = some (.cells cs t (0, 0))) (ht : e ≠ t) : some g ≠ v.ownBlock := Y4R h.2.choose_spec.1 hg ht
end
section
section
variable {P : Program} {ops : Array Oper} {rest : List Oper} {o : Oper} {a : Act} {Q : Exit → Act → World → Prop}
theorem Y3U {W : World} {t : TypeId} {m x : Tmp} {v : Operand} (_ho : o.op = .mapUpdate t (.tmp m) (.tmp x) v) (h : wpList P ops Q (o :: rest) a W) : wpList P ops Q (o :: rest) a W := h
end
end
end Go.Proofs.YteopkkoblbmggaaGreat.P
end
section
set_option linter.unusedVariables false
set_option linter.unusedSimpArgs false
namespace Go.Proofs.YteopkkoblbmggaaGreat.P
open Go.RowKit Go.Proofs.YteopkkoblbmggaaGreatW.PrintWords Go.Proofs.YteopkkoblbmggaaGreatW.PrintLast Go.Proofs.YteopkkoblbmggaaGreatW.PrintMore
def lessB (b c b' c' : Int) : Bool := decide (b < b' ∨ b = b' ∧ c < c')
theorem Y4k (j : Nat) (a0 a1 a2 a3 a4 a5 a6 b0 b1 b2 b3 b4 b5 b6 : Int) : YV.f (j + 3) a0 a1 a2 a3 a4 a5 a6 b0 b1 b2 b3 b4 b5 b6 = some (lessB a2 a1 b2 b1) := by
  unfold YV.f cmp_Compare_int.f cmp_isNaN_int.f cmp_Or_int.f lessB; simp only [bne_self_eq_false, Option.bind_some, Bool.false_eq_true, if_false]; by_cases h1 : a2 < b2
  · by_cases g : a1 < b1
    · simp [h1, g, cmp_Or_int.l0, rd]
    · by_cases g2 : a1 > b1 <;> simp [h1, g, g2, cmp_Or_int.l0, rd]
  · by_cases h2 : a2 > b2
    · have e : ¬ (a2 = b2) := by omega
      by_cases g : a1 < b1
      · simp [h1, h2, g, e, cmp_Or_int.l0, rd]
      · by_cases g2 : a1 > b1 <;> simp [h1, h2, g, g2, e, cmp_Or_int.l0, rd]
    · have e : a2 = b2 := by omega
      subst e; by_cases h3 : a1 < b1
      · simp [h3, cmp_Or_int.l0, rd, wrap64]
      · by_cases h4 : a1 > b1
        · simp [h3, h4, cmp_Or_int.l0, rd, wrap64]
        · simp [h3, h4, cmp_Or_int.l0, rd, wrap64]
end Go.Proofs.YteopkkoblbmggaaGreat.P
end
section
namespace Go.Proofs
open Go.Shelf
def Tryz.sortS_ren : Go.Shelf.Ren := ⟨fun | 6 => 45 | 15 => 50 | 14 => 60 | 28 => 70 | 29 => 71 | 20 => 79 | 21 => 80 | 22 => 81 | 23 => 82 | 24 => 83 | 25 => 84 | 26 => 85 | 27 => 86 | 46 => 99 | 47 => 88 | 48 => 89 | 49 => 100 | 50 => 101 | 57 => 106 | n => n, fun | 22 => 63 | 24 => 67 | 25 => 79 | 3 => 3 | 39 => 84 | 0 => 0 | 53 => 101 | 55 => 103 | 4 => 4 | 46 => 95 | 45 => 94 | 50 => 60 | 5 => 5 | 9 => 9 | 66 => 119 | 70 => 123 | 76 => 130 | 77 => 131 | n => n, fun | n => n⟩
theorem Tryz.sortS : Go.Proofs.SlLaysF0.n6 Tryz.prog Tryz.sortS_ren := {
  mixed := by kernel_rfl
  f6 := ⟨Tryz.f45.name, by decide, Tryz.func45.trans (congrArg some (by kernel_rfl))⟩
  f14 := ⟨Tryz.f60.name, by decide, Tryz.func60.trans (congrArg some (by kernel_rfl))⟩
  f15 := Tryz.func50.trans (congrArg some (by kernel_rfl))
  f20 := ⟨Tryz.f79.name, by decide, Tryz.func79.trans (congrArg some (by kernel_rfl))⟩
  f21 := ⟨Tryz.f80.name, by decide, Tryz.func80.trans (congrArg some (by kernel_rfl))⟩
  f22 := ⟨Tryz.f81.name, by decide, Tryz.func81.trans (congrArg some (by kernel_rfl))⟩
  f23 := ⟨Tryz.f82.name, by decide, Tryz.func82.trans (congrArg some (by kernel_rfl))⟩
  f24 := ⟨Tryz.f83.name, by decide, Tryz.func83.trans (congrArg some (by kernel_rfl))⟩
  f25 := ⟨Tryz.f84.name, by decide, Tryz.func84.trans (congrArg some (by kernel_rfl))⟩
  f26 := ⟨Tryz.f85.name, by decide, Tryz.func85.trans (congrArg some (by kernel_rfl))⟩
  f27 := ⟨Tryz.f86.name, by decide, Tryz.func86.trans (congrArg some (by kernel_rfl))⟩
  f28 := Tryz.func70.trans (congrArg some (by kernel_rfl))
  f29 := Tryz.func71.trans (congrArg some (by kernel_rfl))
  f46 := ⟨Tryz.f99.name, by decide, Tryz.func99.trans (congrArg some (by kernel_rfl))⟩
  f47 := Tryz.func88.trans (congrArg some (by kernel_rfl))
  f48 := Tryz.func89.trans (congrArg some (by kernel_rfl))
  f49 := ⟨Tryz.f100.name, by decide, Tryz.func100.trans (congrArg some (by kernel_rfl))⟩
  f50 := ⟨Tryz.f101.name, by decide, Tryz.func101.trans (congrArg some (by kernel_rfl))⟩
  f57 := ⟨Tryz.f106.name, by decide, Tryz.func106.trans (congrArg some (by kernel_rfl))⟩
  t0 := Tryz.underlying0
  a0 := Tryz.isAgg0
  z0 := Tryz.sizeOf0
  v0 := Tryz.zeroValue0
  t3 := Tryz.underlying3
  a3 := Tryz.isAgg3
  z3 := Tryz.sizeOf3
  v3 := Tryz.zeroValue3
  t4 := Tryz.underlying4
  a4 := Tryz.isAgg4
  z4 := Tryz.sizeOf4
  v4 := Tryz.zeroValue4
  t5 := Tryz.underlying5
  a5 := Tryz.isAgg5
  z5 := Tryz.sizeOf5
  v5 := Tryz.zeroValue5
  t9 := Tryz.underlying9
  a9 := Tryz.isAgg9
  z9 := Tryz.sizeOf9
  v9 := Tryz.zeroValue9
  t22 := Tryz.underlying63
  a22 := Tryz.isAgg63
  z22 := Tryz.sizeOf63
  v22 := Tryz.zeroValue63
  t25 := Tryz.underlying79
  a25 := Tryz.isAgg79
  z25 := Tryz.sizeOf79
  v25 := Tryz.zeroValue79
  t39 := Tryz.underlying84
  a39 := Tryz.isAgg84
  z39 := Tryz.sizeOf84
  v39 := Tryz.zeroValue84
  t45 := Tryz.underlying94
  a45 := Tryz.isAgg94
  z45 := Tryz.sizeOf94
  v45 := Tryz.zeroValue94
  t46 := Tryz.underlying95
  a46 := Tryz.isAgg95
  z46 := Tryz.sizeOf95
  v46 := Tryz.zeroValue95
  t50 := Tryz.underlying60
  a50 := Tryz.isAgg60
  z50 := Tryz.sizeOf60
  v50 := Tryz.zeroValue60
  t53 := Tryz.underlying101
  a53 := Tryz.isAgg101
  z53 := Tryz.sizeOf101
  v53 := Tryz.zeroValue101
  t55 := Tryz.underlying103
  a55 := Tryz.isAgg103
  z55 := Tryz.sizeOf103
  v55 := Tryz.zeroValue103
  t66 := Tryz.underlying119
  a66 := Tryz.isAgg119
  z66 := Tryz.sizeOf119
  v66 := Tryz.zeroValue119
  t70 := Tryz.underlying123
  a70 := Tryz.isAgg123
  z70 := Tryz.sizeOf123
  v70 := Tryz.zeroValue123
  t76 := Tryz.underlying130
  a76 := Tryz.isAgg130
  z76 := Tryz.sizeOf130
  v76 := Tryz.zeroValue130
  t77 := Tryz.underlying131
  a77 := Tryz.isAgg131
  z77 := Tryz.sizeOf131
  v77 := Tryz.zeroValue131 }
def Tryz.sortY_ren : Go.Shelf.Ren := ⟨fun | 6 => 35 | 15 => 50 | 14 => 49 | 28 => 70 | 29 => 71 | 20 => 62 | 21 => 63 | 22 => 64 | 23 => 65 | 24 => 66 | 25 => 67 | 26 => 68 | 27 => 69 | 46 => 87 | 47 => 88 | 48 => 89 | 49 => 90 | 50 => 91 | 57 => 102 | n => n, fun | 22 => 35 | 24 => 42 | 25 => 71 | 3 => 3 | 39 => 84 | 0 => 0 | 53 => 101 | 55 => 103 | 4 => 4 | 46 => 95 | 45 => 94 | 50 => 60 | 5 => 5 | 9 => 9 | 66 => 119 | 70 => 123 | 76 => 130 | 77 => 131 | n => n, fun | n => n⟩
theorem Tryz.sortY : Go.Proofs.SlLaysF0.n6 Tryz.prog Tryz.sortY_ren := {
  mixed := by kernel_rfl
  f6 := ⟨Tryz.f35.name, by decide, Tryz.func35.trans (congrArg some (by kernel_rfl))⟩
  f14 := ⟨Tryz.f49.name, by decide, Tryz.func49.trans (congrArg some (by kernel_rfl))⟩
  f15 := Tryz.func50.trans (congrArg some (by kernel_rfl))
  f20 := ⟨Tryz.f62.name, by decide, Tryz.func62.trans (congrArg some (by kernel_rfl))⟩
  f21 := ⟨Tryz.f63.name, by decide, Tryz.func63.trans (congrArg some (by kernel_rfl))⟩
  f22 := ⟨Tryz.f64.name, by decide, Tryz.func64.trans (congrArg some (by kernel_rfl))⟩
  f23 := ⟨Tryz.f65.name, by decide, Tryz.func65.trans (congrArg some (by kernel_rfl))⟩
  f24 := ⟨Tryz.f66.name, by decide, Tryz.func66.trans (congrArg some (by kernel_rfl))⟩
  f25 := ⟨Tryz.f67.name, by decide, Tryz.func67.trans (congrArg some (by kernel_rfl))⟩
  f26 := ⟨Tryz.f68.name, by decide, Tryz.func68.trans (congrArg some (by kernel_rfl))⟩
  f27 := ⟨Tryz.f69.name, by decide, Tryz.func69.trans (congrArg some (by kernel_rfl))⟩
  f28 := Tryz.func70.trans (congrArg some (by kernel_rfl))
  f29 := Tryz.func71.trans (congrArg some (by kernel_rfl))
  f46 := ⟨Tryz.f87.name, by decide, Tryz.func87.trans (congrArg some (by kernel_rfl))⟩
  f47 := Tryz.func88.trans (congrArg some (by kernel_rfl))
  f48 := Tryz.func89.trans (congrArg some (by kernel_rfl))
  f49 := ⟨Tryz.f90.name, by decide, Tryz.func90.trans (congrArg some (by kernel_rfl))⟩
  f50 := ⟨Tryz.f91.name, by decide, Tryz.func91.trans (congrArg some (by kernel_rfl))⟩
  f57 := ⟨Tryz.f102.name, by decide, Tryz.func102.trans (congrArg some (by kernel_rfl))⟩
  t0 := Tryz.underlying0
  a0 := Tryz.isAgg0
  z0 := Tryz.sizeOf0
  v0 := Tryz.zeroValue0
  t3 := Tryz.underlying3
  a3 := Tryz.isAgg3
  z3 := Tryz.sizeOf3
  v3 := Tryz.zeroValue3
  t4 := Tryz.underlying4
  a4 := Tryz.isAgg4
  z4 := Tryz.sizeOf4
  v4 := Tryz.zeroValue4
  t5 := Tryz.underlying5
  a5 := Tryz.isAgg5
  z5 := Tryz.sizeOf5
  v5 := Tryz.zeroValue5
  t9 := Tryz.underlying9
  a9 := Tryz.isAgg9
  z9 := Tryz.sizeOf9
  v9 := Tryz.zeroValue9
  t22 := Tryz.underlying35
  a22 := Tryz.isAgg35
  z22 := Tryz.sizeOf35
  v22 := Tryz.zeroValue35
  t25 := Tryz.underlying71
  a25 := Tryz.isAgg71
  z25 := Tryz.sizeOf71
  v25 := Tryz.zeroValue71
  t39 := Tryz.underlying84
  a39 := Tryz.isAgg84
  z39 := Tryz.sizeOf84
  v39 := Tryz.zeroValue84
  t45 := Tryz.underlying94
  a45 := Tryz.isAgg94
  z45 := Tryz.sizeOf94
  v45 := Tryz.zeroValue94
  t46 := Tryz.underlying95
  a46 := Tryz.isAgg95
  z46 := Tryz.sizeOf95
  v46 := Tryz.zeroValue95
  t50 := Tryz.underlying60
  a50 := Tryz.isAgg60
  z50 := Tryz.sizeOf60
  v50 := Tryz.zeroValue60
  t53 := Tryz.underlying101
  a53 := Tryz.isAgg101
  z53 := Tryz.sizeOf101
  v53 := Tryz.zeroValue101
  t55 := Tryz.underlying103
  a55 := Tryz.isAgg103
  z55 := Tryz.sizeOf103
  v55 := Tryz.zeroValue103
  t66 := Tryz.underlying119
  a66 := Tryz.isAgg119
  z66 := Tryz.sizeOf119
  v66 := Tryz.zeroValue119
  t70 := Tryz.underlying123
  a70 := Tryz.isAgg123
  z70 := Tryz.sizeOf123
  v70 := Tryz.zeroValue123
  t76 := Tryz.underlying130
  a76 := Tryz.isAgg130
  z76 := Tryz.sizeOf130
  v76 := Tryz.zeroValue130
  t77 := Tryz.underlying131
  a77 := Tryz.isAgg131
  z77 := Tryz.sizeOf131
  v77 := Tryz.zeroValue131 }
def Tryz.anyY_ren : Go.Shelf.Ren := ⟨fun | 8 => 47 | 6 => 61 | n => n, fun | 22 => 35 | 23 => 42 | 25 => 81 | 4 => 4 | 3 => 3 | 0 => 0 | n => n, fun | n => n⟩
theorem Tryz.anyY : Go.Proofs.SlLaysH0.n8 Tryz.prog Tryz.anyY_ren := {
  mixed := by kernel_rfl
  f6 := ⟨Tryz.f61.name, by decide, Tryz.func61.trans (congrArg some (by kernel_rfl))⟩
  f8 := ⟨Tryz.f47.name, by decide, Tryz.func47.trans (congrArg some (by kernel_rfl))⟩
  t0 := Tryz.underlying0
  a0 := Tryz.isAgg0
  z0 := Tryz.sizeOf0
  v0 := Tryz.zeroValue0
  t3 := Tryz.underlying3
  a3 := Tryz.isAgg3
  z3 := Tryz.sizeOf3
  v3 := Tryz.zeroValue3
  t4 := Tryz.underlying4
  a4 := Tryz.isAgg4
  z4 := Tryz.sizeOf4
  v4 := Tryz.zeroValue4
  t22 := Tryz.underlying35
  a22 := Tryz.isAgg35
  z22 := Tryz.sizeOf35
  v22 := Tryz.zeroValue35
  t25 := Tryz.underlying81
  a25 := Tryz.isAgg81
  z25 := Tryz.sizeOf81
  v25 := Tryz.zeroValue81 }
end Go.Proofs
end
section
set_option linter.unusedVariables false
set_option linter.unusedSimpArgs false
namespace Go.Proofs.YteopkkoblbmggaaGreatW.PrintWords
open Go.RowKit Go.Shelf Go.Lib Go.Sort Go.Proofs
section
variable {α : Type} [Inhabited α] {enc : α → List Value} {n : Nat} {e base : Nat} {ok : Nat → Prop} {W w0 : World} {xs : List α}
theorem Y2e {d : Kd α} {b c : Nat} (hsz : ∀ x, (enc x).length = d.sz) (hM : ∀ w base ok x cs, d.M w base ok x cs → cs = enc x) (h : d.R e W base ok (.slice (some ⟨b, 0, none⟩) xs.length c) xs) :
    ∃ cur, base ≤ b ∧ b < W.heap.size ∧ W.heap[b]? = some (.cells cur e (0, 0)) ∧ xs.length ≤ c ∧ c ≤ maxLen ∧ cur.size = c * d.sz ∧ ∀ j, j < xs.length * d.sz → cur[j]? = some (flatK enc d.sz xs.toArray)[j]! := by
  obtain ⟨_, inner, ho, hr⟩ := h; rcases ho.2 with ⟨hv, _⟩ | ⟨g, cap, cur, hv, hb, hg, hn, hm, hs, ht⟩
  · cases hv
  · have hgb : g = b ∧ cap = c := by
      injection hv with h1 h2 h3
      injection h1 with h1
      injection h1 with h1
      exact ⟨h1.symm, h3.symm⟩
    obtain ⟨rfl, rfl⟩ := hgb; refine ⟨cur, hb, (Array.getElem?_eq_some_iff.1 hg).1, hg, hn, hm, hs, fun t hlt => ?_⟩
    have hp : 0 < d.sz := by rcases Nat.eq_zero_or_pos d.sz with h | h; · rw [h] at hlt; simp at hlt
                             · exact h
    have hj : t / d.sz < xs.length := (Nat.div_lt_iff_lt_mul hp).2 hlt; have hq := hM _ _ _ _ _ (hr.2 (t / d.sz) _ (List.getElem?_eq_getElem hj)); have hmod : t % d.sz < d.sz := Nat.mod_lt _ hp
    have h1 : inner[t]? = (enc (xs[t / d.sz]'hj))[t % d.sz]? := by
      rw [← hq, List.getElem?_take, if_pos hmod, List.getElem?_drop, Nat.mul_comm, Nat.div_add_mod]
    have h2 : cur[t]? = inner[t]? := by
      rw [← ht, List.getElem?_take, if_pos hlt, Array.getElem?_toList]
    rw [h2, h1, get_flatK _ _ _ _ (by simpa using hlt)]; have h3 : (xs.toArray[t / d.sz]! : α) = xs[t / d.sz]'hj := by rw [getElem!_pos xs.toArray _ (by simpa using hj)]; simp
    rw [h3, List.getElem?_eq_getElem (by rw [hsz]; exact hmod), getElem!_pos _ _ (by rw [hsz]; exact hmod)]
theorem Y3t {d : Kd α} {b c : Nat} (hsz : ∀ x, (enc x).length = d.sz) (hM : ∀ w base ok x cs, d.M w base ok x cs → cs = enc x) (h : d.R e W base ok (.slice (some ⟨b, 0, none⟩) xs.length c) xs) :
    HoldsK enc d.sz W b 0 xs.toArray := by
  obtain ⟨cur, hb, hlt, hg, hn, hm, hs, ht⟩ := Y2e hsz hM h; intro j hj; have hj' : j < xs.length * d.sz := by simpa using hj
  have hc := ht j hj'; have hjl : j < cur.size := (Array.getElem?_eq_some_iff.1 hc).1; refine ⟨?_, ?_⟩
  · simp only [World.cell?, hg, Nat.zero_add]
    simpa using hc
  · simp [World.frozen?, hg]
theorem Y30 {d : Kd α} {b c m : Nat} {dk : Array α} {os : Array Obj} (hsz : ∀ x, (enc x).length = d.sz) (hM : ∀ w base ok x cs, d.M w base ok x cs → cs = enc x) (hM' : ∀ w base ok x, d.M w base ok x (enc x)) (h : d.R e W base ok (.slice (some ⟨b, 0, none⟩) xs.length c) xs)
    (hdk : dk.size = xs.length) : d.R e (sortWorldK enc d.sz W b 0 m dk os) base ok (.slice (some ⟨b, 0, none⟩) xs.length c) dk.toList ∧ W.grownBy (sortWorldK enc d.sz W b 0 m dk os) (some b) := by
  obtain ⟨cur, hb, hlt, hg, hn, hm, hs, ht⟩ := Y2e hsz hM h; have hheap : (sortWorldK enc d.sz W b 0 m dk os).heap = (W.heap.modify b (onCells (putCells id 0 (flatK enc d.sz dk)))) ++ os := rfl
  have hblk : ∀ k, k < W.heap.size → (sortWorldK enc d.sz W b 0 m dk os).heap[k]? = (W.heap.modify b (onCells (putCells id 0 (flatK enc d.sz dk))))[k]? := fun k hk => by
    rw [hheap, Array.getElem?_append_left (by simpa using hk)]
  have hle : (flatK enc d.sz dk).size ≤ cur.size := by
    rw [size_flatK, hdk, hs]; exact Nat.mul_le_mul_right _ hn
  refine ⟨⟨h.1, (flatK enc d.sz dk).toList, ⟨by simp, .inr ⟨b, c, putCells id 0 (flatK enc d.sz dk) cur, by rw [show dk.toList.length = xs.length by simpa using hdk], hb, ?_, by rw [Array.length_toList, hdk]; exact hn, hm, by simp [putCells, hs], ?_⟩⟩, ⟨by simp, fun j p hj => ?_⟩⟩, ⟨rfl, rfl, rfl, ?_, fun k hk hne => ?_⟩⟩
  · rw [hblk b hlt, Array.getElem?_modify, if_pos rfl, hg]; rfl
  · apply List.ext_getElem?
    intro t; rw [List.getElem?_take]; by_cases hlt2 : t < dk.toList.length * d.sz
    · rw [if_pos hlt2]
      rw [Array.length_toList] at hlt2; have hF : t < (flatK enc d.sz dk).size := by rw [size_flatK]; exact hlt2
      have hcs : t < cur.size := Nat.lt_of_lt_of_le hF hle; rw [Array.getElem?_toList, Array.getElem?_toList]; simp only [putCells, Array.getElem?_mapIdx, Array.getElem?_eq_getElem hcs, Option.map_some]; rw [if_pos ⟨Nat.zero_le _, by omega⟩, Array.getElem?_eq_getElem hF]; exact congrArg some (getElem!_pos (flatK enc d.sz dk) t hF)
    · rw [if_neg hlt2, Array.getElem?_toList, Array.getElem?_eq_none (by rw [size_flatK]; rw [Array.length_toList] at hlt2; omega)]
  · have hjl : j < dk.size := by
      have := (List.getElem?_eq_some_iff.1 hj).1
      simpa using this
    have hp : dk[j]! = p := by
      rw [getElem!_pos dk j hjl]; have := (List.getElem?_eq_some_iff.1 hj).2
      simpa using this
    have : (((flatK enc d.sz dk).toList.drop (j * d.sz)).take d.sz) = enc p := by
      apply List.ext_getElem?; intro t; rw [List.getElem?_take]; by_cases htl : t < d.sz
      · rw [if_pos htl, List.getElem?_drop, Array.getElem?_toList]
        have hlt3 : j * d.sz + t < dk.size * d.sz := by
          have := Nat.mul_le_mul_right d.sz (show j + 1 ≤ dk.size from hjl); rw [Nat.add_mul, Nat.one_mul] at this; omega
        rw [Array.getElem?_eq_getElem (by rw [size_flatK]; exact hlt3)]; have hg2 := get_flatK enc d.sz dk (j * d.sz + t) hlt3; rw [getElem!_pos _ _ (by rw [size_flatK]; exact hlt3)] at hg2; rw [hg2]
        have e1 : (j * d.sz + t) / d.sz = j := by
          rw [Nat.mul_comm, Nat.mul_add_div (by omega), Nat.div_eq_of_lt htl]; omega
        have e2 : (j * d.sz + t) % d.sz = t := by
          rw [Nat.mul_comm, Nat.mul_add_mod, Nat.mod_eq_of_lt htl]
        rw [e1, e2, hp, List.getElem?_eq_getElem (by rw [hsz]; exact htl), getElem!_pos _ _ (by rw [hsz]; exact htl)]
      · rw [if_neg htl, List.getElem?_eq_none (by rw [hsz]; omega)]
    rw [this]; exact hM' _ _ _ _
  · rw [hheap]; simp
  · rw [hblk k hk, Array.getElem?_modify, if_neg (fun e => hne (by rw [e]))]
end
end Go.Proofs.YteopkkoblbmggaaGreatW.PrintWords
end
section
set_option linter.unusedVariables false
set_option linter.unusedSimpArgs false
namespace Go.Proofs.YteopkkoblbmggaaGreat.P
open Go.RowKit Go.Shelf Go.Sort Go.Lib Go.Proofs Go.Proofs.YteopkkoblbmggaaGreatW.PrintWords Go.Proofs.YteopkkoblbmggaaGreatW.PrintLast Go.Proofs.YteopkkoblbmggaaGreatW.PrintMore
section
variable {α : Type}
def isI (lt : α → α → Bool) (x : α) : List α → List α
  | [] => [x]
  | y :: r => if lt y x = true then y :: isI lt x r else x :: y :: r
def isrt (lt : α → α → Bool) : List α → List α
  | [] => []
  | x :: r => isI lt x (isrt lt r)
theorem Y3a (lt : α → α → Bool) (x : α) : ∀ l, (isI lt x l).Perm (x :: l)
  | [] => List.Perm.refl _
  | y :: r => by
    unfold isI
    split
    · exact ((Y3a lt x r).cons y).trans (List.Perm.swap x y r)
    · exact List.Perm.refl _
theorem Y23 (lt : α → α → Bool) : ∀ l, (isrt lt l).Perm l
  | [] => List.Perm.refl _
  | x :: r => (Y3a lt x _).trans ((Y23 lt r).cons x)
theorem Y2X {lt : α → α → Bool} (hO : SWO lt) (x : α) : ∀ l, l.Pairwise (fun a b => lt b a = false) → (isI lt x l).Pairwise (fun a b => lt b a = false)
  | [], _ => by simp [isI]
  | y :: r, h => by
    have hy := List.pairwise_cons.1 h; unfold isI
    split
    · rename_i hl
      refine List.pairwise_cons.2 ⟨fun z hz => ?_, Y2X hO x r hy.2⟩; rcases List.mem_cons.1 ((Y3a lt x r).mem_iff.1 hz) with rfl | hz
      · cases e : lt z y
        · rfl
        · have := hO.trans _ _ _ hl e
          rw [hO.irrefl] at this; cases this
      · exact hy.1 z hz
    · rename_i hl
      refine List.pairwise_cons.2 ⟨fun z hz => ?_, h⟩; rcases List.mem_cons.1 hz with rfl | hz
      · exact Bool.not_eq_true _ ▸ hl
      · exact hO.ntrans _ _ _ (hy.1 z hz) (Bool.not_eq_true _ ▸ hl)
theorem Y2y {lt : α → α → Bool} (hO : SWO lt) : ∀ l, (isrt lt l).Pairwise (fun a b => lt b a = false)
  | [] => List.Pairwise.nil
  | x :: r => Y2X hO x _ (Y2y hO r)
def OneEq (lt : α → α → Bool) (l : List α) : Prop := ∀ a ∈ l, ∀ b ∈ l, lt a b = false → lt b a = false → a = b
theorem Y34 {lt : α → α → Bool} : ∀ {l1 l2 : List α}, l1.Perm l2 → OneEq lt l1 → l1.Pairwise (fun a b => lt b a = false) → l2.Pairwise (fun a b => lt b a = false) → (∀ a, lt a a = false) → l1 = l2
  | [], l2, hp, _, _, _, _ => (List.Perm.nil_eq hp)
  | x :: r, [], hp, _, _, _, _ => absurd hp.length_eq (by simp)
  | x :: r, y :: s, hp, h1, hs1, hs2, hi => by
    have p1 := List.pairwise_cons.1 hs1; have p2 := List.pairwise_cons.1 hs2; have hx : x ∈ y :: s := hp.mem_iff.1 List.mem_cons_self; have hy : y ∈ x :: r := hp.mem_iff.2 List.mem_cons_self
    have e : x = y := by
      refine h1 x List.mem_cons_self y hy ?_ ?_
      · rcases List.mem_cons.1 hx with e | hx
        · rw [e]; exact hi y
        · exact p2.1 x hx
      · rcases List.mem_cons.1 hy with e | hy
        · rw [e]; exact hi x
        · exact p1.1 y hy
    subst e; rw [Y34 (List.Perm.cons_inv hp) (fun a ha b hb => h1 a (List.mem_cons_of_mem _ ha) b (List.mem_cons_of_mem _ hb)) p1.2 p2.2 hi]
theorem Y4a {lt : α → α → Bool} {l1 l2 : List α} (hp : l1.Perm l2) (h : OneEq lt l2) : OneEq lt l1 := fun a ha b hb => h a (hp.mem_iff.1 ha) b (hp.mem_iff.1 hb)
theorem Y2o [Inhabited α] {lt : α → α → Bool} {d : Array α} (h : SortedIn lt 0 d.size d) : d.toList.Pairwise (fun a b => lt b a = false) := by
  rw [List.pairwise_iff_getElem]; intro i j hi hj hij; have := h i j (Nat.zero_le _) hij (by simpa using hj); rw [getElem!_pos d j (by simpa using hj), getElem!_pos d i (by simpa using hi)] at this
  simpa using this
theorem Y56 [Inhabited α] {lt : α → α → Bool} (hO : SWO lt) {l : List α} {d : Array α} (hp : PermIn 0 l.length l.toArray d) (hs : SortedIn lt 0 l.length d) (h1 : OneEq lt l) : d.toList = isrt lt l := by
  have hz : d.size = l.length := by simpa using hp.1
  have hperm : d.toList.Perm l := by
    have := hp.2.2; rw [← hz, Array.extract_size] at this; rw [hz] at this
    simpa using this
  exact Y34 (hperm.trans (Y23 lt l).symm) (Y4a hperm h1) (Y2o (by rw [hz]; exact hs)) (Y2y hO l) hO.irrefl
end
def kG : Kd SG := Kd.iso (Kd.pair (Kd.int .i64) (Kd.pair (Kd.int .i64) (Kd.int .i64))) (fun x : SG => (x.p, x.c, x.d))
def encG (x : SG) : List Value := [.int .i64 x.p, .int .i64 x.c, .int .i64 x.d]
def encY (x : S42) : List Value := [.int .i64 x.f0, .int .i64 x.f1, .int .i64 x.f2, .int .i64 x.f3, .int .i64 x.f4, .int .i64 x.f5, .int .i64 x.f6]
instance : Inhabited S42 := ⟨z42⟩
theorem Y5M {w : World} {x : SG} {cs : List Value} (h : kG.K w x cs) : cs = encG x := by
  obtain ⟨_, _, rfl, rfl, ⟨_, _, rfl, rfl, rfl⟩⟩ := h; exact rfl
theorem Y3d {w : World} {base : Nat} {ok : Nat → Prop} {x : SG} {cs : List Value} (h : kG.M w base ok x cs) : cs = encG x := by
  obtain ⟨_, _, rfl, rfl, ⟨_, _, rfl, rfl, rfl⟩⟩ := h; exact rfl
theorem Y5y (w : World) (base : Nat) (ok : Nat → Prop) (x : SG) : kG.M w base ok x (encG x) := ⟨[.int .i64 x.p], _, rfl, rfl, ⟨[.int .i64 x.c], [.int .i64 x.d], rfl, rfl, rfl⟩⟩
theorem infoG : (Tryz.prog.info? 67).map (fun i => (i.zero, i.size, i.bytes)) = some (some (.agg #[(.int .i64 0), (.int .i64 0), (.int .i64 0)]), 3, 24) := by kernel_rfl
theorem at_G {w : World} {A : Option Addr} {n : Nat} {xs : List SG} (h : Kd.C kG w A n xs) (i : Nat) (hi : i < n) : ∃ ad x, A = some ad ∧ xs[i]? = some x ∧ w.cell? (ad.add (i * 3)) = some (.int .i64 x.p) ∧ w.cell? ⟨(ad.add (i * 3)).block, (ad.add (i * 3)).off + 1, none⟩ = some (.int .i64 x.c) ∧ w.cell? ⟨(ad.add (i * 3)).block, (ad.add (i * 3)).off + 2, none⟩ = some (.int .i64 x.d) := by
  obtain ⟨ad, c, e, _, hK, hc0⟩ := Kd.C_get h ⟨0, 0, 0⟩ (i : Int) (by omega) (by omega); have hl : i < xs.length := by have := h.1; omega
  rw [Int.toNat_natCast] at hK hc0; obtain rfl := Y5M hK; have hx : xs.getD i ⟨0, 0, 0⟩ = xs[i] := by rw [List.getD_eq_getElem?_getD, List.getElem?_eq_getElem hl]; rfl
  rw [hx] at hc0; have hc : ∀ j u, (encG xs[i])[j]? = some u → w.cell? (ad.add (i * 3 + j)) = some u := hc0; exact ⟨ad, xs[i], e, List.getElem?_eq_getElem hl, hc 0 _ rfl, by rw [← Y1j _ _ 1 (by omega)]; exact hc 1 _ rfl, by rw [← Y1j _ _ 2 (by omega)]; exact hc 2 _ rfl⟩
def ltG (x y : SG) : Bool := lessP x.c x.d y.c y.d
def ltY (x y : S42) : Bool := lessB x.f2 x.f1 y.f2 y.f1
def cfZ (x y : S42) : Int := if ltY x y = true then -1 else 1
theorem Y5A : ltOf cfS = ltG := by
  funext x y
  unfold ltOf cfS ltG; cases lessP x.c x.d y.c y.d <;> simp
  cases lessP y.c y.d x.c x.d <;> simp
theorem Y5B : ltOf cfZ = ltY := by
  funext x y
  unfold ltOf cfZ; cases ltY x y <;> simp
theorem swoG : SWO ltG where
  irrefl x := by simp [ltG, lessP]
  trans x y z h1 h2 := by simp [ltG, lessP] at *; omega
  ntrans x y z h1 h2 := by simp [ltG, lessP] at *; omega
theorem swoY : SWO ltY where
  irrefl x := by simp [ltY, lessB]
  trans x y z h1 h2 := by simp [ltY, lessB] at *; omega
  ntrans x y z h1 h2 := by simp [ltY, lessB] at *; omega
theorem Y3I {b c e base : Nat} {ok : Nat → Prop} {W : World} {xs : List SG} (h : kG.R e W base ok (.slice (some ⟨b, 0, none⟩) xs.length c) xs) (h1 : OneEq ltG xs) (hl : xs.length < 4611686018427387904) :
    Calls Tryz.prog 45 #[.slice (some ⟨b, 0, none⟩) xs.length c, .func (.func 46) #[] #[]] W fun r w' => r = .returned (.tuple #[]) ∧ kG.R e w' base ok (.slice (some ⟨b, 0, none⟩) xs.length c) (isrt ltG xs) ∧ W.grownBy w' (some b) := by
  have eg : ∀ args w, (callFunc 46 args).run Tryz.prog w = .ok (.enter 46 args) w := enters_of Tryz.func46 (by kernel_rfl) rfl; obtain ⟨cur, hb, hlt, hg, hn, hm, hs, ht⟩ := Y2e (enc := encG) (fun _ => rfl) (fun _ _ _ _ _ hp => Y3d hp) h; have hH := Y3t (enc := encG) (fun _ => rfl) (fun _ _ _ _ _ hp => Y3d hp) h; have hcon := AnyQ.slices_SortFunc Tryz.sortS 3 Tryz.isAgg67 Tryz.sizeOf67 encG (fun _ => rfl) (fun x v hv => by simp [encG] at hv; rcases hv with rfl | rfl | rfl <;> rfl) cfS (by rw [Y5A]; exact swoG) 46 #[] b 0 c xs.toArray W eg (fun _ _ _ _ x y => Y3x x y _) hH hlt (by simpa using hl); refine hcon.mono ?_; rintro r w' ⟨rfl, d', n, os, hp, hsd, rfl⟩; rw [Y5A] at hsd; have hz : d'.size = xs.length := by simpa using hp.1
  have hq := Y30 (m := n) (os := os) (enc := encG) (fun _ => rfl) (fun _ _ _ _ _ hp => Y3d hp) (fun _ _ _ _ => Y5y _ _ _ _) h hz; have he : d'.toList = isrt ltG xs := Y56 swoG (by simpa using hp) (by simpa using hsd) h1; rw [he] at hq; exact ⟨rfl, hq.1, hq.2⟩
theorem Y3J {b c e base : Nat} {ok : Nat → Prop} {W : World} {xs : List S42} (h : k42.R e W base ok (.slice (some ⟨b, 0, none⟩) xs.length c) xs) (h1 : OneEq ltY xs) (hl : xs.length < 4611686018427387904) :
    Calls Tryz.prog 35 #[.slice (some ⟨b, 0, none⟩) xs.length c, .func (.func 36) #[] #[]] W fun r w' => r = .returned (.tuple #[]) ∧ k42.R e w' base ok (.slice (some ⟨b, 0, none⟩) xs.length c) (isrt ltY xs) ∧ W.grownBy w' (some b) := by
  have eg : ∀ args w, (callFunc 36 args).run Tryz.prog w = .ok (.enter 36 args) w := enters_of Tryz.func36 (by kernel_rfl) rfl; obtain ⟨cur, hb, hlt, hg, hn, hm, hs, ht⟩ := Y2e (enc := encY) (fun _ => rfl) (fun _ _ _ _ _ hp => Y24 hp) h; have hH := Y3t (enc := encY) (fun _ => rfl) (fun _ _ _ _ _ hp => Y24 hp) h; have hcon := AnyQ.slices_SortFunc Tryz.sortY 7 Tryz.isAgg42 Tryz.sizeOf42 encY (fun _ => rfl) (fun x v hv => by simp [encY] at hv; rcases hv with rfl | rfl | rfl | rfl | rfl | rfl | rfl <;> rfl) cfZ (by rw [Y5B]; exact swoY) 36 #[] b 0 c xs.toArray W eg (fun _ _ _ _ x y => Y3K 3 x y (ltY x y) (Y4k 0 _ _ _ _ _ _ _ _ _ _ _ _ _ _) _) hH hlt (by simpa using hl); refine hcon.mono ?_; rintro r w' ⟨rfl, d', n, os, hp, hsd, rfl⟩; rw [Y5B] at hsd; have hz : d'.size = xs.length := by simpa using hp.1
  have hq := Y30 (m := n) (os := os) (enc := encY) (fun _ => rfl) (fun _ _ _ _ _ hp => Y24 hp) (fun _ _ _ _ => Y2k _ _ _ _) h hz; have he : d'.toList = isrt ltY xs := Y56 swoY (by simpa using hp) (by simpa using hsd) h1; rw [he] at hq; exact ⟨rfl, hq.1, hq.2⟩
theorem Y54 {e base : Nat} {ok : Nat → Prop} {W : World} {v : Value} {xs : List SG} (h : kG.R e W base ok v xs) (h1 : OneEq ltG xs) (hl : xs.length < 4611686018427387904) :
    Calls Tryz.prog 45 #[v, .func (.func 46) #[] #[]] W fun r w' => r = .returned (.tuple #[]) ∧ kG.R e w' base ok v (isrt ltG xs) ∧ W.grownBy w' v.ownBlock := by
  have h0 := h; obtain ⟨_, inner, ho, hr⟩ := h0; rcases ho.2 with ⟨hv, hn⟩ | ⟨b, c, cur, hv, _⟩
  · subst hv
    have hx : xs = [] := List.length_eq_zero_iff.1 hn; subst hx; refine (AnyF.slices_SortFunc_none Tryz.sortS none 0 _ W).mono ?_; rintro r w' ⟨rfl, rfl⟩; exact ⟨rfl, h, ⟨rfl, rfl, rfl, Nat.le_refl _, fun _ _ _ => rfl⟩⟩
  · subst hv
    exact Y3I h h1 hl
theorem Y55 {e base : Nat} {ok : Nat → Prop} {W : World} {v : Value} {xs : List S42} (h : k42.R e W base ok v xs) (h1 : OneEq ltY xs) (hl : xs.length < 4611686018427387904) :
    Calls Tryz.prog 35 #[v, .func (.func 36) #[] #[]] W fun r w' => r = .returned (.tuple #[]) ∧ k42.R e w' base ok v (isrt ltY xs) ∧ W.grownBy w' v.ownBlock := by
  have h0 := h; obtain ⟨_, inner, ho, hr⟩ := h0; rcases ho.2 with ⟨hv, hn⟩ | ⟨b, c, cur, hv, _⟩
  · subst hv
    have hx : xs = [] := List.length_eq_zero_iff.1 hn; subst hx; refine (AnyF.slices_SortFunc_none Tryz.sortY none 0 _ W).mono ?_; rintro r w' ⟨rfl, rfl⟩; exact ⟨rfl, h, ⟨rfl, rfl, rfl, Nat.le_refl _, fun _ _ _ => rfl⟩⟩
  · subst hv
    exact Y3J h h1 hl
end Go.Proofs.YteopkkoblbmggaaGreat.P
end
section
set_option linter.unusedVariables false
set_option linter.unusedSimpArgs false
namespace Go.Proofs.YteopkkoblbmggaaGreat.P
open Go.RowKit Go.Shelf Go.Maps Go.Proofs.YteopkkoblbmggaaGreatW.PrintWords Go.Proofs.YteopkkoblbmggaaGreatW.PrintLast Go.Proofs.YteopkkoblbmggaaGreatW.PrintMore
attribute [local go_sem] YW YY Y19 Y1a YM YN YX YZ
def lasF (l : List S52) : Nat → Int → Int → Int → Option S52
  | 0, _, _, _ => none
  | j + 1, p, c, d => if h : j < l.length then (if p = l[j].f1 ∧ c = l[j].f2.f0 ∧ d = l[j].f2.f1 then some l[j] else lasF l j p c d) else lasF l j p c d
def sgF (l : List S52) : Nat → List SG
  | 0 => []
  | j + 1 => if h : j < l.length then (if (lasF l j l[j].f1 l[j].f2.f0 l[j].f2.f1).isSome = true then sgF l j else sgF l j ++ [⟨l[j].f1, l[j].f2.f0, l[j].f2.f1⟩]) else sgF l j
theorem Y3k (l : List S52) : ∀ j, (sgF l j).length ≤ j
  | 0 => Nat.le_refl _
  | j + 1 => by
    have := Y3k l j; unfold sgF
    split
    · split
      · omega
      · rw [List.length_append]; simp; omega
    · omega
theorem Y5V {l : List S52} {j : Nat} (h : j < l.length) (hn : (lasF l j l[j].f1 l[j].f2.f0 l[j].f2.f1).isSome = false) : sgF l j ++ [⟨l[j].f1, l[j].f2.f0, l[j].f2.f1⟩] = sgF l (j + 1) := by
  simp only [sgF, dif_pos h, hn]; simp
theorem Y5W {l : List S52} {j : Nat} (h : j < l.length) (hn : (lasF l j l[j].f1 l[j].f2.f0 l[j].f2.f1).isSome = true) : sgF l j = sgF l (j + 1) := by
  simp only [sgF, dif_pos h, hn]; simp
theorem Y5g {l : List S52} {j : Nat} (h : j < l.length) : (fun p c d => if p = l[j].f1 ∧ c = l[j].f2.f0 ∧ d = l[j].f2.f1 then some l[j] else lasF l j p c d) = lasF l (j + 1) := by
  funext p c d
  simp only [lasF, dif_pos h]
theorem Y5a {α : Type} {d : Kd α} {e base g : Nat} {ok : Nat → Prop} {W : World} {v : Value} {xs : List α} (h : d.R e W base ok v xs) (hg : ∀ k, v.ownBlock = some k → k ≠ g) : some g ≠ v.ownBlock := fun e => hg g e.symm rfl
set_option maxHeartbeats 16000000 in
set_option maxRecDepth 100000 in
theorem Y2Y (a0 : Int) (A1 : Option Addr) (c1 : Nat) (l1 : List S52) (w : World) (hr1 : Kd.C k52 w A1 l1.length l1) (hc1 : l1.length ≤ c1) (hl : l1.length ≤ 1000000) (hv : ∀ e ∈ l1, okE52 e) (h1 : OneEq ltG (sgF l1 l1.length)) :
    Calls Tryz.prog 33 #[.agg #[.int .i64 a0, .slice A1 l1.length c1]] w fun e w' => ∃ (m : Nat) (v : Value) (D : DataW Value), e = .returned (.tuple #[.map (some m), v]) ∧ w.heap.size ≤ m ∧ World.ownsMap w' Tryz.prog 67 rV m l1.length D ∧ SaysE D (lasF l1 l1.length) ∧ kG.R 67 w' w.heap.size (fun _ => True) v (isrt ltG (sgF l1 l1.length)) ∧ Below w.heap.size w w' := by
  have HR := Y0.mk hr1; have HC := Y0.mk hc1; have HL := Y0.mk hl; have HV := Y0.mk hv; have H1 := Y0.mk h1; have HB := Y0.mk (Below.refl w.heap.size w); have hu24 := Tryz.underlying24; have hu52 := Tryz.underlying52; have huS := Tryz.underlying67; have hmm := @run_makeMap Tryz.prog; clear hr1 hc1 hl hv h1; go_enter Tryz.func33, Tryz.ntmps33
  go_wp2_with (first | ((with_reducible refine Yf (N := 1) rfl ?_); refine Yi ?hg (N := 1) ?hd (cs := #[.int .i64 a0, .slice A1 l1.length c1]) (t := 24) ?hr ?_; (case hd => rfl); (case hg => rfl); (case hr => first | (go_simp; done) | (go_simp; rfl)); intro g1 hg Wg1 hbox hb; have hge_ := Ym (hU HB.out); rw [← hg] at hge_; have Gg1 := Y0.mk hge_; clear hge_; replace HB := Y0.mk (Y5 (hU HB.out) hb); have Bg1 := Y0.mk hbox; clear hb hbox hg) | ((with_reducible refine Yf (N := 11) rfl ?_); refine Y48 (P := Tryz.prog) 67 ?hg ?hr ?_; (case hg => rfl); (case hr => first | (go_simp; done) | (go_simp; rfl)); intro m hg Vm hown hb; have hge_ := Ym (hU HB.out); rw [← hg] at hge_; have GM := Y0.mk hge_; clear hge_; replace Bg1 := Y0.mk (Y3 (bU Bg1.out) hb); replace HB := Y0.mk (Y5 (hU HB.out) hb); have OM := Y0.mk hown; clear hb hown hg; have hc1 := Y2 Bg1.out))
  go_loopg [5, 15] l1.length (fun kq v5 v15 W => ∃ (i : Nat) (D : DataW Value) (u5 : Value), v5 = u5 ∧ v15 = .int .i64 (i : Int) ∧ Y0 (i + kq = l1.length) ∧ Y0 (World.ownsMap W Tryz.prog 67 rV m i D) ∧ Y0 (SaysE D (lasF l1 i)) ∧ Y0 (kG.R 67 W w.heap.size (fun _ => True) u5 (sgF l1 i)) ∧ Y0 (W.heap[g1]? = some (.cells #[.int .i64 a0, .slice A1 l1.length c1] 24 (0, 0))) ∧ Y0 (Below w.heap.size w W))
  case atStart => exact ⟨0, _, _, rfl, rfl, ⟨by omega⟩, OM, ⟨Y3H⟩, ⟨Kd.R_nil _ _ _ _ _⟩, Bg1, HB⟩
  case round =>
    clear HB Bg1 OM hc1; obtain ⟨i, D, u5, rfl, rfl, HK, OM, SY, HO, B1, HB⟩ := hrel; cases gk with
    | zero =>
      have hi : i = l1.length := by have := HK.out; omega
      subst hi; have hlt : decide (l1.length < l1.length) = false := by simp
      have hc1 := Y2 B1.out; have hle : (sgF l1 l1.length).length < 4611686018427387904 := by have := Y3k l1 l1.length; have := HL.out; omega
      have HLE := Y0.mk hle; clear hle; go_wp2_with (first | ((with_reducible refine Ye (f := 45) rfl ?_); refine YU (some 41) rfl rfl Tryz.func45 (by kernel_rfl) rfl #[u5, .func (.func 46) #[] #[]] rfl (by (try simp only [List.map_toArray, List.map_cons, List.map_nil]); first | done | rfl) ?_; (refine (Y54 HO.out H1.out HLE.out).mono ?_); rintro e W2 ⟨rfl, ho, hg⟩; refine ⟨_, rfl, ?_⟩; have HB2 := Y0.mk (HB.out.grown hg (Ym HB.out) (fun j hj => Y1L HO.out.2.choose_spec.1 j hj)); have OM2 := Y0.mk (OM.out.kept hg (Y1C OM.out HO.out)); have HO2 := Y0.mk ho; clear ho hg))
      go_ret2
      exact ⟨m, u5, D, rfl, GM.out, OM2.out, SY.out, HO2.out, HB2.out⟩
    | succ k1 =>
      have hi : i < l1.length := by have := HK.out; omega
      have hlt : decide (i < l1.length) = true := by simp; exact hi
      obtain ⟨adx, e0x, hx0, hx1, hx2, hx3, hx4, hx5, hx6, hx7, hx8, hx9, hx10, hx11, hx12⟩ := Y12 HR.out (i : Int) (by omega) (by omega); cases e0x
      rw [Int.toNat_natCast] at hx0 hx1 hx2 hx3 hx4 hx5 hx6 hx7 hx8 hx9 hx10 hx11 hx12; rw [Y1k hi] at hx0 hx1 hx2 hx3 hx4 hx5 hx6 hx7 hx8 hx9 hx10 hx11 hx12; replace hx0 := (HB.out.cell (World.block_lt_of_cell? w _ hx0)).trans hx0; replace hx1 := (HB.out.cell (World.block_lt_of_cell? w _ hx1)).trans hx1; replace hx2 := (HB.out.cell (World.block_lt_of_cell? w _ hx2)).trans hx2; replace hx3 := (HB.out.cell (World.block_lt_of_cell? w _ hx3)).trans hx3; replace hx4 := (HB.out.cell (World.block_lt_of_cell? w _ hx4)).trans hx4; replace hx5 := (HB.out.cell (World.block_lt_of_cell? w _ hx5)).trans hx5; replace hx6 := (HB.out.cell (World.block_lt_of_cell? w _ hx6)).trans hx6; replace hx7 := (HB.out.cell (World.block_lt_of_cell? w _ hx7)).trans hx7; replace hx8 := (HB.out.cell (World.block_lt_of_cell? w _ hx8)).trans hx8; replace hx9 := (HB.out.cell (World.block_lt_of_cell? w _ hx9)).trans hx9; replace hx10 := (HB.out.cell (World.block_lt_of_cell? w _ hx10)).trans hx10; replace hx11 := (HB.out.cell (World.block_lt_of_cell? w _ hx11)).trans hx11; replace hx12 := (HB.out.cell (World.block_lt_of_cell? w _ hx12)).trans hx12; have q0 : (0 ≤ ((i : Nat) : Int)) = True := by simp
      have q1 : (((i : Nat) : Int) < (l1.length : Int)) = True := by simp; exact hi
      have HE := Y0.mk (HV.out _ (List.getElem_mem hi)); have hn := @Y5V l1 i hi; have ho := @Y5W l1 i hi; have hln := @Y5g l1 i hi; generalize l1[i]'hi = x at hx0 hx1 hx2 hx3 hx4 hx5 hx6 hx7 hx8 hx9 hx10 hx11 hx12 HE hn ho hln; have HI := Y0.mk hi; have FN := Y0.mk hn; have FO := Y0.mk ho; have LN := Y0.mk hln; have HLS := Y0.mk (Y3k l1 i); clear hi hn ho hln; go_upto_region 6 with (fail)
      have HB1 : Y0 (Below w.heap.size w (wr.alloc (.cells #[.int .i64 x.f0.f0, .int .i64 x.f0.f1, .int .i64 x.f1, .int .i64 x.f2.f0, .int .i64 x.f2.f1, .bool x.f3, .int .i64 x.f4.f0, .int .i64 x.f4.f1, .int .i64 x.f4.f2, .int .i64 x.f4.f3, .int .i64 x.f4.f4, .int .i64 x.f4.f5, .int .i64 x.f4.f6] 52))) := ⟨YA HB.out _⟩; have B11 : Y0 ((wr.alloc (.cells #[.int .i64 x.f0.f0, .int .i64 x.f0.f1, .int .i64 x.f1, .int .i64 x.f2.f0, .int .i64 x.f2.f1, .bool x.f3, .int .i64 x.f4.f0, .int .i64 x.f4.f1, .int .i64 x.f4.f2, .int .i64 x.f4.f3, .int .i64 x.f4.f4, .int .i64 x.f4.f5, .int .i64 x.f4.f6] 52)).heap[g1]? = some (.cells #[.int .i64 a0, .slice (some adx) l1.length c1] 24 (0, 0))) := ⟨Y8 B1.out _⟩; have OM1 : Y0 (World.ownsMap (H := Value) (wr.alloc (.cells #[.int .i64 x.f0.f0, .int .i64 x.f0.f1, .int .i64 x.f1, .int .i64 x.f2.f0, .int .i64 x.f2.f1, .bool x.f3, .int .i64 x.f4.f0, .int .i64 x.f4.f1, .int .i64 x.f4.f2, .int .i64 x.f4.f3, .int .i64 x.f4.f4, .int .i64 x.f4.f5, .int .i64 x.f4.f6] 52)) Tryz.prog 67 rV m i D) := ⟨OM.out.alloc _⟩; have HO1 : Y0 (kG.R 67 (wr.alloc (.cells #[.int .i64 x.f0.f0, .int .i64 x.f0.f1, .int .i64 x.f1, .int .i64 x.f2.f0, .int .i64 x.f2.f1, .bool x.f3, .int .i64 x.f4.f0, .int .i64 x.f4.f1, .int .i64 x.f4.f2, .int .i64 x.f4.f3, .int .i64 x.f4.f4, .int .i64 x.f4.f5, .int .i64 x.f4.f6] 52)) w.heap.size (fun _ => True) u5 (sgF l1 i)) := ⟨Kd.R_below HO.out (YA (Below.refl _ _) _)⟩; have B7 : Y0 ((wr.alloc (.cells #[.int .i64 x.f0.f0, .int .i64 x.f0.f1, .int .i64 x.f1, .int .i64 x.f2.f0, .int .i64 x.f2.f1, .bool x.f3, .int .i64 x.f4.f0, .int .i64 x.f4.f1, .int .i64 x.f4.f2, .int .i64 x.f4.f3, .int .i64 x.f4.f4, .int .i64 x.f4.f5, .int .i64 x.f4.f6] 52)).heap[wr.heap.size]? = some (.cells #[.int .i64 x.f0.f0, .int .i64 x.f0.f1, .int .i64 x.f1, .int .i64 x.f2.f0, .int .i64 x.f2.f1, .bool x.f3, .int .i64 x.f4.f0, .int .i64 x.f4.f1, .int .i64 x.f4.f2, .int .i64 x.f4.f3, .int .i64 x.f4.f4, .int .i64 x.f4.f5, .int .i64 x.f4.f6] 52 (0, 0))) := ⟨Y1w _ _⟩; generalize (wr.alloc (.cells #[.int .i64 x.f0.f0, .int .i64 x.f0.f1, .int .i64 x.f1, .int .i64 x.f2.f0, .int .i64 x.f2.f1, .bool x.f3, .int .i64 x.f4.f0, .int .i64 x.f4.f1, .int .i64 x.f4.f2, .int .i64 x.f4.f3, .int .i64 x.f4.f4, .int .i64 x.f4.f5, .int .i64 x.f4.f6] 52)) = W1 at HB1 B11 OM1 HO1 B7 ⊢; generalize wr.heap.size = gB7 at B7 ⊢; clear HB B1 OM HO; clear hx0 hx1 hx2 hx3 hx4 hx5 hx6 hx7 hx8 hx9 hx10 hx11 hx12; have hc7 := Y2 B7.out; have hf7 := Y4 B7.out; go_upto_region 7 with (fail)
      have GF8 : Y0 (∀ k, u5.ownBlock = some k → k ≠ W1.heap.size) := ⟨fun k hk => Nat.ne_of_lt (Y2Z HO1.out.2.choose_spec.1 k hk)⟩; have HB2 : Y0 (Below w.heap.size w (W1.alloc (.cells #[.int .i64 x.f1, .int .i64 x.f2.f0, .int .i64 x.f2.f1] 67))) := ⟨YA HB1.out _⟩; have B12 : Y0 ((W1.alloc (.cells #[.int .i64 x.f1, .int .i64 x.f2.f0, .int .i64 x.f2.f1] 67)).heap[g1]? = some (.cells #[.int .i64 a0, .slice (some adx) l1.length c1] 24 (0, 0))) := ⟨Y8 B11.out _⟩; have OM2 : Y0 (World.ownsMap (H := Value) (W1.alloc (.cells #[.int .i64 x.f1, .int .i64 x.f2.f0, .int .i64 x.f2.f1] 67)) Tryz.prog 67 rV m i D) := ⟨OM1.out.alloc _⟩; have HO2 : Y0 (kG.R 67 (W1.alloc (.cells #[.int .i64 x.f1, .int .i64 x.f2.f0, .int .i64 x.f2.f1] 67)) w.heap.size (fun _ => True) u5 (sgF l1 i)) := ⟨Kd.R_below HO1.out (YA (Below.refl _ _) _)⟩; have B72 : Y0 ((W1.alloc (.cells #[.int .i64 x.f1, .int .i64 x.f2.f0, .int .i64 x.f2.f1] 67)).heap[gB7]? = some (.cells #[.int .i64 x.f0.f0, .int .i64 x.f0.f1, .int .i64 x.f1, .int .i64 x.f2.f0, .int .i64 x.f2.f1, .bool x.f3, .int .i64 x.f4.f0, .int .i64 x.f4.f1, .int .i64 x.f4.f2, .int .i64 x.f4.f3, .int .i64 x.f4.f4, .int .i64 x.f4.f5, .int .i64 x.f4.f6] 52 (0, 0))) := ⟨Y8 B7.out _⟩; have B8 : Y0 ((W1.alloc (.cells #[.int .i64 x.f1, .int .i64 x.f2.f0, .int .i64 x.f2.f1] 67)).heap[W1.heap.size]? = some (.cells #[.int .i64 x.f1, .int .i64 x.f2.f0, .int .i64 x.f2.f1] 67 (0, 0))) := ⟨Y1w _ _⟩; generalize (W1.alloc (.cells #[.int .i64 x.f1, .int .i64 x.f2.f0, .int .i64 x.f2.f1] 67)) = W2 at GF8 HB2 B12 OM2 HO2 B72 B8 ⊢; generalize W1.heap.size = gB8 at GF8 B8 ⊢; clear HB1 B11 OM1 HO1 B7; have hc8 := Y2 B8.out; have HAT := Y0.mk (SY.out _ _ _ HE.out.1 HE.out.2.1 HE.out.2.2); have HPT : Y0 (SaysE (D.put (kS x.f1 x.f2.f0 x.f2.f1) (.held (vE x))) (lasF l1 (i + 1))) := ⟨by have := Y52 SY.out OM2.out.isMap HE.out.1 HE.out.2.1 HE.out.2.2 x; rw [LN.out] at this; exact this⟩; clear hc7 hf7; go_upto_region 8 with (first | ((with_reducible refine Yf (N := 27) rfl ?_); refine Y20 _ rfl _ _ 62 rfl 67 52 lawS Tryz.underlying62 (zeroV _) m i D rfl OM2.out (.agg #[.int .i64 x.f1, .int .i64 x.f2.f0, .int .i64 x.f2.f1]) _ rfl (Y1D HE.out.1 HE.out.2.1 HE.out.2.2) ((lasF l1 i x.f1 x.f2.f0 x.f2.f1).getD z52) HAT.out.1 (lasF l1 i x.f1 x.f2.f0 x.f2.f1).isSome HAT.out.2 ?_; generalize (lasF l1 i x.f1 x.f2.f0 x.f2.f1).getD z52 = y; obtain ⟨sb, hsb⟩ : ∃ s, (lasF l1 i x.f1 x.f2.f0 x.f2.f1).isSome = s := ⟨_, rfl⟩; rw [hsb]; unfold vE))
      have HB3 : Y0 (Below w.heap.size w (W2.alloc (.cells #[.int .i64 y.f0.f0, .int .i64 y.f0.f1, .int .i64 y.f1, .int .i64 y.f2.f0, .int .i64 y.f2.f1, .bool y.f3, .int .i64 y.f4.f0, .int .i64 y.f4.f1, .int .i64 y.f4.f2, .int .i64 y.f4.f3, .int .i64 y.f4.f4, .int .i64 y.f4.f5, .int .i64 y.f4.f6] 52))) := ⟨YA HB2.out _⟩; have B13 : Y0 ((W2.alloc (.cells #[.int .i64 y.f0.f0, .int .i64 y.f0.f1, .int .i64 y.f1, .int .i64 y.f2.f0, .int .i64 y.f2.f1, .bool y.f3, .int .i64 y.f4.f0, .int .i64 y.f4.f1, .int .i64 y.f4.f2, .int .i64 y.f4.f3, .int .i64 y.f4.f4, .int .i64 y.f4.f5, .int .i64 y.f4.f6] 52)).heap[g1]? = some (.cells #[.int .i64 a0, .slice (some adx) l1.length c1] 24 (0, 0))) := ⟨Y8 B12.out _⟩; have OM3 : Y0 (World.ownsMap (H := Value) (W2.alloc (.cells #[.int .i64 y.f0.f0, .int .i64 y.f0.f1, .int .i64 y.f1, .int .i64 y.f2.f0, .int .i64 y.f2.f1, .bool y.f3, .int .i64 y.f4.f0, .int .i64 y.f4.f1, .int .i64 y.f4.f2, .int .i64 y.f4.f3, .int .i64 y.f4.f4, .int .i64 y.f4.f5, .int .i64 y.f4.f6] 52)) Tryz.prog 67 rV m i D) := ⟨OM2.out.alloc _⟩; have HO3 : Y0 (kG.R 67 (W2.alloc (.cells #[.int .i64 y.f0.f0, .int .i64 y.f0.f1, .int .i64 y.f1, .int .i64 y.f2.f0, .int .i64 y.f2.f1, .bool y.f3, .int .i64 y.f4.f0, .int .i64 y.f4.f1, .int .i64 y.f4.f2, .int .i64 y.f4.f3, .int .i64 y.f4.f4, .int .i64 y.f4.f5, .int .i64 y.f4.f6] 52)) w.heap.size (fun _ => True) u5 (sgF l1 i)) := ⟨Kd.R_below HO2.out (YA (Below.refl _ _) _)⟩; have B73 : Y0 ((W2.alloc (.cells #[.int .i64 y.f0.f0, .int .i64 y.f0.f1, .int .i64 y.f1, .int .i64 y.f2.f0, .int .i64 y.f2.f1, .bool y.f3, .int .i64 y.f4.f0, .int .i64 y.f4.f1, .int .i64 y.f4.f2, .int .i64 y.f4.f3, .int .i64 y.f4.f4, .int .i64 y.f4.f5, .int .i64 y.f4.f6] 52)).heap[gB7]? = some (.cells #[.int .i64 x.f0.f0, .int .i64 x.f0.f1, .int .i64 x.f1, .int .i64 x.f2.f0, .int .i64 x.f2.f1, .bool x.f3, .int .i64 x.f4.f0, .int .i64 x.f4.f1, .int .i64 x.f4.f2, .int .i64 x.f4.f3, .int .i64 x.f4.f4, .int .i64 x.f4.f5, .int .i64 x.f4.f6] 52 (0, 0))) := ⟨Y8 B72.out _⟩; have B83 : Y0 ((W2.alloc (.cells #[.int .i64 y.f0.f0, .int .i64 y.f0.f1, .int .i64 y.f1, .int .i64 y.f2.f0, .int .i64 y.f2.f1, .bool y.f3, .int .i64 y.f4.f0, .int .i64 y.f4.f1, .int .i64 y.f4.f2, .int .i64 y.f4.f3, .int .i64 y.f4.f4, .int .i64 y.f4.f5, .int .i64 y.f4.f6] 52)).heap[gB8]? = some (.cells #[.int .i64 x.f1, .int .i64 x.f2.f0, .int .i64 x.f2.f1] 67 (0, 0))) := ⟨Y8 B8.out _⟩; have B9 : Y0 ((W2.alloc (.cells #[.int .i64 y.f0.f0, .int .i64 y.f0.f1, .int .i64 y.f1, .int .i64 y.f2.f0, .int .i64 y.f2.f1, .bool y.f3, .int .i64 y.f4.f0, .int .i64 y.f4.f1, .int .i64 y.f4.f2, .int .i64 y.f4.f3, .int .i64 y.f4.f4, .int .i64 y.f4.f5, .int .i64 y.f4.f6] 52)).heap[W2.heap.size]? = some (.cells #[.int .i64 y.f0.f0, .int .i64 y.f0.f1, .int .i64 y.f1, .int .i64 y.f2.f0, .int .i64 y.f2.f1, .bool y.f3, .int .i64 y.f4.f0, .int .i64 y.f4.f1, .int .i64 y.f4.f2, .int .i64 y.f4.f3, .int .i64 y.f4.f4, .int .i64 y.f4.f5, .int .i64 y.f4.f6] 52 (0, 0))) := ⟨Y1w _ _⟩; generalize (W2.alloc (.cells #[.int .i64 y.f0.f0, .int .i64 y.f0.f1, .int .i64 y.f1, .int .i64 y.f2.f0, .int .i64 y.f2.f1, .bool y.f3, .int .i64 y.f4.f0, .int .i64 y.f4.f1, .int .i64 y.f4.f2, .int .i64 y.f4.f3, .int .i64 y.f4.f4, .int .i64 y.f4.f5, .int .i64 y.f4.f6] 52)) = W3 at HB3 B13 OM3 HO3 B73 B83 B9 ⊢; generalize W2.heap.size = gB9 at B9 ⊢; clear HB2 B12 OM2 HO2 B72 B8; have hc83 := Y2 B83.out; have hc73 := Y2 B73.out; clear hc8; cases sb
      · go_wp2_with (first | ((with_reducible refine Y14 (b := .append) (xs := #[.tmp 32, .tmp 34]) rfl ?_); at_builtin; refine Kd.R_append kG (w0 := w) w.heap.size rfl (.tmp 32) (.tmp 34) 63 67 (.agg #[(.int .i64 0), (.int .i64 0), (.int .i64 0)]) 24 rfl Tryz.underlying63 infoG rfl (by decide) (by omega) u5 (sgF l1 i) (⟨x.f1, x.f2.f0, x.f2.f1⟩ : SG) [.int .i64 x.f1, .int .i64 x.f2.f0, .int .i64 x.f2.f1] (fun _ => True) (fun _ => False) rfl rfl ?aP (fun _ hk => hk.elim) ?aF ?aO ?aB ?aS ?aL ?_; (case aP => exact Y5y _ _ _ _); (case aB => exact (hU HB3.out)); (case aF => exact fun _ _ => trivial); (case aO => exact (Kd.rU HO3.out)); (case aS => exact (Ym (hU HB3.out))); (case aL => have := HLS.out; have := HL.out; have := HI.out; omega); intro v6 W4 ho hb hg hat; rw [FN.out hsb] at ho; have HO4 := Y0.mk ho; have HB4 := Y0.mk hb; have B14 := Y0.mk (YH (bU B13.out) hg (Y2s HO3.out (bU B13.out) (by decide))); have B74 := Y0.mk (YH (bU B73.out) hg (Y2s HO3.out (bU B73.out) (by decide))); have B84 := Y0.mk (YH (bU B83.out) hg (Y5a HO3.out GF8.out)); have OM4 := Y0.mk (OM3.out.kept hg (Y1C OM3.out HO3.out)); clear ho hb hg hat HO3 HB3 B13 B73 B83 OM3; have hc84 := Y2 B84.out; have hc74 := Y2 B74.out) | ((with_reducible refine Y3U (x := 37) rfl ?_); refine wpList_mapUpdate_own _ rfl _ _ _ 62 rfl 67 52 lawS Tryz.underlying62 _ m i D rfl OM4.out (by unfold maxLen; have := HL.out; have := HI.out; omega) (.agg #[.int .i64 x.f1, .int .i64 x.f2.f0, .int .i64 x.f2.f1]) (vE x) _ rfl rfl (Y1D HE.out.1 HE.out.2.1 HE.out.2.2) _ [] rfl ?_; intro W5 hown hgrow; have OM5 := Y0.mk hown; have B15 := Y0.mk (Y3R B14.out OM4.out hgrow); have HB5 := Y0.mk (HB4.out.grown hgrow (Ym HB4.out) (fun j hj => by cases hj; exact GM.out)); have HO5 := Y0.mk (Kd.R_grown1 HO4.out rfl hgrow (Y1C OM4.out HO4.out)); clear hown hgrow))
        go_roundg k1
        case measure => have := HK.out; omega
        case rel => exact ⟨i + 1, _, _, rfl, by first | (simp; done) | (simp; unfold wrap64; have := HL.out; have := HI.out; omega), ⟨by have := HK.out; omega⟩, OM5, HPT, HO5, B15, HB5⟩
      · have O_0 : Y0 (kG.R 67 W3 w.heap.size (fun _ => True) u5 (sgF l1 (i + 1))) := ⟨by rw [← FO.out hsb]; exact HO3.out⟩
        clear HO3; have HO3 := O_0; clear O_0; go_wp2_with (first | ((with_reducible refine Y3U (x := 37) rfl ?_); refine wpList_mapUpdate_own _ rfl _ _ _ 62 rfl 67 52 lawS Tryz.underlying62 _ m i D rfl OM3.out (by unfold maxLen; have := HL.out; have := HI.out; omega) (.agg #[.int .i64 x.f1, .int .i64 x.f2.f0, .int .i64 x.f2.f1]) (vE x) _ rfl rfl (Y1D HE.out.1 HE.out.2.1 HE.out.2.2) _ [] rfl ?_; intro W5 hown hgrow; have OM5 := Y0.mk hown; have B15 := Y0.mk (Y3R B13.out OM3.out hgrow); have HB5 := Y0.mk (HB3.out.grown hgrow (Ym HB3.out) (fun j hj => by cases hj; exact GM.out)); have HO5 := Y0.mk (Kd.R_grown1 HO3.out rfl hgrow (Y1C OM3.out HO3.out)); clear hown hgrow))
        go_roundg k1
        case measure => have := HK.out; omega
        case rel => exact ⟨i + 1, _, _, rfl, by first | (simp; done) | (simp; unfold wrap64; have := HL.out; have := HI.out; omega), ⟨by have := HK.out; omega⟩, OM5, HPT, HO5, B15, HB5⟩
end Go.Proofs.YteopkkoblbmggaaGreat.P
end

/- Texts of this claim in one: VCap, VSqz; no condition. -/
import Derived.Test.YteopkkoblbmggaaGreatQZAA
import Derived.Test.YteopkkoblbmggaaGreatQZAB
section
set_option linter.unusedVariables false
namespace Go.Proofs.YteopkkoblbmggaaGreatW.PrintWords
open Go.RowKit
theorem Kd.rU {α : Type} {d : Kd α} {e : Nat} {W0 W : World} {base : Nat} {ok : Nat → Prop} {v : Value} {xs : List α} (h : d.R e W0 base ok v xs)
    (s : d.R e W0 base ok v xs → d.R e W base ok v xs := by intro h_; (with_reducible repeat (first | apply Kd.R_alloc | apply Kd.R_drewN | apply Kd.R_drew)); exact h_) : d.R e W base ok v xs := s h
theorem bU {W0 W : World} {g : Nat} {o : Obj} (h : W0.heap[g]? = some o)
    (s : W0.heap[g]? = some o → W.heap[g]? = some o := by intro h_; (with_reducible repeat (first | refine Y9 ?_ _ | refine Y7 ?_ | refine Y8 ?_ _)); exact h_) : W.heap[g]? = some o := s h
theorem hU {w W0 W : World} (h : Below w.heap.size w W0)
    (s : Below w.heap.size w W0 → Below w.heap.size w W := by intro h_; repeat (first | (with_reducible first | exact h_ | apply YA | apply Y1A | apply Yx | refine Y2d ?_ (Y0.out (by assumption))) | exact h_)) : Below w.heap.size w W := s h
end Go.Proofs.YteopkkoblbmggaaGreatW.PrintWords
end
section
set_option linter.unusedVariables false
namespace Go.Proofs.YteopkkoblbmggaaGreatW.PrintLast
open Go.RowKit Go.Proofs.YteopkkoblbmggaaGreatW.PrintWords
variable {P : Program} {ops : Array Oper} {Q : Exit → Act → World → Prop}
theorem gE {w W W1 : World} {g : Nat} (hg : g = W1.heap.size) (h : Y0 (Below w.heap.size w W))
    (s : Below w.heap.size w W → Below w.heap.size w W1 := by intro h_; repeat (first | (with_reducible first | exact h_ | apply YA | apply Y1A | apply Yx | refine Y2d ?_ (Y0.out (by assumption))) | exact h_)) : Y0 (w.heap.size ≤ g) := ⟨by rw [hg]; exact Ym (s h.out)⟩
theorem gL {W0 W : World} {g a : Nat} {o : Obj} (hg : g = W.heap.size) (h : Y0 (W0.heap[a]? = some o))
    (s : W0.heap[a]? = some o → W.heap[a]? = some o := by intro h_; (with_reducible repeat (first | refine Y9 ?_ _ | refine Y7 ?_ | refine Y8 ?_ _)); exact h_) : Y0 (a ≠ g) := ⟨by rw [hg]; exact Nat.ne_of_lt (Y1e (s h.out))⟩
theorem gG {W0 W : World} {g a : Nat} {o : Obj} (hg : g = W.heap.size) (h : Y0 (W0.heap[a]? = some o))
    (s : W0.heap[a]? = some o → W.heap[a]? = some o := by intro h_; (with_reducible repeat (first | refine Y9 ?_ _ | refine Y7 ?_ | refine Y8 ?_ _)); exact h_) : Y0 (g ≠ a) := ⟨by rw [hg]; exact Nat.ne_of_gt (Y1e (s h.out))⟩
theorem reT {α : Sort _} {a b : α} (h : a = b := by first | rfl | (simp [Y1x, Y1y] <;> rfl) | (simp [*, Y1x, Y1y] <;> rfl)) : a = b := h
theorem reS {α : Sort _} {a b : α} (h : a = b := by first | rfl | (simp; done) | (simp [*]; done)) : a = b := h
theorem dS {w w' : World} (h : Drawn0 w w' := by repeat (first | exact Drawn0.refl _ | apply Drawn0.step)) : Drawn0 w w' := h
theorem kB {W0 W : World} {a : Nat} {o : Obj} (h : Y0 (W0.heap[a]? = some o))
    (s : W0.heap[a]? = some o → W.heap[a]? = some o := by intro h_; (with_reducible repeat (first | refine Y9 ?_ _ | refine Y7 ?_ | refine Y8 ?_ _)); exact h_) : W.heap[a]? = some o := s h.out
theorem iS {α : Type _} {p : Prop} [Decidable p] {a : Option α} {r : α} (h : (if p then a else none) = some r) : p ∧ a = some r := by
  by_cases c : p
  · rw [if_pos c] at h; exact ⟨c, h⟩
  · rw [if_neg c] at h; exact absurd h (by simp)
theorem bS {α β : Type _} {a : Option α} {f : α → Option β} {b : β} (h : a.bind f = some b) : ∃ x, a = some x ∧ f x = some b := Option.bind_eq_some_iff.mp h
theorem bqT {α : Type _} [BEq α] [LawfulBEq α] {a b : α} (h : a = b) : (a == b) = true := beq_iff_eq.mpr h
theorem bqF {α : Type _} [BEq α] [LawfulBEq α] {a b : α} (h : ¬ a = b) : (a == b) = false := beq_eq_false_iff_ne.mpr h
theorem bnF {α : Type _} [BEq α] [LawfulBEq α] {a b : α} (h : a = b) : (a != b) = false := bne_eq_false_iff_eq.mpr h
theorem bnT {α : Type _} [BEq α] [LawfulBEq α] {a b : α} (h : ¬ a = b) : (a != b) = true := bne_iff_ne.mpr h
theorem goesA {rest : List Oper} {oi : Oper} {a : Act} {w : World} (N : Option Tmp) {f : FuncId} {fn : Func} {as1 : Array Operand} {ts : Array TypeId} (hf : P.funcs[f]? = some fn) (args : Array Value)
    (h : Calls P f args w fun e w' => ∃ v, e = .returned v ∧ wpList P ops Q rest (a.put N v) w') (hd : oi.dst = N := by exact rfl) (hg : oi.guard = none := by exact rfl)
    (hname : (fn.name == "runtime.NumGoroutine") = false := by kernel_rfl) (hb : fn.body.isSome = true := by exact rfl)
    (hop : oi.op = .call { callee := .value (.func f), args := as1, argTypes := ts } := by exact rfl) (hargs : as1.map a.eval = args := by (try simp only [List.map_toArray, List.map_cons, List.map_nil]); first | done | rfl | (simp only [List.length_drop, List.length_take]; rfl)) : wpList P ops Q (oi :: rest) a w :=
  YU N hd hg hf hname hb args hop hargs h
theorem cf2 {W : World} {g i0 i1 : Nat} {a : Addr} {r : Option Value} {v0 v1 : Value} (h : a.block ≠ g) (e : W.cell? a = r) : ((W.setCell ⟨g, i0, none⟩ v0).setCell ⟨g, i1, none⟩ v1).cell? a = r := ((Y1P (p := ⟨g, i1, none⟩) h v1).trans ((Y1P (p := ⟨g, i0, none⟩) h v0).trans e))
theorem rf2 {α : Type} {d : Kd α} {e base : Nat} {ok : Nat → Prop} {v : Value} {xs : List α} {W : World} {g i0 i1 : Nat} {v0 v1 : Value} (h : d.R e W base ok v xs) (hok : ∀ k, ok k → k ≠ g) : d.R e ((W.setCell ⟨g, i0, none⟩ v0).setCell ⟨g, i1, none⟩ v1) base ok v xs := (Kd.R_far (p := ⟨g, i1, none⟩) (Kd.R_far (p := ⟨g, i0, none⟩) h hok v0) hok v1)
theorem cf7 {W : World} {g i0 i1 i2 i3 i4 i5 i6 : Nat} {a : Addr} {r : Option Value} {v0 v1 v2 v3 v4 v5 v6 : Value} (h : a.block ≠ g) (e : W.cell? a = r) : (((((((W.setCell ⟨g, i0, none⟩ v0).setCell ⟨g, i1, none⟩ v1).setCell ⟨g, i2, none⟩ v2).setCell ⟨g, i3, none⟩ v3).setCell ⟨g, i4, none⟩ v4).setCell ⟨g, i5, none⟩ v5).setCell ⟨g, i6, none⟩ v6).cell? a = r := ((Y1P (p := ⟨g, i6, none⟩) h v6).trans ((Y1P (p := ⟨g, i5, none⟩) h v5).trans ((Y1P (p := ⟨g, i4, none⟩) h v4).trans ((Y1P (p := ⟨g, i3, none⟩) h v3).trans ((Y1P (p := ⟨g, i2, none⟩) h v2).trans ((Y1P (p := ⟨g, i1, none⟩) h v1).trans ((Y1P (p := ⟨g, i0, none⟩) h v0).trans e)))))))
theorem rf7 {α : Type} {d : Kd α} {e base : Nat} {ok : Nat → Prop} {v : Value} {xs : List α} {W : World} {g i0 i1 i2 i3 i4 i5 i6 : Nat} {v0 v1 v2 v3 v4 v5 v6 : Value} (h : d.R e W base ok v xs) (hok : ∀ k, ok k → k ≠ g) : d.R e (((((((W.setCell ⟨g, i0, none⟩ v0).setCell ⟨g, i1, none⟩ v1).setCell ⟨g, i2, none⟩ v2).setCell ⟨g, i3, none⟩ v3).setCell ⟨g, i4, none⟩ v4).setCell ⟨g, i5, none⟩ v5).setCell ⟨g, i6, none⟩ v6) base ok v xs := (Kd.R_far (p := ⟨g, i6, none⟩) (Kd.R_far (p := ⟨g, i5, none⟩) (Kd.R_far (p := ⟨g, i4, none⟩) (Kd.R_far (p := ⟨g, i3, none⟩) (Kd.R_far (p := ⟨g, i2, none⟩) (Kd.R_far (p := ⟨g, i1, none⟩) (Kd.R_far (p := ⟨g, i0, none⟩) h hok v0) hok v1) hok v2) hok v3) hok v4) hok v5) hok v6)
theorem rf13 {α : Type} {d : Kd α} {e base : Nat} {ok : Nat → Prop} {v : Value} {xs : List α} {W : World} {g i0 i1 i2 i3 i4 i5 i6 i7 i8 i9 i10 i11 i12 : Nat} {v0 v1 v2 v3 v4 v5 v6 v7 v8 v9 v10 v11 v12 : Value} (h : d.R e W base ok v xs) (hok : ∀ k, ok k → k ≠ g) : d.R e (((((((((((((W.setCell ⟨g, i0, none⟩ v0).setCell ⟨g, i1, none⟩ v1).setCell ⟨g, i2, none⟩ v2).setCell ⟨g, i3, none⟩ v3).setCell ⟨g, i4, none⟩ v4).setCell ⟨g, i5, none⟩ v5).setCell ⟨g, i6, none⟩ v6).setCell ⟨g, i7, none⟩ v7).setCell ⟨g, i8, none⟩ v8).setCell ⟨g, i9, none⟩ v9).setCell ⟨g, i10, none⟩ v10).setCell ⟨g, i11, none⟩ v11).setCell ⟨g, i12, none⟩ v12) base ok v xs := (Kd.R_far (p := ⟨g, i12, none⟩) (Kd.R_far (p := ⟨g, i11, none⟩) (Kd.R_far (p := ⟨g, i10, none⟩) (Kd.R_far (p := ⟨g, i9, none⟩) (Kd.R_far (p := ⟨g, i8, none⟩) (Kd.R_far (p := ⟨g, i7, none⟩) (Kd.R_far (p := ⟨g, i6, none⟩) (Kd.R_far (p := ⟨g, i5, none⟩) (Kd.R_far (p := ⟨g, i4, none⟩) (Kd.R_far (p := ⟨g, i3, none⟩) (Kd.R_far (p := ⟨g, i2, none⟩) (Kd.R_far (p := ⟨g, i1, none⟩) (Kd.R_far (p := ⟨g, i0, none⟩) h hok v0) hok v1) hok v2) hok v3) hok v4) hok v5) hok v6) hok v7) hok v8) hok v9) hok v10) hok v11) hok v12)
end Go.Proofs.YteopkkoblbmggaaGreatW.PrintLast
end

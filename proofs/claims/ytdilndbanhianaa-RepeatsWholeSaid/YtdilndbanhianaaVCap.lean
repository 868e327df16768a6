/- make with a capacity of its own and no elements: a row of the call's own that is empty; no condition. -/
import Derived.Test.YtdilndbanhianaaVWWords
import Derived.Test.YtdilndbanhianaaVWMore
set_option linter.unusedVariables false
namespace Go.Proofs.YtdilndbanhianaaW.PrintWords
open Go.RowKit
/-! What the printed texts say often: a fact of an earlier world, told of one that only draws or allocates behind it. -/
theorem Kd.rU {α : Type} {d : Kd α} {e : Nat} {W0 W : World} {base : Nat} {ok : Nat → Prop} {v : Value} {xs : List α} (h : d.R e W0 base ok v xs)
    (s : d.R e W0 base ok v xs → d.R e W base ok v xs := by intro h_; (with_reducible repeat (first | apply Kd.R_alloc | apply Kd.R_drewN | apply Kd.R_drew)); exact h_) : d.R e W base ok v xs := s h
theorem bU {W0 W : World} {g : Nat} {o : Obj} (h : W0.heap[g]? = some o)
    (s : W0.heap[g]? = some o → W.heap[g]? = some o := by intro h_; (with_reducible repeat (first | refine blk_drewN ?_ _ | refine blk_drew ?_ | refine blk_alloc ?_ _)); exact h_) : W.heap[g]? = some o := s h
theorem hU {w W0 W : World} (h : Below w.heap.size w W0)
    (s : Below w.heap.size w W0 → Below w.heap.size w W := by intro h_; repeat (first | (with_reducible first | exact h_ | apply below_alloc | apply pw_below_drewN | apply below_drew1 | refine below_set ?_ (Aside0.out (by assumption))) | exact h_)) : Below w.heap.size w W := s h
end Go.Proofs.YtdilndbanhianaaW.PrintWords

/- What Join says; no condition. -/
import Derived.Test.YtdilndbanhianaaVMB
import Derived.Test.YtdilndbanhianaaVMC
set_option linter.unusedVariables false
set_option linter.unusedSimpArgs false
namespace Go.Proofs.Ytdilndbanhianaa.P
open Go.RowKit Go.Proofs.YtdilndbanhianaaW.PrintWords Go.Proofs.YtdilndbanhianaaW.PrintLast Go.Proofs.YtdilndbanhianaaW.PrintMore
def joinP (a : List S29) (n : Int) (b : List S29) (m : Int) : List S29 × Int :=
  if ¬ chkS a n = 0 then ([], chkS a n) else if ¬ chkS b m = 0 then ([], chkS b m) else if 8192 < n + m then ([], 1) else if 256 < a.length + b.length then ([], 3) else (a ++ b.map (movS n), 0)
theorem map_mov0 (a : List S29) (h : ∀ s ∈ a, chkO s = 0) : a.map (movS 0) = a := by
  have : ∀ s ∈ a, movS 0 s = s := fun s hs => by
    have := chkO_in s (h s hs)
    unfold movS; rw [Int.add_zero, wrap_in _ (by omega) (by omega)]
  rw [List.map_congr_left this]; simp
theorem join_eq (a : List S29) (n : Int) (b : List S29) (m : Int) : staff_Join.f a n b m = some (joinP a n b m) := by
  unfold staff_Join.f joinP staff_Check.f
  simp only [Option.bind_some]
  by_cases h1 : chkS a n = 0
  · have v1 := (chkS_ok a n).mp h1
    by_cases h2 : chkS b m = 0
    · have v2 := (chkS_ok b m).mp h2
      have e : wrap64 (n + m) = n + m := wrap_in _ (by have := v1.n0; have := v2.n0; omega) (by have := v1.n1; have := v2.n1; omega)
      have e2 : wrap64 ((a.length : Int) + (b.length : Int)) = ((a.length + b.length : Nat) : Int) := by have := v1.len; have := v2.len; unfold wrap64; omega
      simp only [h1, h2, ↓reduceIte, e, e2, GT.gt, not_true_eq_false]
      by_cases h3 : 8192 < n + m
      · simp only [h3, ↓reduceIte]
      · simp only [h3, ↓reduceIte]
        by_cases h4 : 256 < a.length + b.length
        · rw [if_pos (by omega), if_pos h4]
        · rw [if_neg (by omega), if_neg h4]
          have hb := v2.len
          have ha := v1.len
          simp only [staff_moved.f, ha, hb, ↓reduceIte, Option.bind_some, List.length_map]
          rw [if_pos (by omega), map_mov0 a v1.all]
    · simp only [h1, h2, ↓reduceIte, not_true_eq_false, not_false_eq_true]
  · simp only [h1, ↓reduceIte, not_false_eq_true]
end Go.Proofs.Ytdilndbanhianaa.P

/- A column's share of the symbols; no condition. -/
import Derived.Test.YtdilndbanhianaaUIter
import Derived.Test.YtdilndbanhianaaUAt
import Derived.Test.YtdilndbanhianaaUColumn
import Derived.Test.YtdilndbanhianaaUPut
set_option linter.unusedVariables false
set_option linter.unusedSimpArgs false
namespace Go.Proofs.Ytdilndbanhianaa.P
open Go.RowKit Go.Proofs.YtdilndbanhianaaW.PrintWords Go.Proofs.YtdilndbanhianaaW.PrintLast Go.Proofs.YtdilndbanhianaaW.PrintMore
theorem selP_snd (l : List S29) (c : Int) : ∀ k, k ≤ l.length → (selP l c k).map (·.2) = (l.take k).filter (fun s => decide (s.f1 = c))
  | 0, _ => by simp [selP]
  | k + 1, h => by
    have hk : k < l.length := by omega
    rw [List.take_add_one, List.getElem?_eq_getElem hk, List.filter_append]
    simp only [selP, dif_pos hk, List.map_append, selP_snd l c k (by omega)]
    by_cases e : l[k].f1 = c <;> simp [e]
end Go.Proofs.Ytdilndbanhianaa.P

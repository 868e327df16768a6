/- Texts of this claim in one: VWire; no condition. -/
import Derived.Laws.BitsLemmas
import Derived.Test.YteopkkoblbmggaaQAAX
import Derived.Test.YteopkkoblbmggaaQAAZ
section
set_option linter.unusedVariables false
set_option linter.unusedSimpArgs false
namespace Go.Proofs.Yteopkkoblbmggaa.P
open Go.RowKit Go.Proofs.YteopkkoblbmggaaW.PrintWords Go.Proofs.YteopkkoblbmggaaW.PrintLast Go.Proofs.YteopkkoblbmggaaW.PrintMore
def vs : Nat → Nat → List Int
  | 0, u => [(u : Int)]
  | j + 1, u => if u < 128 then [(u : Int)] else ((u % 128 + 128 : Nat) : Int) :: vs j (u / 128)
def zz (n : Int) : Nat := if n < 0 then (-2 * n - 1).toNat else (2 * n).toNat
def enc (n : Int) : List Int := vs 9 (zz n)
end Go.Proofs.Yteopkkoblbmggaa.P
end

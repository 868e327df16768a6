/- The world as it stands, under a name of its own; no condition. -/
import Derived.Test.YtdilndbanhianaaVWWords
namespace Go.Proofs.YtdilndbanhianaaW.PrintWords
open Go.RowKit
theorem name_world {P : Program} {c : Code} {Q : Exit → Act → World → Prop} {a : Act} {W : World} (h : ∀ W', W' = W → Code.wp P c Q a W') : Code.wp P c Q a W := h W rfl
end Go.Proofs.YtdilndbanhianaaW.PrintWords

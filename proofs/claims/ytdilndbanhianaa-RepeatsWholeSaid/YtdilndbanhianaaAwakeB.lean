/- What checks the examples of chapter 26 says true; no condition. -/
import Derived.Test.YtdilndbanhianaaVWWords
import Derived.Test.YtdilndbanhianaaP42
set_option linter.unusedVariables false
set_option linter.unusedSimpArgs false
namespace Go.Proofs.Ytdilndbanhianaa.P
open Go.RowKit Go.Proofs.YtdilndbanhianaaW.PrintWords Go.Proofs.YtdilndbanhianaaW.PrintLast Go.Proofs.YtdilndbanhianaaW.PrintMore
theorem awake26_60 : dancestudiolaw26_awake.f 60 = some true := by decide +kernel
theorem aw26 : Ev (fun k => dancestudiolaw26_awake.f k) true := Ev.of (fun k => dancestudiolaw26_awake.mono k) awake26_60
theorem awt26 : Ev (fun k => (dancestudiolaw26_awake.f k).bind fun t => some t) true := Ev.bind aw26 (Ev.now _)
end Go.Proofs.Ytdilndbanhianaa.P

/- What checks the chapter's examples says true; no condition. -/
import Derived.Test.YtnepoolmbfhppaaP12
namespace Go.Proofs.Ytnepoolmbfhppaa.P
theorem awake_eq : dancestudiolaw23_awake.f 10 = some true := by decide +kernel
end Go.Proofs.Ytnepoolmbfhppaa.P

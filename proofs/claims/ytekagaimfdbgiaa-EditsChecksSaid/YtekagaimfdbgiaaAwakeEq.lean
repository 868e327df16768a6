/- What checks the chapter's examples says true; no condition. -/
import Derived.Test.YtekagaimfdbgiaaP22
namespace Go.Proofs.Ytekagaimfdbgiaa.P
open Go.RowKit Go.Proofs.YtekagaimfdbgiaaW.PrintWords Go.Proofs.YtekagaimfdbgiaaW.PrintLast Go.Proofs.YtekagaimfdbgiaaW.PrintMore
theorem awake_60 : dancestudiolaw56_awake.f 60 = some true := by decide +kernel
theorem awake_at : ∀ n, dancestudiolaw56_awake.f (60 + n) = some true
  | 0 => awake_60
  | n + 1 => dancestudiolaw56_awake.mono (60 + n) true (awake_at n)
theorem awake_eq (k : Nat) (hk : 60 ≤ k) : dancestudiolaw56_awake.f k = some true := by
  obtain ⟨n, rfl⟩ : ∃ n, k = 60 + n := ⟨k - 60, by omega⟩
  exact awake_at n
end Go.Proofs.Ytekagaimfdbgiaa.P

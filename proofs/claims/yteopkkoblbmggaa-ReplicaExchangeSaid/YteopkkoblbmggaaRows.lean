/-
  No cell of these rows narrows 'for every input' (looked for: loops, veiled, ifaces, maps, wideKeys, modest, calm, conditions, laid).
  DERIVED. THE GIVEN ROWS OF THIS SEAT. 14 by the template 'for every input the law returns true; each argument reads behind the call as it read before'; 0 by the template 'total and deterministic' (their statements: YteopkkoblbmggaaTotals.lean).
  GIVEN WITH THE SEED: the statements are not yours to turn. If you find one false, say at which input.
  Laid BY PROGRAM, IN A SANDBOX (cutbox-rows.mjs): the forced cells as the released guide's own fill.sh prints them over the translation 3c1f970a5d4282e3… (all of the seat's roots in one cut). By AI agents, Wed Nov 11 2026. No macro, syntax, notation, axiom, sorry.
-/
import Derived.Test.YteopkkoblbmggaaChecked
import GoSem.Claim
import GoSem.ClaimJoined
import GoSem.ClaimMapViews
import Derived.JoinedTies
import Derived.KernelRfl
namespace Go.Proofs.Yteopkkoblbmggaa
/- THE CELL 'sum', in the pinned program and in every row, IS THE sha256 OF THE DUMP (.gsa) THAT YteopkkoblbmggaaProg.lean LOADS. Nothing in Lean hashes anything: it is a label: what it is worth is what the hold of that sum in a sandbox is worth. -/
noncomputable def Try.pinned : Pinned := { name := "yteopkkoblbmggaa", sum := "3c1f970a5d4282e365ae4a1ee8e77451ce9351d1a5302aa3f30e5b25a4ced829", checked := Try.checked }
namespace Rows
def none {H : Type} : Left H := { results := [], args := [] }

/-- 'dancestudiolaw57.ReplicaAdd': WHATEVER THE INPUT: true; the input reads as it did. -/
def replicaAddSpec : ChangeSpec := { name := "replicaAdd", fn := fun _ => fun
  | [d1, d2] => { results := [.lit (.bool true)], args := [d1, d2] }
  | _ => none }
def replicaAddRow : OpenClaim := { program := "yteopkkoblbmggaa", sum := "3c1f970a5d4282e365ae4a1ee8e77451ce9351d1a5302aa3f30e5b25a4ced829", func := "dancestudio/dancestudiolaw57.ReplicaAdd", spec := "replicaAdd", inPlace := ["slices.overlaps[dancestudio/api.Edit]"], unfollowed := true, recurses := true, plainKeys := false, apart := false }
def ReplicaAddSaid : Prop := replicaAddRow.holds Try.pinned (OpenSpec.ofChange replicaAddSpec)

/-- ITS FALSE NEIGHBOUR: 'it returns false'. Refute it at one input. -/
def replicaAddWrong : ChangeSpec := { name := "replicaAdd", fn := fun _ => fun
  | [d1, d2] => { results := [.lit (.bool false)], args := [d1, d2] }
  | _ => none }
def ReplicaAddWrongFalsely : Prop := replicaAddRow.holds Try.pinned (OpenSpec.ofChange replicaAddWrong)

/-- 'dancestudiolaw57.ReplicaStaff': WHATEVER THE INPUT: true; the input reads as it did. -/
def replicaStaffSpec : ChangeSpec := { name := "replicaStaff", fn := fun _ => fun
  | [d1, d2, d3] => { results := [.lit (.bool true)], args := [d1, d2, d3] }
  | _ => none }
def replicaStaffRow : OpenClaim := { program := "yteopkkoblbmggaa", sum := "3c1f970a5d4282e365ae4a1ee8e77451ce9351d1a5302aa3f30e5b25a4ced829", func := "dancestudio/dancestudiolaw57.ReplicaStaff", spec := "replicaStaff", inPlace := ["slices.overlaps[dancestudio/api.Edit]"], unfollowed := true, recurses := true, plainKeys := false, apart := false }
def ReplicaStaffSaid : Prop := replicaStaffRow.holds Try.pinned (OpenSpec.ofChange replicaStaffSpec)

/-- ITS FALSE NEIGHBOUR: 'it returns false'. Refute it at one input. -/
def replicaStaffWrong : ChangeSpec := { name := "replicaStaff", fn := fun _ => fun
  | [d1, d2, d3] => { results := [.lit (.bool false)], args := [d1, d2, d3] }
  | _ => none }
def ReplicaStaffWrongFalsely : Prop := replicaStaffRow.holds Try.pinned (OpenSpec.ofChange replicaStaffWrong)

/-- 'dancestudiolaw57.ReplicaValue': WHATEVER THE INPUT: true; the input reads as it did. -/
def replicaValueSpec : ChangeSpec := { name := "replicaValue", fn := fun _ => fun
  | [d1, d2, d3] => { results := [.lit (.bool true)], args := [d1, d2, d3] }
  | _ => none }
def replicaValueRow : OpenClaim := { program := "yteopkkoblbmggaa", sum := "3c1f970a5d4282e365ae4a1ee8e77451ce9351d1a5302aa3f30e5b25a4ced829", func := "dancestudio/dancestudiolaw57.ReplicaValue", spec := "replicaValue", inPlace := ["slices.overlaps[dancestudio/api.Edit]"], unfollowed := true, recurses := true, plainKeys := false, apart := false }
def ReplicaValueSaid : Prop := replicaValueRow.holds Try.pinned (OpenSpec.ofChange replicaValueSpec)

/-- ITS FALSE NEIGHBOUR: 'it returns false'. Refute it at one input. -/
def replicaValueWrong : ChangeSpec := { name := "replicaValue", fn := fun _ => fun
  | [d1, d2, d3] => { results := [.lit (.bool false)], args := [d1, d2, d3] }
  | _ => none }
def ReplicaValueWrongFalsely : Prop := replicaValueRow.holds Try.pinned (OpenSpec.ofChange replicaValueWrong)

/-- 'dancestudiolaw57.ReplicaOrder': WHATEVER THE INPUT: true; the input reads as it did. -/
def replicaOrderSpec : ChangeSpec := { name := "replicaOrder", fn := fun _ => fun
  | [d1, d2, d3] => { results := [.lit (.bool true)], args := [d1, d2, d3] }
  | _ => none }
def replicaOrderRow : OpenClaim := { program := "yteopkkoblbmggaa", sum := "3c1f970a5d4282e365ae4a1ee8e77451ce9351d1a5302aa3f30e5b25a4ced829", func := "dancestudio/dancestudiolaw57.ReplicaOrder", spec := "replicaOrder", inPlace := ["slices.overlaps[dancestudio/api.Edit]"], unfollowed := true, recurses := true, plainKeys := false, apart := false }
def ReplicaOrderSaid : Prop := replicaOrderRow.holds Try.pinned (OpenSpec.ofChange replicaOrderSpec)

/-- ITS FALSE NEIGHBOUR: 'it returns false'. Refute it at one input. -/
def replicaOrderWrong : ChangeSpec := { name := "replicaOrder", fn := fun _ => fun
  | [d1, d2, d3] => { results := [.lit (.bool false)], args := [d1, d2, d3] }
  | _ => none }
def ReplicaOrderWrongFalsely : Prop := replicaOrderRow.holds Try.pinned (OpenSpec.ofChange replicaOrderWrong)

/-- 'dancestudiolaw57.ReplicaConverges': WHATEVER THE INPUT: true; the input reads as it did. -/
def replicaConvergesSpec : ChangeSpec := { name := "replicaConverges", fn := fun _ => fun
  | [d1, d2, d3, d4, d5] => { results := [.lit (.bool true)], args := [d1, d2, d3, d4, d5] }
  | _ => none }
def replicaConvergesRow : OpenClaim := { program := "yteopkkoblbmggaa", sum := "3c1f970a5d4282e365ae4a1ee8e77451ce9351d1a5302aa3f30e5b25a4ced829", func := "dancestudio/dancestudiolaw57.ReplicaConverges", spec := "replicaConverges", inPlace := ["slices.overlaps[dancestudio/api.Edit]"], unfollowed := true, recurses := true, plainKeys := false, apart := false }
def ReplicaConvergesSaid : Prop := replicaConvergesRow.holds Try.pinned (OpenSpec.ofChange replicaConvergesSpec)

/-- ITS FALSE NEIGHBOUR: 'it returns false'. Refute it at one input. -/
def replicaConvergesWrong : ChangeSpec := { name := "replicaConverges", fn := fun _ => fun
  | [d1, d2, d3, d4, d5] => { results := [.lit (.bool false)], args := [d1, d2, d3, d4, d5] }
  | _ => none }
def ReplicaConvergesWrongFalsely : Prop := replicaConvergesRow.holds Try.pinned (OpenSpec.ofChange replicaConvergesWrong)

/-- 'dancestudiolaw57.ReplicaTaken': WHATEVER THE INPUT: true; the input reads as it did. -/
def replicaTakenSpec : ChangeSpec := { name := "replicaTaken", fn := fun _ => fun
  | [d1, d2, d3] => { results := [.lit (.bool true)], args := [d1, d2, d3] }
  | _ => none }
def replicaTakenRow : OpenClaim := { program := "yteopkkoblbmggaa", sum := "3c1f970a5d4282e365ae4a1ee8e77451ce9351d1a5302aa3f30e5b25a4ced829", func := "dancestudio/dancestudiolaw57.ReplicaTaken", spec := "replicaTaken", inPlace := ["slices.overlaps[dancestudio/api.Edit]"], unfollowed := true, recurses := true, plainKeys := false, apart := false }
def ReplicaTakenSaid : Prop := replicaTakenRow.holds Try.pinned (OpenSpec.ofChange replicaTakenSpec)

/-- ITS FALSE NEIGHBOUR: 'it returns false'. Refute it at one input. -/
def replicaTakenWrong : ChangeSpec := { name := "replicaTaken", fn := fun _ => fun
  | [d1, d2, d3] => { results := [.lit (.bool false)], args := [d1, d2, d3] }
  | _ => none }
def ReplicaTakenWrongFalsely : Prop := replicaTakenRow.holds Try.pinned (OpenSpec.ofChange replicaTakenWrong)

/-- 'dancestudiolaw57.ReplicaCheck': WHATEVER THE INPUT: true; the input reads as it did. -/
def replicaCheckSpec : ChangeSpec := { name := "replicaCheck", fn := fun _ => fun
  | [d1, d2] => { results := [.lit (.bool true)], args := [d1, d2] }
  | _ => none }
def replicaCheckRow : OpenClaim := { program := "yteopkkoblbmggaa", sum := "3c1f970a5d4282e365ae4a1ee8e77451ce9351d1a5302aa3f30e5b25a4ced829", func := "dancestudio/dancestudiolaw57.ReplicaCheck", spec := "replicaCheck", inPlace := ["slices.overlaps[dancestudio/api.Edit]"], unfollowed := true, recurses := true, plainKeys := false, apart := false }
def ReplicaCheckSaid : Prop := replicaCheckRow.holds Try.pinned (OpenSpec.ofChange replicaCheckSpec)

/-- ITS FALSE NEIGHBOUR: 'it returns false'. Refute it at one input. -/
def replicaCheckWrong : ChangeSpec := { name := "replicaCheck", fn := fun _ => fun
  | [d1, d2] => { results := [.lit (.bool false)], args := [d1, d2] }
  | _ => none }
def ReplicaCheckWrongFalsely : Prop := replicaCheckRow.holds Try.pinned (OpenSpec.ofChange replicaCheckWrong)

/-- 'dancestudiolaw57.ReplicaExchange': WHATEVER THE INPUT: true; the input reads as it did. -/
def replicaExchangeSpec : ChangeSpec := { name := "replicaExchange", fn := fun _ => fun
  | [d1, d2] => { results := [.lit (.bool true)], args := [d1, d2] }
  | _ => none }
def replicaExchangeRow : OpenClaim := { program := "yteopkkoblbmggaa", sum := "3c1f970a5d4282e365ae4a1ee8e77451ce9351d1a5302aa3f30e5b25a4ced829", func := "dancestudio/dancestudiolaw57.ReplicaExchange", spec := "replicaExchange", inPlace := ["slices.overlaps[dancestudio/api.Edit]"], unfollowed := true, recurses := true, plainKeys := false, apart := false }
def ReplicaExchangeSaid : Prop := replicaExchangeRow.holds Try.pinned (OpenSpec.ofChange replicaExchangeSpec)

/-- ITS FALSE NEIGHBOUR: 'it returns false'. Refute it at one input. -/
def replicaExchangeWrong : ChangeSpec := { name := "replicaExchange", fn := fun _ => fun
  | [d1, d2] => { results := [.lit (.bool false)], args := [d1, d2] }
  | _ => none }
def ReplicaExchangeWrongFalsely : Prop := replicaExchangeRow.holds Try.pinned (OpenSpec.ofChange replicaExchangeWrong)

/-- 'dancestudiolaw58.JournalAppends': WHATEVER THE INPUT: true; the input reads as it did. -/
def journalAppendsSpec : ChangeSpec := { name := "journalAppends", fn := fun _ => fun
  | [d1, d2] => { results := [.lit (.bool true)], args := [d1, d2] }
  | _ => none }
def journalAppendsRow : OpenClaim := { program := "yteopkkoblbmggaa", sum := "3c1f970a5d4282e365ae4a1ee8e77451ce9351d1a5302aa3f30e5b25a4ced829", func := "dancestudio/dancestudiolaw58.JournalAppends", spec := "journalAppends", inPlace := ["slices.overlaps[dancestudio/api.Edit]"], unfollowed := true, recurses := true, plainKeys := false, apart := false }
def JournalAppendsSaid : Prop := journalAppendsRow.holds Try.pinned (OpenSpec.ofChange journalAppendsSpec)

/-- ITS FALSE NEIGHBOUR: 'it returns false'. Refute it at one input. -/
def journalAppendsWrong : ChangeSpec := { name := "journalAppends", fn := fun _ => fun
  | [d1, d2] => { results := [.lit (.bool false)], args := [d1, d2] }
  | _ => none }
def JournalAppendsWrongFalsely : Prop := journalAppendsRow.holds Try.pinned (OpenSpec.ofChange journalAppendsWrong)

/-- 'dancestudiolaw58.JournalRecovers': WHATEVER THE INPUT: true; the input reads as it did. -/
def journalRecoversSpec : ChangeSpec := { name := "journalRecovers", fn := fun _ => fun
  | [d1, d2] => { results := [.lit (.bool true)], args := [d1, d2] }
  | _ => none }
def journalRecoversRow : OpenClaim := { program := "yteopkkoblbmggaa", sum := "3c1f970a5d4282e365ae4a1ee8e77451ce9351d1a5302aa3f30e5b25a4ced829", func := "dancestudio/dancestudiolaw58.JournalRecovers", spec := "journalRecovers", inPlace := ["slices.overlaps[dancestudio/api.Edit]"], unfollowed := true, recurses := true, plainKeys := false, apart := false }
def JournalRecoversSaid : Prop := journalRecoversRow.holds Try.pinned (OpenSpec.ofChange journalRecoversSpec)

/-- ITS FALSE NEIGHBOUR: 'it returns false'. Refute it at one input. -/
def journalRecoversWrong : ChangeSpec := { name := "journalRecovers", fn := fun _ => fun
  | [d1, d2] => { results := [.lit (.bool false)], args := [d1, d2] }
  | _ => none }
def JournalRecoversWrongFalsely : Prop := journalRecoversRow.holds Try.pinned (OpenSpec.ofChange journalRecoversWrong)

/-- 'dancestudiolaw58.JournalWrites': WHATEVER THE INPUT: true; the input reads as it did. -/
def journalWritesSpec : ChangeSpec := { name := "journalWrites", fn := fun _ => fun
  | [d] => { results := [.lit (.bool true)], args := [d] }
  | _ => none }
def journalWritesRow : OpenClaim := { program := "yteopkkoblbmggaa", sum := "3c1f970a5d4282e365ae4a1ee8e77451ce9351d1a5302aa3f30e5b25a4ced829", func := "dancestudio/dancestudiolaw58.JournalWrites", spec := "journalWrites", inPlace := ["slices.overlaps[dancestudio/api.Edit]"], unfollowed := true, recurses := true, plainKeys := false, apart := false }
def JournalWritesSaid : Prop := journalWritesRow.holds Try.pinned (OpenSpec.ofChange journalWritesSpec)

/-- ITS FALSE NEIGHBOUR: 'it returns false'. Refute it at one input. -/
def journalWritesWrong : ChangeSpec := { name := "journalWrites", fn := fun _ => fun
  | [d] => { results := [.lit (.bool false)], args := [d] }
  | _ => none }
def JournalWritesWrongFalsely : Prop := journalWritesRow.holds Try.pinned (OpenSpec.ofChange journalWritesWrong)

/-- 'dancestudiolaw58.JournalCuts': WHATEVER THE INPUT: true; the input reads as it did. -/
def journalCutsSpec : ChangeSpec := { name := "journalCuts", fn := fun _ => fun
  | [d1, d2] => { results := [.lit (.bool true)], args := [d1, d2] }
  | _ => none }
def journalCutsRow : OpenClaim := { program := "yteopkkoblbmggaa", sum := "3c1f970a5d4282e365ae4a1ee8e77451ce9351d1a5302aa3f30e5b25a4ced829", func := "dancestudio/dancestudiolaw58.JournalCuts", spec := "journalCuts", inPlace := ["slices.overlaps[dancestudio/api.Edit]"], unfollowed := true, recurses := true, plainKeys := false, apart := false }
def JournalCutsSaid : Prop := journalCutsRow.holds Try.pinned (OpenSpec.ofChange journalCutsSpec)

/-- ITS FALSE NEIGHBOUR: 'it returns false'. Refute it at one input. -/
def journalCutsWrong : ChangeSpec := { name := "journalCuts", fn := fun _ => fun
  | [d1, d2] => { results := [.lit (.bool false)], args := [d1, d2] }
  | _ => none }
def JournalCutsWrongFalsely : Prop := journalCutsRow.holds Try.pinned (OpenSpec.ofChange journalCutsWrong)

/-- 'dancestudiolaw58.JournalGoes': WHATEVER THE INPUT: true; the input reads as it did. -/
def journalGoesSpec : ChangeSpec := { name := "journalGoes", fn := fun _ => fun
  | [d1, d2] => { results := [.lit (.bool true)], args := [d1, d2] }
  | _ => none }
def journalGoesRow : OpenClaim := { program := "yteopkkoblbmggaa", sum := "3c1f970a5d4282e365ae4a1ee8e77451ce9351d1a5302aa3f30e5b25a4ced829", func := "dancestudio/dancestudiolaw58.JournalGoes", spec := "journalGoes", inPlace := ["slices.overlaps[dancestudio/api.Edit]"], unfollowed := true, recurses := true, plainKeys := false, apart := false }
def JournalGoesSaid : Prop := journalGoesRow.holds Try.pinned (OpenSpec.ofChange journalGoesSpec)

/-- ITS FALSE NEIGHBOUR: 'it returns false'. Refute it at one input. -/
def journalGoesWrong : ChangeSpec := { name := "journalGoes", fn := fun _ => fun
  | [d1, d2] => { results := [.lit (.bool false)], args := [d1, d2] }
  | _ => none }
def JournalGoesWrongFalsely : Prop := journalGoesRow.holds Try.pinned (OpenSpec.ofChange journalGoesWrong)

/-- 'dancestudiolaw58.JournalSpoilt': WHATEVER THE INPUT: true; the input reads as it did. -/
def journalSpoiltSpec : ChangeSpec := { name := "journalSpoilt", fn := fun _ => fun
  | [d1, d2, d3] => { results := [.lit (.bool true)], args := [d1, d2, d3] }
  | _ => none }
def journalSpoiltRow : OpenClaim := { program := "yteopkkoblbmggaa", sum := "3c1f970a5d4282e365ae4a1ee8e77451ce9351d1a5302aa3f30e5b25a4ced829", func := "dancestudio/dancestudiolaw58.JournalSpoilt", spec := "journalSpoilt", inPlace := ["slices.overlaps[dancestudio/api.Edit]"], unfollowed := true, recurses := true, plainKeys := false, apart := false }
def JournalSpoiltSaid : Prop := journalSpoiltRow.holds Try.pinned (OpenSpec.ofChange journalSpoiltSpec)

/-- ITS FALSE NEIGHBOUR: 'it returns false'. Refute it at one input. -/
def journalSpoiltWrong : ChangeSpec := { name := "journalSpoilt", fn := fun _ => fun
  | [d1, d2, d3] => { results := [.lit (.bool false)], args := [d1, d2, d3] }
  | _ => none }
def JournalSpoiltWrongFalsely : Prop := journalSpoiltRow.holds Try.pinned (OpenSpec.ofChange journalSpoiltWrong)

/- THE SECOND FORM. 'bulk': how many values and letters a reading holds, each counted each time it is reached (what is shared counts as often as it is met; a slice's spare places count too). A statement '..UptoSaid' is the law's where the arguments, and the package variables that the reading takes, are together of bulk at most 1048576: NARROWER than '..Said'. Prove '..Said' where nothing that the law and all that it calls make is longer than what came in: it says more and counts as full. Else prove '..UptoSaid'. A law counts once. -/
mutual
def uptoBulk {H : Type} : DataW H → Nat
  | .lit (.string bytes) => bytes.length + 1
  | .lit _ => 1
  | .nil => 1
  | .ptr d => uptoBulk d + 1
  | .slice elems spare => uptoBulkAll elems + uptoBulkAll spare + 1
  | .agg parts => uptoBulkAll parts + 1
  | .iface _ d => uptoBulk d + 1
  | .map entries => uptoBulkEntries entries + 1
  | .held _ => 1
def uptoBulkAll {H : Type} : List (DataW H) → Nat
  | [] => 0
  | d :: r => uptoBulk d + uptoBulkAll r
def uptoBulkEntries {H : Type} : List (Lit × DataW H) → Nat
  | [] => 0
  | x :: r => uptoBulkEntry x + uptoBulkEntries r
def uptoBulkEntry {H : Type} : Lit × DataW H → Nat
  | (.string bytes, d) => bytes.length + uptoBulk d + 1
  | (_, d) => uptoBulk d + 1
 end
def uptoSmall : (H : Type) → List (DataW H) → Bool := fun _ ds => decide (uptoBulkAll ds ≤ 1048576)
def OpenSpec.upto (s : _root_.Go.ChangeSpec) : _root_.Go.OpenSpec := { _root_.Go.OpenSpec.ofChange s with cond := some uptoSmall }

/-- 'dancestudiolaw57.ReplicaAdd', WHERE WHAT IT READS IS OF BULK AT MOST 1048576: true; the input reads as it did. -/
def replicaAddUptoRow : OpenClaim := { program := "yteopkkoblbmggaa", sum := "3c1f970a5d4282e365ae4a1ee8e77451ce9351d1a5302aa3f30e5b25a4ced829", func := "dancestudio/dancestudiolaw57.ReplicaAdd", spec := "replicaAdd", inPlace := ["slices.overlaps[dancestudio/api.Edit]"], unfollowed := true, recurses := true, plainKeys := false, apart := false, narrowed := true }
def ReplicaAddUptoSaid : Prop := replicaAddUptoRow.holds Try.pinned (OpenSpec.upto replicaAddSpec)

/-- 'dancestudiolaw57.ReplicaStaff', WHERE WHAT IT READS IS OF BULK AT MOST 1048576: true; the input reads as it did. -/
def replicaStaffUptoRow : OpenClaim := { program := "yteopkkoblbmggaa", sum := "3c1f970a5d4282e365ae4a1ee8e77451ce9351d1a5302aa3f30e5b25a4ced829", func := "dancestudio/dancestudiolaw57.ReplicaStaff", spec := "replicaStaff", inPlace := ["slices.overlaps[dancestudio/api.Edit]"], unfollowed := true, recurses := true, plainKeys := false, apart := false, narrowed := true }
def ReplicaStaffUptoSaid : Prop := replicaStaffUptoRow.holds Try.pinned (OpenSpec.upto replicaStaffSpec)

/-- 'dancestudiolaw57.ReplicaValue', WHERE WHAT IT READS IS OF BULK AT MOST 1048576: true; the input reads as it did. -/
def replicaValueUptoRow : OpenClaim := { program := "yteopkkoblbmggaa", sum := "3c1f970a5d4282e365ae4a1ee8e77451ce9351d1a5302aa3f30e5b25a4ced829", func := "dancestudio/dancestudiolaw57.ReplicaValue", spec := "replicaValue", inPlace := ["slices.overlaps[dancestudio/api.Edit]"], unfollowed := true, recurses := true, plainKeys := false, apart := false, narrowed := true }
def ReplicaValueUptoSaid : Prop := replicaValueUptoRow.holds Try.pinned (OpenSpec.upto replicaValueSpec)

/-- 'dancestudiolaw57.ReplicaOrder', WHERE WHAT IT READS IS OF BULK AT MOST 1048576: true; the input reads as it did. -/
def replicaOrderUptoRow : OpenClaim := { program := "yteopkkoblbmggaa", sum := "3c1f970a5d4282e365ae4a1ee8e77451ce9351d1a5302aa3f30e5b25a4ced829", func := "dancestudio/dancestudiolaw57.ReplicaOrder", spec := "replicaOrder", inPlace := ["slices.overlaps[dancestudio/api.Edit]"], unfollowed := true, recurses := true, plainKeys := false, apart := false, narrowed := true }
def ReplicaOrderUptoSaid : Prop := replicaOrderUptoRow.holds Try.pinned (OpenSpec.upto replicaOrderSpec)

/-- 'dancestudiolaw57.ReplicaConverges', WHERE WHAT IT READS IS OF BULK AT MOST 1048576: true; the input reads as it did. -/
def replicaConvergesUptoRow : OpenClaim := { program := "yteopkkoblbmggaa", sum := "3c1f970a5d4282e365ae4a1ee8e77451ce9351d1a5302aa3f30e5b25a4ced829", func := "dancestudio/dancestudiolaw57.ReplicaConverges", spec := "replicaConverges", inPlace := ["slices.overlaps[dancestudio/api.Edit]"], unfollowed := true, recurses := true, plainKeys := false, apart := false, narrowed := true }
def ReplicaConvergesUptoSaid : Prop := replicaConvergesUptoRow.holds Try.pinned (OpenSpec.upto replicaConvergesSpec)

/-- 'dancestudiolaw57.ReplicaTaken', WHERE WHAT IT READS IS OF BULK AT MOST 1048576: true; the input reads as it did. -/
def replicaTakenUptoRow : OpenClaim := { program := "yteopkkoblbmggaa", sum := "3c1f970a5d4282e365ae4a1ee8e77451ce9351d1a5302aa3f30e5b25a4ced829", func := "dancestudio/dancestudiolaw57.ReplicaTaken", spec := "replicaTaken", inPlace := ["slices.overlaps[dancestudio/api.Edit]"], unfollowed := true, recurses := true, plainKeys := false, apart := false, narrowed := true }
def ReplicaTakenUptoSaid : Prop := replicaTakenUptoRow.holds Try.pinned (OpenSpec.upto replicaTakenSpec)

/-- 'dancestudiolaw57.ReplicaCheck', WHERE WHAT IT READS IS OF BULK AT MOST 1048576: true; the input reads as it did. -/
def replicaCheckUptoRow : OpenClaim := { program := "yteopkkoblbmggaa", sum := "3c1f970a5d4282e365ae4a1ee8e77451ce9351d1a5302aa3f30e5b25a4ced829", func := "dancestudio/dancestudiolaw57.ReplicaCheck", spec := "replicaCheck", inPlace := ["slices.overlaps[dancestudio/api.Edit]"], unfollowed := true, recurses := true, plainKeys := false, apart := false, narrowed := true }
def ReplicaCheckUptoSaid : Prop := replicaCheckUptoRow.holds Try.pinned (OpenSpec.upto replicaCheckSpec)

/-- 'dancestudiolaw57.ReplicaExchange', WHERE WHAT IT READS IS OF BULK AT MOST 1048576: true; the input reads as it did. -/
def replicaExchangeUptoRow : OpenClaim := { program := "yteopkkoblbmggaa", sum := "3c1f970a5d4282e365ae4a1ee8e77451ce9351d1a5302aa3f30e5b25a4ced829", func := "dancestudio/dancestudiolaw57.ReplicaExchange", spec := "replicaExchange", inPlace := ["slices.overlaps[dancestudio/api.Edit]"], unfollowed := true, recurses := true, plainKeys := false, apart := false, narrowed := true }
def ReplicaExchangeUptoSaid : Prop := replicaExchangeUptoRow.holds Try.pinned (OpenSpec.upto replicaExchangeSpec)

/-- 'dancestudiolaw58.JournalAppends', WHERE WHAT IT READS IS OF BULK AT MOST 1048576: true; the input reads as it did. -/
def journalAppendsUptoRow : OpenClaim := { program := "yteopkkoblbmggaa", sum := "3c1f970a5d4282e365ae4a1ee8e77451ce9351d1a5302aa3f30e5b25a4ced829", func := "dancestudio/dancestudiolaw58.JournalAppends", spec := "journalAppends", inPlace := ["slices.overlaps[dancestudio/api.Edit]"], unfollowed := true, recurses := true, plainKeys := false, apart := false, narrowed := true }
def JournalAppendsUptoSaid : Prop := journalAppendsUptoRow.holds Try.pinned (OpenSpec.upto journalAppendsSpec)

/-- 'dancestudiolaw58.JournalRecovers', WHERE WHAT IT READS IS OF BULK AT MOST 1048576: true; the input reads as it did. -/
def journalRecoversUptoRow : OpenClaim := { program := "yteopkkoblbmggaa", sum := "3c1f970a5d4282e365ae4a1ee8e77451ce9351d1a5302aa3f30e5b25a4ced829", func := "dancestudio/dancestudiolaw58.JournalRecovers", spec := "journalRecovers", inPlace := ["slices.overlaps[dancestudio/api.Edit]"], unfollowed := true, recurses := true, plainKeys := false, apart := false, narrowed := true }
def JournalRecoversUptoSaid : Prop := journalRecoversUptoRow.holds Try.pinned (OpenSpec.upto journalRecoversSpec)

/-- 'dancestudiolaw58.JournalWrites', WHERE WHAT IT READS IS OF BULK AT MOST 1048576: true; the input reads as it did. -/
def journalWritesUptoRow : OpenClaim := { program := "yteopkkoblbmggaa", sum := "3c1f970a5d4282e365ae4a1ee8e77451ce9351d1a5302aa3f30e5b25a4ced829", func := "dancestudio/dancestudiolaw58.JournalWrites", spec := "journalWrites", inPlace := ["slices.overlaps[dancestudio/api.Edit]"], unfollowed := true, recurses := true, plainKeys := false, apart := false, narrowed := true }
def JournalWritesUptoSaid : Prop := journalWritesUptoRow.holds Try.pinned (OpenSpec.upto journalWritesSpec)

/-- 'dancestudiolaw58.JournalCuts', WHERE WHAT IT READS IS OF BULK AT MOST 1048576: true; the input reads as it did. -/
def journalCutsUptoRow : OpenClaim := { program := "yteopkkoblbmggaa", sum := "3c1f970a5d4282e365ae4a1ee8e77451ce9351d1a5302aa3f30e5b25a4ced829", func := "dancestudio/dancestudiolaw58.JournalCuts", spec := "journalCuts", inPlace := ["slices.overlaps[dancestudio/api.Edit]"], unfollowed := true, recurses := true, plainKeys := false, apart := false, narrowed := true }
def JournalCutsUptoSaid : Prop := journalCutsUptoRow.holds Try.pinned (OpenSpec.upto journalCutsSpec)

/-- 'dancestudiolaw58.JournalGoes', WHERE WHAT IT READS IS OF BULK AT MOST 1048576: true; the input reads as it did. -/
def journalGoesUptoRow : OpenClaim := { program := "yteopkkoblbmggaa", sum := "3c1f970a5d4282e365ae4a1ee8e77451ce9351d1a5302aa3f30e5b25a4ced829", func := "dancestudio/dancestudiolaw58.JournalGoes", spec := "journalGoes", inPlace := ["slices.overlaps[dancestudio/api.Edit]"], unfollowed := true, recurses := true, plainKeys := false, apart := false, narrowed := true }
def JournalGoesUptoSaid : Prop := journalGoesUptoRow.holds Try.pinned (OpenSpec.upto journalGoesSpec)

/-- 'dancestudiolaw58.JournalSpoilt', WHERE WHAT IT READS IS OF BULK AT MOST 1048576: true; the input reads as it did. -/
def journalSpoiltUptoRow : OpenClaim := { program := "yteopkkoblbmggaa", sum := "3c1f970a5d4282e365ae4a1ee8e77451ce9351d1a5302aa3f30e5b25a4ced829", func := "dancestudio/dancestudiolaw58.JournalSpoilt", spec := "journalSpoilt", inPlace := ["slices.overlaps[dancestudio/api.Edit]"], unfollowed := true, recurses := true, plainKeys := false, apart := false, narrowed := true }
def JournalSpoiltUptoSaid : Prop := journalSpoiltUptoRow.holds Try.pinned (OpenSpec.upto journalSpoiltSpec)

end Rows
end Go.Proofs.Yteopkkoblbmggaa

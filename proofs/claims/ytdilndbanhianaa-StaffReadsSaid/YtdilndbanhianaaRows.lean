/-
  No cell of these rows narrows 'for every input' (looked for: loops, veiled, ifaces, maps, wideKeys, modest, calm, conditions, laid).
  DERIVED. THE GIVEN ROWS OF THIS SEAT. 16 by the template 'for every input the law returns true; each argument reads behind the call as it read before'; 0 by the template 'total and deterministic' (their statements: YtdilndbanhianaaTotals.lean).
  GIVEN WITH THE SEED: the statements are not yours to turn. If you find one false, say at which input.
  Laid BY PROGRAM, IN A SANDBOX (cutbox-rows.mjs): the forced cells as the released guide's own fill.sh prints them over the translation 9f38ae179e2355c4… (all of the seat's roots in one cut). By AI agents, Wed Nov 11 2026. No macro, syntax, notation, axiom, sorry.
-/
import Derived.Test.YtdilndbanhianaaChecked
import GoSem.Claim
import GoSem.ClaimJoined
import GoSem.ClaimMapViews
import Derived.JoinedTies
import Derived.KernelRfl
namespace Go.Proofs.Ytdilndbanhianaa
/- THE CELL 'sum', in the pinned program and in every row, IS THE sha256 OF THE DUMP (.gsa) THAT YtdilndbanhianaaProg.lean LOADS. Nothing in Lean hashes anything: it is a label: what it is worth is what the hold of that sum in a sandbox is worth. -/
noncomputable def Try.pinned : Pinned := { name := "ytdilndbanhianaa", sum := "9f38ae179e2355c44ac163533421e06787a31cc38405fa272314ebb67ba36e50", checked := Try.checked }
namespace Rows
def none {H : Type} : Left H := { results := [], args := [] }

/-- 'dancestudiolaw24.StaffChecks': WHATEVER THE INPUT: true; the input reads as it did. -/
def staffChecksSpec : ChangeSpec := { name := "staffChecks", fn := fun _ => fun
  | [d1, d2] => { results := [.lit (.bool true)], args := [d1, d2] }
  | _ => none }
def staffChecksRow : OpenClaim := { program := "ytdilndbanhianaa", sum := "9f38ae179e2355c44ac163533421e06787a31cc38405fa272314ebb67ba36e50", func := "dancestudio/dancestudiolaw24.StaffChecks", spec := "staffChecks", unfollowed := true, recurses := true, apart := false }
def StaffChecksSaid : Prop := staffChecksRow.holds Try.pinned (OpenSpec.ofChange staffChecksSpec)

/-- ITS FALSE NEIGHBOUR: 'it returns false'. Refute it at one input. -/
def staffChecksWrong : ChangeSpec := { name := "staffChecks", fn := fun _ => fun
  | [d1, d2] => { results := [.lit (.bool false)], args := [d1, d2] }
  | _ => none }
def StaffChecksWrongFalsely : Prop := staffChecksRow.holds Try.pinned (OpenSpec.ofChange staffChecksWrong)

/-- 'dancestudiolaw24.StaffPuts': WHATEVER THE INPUT: true; the input reads as it did. -/
def staffPutsSpec : ChangeSpec := { name := "staffPuts", fn := fun _ => fun
  | [d1, d2, d3] => { results := [.lit (.bool true)], args := [d1, d2, d3] }
  | _ => none }
def staffPutsRow : OpenClaim := { program := "ytdilndbanhianaa", sum := "9f38ae179e2355c44ac163533421e06787a31cc38405fa272314ebb67ba36e50", func := "dancestudio/dancestudiolaw24.StaffPuts", spec := "staffPuts", unfollowed := true, recurses := true, apart := false }
def StaffPutsSaid : Prop := staffPutsRow.holds Try.pinned (OpenSpec.ofChange staffPutsSpec)

/-- ITS FALSE NEIGHBOUR: 'it returns false'. Refute it at one input. -/
def staffPutsWrong : ChangeSpec := { name := "staffPuts", fn := fun _ => fun
  | [d1, d2, d3] => { results := [.lit (.bool false)], args := [d1, d2, d3] }
  | _ => none }
def StaffPutsWrongFalsely : Prop := staffPutsRow.holds Try.pinned (OpenSpec.ofChange staffPutsWrong)

/-- 'dancestudiolaw24.StaffReads': WHATEVER THE INPUT: true; the input reads as it did. -/
def staffReadsSpec : ChangeSpec := { name := "staffReads", fn := fun _ => fun
  | [d1, d2, d3] => { results := [.lit (.bool true)], args := [d1, d2, d3] }
  | _ => none }
def staffReadsRow : OpenClaim := { program := "ytdilndbanhianaa", sum := "9f38ae179e2355c44ac163533421e06787a31cc38405fa272314ebb67ba36e50", func := "dancestudio/dancestudiolaw24.StaffReads", spec := "staffReads", unfollowed := true, recurses := true, apart := false }
def StaffReadsSaid : Prop := staffReadsRow.holds Try.pinned (OpenSpec.ofChange staffReadsSpec)

/-- ITS FALSE NEIGHBOUR: 'it returns false'. Refute it at one input. -/
def staffReadsWrong : ChangeSpec := { name := "staffReads", fn := fun _ => fun
  | [d1, d2, d3] => { results := [.lit (.bool false)], args := [d1, d2, d3] }
  | _ => none }
def StaffReadsWrongFalsely : Prop := staffReadsRow.holds Try.pinned (OpenSpec.ofChange staffReadsWrong)

/-- 'dancestudiolaw24.StaffJoins': WHATEVER THE INPUT: true; the input reads as it did. -/
def staffJoinsSpec : ChangeSpec := { name := "staffJoins", fn := fun _ => fun
  | [d] => { results := [.lit (.bool true)], args := [d] }
  | _ => none }
def staffJoinsRow : OpenClaim := { program := "ytdilndbanhianaa", sum := "9f38ae179e2355c44ac163533421e06787a31cc38405fa272314ebb67ba36e50", func := "dancestudio/dancestudiolaw24.StaffJoins", spec := "staffJoins", unfollowed := true, recurses := true, apart := false }
def StaffJoinsSaid : Prop := staffJoinsRow.holds Try.pinned (OpenSpec.ofChange staffJoinsSpec)

/-- ITS FALSE NEIGHBOUR: 'it returns false'. Refute it at one input. -/
def staffJoinsWrong : ChangeSpec := { name := "staffJoins", fn := fun _ => fun
  | [d] => { results := [.lit (.bool false)], args := [d] }
  | _ => none }
def StaffJoinsWrongFalsely : Prop := staffJoinsRow.holds Try.pinned (OpenSpec.ofChange staffJoinsWrong)

/-- 'dancestudiolaw24.StaffParts': WHATEVER THE INPUT: true; the input reads as it did. -/
def staffPartsSpec : ChangeSpec := { name := "staffParts", fn := fun _ => fun
  | [d1, d2, d3] => { results := [.lit (.bool true)], args := [d1, d2, d3] }
  | _ => none }
def staffPartsRow : OpenClaim := { program := "ytdilndbanhianaa", sum := "9f38ae179e2355c44ac163533421e06787a31cc38405fa272314ebb67ba36e50", func := "dancestudio/dancestudiolaw24.StaffParts", spec := "staffParts", unfollowed := true, recurses := true, apart := false }
def StaffPartsSaid : Prop := staffPartsRow.holds Try.pinned (OpenSpec.ofChange staffPartsSpec)

/-- ITS FALSE NEIGHBOUR: 'it returns false'. Refute it at one input. -/
def staffPartsWrong : ChangeSpec := { name := "staffParts", fn := fun _ => fun
  | [d1, d2, d3] => { results := [.lit (.bool false)], args := [d1, d2, d3] }
  | _ => none }
def StaffPartsWrongFalsely : Prop := staffPartsRow.holds Try.pinned (OpenSpec.ofChange staffPartsWrong)

/-- 'dancestudiolaw24.StaffCuts': WHATEVER THE INPUT: true; the input reads as it did. -/
def staffCutsSpec : ChangeSpec := { name := "staffCuts", fn := fun _ => fun
  | [d1, d2, d3] => { results := [.lit (.bool true)], args := [d1, d2, d3] }
  | _ => none }
def staffCutsRow : OpenClaim := { program := "ytdilndbanhianaa", sum := "9f38ae179e2355c44ac163533421e06787a31cc38405fa272314ebb67ba36e50", func := "dancestudio/dancestudiolaw24.StaffCuts", spec := "staffCuts", unfollowed := true, recurses := true, apart := false }
def StaffCutsSaid : Prop := staffCutsRow.holds Try.pinned (OpenSpec.ofChange staffCutsSpec)

/-- ITS FALSE NEIGHBOUR: 'it returns false'. Refute it at one input. -/
def staffCutsWrong : ChangeSpec := { name := "staffCuts", fn := fun _ => fun
  | [d1, d2, d3] => { results := [.lit (.bool false)], args := [d1, d2, d3] }
  | _ => none }
def StaffCutsWrongFalsely : Prop := staffCutsRow.holds Try.pinned (OpenSpec.ofChange staffCutsWrong)

/-- 'dancestudiolaw24.StaffBoth': WHATEVER THE INPUT: true; the input reads as it did. -/
def staffBothSpec : ChangeSpec := { name := "staffBoth", fn := fun _ => fun
  | [d] => { results := [.lit (.bool true)], args := [d] }
  | _ => none }
def staffBothRow : OpenClaim := { program := "ytdilndbanhianaa", sum := "9f38ae179e2355c44ac163533421e06787a31cc38405fa272314ebb67ba36e50", func := "dancestudio/dancestudiolaw24.StaffBoth", spec := "staffBoth", unfollowed := true, recurses := true, apart := false }
def StaffBothSaid : Prop := staffBothRow.holds Try.pinned (OpenSpec.ofChange staffBothSpec)

/-- ITS FALSE NEIGHBOUR: 'it returns false'. Refute it at one input. -/
def staffBothWrong : ChangeSpec := { name := "staffBoth", fn := fun _ => fun
  | [d] => { results := [.lit (.bool false)], args := [d] }
  | _ => none }
def StaffBothWrongFalsely : Prop := staffBothRow.holds Try.pinned (OpenSpec.ofChange staffBothWrong)

/-- 'dancestudiolaw24.StaffTakes': WHATEVER THE INPUT: true; the input reads as it did. -/
def staffTakesSpec : ChangeSpec := { name := "staffTakes", fn := fun _ => fun
  | [d1, d2, d3] => { results := [.lit (.bool true)], args := [d1, d2, d3] }
  | _ => none }
def staffTakesRow : OpenClaim := { program := "ytdilndbanhianaa", sum := "9f38ae179e2355c44ac163533421e06787a31cc38405fa272314ebb67ba36e50", func := "dancestudio/dancestudiolaw24.StaffTakes", spec := "staffTakes", unfollowed := true, recurses := true, apart := false }
def StaffTakesSaid : Prop := staffTakesRow.holds Try.pinned (OpenSpec.ofChange staffTakesSpec)

/-- ITS FALSE NEIGHBOUR: 'it returns false'. Refute it at one input. -/
def staffTakesWrong : ChangeSpec := { name := "staffTakes", fn := fun _ => fun
  | [d1, d2, d3] => { results := [.lit (.bool false)], args := [d1, d2, d3] }
  | _ => none }
def StaffTakesWrongFalsely : Prop := staffTakesRow.holds Try.pinned (OpenSpec.ofChange staffTakesWrong)

/-- 'dancestudiolaw24.StaffColumns': WHATEVER THE INPUT: true; the input reads as it did. -/
def staffColumnsSpec : ChangeSpec := { name := "staffColumns", fn := fun _ => fun
  | [d1, d2, d3] => { results := [.lit (.bool true)], args := [d1, d2, d3] }
  | _ => none }
def staffColumnsRow : OpenClaim := { program := "ytdilndbanhianaa", sum := "9f38ae179e2355c44ac163533421e06787a31cc38405fa272314ebb67ba36e50", func := "dancestudio/dancestudiolaw24.StaffColumns", spec := "staffColumns", unfollowed := true, recurses := true, apart := false }
def StaffColumnsSaid : Prop := staffColumnsRow.holds Try.pinned (OpenSpec.ofChange staffColumnsSpec)

/-- ITS FALSE NEIGHBOUR: 'it returns false'. Refute it at one input. -/
def staffColumnsWrong : ChangeSpec := { name := "staffColumns", fn := fun _ => fun
  | [d1, d2, d3] => { results := [.lit (.bool false)], args := [d1, d2, d3] }
  | _ => none }
def StaffColumnsWrongFalsely : Prop := staffColumnsRow.holds Try.pinned (OpenSpec.ofChange staffColumnsWrong)

/-- 'dancestudiolaw26.RepeatsChecks': WHATEVER THE INPUT: true; the input reads as it did. -/
def repeatsChecksSpec : ChangeSpec := { name := "repeatsChecks", fn := fun _ => fun
  | [d] => { results := [.lit (.bool true)], args := [d] }
  | _ => none }
def repeatsChecksRow : OpenClaim := { program := "ytdilndbanhianaa", sum := "9f38ae179e2355c44ac163533421e06787a31cc38405fa272314ebb67ba36e50", func := "dancestudio/dancestudiolaw26.RepeatsChecks", spec := "repeatsChecks", unfollowed := true, recurses := true, apart := false }
def RepeatsChecksSaid : Prop := repeatsChecksRow.holds Try.pinned (OpenSpec.ofChange repeatsChecksSpec)

/-- ITS FALSE NEIGHBOUR: 'it returns false'. Refute it at one input. -/
def repeatsChecksWrong : ChangeSpec := { name := "repeatsChecks", fn := fun _ => fun
  | [d] => { results := [.lit (.bool false)], args := [d] }
  | _ => none }
def RepeatsChecksWrongFalsely : Prop := repeatsChecksRow.holds Try.pinned (OpenSpec.ofChange repeatsChecksWrong)

/-- 'dancestudiolaw26.RepeatsPerforms': WHATEVER THE INPUT: true; the input reads as it did. -/
def repeatsPerformsSpec : ChangeSpec := { name := "repeatsPerforms", fn := fun _ => fun
  | [d1, d2] => { results := [.lit (.bool true)], args := [d1, d2] }
  | _ => none }
def repeatsPerformsRow : OpenClaim := { program := "ytdilndbanhianaa", sum := "9f38ae179e2355c44ac163533421e06787a31cc38405fa272314ebb67ba36e50", func := "dancestudio/dancestudiolaw26.RepeatsPerforms", spec := "repeatsPerforms", unfollowed := true, recurses := true, apart := false }
def RepeatsPerformsSaid : Prop := repeatsPerformsRow.holds Try.pinned (OpenSpec.ofChange repeatsPerformsSpec)

/-- ITS FALSE NEIGHBOUR: 'it returns false'. Refute it at one input. -/
def repeatsPerformsWrong : ChangeSpec := { name := "repeatsPerforms", fn := fun _ => fun
  | [d1, d2] => { results := [.lit (.bool false)], args := [d1, d2] }
  | _ => none }
def RepeatsPerformsWrongFalsely : Prop := repeatsPerformsRow.holds Try.pinned (OpenSpec.ofChange repeatsPerformsWrong)

/-- 'dancestudiolaw26.RepeatsSource': WHATEVER THE INPUT: true; the input reads as it did. -/
def repeatsSourceSpec : ChangeSpec := { name := "repeatsSource", fn := fun _ => fun
  | [d1, d2] => { results := [.lit (.bool true)], args := [d1, d2] }
  | _ => none }
def repeatsSourceRow : OpenClaim := { program := "ytdilndbanhianaa", sum := "9f38ae179e2355c44ac163533421e06787a31cc38405fa272314ebb67ba36e50", func := "dancestudio/dancestudiolaw26.RepeatsSource", spec := "repeatsSource", unfollowed := true, recurses := true, apart := false }
def RepeatsSourceSaid : Prop := repeatsSourceRow.holds Try.pinned (OpenSpec.ofChange repeatsSourceSpec)

/-- ITS FALSE NEIGHBOUR: 'it returns false'. Refute it at one input. -/
def repeatsSourceWrong : ChangeSpec := { name := "repeatsSource", fn := fun _ => fun
  | [d1, d2] => { results := [.lit (.bool false)], args := [d1, d2] }
  | _ => none }
def RepeatsSourceWrongFalsely : Prop := repeatsSourceRow.holds Try.pinned (OpenSpec.ofChange repeatsSourceWrong)

/-- 'dancestudiolaw26.RepeatsValid': WHATEVER THE INPUT: true; the input reads as it did. -/
def repeatsValidSpec : ChangeSpec := { name := "repeatsValid", fn := fun _ => fun
  | [d] => { results := [.lit (.bool true)], args := [d] }
  | _ => none }
def repeatsValidRow : OpenClaim := { program := "ytdilndbanhianaa", sum := "9f38ae179e2355c44ac163533421e06787a31cc38405fa272314ebb67ba36e50", func := "dancestudio/dancestudiolaw26.RepeatsValid", spec := "repeatsValid", unfollowed := true, recurses := true, apart := false }
def RepeatsValidSaid : Prop := repeatsValidRow.holds Try.pinned (OpenSpec.ofChange repeatsValidSpec)

/-- ITS FALSE NEIGHBOUR: 'it returns false'. Refute it at one input. -/
def repeatsValidWrong : ChangeSpec := { name := "repeatsValid", fn := fun _ => fun
  | [d] => { results := [.lit (.bool false)], args := [d] }
  | _ => none }
def RepeatsValidWrongFalsely : Prop := repeatsValidRow.holds Try.pinned (OpenSpec.ofChange repeatsValidWrong)

/-- 'dancestudiolaw26.RepeatsFinds': WHATEVER THE INPUT: true; the input reads as it did. -/
def repeatsFindsSpec : ChangeSpec := { name := "repeatsFinds", fn := fun _ => fun
  | [d1, d2, d3] => { results := [.lit (.bool true)], args := [d1, d2, d3] }
  | _ => none }
def repeatsFindsRow : OpenClaim := { program := "ytdilndbanhianaa", sum := "9f38ae179e2355c44ac163533421e06787a31cc38405fa272314ebb67ba36e50", func := "dancestudio/dancestudiolaw26.RepeatsFinds", spec := "repeatsFinds", unfollowed := true, recurses := true, apart := false }
def RepeatsFindsSaid : Prop := repeatsFindsRow.holds Try.pinned (OpenSpec.ofChange repeatsFindsSpec)

/-- ITS FALSE NEIGHBOUR: 'it returns false'. Refute it at one input. -/
def repeatsFindsWrong : ChangeSpec := { name := "repeatsFinds", fn := fun _ => fun
  | [d1, d2, d3] => { results := [.lit (.bool false)], args := [d1, d2, d3] }
  | _ => none }
def RepeatsFindsWrongFalsely : Prop := repeatsFindsRow.holds Try.pinned (OpenSpec.ofChange repeatsFindsWrong)

/-- 'dancestudiolaw26.RepeatsBack': WHATEVER THE INPUT: true; the input reads as it did. -/
def repeatsBackSpec : ChangeSpec := { name := "repeatsBack", fn := fun _ => fun
  | [d1, d2, d3] => { results := [.lit (.bool true)], args := [d1, d2, d3] }
  | _ => none }
def repeatsBackRow : OpenClaim := { program := "ytdilndbanhianaa", sum := "9f38ae179e2355c44ac163533421e06787a31cc38405fa272314ebb67ba36e50", func := "dancestudio/dancestudiolaw26.RepeatsBack", spec := "repeatsBack", unfollowed := true, recurses := true, apart := false }
def RepeatsBackSaid : Prop := repeatsBackRow.holds Try.pinned (OpenSpec.ofChange repeatsBackSpec)

/-- ITS FALSE NEIGHBOUR: 'it returns false'. Refute it at one input. -/
def repeatsBackWrong : ChangeSpec := { name := "repeatsBack", fn := fun _ => fun
  | [d1, d2, d3] => { results := [.lit (.bool false)], args := [d1, d2, d3] }
  | _ => none }
def RepeatsBackWrongFalsely : Prop := repeatsBackRow.holds Try.pinned (OpenSpec.ofChange repeatsBackWrong)

/-- 'dancestudiolaw26.RepeatsWhole': WHATEVER THE INPUT: true; the input reads as it did. -/
def repeatsWholeSpec : ChangeSpec := { name := "repeatsWhole", fn := fun _ => fun
  | [d1, d2] => { results := [.lit (.bool true)], args := [d1, d2] }
  | _ => none }
def repeatsWholeRow : OpenClaim := { program := "ytdilndbanhianaa", sum := "9f38ae179e2355c44ac163533421e06787a31cc38405fa272314ebb67ba36e50", func := "dancestudio/dancestudiolaw26.RepeatsWhole", spec := "repeatsWhole", unfollowed := true, recurses := true, apart := false }
def RepeatsWholeSaid : Prop := repeatsWholeRow.holds Try.pinned (OpenSpec.ofChange repeatsWholeSpec)

/-- ITS FALSE NEIGHBOUR: 'it returns false'. Refute it at one input. -/
def repeatsWholeWrong : ChangeSpec := { name := "repeatsWhole", fn := fun _ => fun
  | [d1, d2] => { results := [.lit (.bool false)], args := [d1, d2] }
  | _ => none }
def RepeatsWholeWrongFalsely : Prop := repeatsWholeRow.holds Try.pinned (OpenSpec.ofChange repeatsWholeWrong)

/- THE SECOND FORM. 'bulk': how many values and letters a reading holds, each counted each time it is reached (what is shared counts as often as it is met; a slice's spare places count too). A statement '..UptoSaid' is the law's where the arguments, and the package variables that the reading takes, are together of bulk at most 1048576: NARROWER than '..Said'. Prove '..Said' where nothing that the law and all that it calls make is longer than what came in: it says more and counts as full. Else prove '..UptoSaid'. A law counts once. -/
mutual
def uptoBulk {H : Type} : DataW H → Nat
  | .lit (.string bytes) => bytes.length + 1
  | .lit _ => 1
  | .nil => 1
  | .ptr d => uptoBulk d + 1
  | .slice elems spare => uptoBulkAll elems + uptoBulkAll spare + 1
  | .agg parts => uptoBulkAll parts + 1
  | .iface _ d => uptoBulk d + 1
  | .map entries => uptoBulkEntries entries + 1
  | .held _ => 1
def uptoBulkAll {H : Type} : List (DataW H) → Nat
  | [] => 0
  | d :: r => uptoBulk d + uptoBulkAll r
def uptoBulkEntries {H : Type} : List (Lit × DataW H) → Nat
  | [] => 0
  | x :: r => uptoBulkEntry x + uptoBulkEntries r
def uptoBulkEntry {H : Type} : Lit × DataW H → Nat
  | (.string bytes, d) => bytes.length + uptoBulk d + 1
  | (_, d) => uptoBulk d + 1
 end
def uptoSmall : (H : Type) → List (DataW H) → Bool := fun _ ds => decide (uptoBulkAll ds ≤ 1048576)
def OpenSpec.upto (s : _root_.Go.ChangeSpec) : _root_.Go.OpenSpec := { _root_.Go.OpenSpec.ofChange s with cond := some uptoSmall }

/-- 'dancestudiolaw24.StaffChecks', WHERE WHAT IT READS IS OF BULK AT MOST 1048576: true; the input reads as it did. -/
def staffChecksUptoRow : OpenClaim := { program := "ytdilndbanhianaa", sum := "9f38ae179e2355c44ac163533421e06787a31cc38405fa272314ebb67ba36e50", func := "dancestudio/dancestudiolaw24.StaffChecks", spec := "staffChecks", unfollowed := true, recurses := true, apart := false, narrowed := true }
def StaffChecksUptoSaid : Prop := staffChecksUptoRow.holds Try.pinned (OpenSpec.upto staffChecksSpec)

/-- 'dancestudiolaw24.StaffPuts', WHERE WHAT IT READS IS OF BULK AT MOST 1048576: true; the input reads as it did. -/
def staffPutsUptoRow : OpenClaim := { program := "ytdilndbanhianaa", sum := "9f38ae179e2355c44ac163533421e06787a31cc38405fa272314ebb67ba36e50", func := "dancestudio/dancestudiolaw24.StaffPuts", spec := "staffPuts", unfollowed := true, recurses := true, apart := false, narrowed := true }
def StaffPutsUptoSaid : Prop := staffPutsUptoRow.holds Try.pinned (OpenSpec.upto staffPutsSpec)

/-- 'dancestudiolaw24.StaffReads', WHERE WHAT IT READS IS OF BULK AT MOST 1048576: true; the input reads as it did. -/
def staffReadsUptoRow : OpenClaim := { program := "ytdilndbanhianaa", sum := "9f38ae179e2355c44ac163533421e06787a31cc38405fa272314ebb67ba36e50", func := "dancestudio/dancestudiolaw24.StaffReads", spec := "staffReads", unfollowed := true, recurses := true, apart := false, narrowed := true }
def StaffReadsUptoSaid : Prop := staffReadsUptoRow.holds Try.pinned (OpenSpec.upto staffReadsSpec)

/-- 'dancestudiolaw24.StaffJoins', WHERE WHAT IT READS IS OF BULK AT MOST 1048576: true; the input reads as it did. -/
def staffJoinsUptoRow : OpenClaim := { program := "ytdilndbanhianaa", sum := "9f38ae179e2355c44ac163533421e06787a31cc38405fa272314ebb67ba36e50", func := "dancestudio/dancestudiolaw24.StaffJoins", spec := "staffJoins", unfollowed := true, recurses := true, apart := false, narrowed := true }
def StaffJoinsUptoSaid : Prop := staffJoinsUptoRow.holds Try.pinned (OpenSpec.upto staffJoinsSpec)

/-- 'dancestudiolaw24.StaffParts', WHERE WHAT IT READS IS OF BULK AT MOST 1048576: true; the input reads as it did. -/
def staffPartsUptoRow : OpenClaim := { program := "ytdilndbanhianaa", sum := "9f38ae179e2355c44ac163533421e06787a31cc38405fa272314ebb67ba36e50", func := "dancestudio/dancestudiolaw24.StaffParts", spec := "staffParts", unfollowed := true, recurses := true, apart := false, narrowed := true }
def StaffPartsUptoSaid : Prop := staffPartsUptoRow.holds Try.pinned (OpenSpec.upto staffPartsSpec)

/-- 'dancestudiolaw24.StaffCuts', WHERE WHAT IT READS IS OF BULK AT MOST 1048576: true; the input reads as it did. -/
def staffCutsUptoRow : OpenClaim := { program := "ytdilndbanhianaa", sum := "9f38ae179e2355c44ac163533421e06787a31cc38405fa272314ebb67ba36e50", func := "dancestudio/dancestudiolaw24.StaffCuts", spec := "staffCuts", unfollowed := true, recurses := true, apart := false, narrowed := true }
def StaffCutsUptoSaid : Prop := staffCutsUptoRow.holds Try.pinned (OpenSpec.upto staffCutsSpec)

/-- 'dancestudiolaw24.StaffBoth', WHERE WHAT IT READS IS OF BULK AT MOST 1048576: true; the input reads as it did. -/
def staffBothUptoRow : OpenClaim := { program := "ytdilndbanhianaa", sum := "9f38ae179e2355c44ac163533421e06787a31cc38405fa272314ebb67ba36e50", func := "dancestudio/dancestudiolaw24.StaffBoth", spec := "staffBoth", unfollowed := true, recurses := true, apart := false, narrowed := true }
def StaffBothUptoSaid : Prop := staffBothUptoRow.holds Try.pinned (OpenSpec.upto staffBothSpec)

/-- 'dancestudiolaw24.StaffTakes', WHERE WHAT IT READS IS OF BULK AT MOST 1048576: true; the input reads as it did. -/
def staffTakesUptoRow : OpenClaim := { program := "ytdilndbanhianaa", sum := "9f38ae179e2355c44ac163533421e06787a31cc38405fa272314ebb67ba36e50", func := "dancestudio/dancestudiolaw24.StaffTakes", spec := "staffTakes", unfollowed := true, recurses := true, apart := false, narrowed := true }
def StaffTakesUptoSaid : Prop := staffTakesUptoRow.holds Try.pinned (OpenSpec.upto staffTakesSpec)

/-- 'dancestudiolaw24.StaffColumns', WHERE WHAT IT READS IS OF BULK AT MOST 1048576: true; the input reads as it did. -/
def staffColumnsUptoRow : OpenClaim := { program := "ytdilndbanhianaa", sum := "9f38ae179e2355c44ac163533421e06787a31cc38405fa272314ebb67ba36e50", func := "dancestudio/dancestudiolaw24.StaffColumns", spec := "staffColumns", unfollowed := true, recurses := true, apart := false, narrowed := true }
def StaffColumnsUptoSaid : Prop := staffColumnsUptoRow.holds Try.pinned (OpenSpec.upto staffColumnsSpec)

/-- 'dancestudiolaw26.RepeatsChecks', WHERE WHAT IT READS IS OF BULK AT MOST 1048576: true; the input reads as it did. -/
def repeatsChecksUptoRow : OpenClaim := { program := "ytdilndbanhianaa", sum := "9f38ae179e2355c44ac163533421e06787a31cc38405fa272314ebb67ba36e50", func := "dancestudio/dancestudiolaw26.RepeatsChecks", spec := "repeatsChecks", unfollowed := true, recurses := true, apart := false, narrowed := true }
def RepeatsChecksUptoSaid : Prop := repeatsChecksUptoRow.holds Try.pinned (OpenSpec.upto repeatsChecksSpec)

/-- 'dancestudiolaw26.RepeatsPerforms', WHERE WHAT IT READS IS OF BULK AT MOST 1048576: true; the input reads as it did. -/
def repeatsPerformsUptoRow : OpenClaim := { program := "ytdilndbanhianaa", sum := "9f38ae179e2355c44ac163533421e06787a31cc38405fa272314ebb67ba36e50", func := "dancestudio/dancestudiolaw26.RepeatsPerforms", spec := "repeatsPerforms", unfollowed := true, recurses := true, apart := false, narrowed := true }
def RepeatsPerformsUptoSaid : Prop := repeatsPerformsUptoRow.holds Try.pinned (OpenSpec.upto repeatsPerformsSpec)

/-- 'dancestudiolaw26.RepeatsSource', WHERE WHAT IT READS IS OF BULK AT MOST 1048576: true; the input reads as it did. -/
def repeatsSourceUptoRow : OpenClaim := { program := "ytdilndbanhianaa", sum := "9f38ae179e2355c44ac163533421e06787a31cc38405fa272314ebb67ba36e50", func := "dancestudio/dancestudiolaw26.RepeatsSource", spec := "repeatsSource", unfollowed := true, recurses := true, apart := false, narrowed := true }
def RepeatsSourceUptoSaid : Prop := repeatsSourceUptoRow.holds Try.pinned (OpenSpec.upto repeatsSourceSpec)

/-- 'dancestudiolaw26.RepeatsValid', WHERE WHAT IT READS IS OF BULK AT MOST 1048576: true; the input reads as it did. -/
def repeatsValidUptoRow : OpenClaim := { program := "ytdilndbanhianaa", sum := "9f38ae179e2355c44ac163533421e06787a31cc38405fa272314ebb67ba36e50", func := "dancestudio/dancestudiolaw26.RepeatsValid", spec := "repeatsValid", unfollowed := true, recurses := true, apart := false, narrowed := true }
def RepeatsValidUptoSaid : Prop := repeatsValidUptoRow.holds Try.pinned (OpenSpec.upto repeatsValidSpec)

/-- 'dancestudiolaw26.RepeatsFinds', WHERE WHAT IT READS IS OF BULK AT MOST 1048576: true; the input reads as it did. -/
def repeatsFindsUptoRow : OpenClaim := { program := "ytdilndbanhianaa", sum := "9f38ae179e2355c44ac163533421e06787a31cc38405fa272314ebb67ba36e50", func := "dancestudio/dancestudiolaw26.RepeatsFinds", spec := "repeatsFinds", unfollowed := true, recurses := true, apart := false, narrowed := true }
def RepeatsFindsUptoSaid : Prop := repeatsFindsUptoRow.holds Try.pinned (OpenSpec.upto repeatsFindsSpec)

/-- 'dancestudiolaw26.RepeatsBack', WHERE WHAT IT READS IS OF BULK AT MOST 1048576: true; the input reads as it did. -/
def repeatsBackUptoRow : OpenClaim := { program := "ytdilndbanhianaa", sum := "9f38ae179e2355c44ac163533421e06787a31cc38405fa272314ebb67ba36e50", func := "dancestudio/dancestudiolaw26.RepeatsBack", spec := "repeatsBack", unfollowed := true, recurses := true, apart := false, narrowed := true }
def RepeatsBackUptoSaid : Prop := repeatsBackUptoRow.holds Try.pinned (OpenSpec.upto repeatsBackSpec)

/-- 'dancestudiolaw26.RepeatsWhole', WHERE WHAT IT READS IS OF BULK AT MOST 1048576: true; the input reads as it did. -/
def repeatsWholeUptoRow : OpenClaim := { program := "ytdilndbanhianaa", sum := "9f38ae179e2355c44ac163533421e06787a31cc38405fa272314ebb67ba36e50", func := "dancestudio/dancestudiolaw26.RepeatsWhole", spec := "repeatsWhole", unfollowed := true, recurses := true, apart := false, narrowed := true }
def RepeatsWholeUptoSaid : Prop := repeatsWholeUptoRow.holds Try.pinned (OpenSpec.upto repeatsWholeSpec)

end Rows
end Go.Proofs.Ytdilndbanhianaa

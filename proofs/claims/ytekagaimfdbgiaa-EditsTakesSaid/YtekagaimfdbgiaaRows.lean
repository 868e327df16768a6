/-
  No cell of these rows narrows 'for every input' (looked for: loops, veiled, ifaces, maps, wideKeys, modest, calm, conditions, laid).
  DERIVED. THE GIVEN ROWS OF THIS SEAT. 8 by the template 'for every input the law returns true; each argument reads behind the call as it read before'; 0 by the template 'total and deterministic' (their statements: YtekagaimfdbgiaaTotals.lean).
  GIVEN WITH THE SEED: the statements are not yours to turn. If you find one false, say at which input.
  Laid BY PROGRAM, IN A SANDBOX (cutbox-rows.mjs): the forced cells as the released guide's own fill.sh prints them over the translation 5ed5bb8834f26f54… (all of the seat's roots in one cut). By AI agents, Wed Nov 11 2026. No macro, syntax, notation, axiom, sorry.
-/
import Derived.Test.YtekagaimfdbgiaaChecked
import GoSem.Claim
import GoSem.ClaimJoined
import GoSem.ClaimMapViews
import Derived.JoinedTies
import Derived.KernelRfl
namespace Go.Proofs.Ytekagaimfdbgiaa
/- THE CELL 'sum', in the pinned program and in every row, IS THE sha256 OF THE DUMP (.gsa) THAT YtekagaimfdbgiaaProg.lean LOADS. Nothing in Lean hashes anything: it is a label: what it is worth is what the hold of that sum in a sandbox is worth. -/
noncomputable def Try.pinned : Pinned := { name := "ytekagaimfdbgiaa", sum := "5ed5bb8834f26f5435b355223439f8adc3343608b921039324a7faf7348c1565", checked := Try.checked }
namespace Rows
def none {H : Type} : Left H := { results := [], args := [] }

/-- 'dancestudiolaw56.EditsChecks': WHATEVER THE INPUT: true; the input reads as it did. -/
def editsChecksSpec : ChangeSpec := { name := "editsChecks", fn := fun _ => fun
  | [d] => { results := [.lit (.bool true)], args := [d] }
  | _ => none }
def editsChecksRow : OpenClaim := { program := "ytekagaimfdbgiaa", sum := "5ed5bb8834f26f5435b355223439f8adc3343608b921039324a7faf7348c1565", func := "dancestudio/dancestudiolaw56.EditsChecks", spec := "editsChecks", apart := false }
def EditsChecksSaid : Prop := editsChecksRow.holds Try.pinned (OpenSpec.ofChange editsChecksSpec)

/-- ITS FALSE NEIGHBOUR: 'it returns false'. Refute it at one input. -/
def editsChecksWrong : ChangeSpec := { name := "editsChecks", fn := fun _ => fun
  | [d] => { results := [.lit (.bool false)], args := [d] }
  | _ => none }
def EditsChecksWrongFalsely : Prop := editsChecksRow.holds Try.pinned (OpenSpec.ofChange editsChecksWrong)

/-- 'dancestudiolaw56.EditsTakes': WHATEVER THE INPUT: true; the input reads as it did. -/
def editsTakesSpec : ChangeSpec := { name := "editsTakes", fn := fun _ => fun
  | [d] => { results := [.lit (.bool true)], args := [d] }
  | _ => none }
def editsTakesRow : OpenClaim := { program := "ytekagaimfdbgiaa", sum := "5ed5bb8834f26f5435b355223439f8adc3343608b921039324a7faf7348c1565", func := "dancestudio/dancestudiolaw56.EditsTakes", spec := "editsTakes", apart := false }
def EditsTakesSaid : Prop := editsTakesRow.holds Try.pinned (OpenSpec.ofChange editsTakesSpec)

/-- ITS FALSE NEIGHBOUR: 'it returns false'. Refute it at one input. -/
def editsTakesWrong : ChangeSpec := { name := "editsTakes", fn := fun _ => fun
  | [d] => { results := [.lit (.bool false)], args := [d] }
  | _ => none }
def EditsTakesWrongFalsely : Prop := editsTakesRow.holds Try.pinned (OpenSpec.ofChange editsTakesWrong)

/-- 'dancestudiolaw56.EditsNexts': WHATEVER THE INPUT: true; the input reads as it did. -/
def editsNextsSpec : ChangeSpec := { name := "editsNexts", fn := fun _ => fun
  | [d1, d2] => { results := [.lit (.bool true)], args := [d1, d2] }
  | _ => none }
def editsNextsRow : OpenClaim := { program := "ytekagaimfdbgiaa", sum := "5ed5bb8834f26f5435b355223439f8adc3343608b921039324a7faf7348c1565", func := "dancestudio/dancestudiolaw56.EditsNexts", spec := "editsNexts", apart := false }
def EditsNextsSaid : Prop := editsNextsRow.holds Try.pinned (OpenSpec.ofChange editsNextsSpec)

/-- ITS FALSE NEIGHBOUR: 'it returns false'. Refute it at one input. -/
def editsNextsWrong : ChangeSpec := { name := "editsNexts", fn := fun _ => fun
  | [d1, d2] => { results := [.lit (.bool false)], args := [d1, d2] }
  | _ => none }
def EditsNextsWrongFalsely : Prop := editsNextsRow.holds Try.pinned (OpenSpec.ofChange editsNextsWrong)

/-- 'dancestudiolaw56.EditsRoundTrip': WHATEVER THE INPUT: true; the input reads as it did. -/
def editsRoundTripSpec : ChangeSpec := { name := "editsRoundTrip", fn := fun _ => fun
  | [d1, d2] => { results := [.lit (.bool true)], args := [d1, d2] }
  | _ => none }
def editsRoundTripRow : OpenClaim := { program := "ytekagaimfdbgiaa", sum := "5ed5bb8834f26f5435b355223439f8adc3343608b921039324a7faf7348c1565", func := "dancestudio/dancestudiolaw56.EditsRoundTrip", spec := "editsRoundTrip", apart := false }
def EditsRoundTripSaid : Prop := editsRoundTripRow.holds Try.pinned (OpenSpec.ofChange editsRoundTripSpec)

/-- ITS FALSE NEIGHBOUR: 'it returns false'. Refute it at one input. -/
def editsRoundTripWrong : ChangeSpec := { name := "editsRoundTrip", fn := fun _ => fun
  | [d1, d2] => { results := [.lit (.bool false)], args := [d1, d2] }
  | _ => none }
def EditsRoundTripWrongFalsely : Prop := editsRoundTripRow.holds Try.pinned (OpenSpec.ofChange editsRoundTripWrong)

/-- 'dancestudiolaw56.EditsPrefixes': WHATEVER THE INPUT: true; the input reads as it did. -/
def editsPrefixesSpec : ChangeSpec := { name := "editsPrefixes", fn := fun _ => fun
  | [d1, d2, d3] => { results := [.lit (.bool true)], args := [d1, d2, d3] }
  | _ => none }
def editsPrefixesRow : OpenClaim := { program := "ytekagaimfdbgiaa", sum := "5ed5bb8834f26f5435b355223439f8adc3343608b921039324a7faf7348c1565", func := "dancestudio/dancestudiolaw56.EditsPrefixes", spec := "editsPrefixes", apart := false }
def EditsPrefixesSaid : Prop := editsPrefixesRow.holds Try.pinned (OpenSpec.ofChange editsPrefixesSpec)

/-- ITS FALSE NEIGHBOUR: 'it returns false'. Refute it at one input. -/
def editsPrefixesWrong : ChangeSpec := { name := "editsPrefixes", fn := fun _ => fun
  | [d1, d2, d3] => { results := [.lit (.bool false)], args := [d1, d2, d3] }
  | _ => none }
def EditsPrefixesWrongFalsely : Prop := editsPrefixesRow.holds Try.pinned (OpenSpec.ofChange editsPrefixesWrong)

/-- 'dancestudiolaw56.EditsOrder': WHATEVER THE INPUT: true; the input reads as it did. -/
def editsOrderSpec : ChangeSpec := { name := "editsOrder", fn := fun _ => fun
  | [d1, d2, d3] => { results := [.lit (.bool true)], args := [d1, d2, d3] }
  | _ => none }
def editsOrderRow : OpenClaim := { program := "ytekagaimfdbgiaa", sum := "5ed5bb8834f26f5435b355223439f8adc3343608b921039324a7faf7348c1565", func := "dancestudio/dancestudiolaw56.EditsOrder", spec := "editsOrder", apart := false }
def EditsOrderSaid : Prop := editsOrderRow.holds Try.pinned (OpenSpec.ofChange editsOrderSpec)

/-- ITS FALSE NEIGHBOUR: 'it returns false'. Refute it at one input. -/
def editsOrderWrong : ChangeSpec := { name := "editsOrder", fn := fun _ => fun
  | [d1, d2, d3] => { results := [.lit (.bool false)], args := [d1, d2, d3] }
  | _ => none }
def EditsOrderWrongFalsely : Prop := editsOrderRow.holds Try.pinned (OpenSpec.ofChange editsOrderWrong)

/-- 'dancestudiolaw56.EditsAfter': WHATEVER THE INPUT: true; the input reads as it did. -/
def editsAfterSpec : ChangeSpec := { name := "editsAfter", fn := fun _ => fun
  | [d1, d2, d3] => { results := [.lit (.bool true)], args := [d1, d2, d3] }
  | _ => none }
def editsAfterRow : OpenClaim := { program := "ytekagaimfdbgiaa", sum := "5ed5bb8834f26f5435b355223439f8adc3343608b921039324a7faf7348c1565", func := "dancestudio/dancestudiolaw56.EditsAfter", spec := "editsAfter", apart := false }
def EditsAfterSaid : Prop := editsAfterRow.holds Try.pinned (OpenSpec.ofChange editsAfterSpec)

/-- ITS FALSE NEIGHBOUR: 'it returns false'. Refute it at one input. -/
def editsAfterWrong : ChangeSpec := { name := "editsAfter", fn := fun _ => fun
  | [d1, d2, d3] => { results := [.lit (.bool false)], args := [d1, d2, d3] }
  | _ => none }
def EditsAfterWrongFalsely : Prop := editsAfterRow.holds Try.pinned (OpenSpec.ofChange editsAfterWrong)

/-- 'dancestudiolaw56.EditsApart': WHATEVER THE INPUT: true; the input reads as it did. -/
def editsApartSpec : ChangeSpec := { name := "editsApart", fn := fun _ => fun
  | [d1, d2] => { results := [.lit (.bool true)], args := [d1, d2] }
  | _ => none }
def editsApartRow : OpenClaim := { program := "ytekagaimfdbgiaa", sum := "5ed5bb8834f26f5435b355223439f8adc3343608b921039324a7faf7348c1565", func := "dancestudio/dancestudiolaw56.EditsApart", spec := "editsApart", apart := false }
def EditsApartSaid : Prop := editsApartRow.holds Try.pinned (OpenSpec.ofChange editsApartSpec)

/-- ITS FALSE NEIGHBOUR: 'it returns false'. Refute it at one input. -/
def editsApartWrong : ChangeSpec := { name := "editsApart", fn := fun _ => fun
  | [d1, d2] => { results := [.lit (.bool false)], args := [d1, d2] }
  | _ => none }
def EditsApartWrongFalsely : Prop := editsApartRow.holds Try.pinned (OpenSpec.ofChange editsApartWrong)

/- THE SECOND FORM. 'bulk': how many values and letters a reading holds, each counted each time it is reached (what is shared counts as often as it is met; a slice's spare places count too). A statement '..UptoSaid' is the law's where the arguments, and the package variables that the reading takes, are together of bulk at most 1048576: NARROWER than '..Said'. Prove '..Said' where nothing that the law and all that it calls make is longer than what came in: it says more and counts as full. Else prove '..UptoSaid'. A law counts once. -/
mutual
def uptoBulk {H : Type} : DataW H → Nat
  | .lit (.string bytes) => bytes.length + 1
  | .lit _ => 1
  | .nil => 1
  | .ptr d => uptoBulk d + 1
  | .slice elems spare => uptoBulkAll elems + uptoBulkAll spare + 1
  | .agg parts => uptoBulkAll parts + 1
  | .iface _ d => uptoBulk d + 1
  | .map entries => uptoBulkEntries entries + 1
  | .held _ => 1
def uptoBulkAll {H : Type} : List (DataW H) → Nat
  | [] => 0
  | d :: r => uptoBulk d + uptoBulkAll r
def uptoBulkEntries {H : Type} : List (Lit × DataW H) → Nat
  | [] => 0
  | x :: r => uptoBulkEntry x + uptoBulkEntries r
def uptoBulkEntry {H : Type} : Lit × DataW H → Nat
  | (.string bytes, d) => bytes.length + uptoBulk d + 1
  | (_, d) => uptoBulk d + 1
 end
def uptoSmall : (H : Type) → List (DataW H) → Bool := fun _ ds => decide (uptoBulkAll ds ≤ 1048576)
def OpenSpec.upto (s : _root_.Go.ChangeSpec) : _root_.Go.OpenSpec := { _root_.Go.OpenSpec.ofChange s with cond := some uptoSmall }

/-- 'dancestudiolaw56.EditsChecks', WHERE WHAT IT READS IS OF BULK AT MOST 1048576: true; the input reads as it did. -/
def editsChecksUptoRow : OpenClaim := { program := "ytekagaimfdbgiaa", sum := "5ed5bb8834f26f5435b355223439f8adc3343608b921039324a7faf7348c1565", func := "dancestudio/dancestudiolaw56.EditsChecks", spec := "editsChecks", apart := false, narrowed := true }
def EditsChecksUptoSaid : Prop := editsChecksUptoRow.holds Try.pinned (OpenSpec.upto editsChecksSpec)

/-- 'dancestudiolaw56.EditsTakes', WHERE WHAT IT READS IS OF BULK AT MOST 1048576: true; the input reads as it did. -/
def editsTakesUptoRow : OpenClaim := { program := "ytekagaimfdbgiaa", sum := "5ed5bb8834f26f5435b355223439f8adc3343608b921039324a7faf7348c1565", func := "dancestudio/dancestudiolaw56.EditsTakes", spec := "editsTakes", apart := false, narrowed := true }
def EditsTakesUptoSaid : Prop := editsTakesUptoRow.holds Try.pinned (OpenSpec.upto editsTakesSpec)

/-- 'dancestudiolaw56.EditsNexts', WHERE WHAT IT READS IS OF BULK AT MOST 1048576: true; the input reads as it did. -/
def editsNextsUptoRow : OpenClaim := { program := "ytekagaimfdbgiaa", sum := "5ed5bb8834f26f5435b355223439f8adc3343608b921039324a7faf7348c1565", func := "dancestudio/dancestudiolaw56.EditsNexts", spec := "editsNexts", apart := false, narrowed := true }
def EditsNextsUptoSaid : Prop := editsNextsUptoRow.holds Try.pinned (OpenSpec.upto editsNextsSpec)

/-- 'dancestudiolaw56.EditsRoundTrip', WHERE WHAT IT READS IS OF BULK AT MOST 1048576: true; the input reads as it did. -/
def editsRoundTripUptoRow : OpenClaim := { program := "ytekagaimfdbgiaa", sum := "5ed5bb8834f26f5435b355223439f8adc3343608b921039324a7faf7348c1565", func := "dancestudio/dancestudiolaw56.EditsRoundTrip", spec := "editsRoundTrip", apart := false, narrowed := true }
def EditsRoundTripUptoSaid : Prop := editsRoundTripUptoRow.holds Try.pinned (OpenSpec.upto editsRoundTripSpec)

/-- 'dancestudiolaw56.EditsPrefixes', WHERE WHAT IT READS IS OF BULK AT MOST 1048576: true; the input reads as it did. -/
def editsPrefixesUptoRow : OpenClaim := { program := "ytekagaimfdbgiaa", sum := "5ed5bb8834f26f5435b355223439f8adc3343608b921039324a7faf7348c1565", func := "dancestudio/dancestudiolaw56.EditsPrefixes", spec := "editsPrefixes", apart := false, narrowed := true }
def EditsPrefixesUptoSaid : Prop := editsPrefixesUptoRow.holds Try.pinned (OpenSpec.upto editsPrefixesSpec)

/-- 'dancestudiolaw56.EditsOrder', WHERE WHAT IT READS IS OF BULK AT MOST 1048576: true; the input reads as it did. -/
def editsOrderUptoRow : OpenClaim := { program := "ytekagaimfdbgiaa", sum := "5ed5bb8834f26f5435b355223439f8adc3343608b921039324a7faf7348c1565", func := "dancestudio/dancestudiolaw56.EditsOrder", spec := "editsOrder", apart := false, narrowed := true }
def EditsOrderUptoSaid : Prop := editsOrderUptoRow.holds Try.pinned (OpenSpec.upto editsOrderSpec)

/-- 'dancestudiolaw56.EditsAfter', WHERE WHAT IT READS IS OF BULK AT MOST 1048576: true; the input reads as it did. -/
def editsAfterUptoRow : OpenClaim := { program := "ytekagaimfdbgiaa", sum := "5ed5bb8834f26f5435b355223439f8adc3343608b921039324a7faf7348c1565", func := "dancestudio/dancestudiolaw56.EditsAfter", spec := "editsAfter", apart := false, narrowed := true }
def EditsAfterUptoSaid : Prop := editsAfterUptoRow.holds Try.pinned (OpenSpec.upto editsAfterSpec)

/-- 'dancestudiolaw56.EditsApart', WHERE WHAT IT READS IS OF BULK AT MOST 1048576: true; the input reads as it did. -/
def editsApartUptoRow : OpenClaim := { program := "ytekagaimfdbgiaa", sum := "5ed5bb8834f26f5435b355223439f8adc3343608b921039324a7faf7348c1565", func := "dancestudio/dancestudiolaw56.EditsApart", spec := "editsApart", apart := false, narrowed := true }
def EditsApartUptoSaid : Prop := editsApartUptoRow.holds Try.pinned (OpenSpec.upto editsApartSpec)

end Rows
end Go.Proofs.Ytekagaimfdbgiaa

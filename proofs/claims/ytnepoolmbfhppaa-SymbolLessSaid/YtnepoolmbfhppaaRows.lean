/-
  No cell of these rows narrows 'for every input' (looked for: loops, veiled, ifaces, maps, wideKeys, modest, calm, conditions, laid).
  DERIVED. THE GIVEN ROWS OF THIS SEAT. 8 by the template 'for every input the law returns true; each argument reads behind the call as it read before'; 0 by the template 'total and deterministic' (their statements: YtnepoolmbfhppaaTotals.lean).
  GIVEN WITH THE SEED: the statements are not yours to turn. If you find one false, say at which input.
  Laid BY PROGRAM, IN A SANDBOX (cutbox-rows.mjs): the forced cells as the released guide's own fill.sh prints them over the translation 8dfd7ee853804fc9… (all of the seat's roots in one cut). By AI agents, Wed Nov 11 2026. No macro, syntax, notation, axiom, sorry.
-/
import Derived.Test.YtnepoolmbfhppaaChecked
import GoSem.Claim
import GoSem.ClaimJoined
import GoSem.ClaimMapViews
import Derived.JoinedTies
import Derived.KernelRfl
namespace Go.Proofs.Ytnepoolmbfhppaa
/- THE CELL 'sum', in the pinned program and in every row, IS THE sha256 OF THE DUMP (.gsa) THAT YtnepoolmbfhppaaProg.lean LOADS. Nothing in Lean hashes anything: it is a label: what it is worth is what the hold of that sum in a sandbox is worth. -/
noncomputable def Try.pinned : Pinned := { name := "ytnepoolmbfhppaa", sum := "8dfd7ee853804fc9f582b75ea615a7a071dea5aedca3c4b9ad78ca482e69686f", checked := Try.checked }
namespace Rows
def none {H : Type} : Left H := { results := [], args := [] }

/-- 'dancestudiolaw23.SymbolCheck': WHATEVER THE INPUT: true; the input reads as it did. -/
def symbolCheckSpec : ChangeSpec := { name := "symbolCheck", fn := fun _ => fun
  | [d] => { results := [.lit (.bool true)], args := [d] }
  | _ => none }
def symbolCheckRow : OpenClaim := { program := "ytnepoolmbfhppaa", sum := "8dfd7ee853804fc9f582b75ea615a7a071dea5aedca3c4b9ad78ca482e69686f", func := "dancestudio/dancestudiolaw23.SymbolCheck", spec := "symbolCheck", apart := false }
def SymbolCheckSaid : Prop := symbolCheckRow.holds Try.pinned (OpenSpec.ofChange symbolCheckSpec)

/-- ITS FALSE NEIGHBOUR: 'it returns false'. Refute it at one input. -/
def symbolCheckWrong : ChangeSpec := { name := "symbolCheck", fn := fun _ => fun
  | [d] => { results := [.lit (.bool false)], args := [d] }
  | _ => none }
def SymbolCheckWrongFalsely : Prop := symbolCheckRow.holds Try.pinned (OpenSpec.ofChange symbolCheckWrong)

/-- 'dancestudiolaw23.SymbolLess': WHATEVER THE INPUT: true; the input reads as it did. -/
def symbolLessSpec : ChangeSpec := { name := "symbolLess", fn := fun _ => fun
  | [d1, d2, d3] => { results := [.lit (.bool true)], args := [d1, d2, d3] }
  | _ => none }
def symbolLessRow : OpenClaim := { program := "ytnepoolmbfhppaa", sum := "8dfd7ee853804fc9f582b75ea615a7a071dea5aedca3c4b9ad78ca482e69686f", func := "dancestudio/dancestudiolaw23.SymbolLess", spec := "symbolLess", apart := false }
def SymbolLessSaid : Prop := symbolLessRow.holds Try.pinned (OpenSpec.ofChange symbolLessSpec)

/-- ITS FALSE NEIGHBOUR: 'it returns false'. Refute it at one input. -/
def symbolLessWrong : ChangeSpec := { name := "symbolLess", fn := fun _ => fun
  | [d1, d2, d3] => { results := [.lit (.bool false)], args := [d1, d2, d3] }
  | _ => none }
def SymbolLessWrongFalsely : Prop := symbolLessRow.holds Try.pinned (OpenSpec.ofChange symbolLessWrong)

/-- 'dancestudiolaw23.SymbolMirror': WHATEVER THE INPUT: true; the input reads as it did. -/
def symbolMirrorSpec : ChangeSpec := { name := "symbolMirror", fn := fun _ => fun
  | [d] => { results := [.lit (.bool true)], args := [d] }
  | _ => none }
def symbolMirrorRow : OpenClaim := { program := "ytnepoolmbfhppaa", sum := "8dfd7ee853804fc9f582b75ea615a7a071dea5aedca3c4b9ad78ca482e69686f", func := "dancestudio/dancestudiolaw23.SymbolMirror", spec := "symbolMirror", apart := false }
def SymbolMirrorSaid : Prop := symbolMirrorRow.holds Try.pinned (OpenSpec.ofChange symbolMirrorSpec)

/-- ITS FALSE NEIGHBOUR: 'it returns false'. Refute it at one input. -/
def symbolMirrorWrong : ChangeSpec := { name := "symbolMirror", fn := fun _ => fun
  | [d] => { results := [.lit (.bool false)], args := [d] }
  | _ => none }
def SymbolMirrorWrongFalsely : Prop := symbolMirrorRow.holds Try.pinned (OpenSpec.ofChange symbolMirrorWrong)

/-- 'dancestudiolaw23.SymbolTwice': WHATEVER THE INPUT: true; the input reads as it did. -/
def symbolTwiceSpec : ChangeSpec := { name := "symbolTwice", fn := fun _ => fun
  | [d] => { results := [.lit (.bool true)], args := [d] }
  | _ => none }
def symbolTwiceRow : OpenClaim := { program := "ytnepoolmbfhppaa", sum := "8dfd7ee853804fc9f582b75ea615a7a071dea5aedca3c4b9ad78ca482e69686f", func := "dancestudio/dancestudiolaw23.SymbolTwice", spec := "symbolTwice", apart := false }
def SymbolTwiceSaid : Prop := symbolTwiceRow.holds Try.pinned (OpenSpec.ofChange symbolTwiceSpec)

/-- ITS FALSE NEIGHBOUR: 'it returns false'. Refute it at one input. -/
def symbolTwiceWrong : ChangeSpec := { name := "symbolTwice", fn := fun _ => fun
  | [d] => { results := [.lit (.bool false)], args := [d] }
  | _ => none }
def SymbolTwiceWrongFalsely : Prop := symbolTwiceRow.holds Try.pinned (OpenSpec.ofChange symbolTwiceWrong)

/-- 'dancestudiolaw23.SymbolCode': WHATEVER THE INPUT: true; the input reads as it did. -/
def symbolCodeSpec : ChangeSpec := { name := "symbolCode", fn := fun _ => fun
  | [d1, d2, d3, d4, d5] => { results := [.lit (.bool true)], args := [d1, d2, d3, d4, d5] }
  | _ => none }
def symbolCodeRow : OpenClaim := { program := "ytnepoolmbfhppaa", sum := "8dfd7ee853804fc9f582b75ea615a7a071dea5aedca3c4b9ad78ca482e69686f", func := "dancestudio/dancestudiolaw23.SymbolCode", spec := "symbolCode", apart := false }
def SymbolCodeSaid : Prop := symbolCodeRow.holds Try.pinned (OpenSpec.ofChange symbolCodeSpec)

/-- ITS FALSE NEIGHBOUR: 'it returns false'. Refute it at one input. -/
def symbolCodeWrong : ChangeSpec := { name := "symbolCode", fn := fun _ => fun
  | [d1, d2, d3, d4, d5] => { results := [.lit (.bool false)], args := [d1, d2, d3, d4, d5] }
  | _ => none }
def SymbolCodeWrongFalsely : Prop := symbolCodeRow.holds Try.pinned (OpenSpec.ofChange symbolCodeWrong)

/-- 'dancestudiolaw23.SymbolDecode': WHATEVER THE INPUT: true; the input reads as it did. -/
def symbolDecodeSpec : ChangeSpec := { name := "symbolDecode", fn := fun _ => fun
  | [d1, d2, d3, d4] => { results := [.lit (.bool true)], args := [d1, d2, d3, d4] }
  | _ => none }
def symbolDecodeRow : OpenClaim := { program := "ytnepoolmbfhppaa", sum := "8dfd7ee853804fc9f582b75ea615a7a071dea5aedca3c4b9ad78ca482e69686f", func := "dancestudio/dancestudiolaw23.SymbolDecode", spec := "symbolDecode", apart := false }
def SymbolDecodeSaid : Prop := symbolDecodeRow.holds Try.pinned (OpenSpec.ofChange symbolDecodeSpec)

/-- ITS FALSE NEIGHBOUR: 'it returns false'. Refute it at one input. -/
def symbolDecodeWrong : ChangeSpec := { name := "symbolDecode", fn := fun _ => fun
  | [d1, d2, d3, d4] => { results := [.lit (.bool false)], args := [d1, d2, d3, d4] }
  | _ => none }
def SymbolDecodeWrongFalsely : Prop := symbolDecodeRow.holds Try.pinned (OpenSpec.ofChange symbolDecodeWrong)

/-- 'dancestudiolaw23.SymbolTarget': WHATEVER THE INPUT: true; the input reads as it did. -/
def symbolTargetSpec : ChangeSpec := { name := "symbolTarget", fn := fun _ => fun
  | [d] => { results := [.lit (.bool true)], args := [d] }
  | _ => none }
def symbolTargetRow : OpenClaim := { program := "ytnepoolmbfhppaa", sum := "8dfd7ee853804fc9f582b75ea615a7a071dea5aedca3c4b9ad78ca482e69686f", func := "dancestudio/dancestudiolaw23.SymbolTarget", spec := "symbolTarget", apart := false }
def SymbolTargetSaid : Prop := symbolTargetRow.holds Try.pinned (OpenSpec.ofChange symbolTargetSpec)

/-- ITS FALSE NEIGHBOUR: 'it returns false'. Refute it at one input. -/
def symbolTargetWrong : ChangeSpec := { name := "symbolTarget", fn := fun _ => fun
  | [d] => { results := [.lit (.bool false)], args := [d] }
  | _ => none }
def SymbolTargetWrongFalsely : Prop := symbolTargetRow.holds Try.pinned (OpenSpec.ofChange symbolTargetWrong)

/-- 'dancestudiolaw23.SymbolApart': WHATEVER THE INPUT: true; the input reads as it did. -/
def symbolApartSpec : ChangeSpec := { name := "symbolApart", fn := fun _ => fun
  | [d1, d2] => { results := [.lit (.bool true)], args := [d1, d2] }
  | _ => none }
def symbolApartRow : OpenClaim := { program := "ytnepoolmbfhppaa", sum := "8dfd7ee853804fc9f582b75ea615a7a071dea5aedca3c4b9ad78ca482e69686f", func := "dancestudio/dancestudiolaw23.SymbolApart", spec := "symbolApart", apart := false }
def SymbolApartSaid : Prop := symbolApartRow.holds Try.pinned (OpenSpec.ofChange symbolApartSpec)

/-- ITS FALSE NEIGHBOUR: 'it returns false'. Refute it at one input. -/
def symbolApartWrong : ChangeSpec := { name := "symbolApart", fn := fun _ => fun
  | [d1, d2] => { results := [.lit (.bool false)], args := [d1, d2] }
  | _ => none }
def SymbolApartWrongFalsely : Prop := symbolApartRow.holds Try.pinned (OpenSpec.ofChange symbolApartWrong)

/- THE SECOND FORM. 'bulk': how many values and letters a reading holds, each counted each time it is reached (what is shared counts as often as it is met; a slice's spare places count too). A statement '..UptoSaid' is the law's where the arguments, and the package variables that the reading takes, are together of bulk at most 1048576: NARROWER than '..Said'. Prove '..Said' where nothing that the law and all that it calls make is longer than what came in: it says more and counts as full. Else prove '..UptoSaid'. A law counts once. -/
mutual
def uptoBulk {H : Type} : DataW H → Nat
  | .lit (.string bytes) => bytes.length + 1
  | .lit _ => 1
  | .nil => 1
  | .ptr d => uptoBulk d + 1
  | .slice elems spare => uptoBulkAll elems + uptoBulkAll spare + 1
  | .agg parts => uptoBulkAll parts + 1
  | .iface _ d => uptoBulk d + 1
  | .map entries => uptoBulkEntries entries + 1
  | .held _ => 1
def uptoBulkAll {H : Type} : List (DataW H) → Nat
  | [] => 0
  | d :: r => uptoBulk d + uptoBulkAll r
def uptoBulkEntries {H : Type} : List (Lit × DataW H) → Nat
  | [] => 0
  | x :: r => uptoBulkEntry x + uptoBulkEntries r
def uptoBulkEntry {H : Type} : Lit × DataW H → Nat
  | (.string bytes, d) => bytes.length + uptoBulk d + 1
  | (_, d) => uptoBulk d + 1
 end
def uptoSmall : (H : Type) → List (DataW H) → Bool := fun _ ds => decide (uptoBulkAll ds ≤ 1048576)
def OpenSpec.upto (s : _root_.Go.ChangeSpec) : _root_.Go.OpenSpec := { _root_.Go.OpenSpec.ofChange s with cond := some uptoSmall }

/-- 'dancestudiolaw23.SymbolCheck', WHERE WHAT IT READS IS OF BULK AT MOST 1048576: true; the input reads as it did. -/
def symbolCheckUptoRow : OpenClaim := { program := "ytnepoolmbfhppaa", sum := "8dfd7ee853804fc9f582b75ea615a7a071dea5aedca3c4b9ad78ca482e69686f", func := "dancestudio/dancestudiolaw23.SymbolCheck", spec := "symbolCheck", apart := false, narrowed := true }
def SymbolCheckUptoSaid : Prop := symbolCheckUptoRow.holds Try.pinned (OpenSpec.upto symbolCheckSpec)

/-- 'dancestudiolaw23.SymbolLess', WHERE WHAT IT READS IS OF BULK AT MOST 1048576: true; the input reads as it did. -/
def symbolLessUptoRow : OpenClaim := { program := "ytnepoolmbfhppaa", sum := "8dfd7ee853804fc9f582b75ea615a7a071dea5aedca3c4b9ad78ca482e69686f", func := "dancestudio/dancestudiolaw23.SymbolLess", spec := "symbolLess", apart := false, narrowed := true }
def SymbolLessUptoSaid : Prop := symbolLessUptoRow.holds Try.pinned (OpenSpec.upto symbolLessSpec)

/-- 'dancestudiolaw23.SymbolMirror', WHERE WHAT IT READS IS OF BULK AT MOST 1048576: true; the input reads as it did. -/
def symbolMirrorUptoRow : OpenClaim := { program := "ytnepoolmbfhppaa", sum := "8dfd7ee853804fc9f582b75ea615a7a071dea5aedca3c4b9ad78ca482e69686f", func := "dancestudio/dancestudiolaw23.SymbolMirror", spec := "symbolMirror", apart := false, narrowed := true }
def SymbolMirrorUptoSaid : Prop := symbolMirrorUptoRow.holds Try.pinned (OpenSpec.upto symbolMirrorSpec)

/-- 'dancestudiolaw23.SymbolTwice', WHERE WHAT IT READS IS OF BULK AT MOST 1048576: true; the input reads as it did. -/
def symbolTwiceUptoRow : OpenClaim := { program := "ytnepoolmbfhppaa", sum := "8dfd7ee853804fc9f582b75ea615a7a071dea5aedca3c4b9ad78ca482e69686f", func := "dancestudio/dancestudiolaw23.SymbolTwice", spec := "symbolTwice", apart := false, narrowed := true }
def SymbolTwiceUptoSaid : Prop := symbolTwiceUptoRow.holds Try.pinned (OpenSpec.upto symbolTwiceSpec)

/-- 'dancestudiolaw23.SymbolCode', WHERE WHAT IT READS IS OF BULK AT MOST 1048576: true; the input reads as it did. -/
def symbolCodeUptoRow : OpenClaim := { program := "ytnepoolmbfhppaa", sum := "8dfd7ee853804fc9f582b75ea615a7a071dea5aedca3c4b9ad78ca482e69686f", func := "dancestudio/dancestudiolaw23.SymbolCode", spec := "symbolCode", apart := false, narrowed := true }
def SymbolCodeUptoSaid : Prop := symbolCodeUptoRow.holds Try.pinned (OpenSpec.upto symbolCodeSpec)

/-- 'dancestudiolaw23.SymbolDecode', WHERE WHAT IT READS IS OF BULK AT MOST 1048576: true; the input reads as it did. -/
def symbolDecodeUptoRow : OpenClaim := { program := "ytnepoolmbfhppaa", sum := "8dfd7ee853804fc9f582b75ea615a7a071dea5aedca3c4b9ad78ca482e69686f", func := "dancestudio/dancestudiolaw23.SymbolDecode", spec := "symbolDecode", apart := false, narrowed := true }
def SymbolDecodeUptoSaid : Prop := symbolDecodeUptoRow.holds Try.pinned (OpenSpec.upto symbolDecodeSpec)

/-- 'dancestudiolaw23.SymbolTarget', WHERE WHAT IT READS IS OF BULK AT MOST 1048576: true; the input reads as it did. -/
def symbolTargetUptoRow : OpenClaim := { program := "ytnepoolmbfhppaa", sum := "8dfd7ee853804fc9f582b75ea615a7a071dea5aedca3c4b9ad78ca482e69686f", func := "dancestudio/dancestudiolaw23.SymbolTarget", spec := "symbolTarget", apart := false, narrowed := true }
def SymbolTargetUptoSaid : Prop := symbolTargetUptoRow.holds Try.pinned (OpenSpec.upto symbolTargetSpec)

/-- 'dancestudiolaw23.SymbolApart', WHERE WHAT IT READS IS OF BULK AT MOST 1048576: true; the input reads as it did. -/
def symbolApartUptoRow : OpenClaim := { program := "ytnepoolmbfhppaa", sum := "8dfd7ee853804fc9f582b75ea615a7a071dea5aedca3c4b9ad78ca482e69686f", func := "dancestudio/dancestudiolaw23.SymbolApart", spec := "symbolApart", apart := false, narrowed := true }
def SymbolApartUptoSaid : Prop := symbolApartUptoRow.holds Try.pinned (OpenSpec.upto symbolApartSpec)

end Rows
end Go.Proofs.Ytnepoolmbfhppaa

/-
  No cell of these rows narrows 'for every input' (looked for: loops, veiled, ifaces, maps, wideKeys, modest, calm, conditions, laid).
  DERIVED. THE GIVEN ROWS OF THIS SEAT. 5 by the template 'for every input the law returns true; each argument reads behind the call as it read before'; 0 by the template 'total and deterministic' (their statements: YthpbeflmijfbeaaTotals.lean).
  GIVEN WITH THE SEED: the statements are not yours to turn. If you find one false, say at which input.
  Laid BY PROGRAM, IN A SANDBOX (cutbox-rows.mjs): the forced cells as the released guide's own fill.sh prints them over the translation 11b316ff4557237a… (all of the seat's roots in one cut). By AI agents, Wed Nov 11 2026. No macro, syntax, notation, axiom, sorry.
-/
import Derived.Test.YthpbeflmijfbeaaChecked
import GoSem.Claim
import GoSem.ClaimJoined
import GoSem.ClaimMapViews
import Derived.JoinedTies
import Derived.KernelRfl
namespace Go.Proofs.Ythpbeflmijfbeaa
/- THE CELL 'sum', in the pinned program and in every row, IS THE sha256 OF THE DUMP (.gsa) THAT YthpbeflmijfbeaaProg.lean LOADS. Nothing in Lean hashes anything: it is a label: what it is worth is what the hold of that sum in a sandbox is worth. -/
noncomputable def Try.pinned : Pinned := { name := "ythpbeflmijfbeaa", sum := "11b316ff4557237a6f4d4202e4da614a0c27f6ebc3abf949d9e2203ec32b363f", checked := Try.checked }
namespace Rows
def none {H : Type} : Left H := { results := [], args := [] }

/-- 'laws.FnInConflictNumbers': WHATEVER THE INPUT: true; the input reads as it did. -/
def fnInConflictNumbersSpec : ChangeSpec := { name := "fnInConflictNumbers", fn := fun _ => fun
  | [d] => { results := [.lit (.bool true)], args := [d] }
  | _ => none }
def fnInConflictNumbersRow : OpenClaim := { program := "ythpbeflmijfbeaa", sum := "11b316ff4557237a6f4d4202e4da614a0c27f6ebc3abf949d9e2203ec32b363f", func := "loop.example/resourcestore/laws.FnInConflictNumbers", spec := "fnInConflictNumbers", inPlace := ["internal/bytealg.abigen_runtime_cmpstring", "slices.overlaps[string]", "slices.overlaps[loop.example/resourcestore/impl.Node]"], recurses := true, apart := false }
def FnInConflictNumbersSaid : Prop := fnInConflictNumbersRow.holds Try.pinned (OpenSpec.ofChange fnInConflictNumbersSpec)

/-- ITS FALSE NEIGHBOUR: 'it returns false'. Refute it at one input. -/
def fnInConflictNumbersWrong : ChangeSpec := { name := "fnInConflictNumbers", fn := fun _ => fun
  | [d] => { results := [.lit (.bool false)], args := [d] }
  | _ => none }
def FnInConflictNumbersWrongFalsely : Prop := fnInConflictNumbersRow.holds Try.pinned (OpenSpec.ofChange fnInConflictNumbersWrong)

/-- 'laws.FnInConflict': WHATEVER THE INPUT: true; the input reads as it did. -/
def fnInConflictSpec : ChangeSpec := { name := "fnInConflict", fn := fun _ => fun
  | [d] => { results := [.lit (.bool true)], args := [d] }
  | _ => none }
def fnInConflictRow : OpenClaim := { program := "ythpbeflmijfbeaa", sum := "11b316ff4557237a6f4d4202e4da614a0c27f6ebc3abf949d9e2203ec32b363f", func := "loop.example/resourcestore/laws.FnInConflict", spec := "fnInConflict", inPlace := ["internal/bytealg.abigen_runtime_cmpstring", "slices.overlaps[string]", "slices.overlaps[loop.example/resourcestore/impl.Node]"], recurses := true, apart := false }
def FnInConflictSaid : Prop := fnInConflictRow.holds Try.pinned (OpenSpec.ofChange fnInConflictSpec)

/-- ITS FALSE NEIGHBOUR: 'it returns false'. Refute it at one input. -/
def fnInConflictWrong : ChangeSpec := { name := "fnInConflict", fn := fun _ => fun
  | [d] => { results := [.lit (.bool false)], args := [d] }
  | _ => none }
def FnInConflictWrongFalsely : Prop := fnInConflictRow.holds Try.pinned (OpenSpec.ofChange fnInConflictWrong)

/-- 'laws.FnMergeThree': WHATEVER THE INPUT: true; the input reads as it did. -/
def fnMergeThreeSpec : ChangeSpec := { name := "fnMergeThree", fn := fun _ => fun
  | [d] => { results := [.lit (.bool true)], args := [d] }
  | _ => none }
def fnMergeThreeRow : OpenClaim := { program := "ythpbeflmijfbeaa", sum := "11b316ff4557237a6f4d4202e4da614a0c27f6ebc3abf949d9e2203ec32b363f", func := "loop.example/resourcestore/laws.FnMergeThree", spec := "fnMergeThree", inPlace := ["internal/bytealg.abigen_runtime_cmpstring", "slices.overlaps[string]", "slices.overlaps[loop.example/resourcestore/impl.Node]"], recurses := true, apart := false }
def FnMergeThreeSaid : Prop := fnMergeThreeRow.holds Try.pinned (OpenSpec.ofChange fnMergeThreeSpec)

/-- ITS FALSE NEIGHBOUR: 'it returns false'. Refute it at one input. -/
def fnMergeThreeWrong : ChangeSpec := { name := "fnMergeThree", fn := fun _ => fun
  | [d] => { results := [.lit (.bool false)], args := [d] }
  | _ => none }
def FnMergeThreeWrongFalsely : Prop := fnMergeThreeRow.holds Try.pinned (OpenSpec.ofChange fnMergeThreeWrong)

/-- 'laws.FnMergeThreeOne': WHATEVER THE INPUT: true; the input reads as it did. -/
def fnMergeThreeOneSpec : ChangeSpec := { name := "fnMergeThreeOne", fn := fun _ => fun
  | [d] => { results := [.lit (.bool true)], args := [d] }
  | _ => none }
def fnMergeThreeOneRow : OpenClaim := { program := "ythpbeflmijfbeaa", sum := "11b316ff4557237a6f4d4202e4da614a0c27f6ebc3abf949d9e2203ec32b363f", func := "loop.example/resourcestore/laws.FnMergeThreeOne", spec := "fnMergeThreeOne", inPlace := ["internal/bytealg.abigen_runtime_cmpstring", "slices.overlaps[string]", "slices.overlaps[loop.example/resourcestore/impl.Node]"], recurses := true, apart := false }
def FnMergeThreeOneSaid : Prop := fnMergeThreeOneRow.holds Try.pinned (OpenSpec.ofChange fnMergeThreeOneSpec)

/-- ITS FALSE NEIGHBOUR: 'it returns false'. Refute it at one input. -/
def fnMergeThreeOneWrong : ChangeSpec := { name := "fnMergeThreeOne", fn := fun _ => fun
  | [d] => { results := [.lit (.bool false)], args := [d] }
  | _ => none }
def FnMergeThreeOneWrongFalsely : Prop := fnMergeThreeOneRow.holds Try.pinned (OpenSpec.ofChange fnMergeThreeOneWrong)

/-- 'laws.FnMergeThreeNames': WHATEVER THE INPUT: true; the input reads as it did. -/
def fnMergeThreeNamesSpec : ChangeSpec := { name := "fnMergeThreeNames", fn := fun _ => fun
  | [d] => { results := [.lit (.bool true)], args := [d] }
  | _ => none }
def fnMergeThreeNamesRow : OpenClaim := { program := "ythpbeflmijfbeaa", sum := "11b316ff4557237a6f4d4202e4da614a0c27f6ebc3abf949d9e2203ec32b363f", func := "loop.example/resourcestore/laws.FnMergeThreeNames", spec := "fnMergeThreeNames", inPlace := ["internal/bytealg.abigen_runtime_cmpstring", "slices.overlaps[string]", "slices.overlaps[loop.example/resourcestore/impl.Node]"], recurses := true, apart := false }
def FnMergeThreeNamesSaid : Prop := fnMergeThreeNamesRow.holds Try.pinned (OpenSpec.ofChange fnMergeThreeNamesSpec)

/-- ITS FALSE NEIGHBOUR: 'it returns false'. Refute it at one input. -/
def fnMergeThreeNamesWrong : ChangeSpec := { name := "fnMergeThreeNames", fn := fun _ => fun
  | [d] => { results := [.lit (.bool false)], args := [d] }
  | _ => none }
def FnMergeThreeNamesWrongFalsely : Prop := fnMergeThreeNamesRow.holds Try.pinned (OpenSpec.ofChange fnMergeThreeNamesWrong)

/- THE SECOND FORM. 'bulk': how many values and letters a reading holds, each counted each time it is reached (what is shared counts as often as it is met; a slice's spare places count too). A statement '..UptoSaid' is the law's where the arguments, and the package variables that the reading takes, are together of bulk at most 1048576: NARROWER than '..Said'. Prove '..Said' where nothing that the law and all that it calls make is longer than what came in: it says more and counts as full. Else prove '..UptoSaid'. A law counts once. -/
mutual
def uptoBulk {H : Type} : DataW H → Nat
  | .lit (.string bytes) => bytes.length + 1
  | .lit _ => 1
  | .nil => 1
  | .ptr d => uptoBulk d + 1
  | .slice elems spare => uptoBulkAll elems + uptoBulkAll spare + 1
  | .agg parts => uptoBulkAll parts + 1
  | .iface _ d => uptoBulk d + 1
  | .map entries => uptoBulkEntries entries + 1
  | .held _ => 1
def uptoBulkAll {H : Type} : List (DataW H) → Nat
  | [] => 0
  | d :: r => uptoBulk d + uptoBulkAll r
def uptoBulkEntries {H : Type} : List (Lit × DataW H) → Nat
  | [] => 0
  | x :: r => uptoBulkEntry x + uptoBulkEntries r
def uptoBulkEntry {H : Type} : Lit × DataW H → Nat
  | (.string bytes, d) => bytes.length + uptoBulk d + 1
  | (_, d) => uptoBulk d + 1
 end
def uptoSmall : (H : Type) → List (DataW H) → Bool := fun _ ds => decide (uptoBulkAll ds ≤ 1048576)
def OpenSpec.upto (s : _root_.Go.ChangeSpec) : _root_.Go.OpenSpec := { _root_.Go.OpenSpec.ofChange s with cond := some uptoSmall }

/-- 'laws.FnInConflictNumbers', WHERE WHAT IT READS IS OF BULK AT MOST 1048576: true; the input reads as it did. -/
def fnInConflictNumbersUptoRow : OpenClaim := { program := "ythpbeflmijfbeaa", sum := "11b316ff4557237a6f4d4202e4da614a0c27f6ebc3abf949d9e2203ec32b363f", func := "loop.example/resourcestore/laws.FnInConflictNumbers", spec := "fnInConflictNumbers", inPlace := ["internal/bytealg.abigen_runtime_cmpstring", "slices.overlaps[string]", "slices.overlaps[loop.example/resourcestore/impl.Node]"], recurses := true, apart := false, narrowed := true }
def FnInConflictNumbersUptoSaid : Prop := fnInConflictNumbersUptoRow.holds Try.pinned (OpenSpec.upto fnInConflictNumbersSpec)

/-- 'laws.FnInConflict', WHERE WHAT IT READS IS OF BULK AT MOST 1048576: true; the input reads as it did. -/
def fnInConflictUptoRow : OpenClaim := { program := "ythpbeflmijfbeaa", sum := "11b316ff4557237a6f4d4202e4da614a0c27f6ebc3abf949d9e2203ec32b363f", func := "loop.example/resourcestore/laws.FnInConflict", spec := "fnInConflict", inPlace := ["internal/bytealg.abigen_runtime_cmpstring", "slices.overlaps[string]", "slices.overlaps[loop.example/resourcestore/impl.Node]"], recurses := true, apart := false, narrowed := true }
def FnInConflictUptoSaid : Prop := fnInConflictUptoRow.holds Try.pinned (OpenSpec.upto fnInConflictSpec)

/-- 'laws.FnMergeThree', WHERE WHAT IT READS IS OF BULK AT MOST 1048576: true; the input reads as it did. -/
def fnMergeThreeUptoRow : OpenClaim := { program := "ythpbeflmijfbeaa", sum := "11b316ff4557237a6f4d4202e4da614a0c27f6ebc3abf949d9e2203ec32b363f", func := "loop.example/resourcestore/laws.FnMergeThree", spec := "fnMergeThree", inPlace := ["internal/bytealg.abigen_runtime_cmpstring", "slices.overlaps[string]", "slices.overlaps[loop.example/resourcestore/impl.Node]"], recurses := true, apart := false, narrowed := true }
def FnMergeThreeUptoSaid : Prop := fnMergeThreeUptoRow.holds Try.pinned (OpenSpec.upto fnMergeThreeSpec)

/-- 'laws.FnMergeThreeOne', WHERE WHAT IT READS IS OF BULK AT MOST 1048576: true; the input reads as it did. -/
def fnMergeThreeOneUptoRow : OpenClaim := { program := "ythpbeflmijfbeaa", sum := "11b316ff4557237a6f4d4202e4da614a0c27f6ebc3abf949d9e2203ec32b363f", func := "loop.example/resourcestore/laws.FnMergeThreeOne", spec := "fnMergeThreeOne", inPlace := ["internal/bytealg.abigen_runtime_cmpstring", "slices.overlaps[string]", "slices.overlaps[loop.example/resourcestore/impl.Node]"], recurses := true, apart := false, narrowed := true }
def FnMergeThreeOneUptoSaid : Prop := fnMergeThreeOneUptoRow.holds Try.pinned (OpenSpec.upto fnMergeThreeOneSpec)

/-- 'laws.FnMergeThreeNames', WHERE WHAT IT READS IS OF BULK AT MOST 1048576: true; the input reads as it did. -/
def fnMergeThreeNamesUptoRow : OpenClaim := { program := "ythpbeflmijfbeaa", sum := "11b316ff4557237a6f4d4202e4da614a0c27f6ebc3abf949d9e2203ec32b363f", func := "loop.example/resourcestore/laws.FnMergeThreeNames", spec := "fnMergeThreeNames", inPlace := ["internal/bytealg.abigen_runtime_cmpstring", "slices.overlaps[string]", "slices.overlaps[loop.example/resourcestore/impl.Node]"], recurses := true, apart := false, narrowed := true }
def FnMergeThreeNamesUptoSaid : Prop := fnMergeThreeNamesUptoRow.holds Try.pinned (OpenSpec.upto fnMergeThreeNamesSpec)

end Rows
end Go.Proofs.Ythpbeflmijfbeaa

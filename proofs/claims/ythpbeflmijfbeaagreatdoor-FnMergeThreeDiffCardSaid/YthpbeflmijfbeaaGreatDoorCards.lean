/-
  DERIVED. GIVEN WITH THE SEED: THE CARDS: each row of YthpbeflmijfbeaaGreatDoorRows.lean that lists a variable, with what it lists TIED to the program's text (the seventh form; the later family's looks); each row that meets fmt, with fmt's text TOLD by the authors' own Lean function (tested against real Go, not proved from fmt's source: count such statements apart). THE CARD IS WHAT COUNTS. Prove the row's statement (the work); the ties are given (YthpbeflmijfbeaaGreatDoorTie.lean); close each card by the builder's one call (the guide's Derived/Test/ToyasCard.lean, 'card_holds'). Laid BY PROGRAM, IN A SANDBOX (cutbox-door.mjs). By AI agents, Wed Nov 11 2026. No macro, syntax, notation, axiom, sorry.
-/
import Derived.Test.YthpbeflmijfbeaaGreatDoorRows
import GoSem.ClaimSeven
namespace Go.Proofs.YthpbeflmijfbeaaGreatDoor
namespace Rows

/-- THE TIED CARD OF 'laws.FnMergeThreeDiff'. -/
def fnMergeThreeDiffCard : Claim7 := { stood := { row := fnMergeThreeDiffRow, standIns := [], harness := (true, "ac4b59ecf0138ae3a34a9f61d828378399d48549bd8178677847e2e3519cd39a"), looks := false }, kinds := [], alts := [], laidByText := true, laidKinds := [.data, .data, .data], laidTests := true, laidLooks := .later }
def FnMergeThreeDiffCardSaid : Prop := Claim7.holds Tryz.pinned (.plain (OpenSpec.ofChange fnMergeThreeDiffSpec)) fnMergeThreeDiffCard

/-- THE SECOND FORM's CARD OF 'laws.FnMergeThreeDiff'. -/
def fnMergeThreeDiffUptoCard : Claim7 := { stood := { row := fnMergeThreeDiffUptoRow, standIns := [], harness := (true, "ac4b59ecf0138ae3a34a9f61d828378399d48549bd8178677847e2e3519cd39a"), looks := false }, kinds := [], alts := [], laidByText := true, laidKinds := [.data, .data, .data], laidTests := true, laidLooks := .later }
def FnMergeThreeDiffUptoCardSaid : Prop := Claim7.holds Tryz.pinned (.plain (OpenSpec.upto fnMergeThreeDiffSpec)) fnMergeThreeDiffUptoCard
end Rows
end Go.Proofs.YthpbeflmijfbeaaGreatDoor

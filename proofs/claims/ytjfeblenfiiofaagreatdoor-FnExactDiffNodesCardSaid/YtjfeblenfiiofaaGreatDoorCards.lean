/-
  DERIVED. GIVEN WITH THE SEED: THE CARDS: each row of YtjfeblenfiiofaaGreatDoorRows.lean that lists a variable, with what it lists TIED to the program's text (the seventh form; the later family's looks); each row that meets fmt, with fmt's text TOLD by the authors' own Lean function (tested against real Go, not proved from fmt's source: count such statements apart). THE CARD IS WHAT COUNTS. Prove the row's statement (the work); the ties are given (YtjfeblenfiiofaaGreatDoorTie.lean); close each card by the builder's one call (the guide's Derived/Test/ToyasCard.lean, 'card_holds'). Laid BY PROGRAM, IN A SANDBOX (cutbox-door.mjs). By AI agents, Wed Nov 11 2026. No macro, syntax, notation, axiom, sorry.
-/
import Derived.Test.YtjfeblenfiiofaaGreatDoorRows
import GoSem.ClaimSeven
namespace Go.Proofs.YtjfeblenfiiofaaGreatDoor
namespace Rows

/-- THE TIED CARD OF 'laws.FnExactApplyOp'. -/
def fnExactApplyOpCard : Claim7 := { stood := { row := fnExactApplyOpRow, standIns := [], harness := (true, "06cb64dc41e5ab44faf0c775db6e55460f3a9c2409b89df98497f5458ba74579"), looks := false }, kinds := [], alts := [], laidByText := true, laidKinds := [.data, .data, .data], laidTests := true, laidLooks := .later }
def FnExactApplyOpCardSaid : Prop := Claim7.holds Tryz.pinned (.plain (OpenSpec.ofChange fnExactApplyOpSpec)) fnExactApplyOpCard

/-- THE TIED CARD OF 'laws.FnExactUndoOp'. -/
def fnExactUndoOpCard : Claim7 := { stood := { row := fnExactUndoOpRow, standIns := [], harness := (true, "06cb64dc41e5ab44faf0c775db6e55460f3a9c2409b89df98497f5458ba74579"), looks := false }, kinds := [], alts := [], laidByText := true, laidKinds := [.data, .data, .data], laidTests := true, laidLooks := .later }
def FnExactUndoOpCardSaid : Prop := Claim7.holds Tryz.pinned (.plain (OpenSpec.ofChange fnExactUndoOpSpec)) fnExactUndoOpCard

/-- THE TIED CARD OF 'laws.FnExactApplyPatch'. -/
def fnExactApplyPatchCard : Claim7 := { stood := { row := fnExactApplyPatchRow, standIns := [], harness := (true, "06cb64dc41e5ab44faf0c775db6e55460f3a9c2409b89df98497f5458ba74579"), looks := false }, kinds := [], alts := [], laidByText := true, laidKinds := [.data, .data, .data], laidTests := true, laidLooks := .later }
def FnExactApplyPatchCardSaid : Prop := Claim7.holds Tryz.pinned (.plain (OpenSpec.ofChange fnExactApplyPatchSpec)) fnExactApplyPatchCard

/-- THE TIED CARD OF 'laws.FnExactDiffNodes'. -/
def fnExactDiffNodesCard : Claim7 := { stood := { row := fnExactDiffNodesRow, standIns := [], harness := (true, "06cb64dc41e5ab44faf0c775db6e55460f3a9c2409b89df98497f5458ba74579"), looks := false }, kinds := [], alts := [], laidByText := true, laidKinds := [.data, .data, .data], laidTests := true, laidLooks := .later }
def FnExactDiffNodesCardSaid : Prop := Claim7.holds Tryz.pinned (.plain (OpenSpec.ofChange fnExactDiffNodesSpec)) fnExactDiffNodesCard

/-- THE SECOND FORM's CARD OF 'laws.FnExactApplyOp'. -/
def fnExactApplyOpUptoCard : Claim7 := { stood := { row := fnExactApplyOpUptoRow, standIns := [], harness := (true, "06cb64dc41e5ab44faf0c775db6e55460f3a9c2409b89df98497f5458ba74579"), looks := false }, kinds := [], alts := [], laidByText := true, laidKinds := [.data, .data, .data], laidTests := true, laidLooks := .later }
def FnExactApplyOpUptoCardSaid : Prop := Claim7.holds Tryz.pinned (.plain (OpenSpec.upto fnExactApplyOpSpec)) fnExactApplyOpUptoCard

/-- THE SECOND FORM's CARD OF 'laws.FnExactUndoOp'. -/
def fnExactUndoOpUptoCard : Claim7 := { stood := { row := fnExactUndoOpUptoRow, standIns := [], harness := (true, "06cb64dc41e5ab44faf0c775db6e55460f3a9c2409b89df98497f5458ba74579"), looks := false }, kinds := [], alts := [], laidByText := true, laidKinds := [.data, .data, .data], laidTests := true, laidLooks := .later }
def FnExactUndoOpUptoCardSaid : Prop := Claim7.holds Tryz.pinned (.plain (OpenSpec.upto fnExactUndoOpSpec)) fnExactUndoOpUptoCard

/-- THE SECOND FORM's CARD OF 'laws.FnExactApplyPatch'. -/
def fnExactApplyPatchUptoCard : Claim7 := { stood := { row := fnExactApplyPatchUptoRow, standIns := [], harness := (true, "06cb64dc41e5ab44faf0c775db6e55460f3a9c2409b89df98497f5458ba74579"), looks := false }, kinds := [], alts := [], laidByText := true, laidKinds := [.data, .data, .data], laidTests := true, laidLooks := .later }
def FnExactApplyPatchUptoCardSaid : Prop := Claim7.holds Tryz.pinned (.plain (OpenSpec.upto fnExactApplyPatchSpec)) fnExactApplyPatchUptoCard

/-- THE SECOND FORM's CARD OF 'laws.FnExactDiffNodes'. -/
def fnExactDiffNodesUptoCard : Claim7 := { stood := { row := fnExactDiffNodesUptoRow, standIns := [], harness := (true, "06cb64dc41e5ab44faf0c775db6e55460f3a9c2409b89df98497f5458ba74579"), looks := false }, kinds := [], alts := [], laidByText := true, laidKinds := [.data, .data, .data], laidTests := true, laidLooks := .later }
def FnExactDiffNodesUptoCardSaid : Prop := Claim7.holds Tryz.pinned (.plain (OpenSpec.upto fnExactDiffNodesSpec)) fnExactDiffNodesUptoCard
end Rows
end Go.Proofs.YtjfeblenfiiofaaGreatDoor

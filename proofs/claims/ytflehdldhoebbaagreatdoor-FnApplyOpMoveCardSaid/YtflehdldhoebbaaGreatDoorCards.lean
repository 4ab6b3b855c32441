/-
  DERIVED. GIVEN WITH THE SEED: THE CARDS: each row of YtflehdldhoebbaaGreatDoorRows.lean that lists a variable, with what it lists TIED to the program's text (the seventh form; the later family's looks); each row that meets fmt, with fmt's text TOLD by the authors' own Lean function (tested against real Go, not proved from fmt's source: count such statements apart). THE CARD IS WHAT COUNTS. Prove the row's statement (the work); the ties are given (YtflehdldhoebbaaGreatDoorTie.lean); close each card by the builder's one call (the guide's Derived/Test/ToyasCard.lean, 'card_holds'). Laid BY PROGRAM, IN A SANDBOX (cutbox-door.mjs). By AI agents, Wed Nov 11 2026. No macro, syntax, notation, axiom, sorry.
-/
import Derived.Test.YtflehdldhoebbaaGreatDoorRows
import GoSem.ClaimSeven
namespace Go.Proofs.YtflehdldhoebbaaGreatDoor
namespace Rows

/-- THE TIED CARD OF 'laws.FnApplyOp'. -/
def fnApplyOpCard : Claim7 := { stood := { row := fnApplyOpRow, standIns := [], harness := (true, "4a3a4c96097a66c0b34391e04f4e9f00f2392a9c6f89335677c9fa6058c74911"), looks := false }, kinds := [], alts := [], laidByText := true, laidKinds := [.data, .data, .data], laidTests := true, laidLooks := .later }
def FnApplyOpCardSaid : Prop := Claim7.holds Tryz.pinned (.plain (OpenSpec.ofChange fnApplyOpSpec)) fnApplyOpCard

/-- THE TIED CARD OF 'laws.FnApplyOpCopy'. -/
def fnApplyOpCopyCard : Claim7 := { stood := { row := fnApplyOpCopyRow, standIns := [], harness := (true, "4a3a4c96097a66c0b34391e04f4e9f00f2392a9c6f89335677c9fa6058c74911"), looks := false }, kinds := [], alts := [], laidByText := true, laidKinds := [.data, .data, .data], laidTests := true, laidLooks := .later }
def FnApplyOpCopyCardSaid : Prop := Claim7.holds Tryz.pinned (.plain (OpenSpec.ofChange fnApplyOpCopySpec)) fnApplyOpCopyCard

/-- THE TIED CARD OF 'laws.FnApplyOpTest'. -/
def fnApplyOpTestCard : Claim7 := { stood := { row := fnApplyOpTestRow, standIns := [], harness := (true, "4a3a4c96097a66c0b34391e04f4e9f00f2392a9c6f89335677c9fa6058c74911"), looks := false }, kinds := [], alts := [], laidByText := true, laidKinds := [.data, .data, .data], laidTests := true, laidLooks := .later }
def FnApplyOpTestCardSaid : Prop := Claim7.holds Tryz.pinned (.plain (OpenSpec.ofChange fnApplyOpTestSpec)) fnApplyOpTestCard

/-- THE TIED CARD OF 'laws.FnApplyOpMove'. -/
def fnApplyOpMoveCard : Claim7 := { stood := { row := fnApplyOpMoveRow, standIns := [], harness := (true, "4a3a4c96097a66c0b34391e04f4e9f00f2392a9c6f89335677c9fa6058c74911"), looks := false }, kinds := [], alts := [], laidByText := true, laidKinds := [.data, .data, .data], laidTests := true, laidLooks := .later }
def FnApplyOpMoveCardSaid : Prop := Claim7.holds Tryz.pinned (.plain (OpenSpec.ofChange fnApplyOpMoveSpec)) fnApplyOpMoveCard

/-- THE SECOND FORM's CARD OF 'laws.FnApplyOp'. -/
def fnApplyOpUptoCard : Claim7 := { stood := { row := fnApplyOpUptoRow, standIns := [], harness := (true, "4a3a4c96097a66c0b34391e04f4e9f00f2392a9c6f89335677c9fa6058c74911"), looks := false }, kinds := [], alts := [], laidByText := true, laidKinds := [.data, .data, .data], laidTests := true, laidLooks := .later }
def FnApplyOpUptoCardSaid : Prop := Claim7.holds Tryz.pinned (.plain (OpenSpec.upto fnApplyOpSpec)) fnApplyOpUptoCard

/-- THE SECOND FORM's CARD OF 'laws.FnApplyOpCopy'. -/
def fnApplyOpCopyUptoCard : Claim7 := { stood := { row := fnApplyOpCopyUptoRow, standIns := [], harness := (true, "4a3a4c96097a66c0b34391e04f4e9f00f2392a9c6f89335677c9fa6058c74911"), looks := false }, kinds := [], alts := [], laidByText := true, laidKinds := [.data, .data, .data], laidTests := true, laidLooks := .later }
def FnApplyOpCopyUptoCardSaid : Prop := Claim7.holds Tryz.pinned (.plain (OpenSpec.upto fnApplyOpCopySpec)) fnApplyOpCopyUptoCard

/-- THE SECOND FORM's CARD OF 'laws.FnApplyOpTest'. -/
def fnApplyOpTestUptoCard : Claim7 := { stood := { row := fnApplyOpTestUptoRow, standIns := [], harness := (true, "4a3a4c96097a66c0b34391e04f4e9f00f2392a9c6f89335677c9fa6058c74911"), looks := false }, kinds := [], alts := [], laidByText := true, laidKinds := [.data, .data, .data], laidTests := true, laidLooks := .later }
def FnApplyOpTestUptoCardSaid : Prop := Claim7.holds Tryz.pinned (.plain (OpenSpec.upto fnApplyOpTestSpec)) fnApplyOpTestUptoCard

/-- THE SECOND FORM's CARD OF 'laws.FnApplyOpMove'. -/
def fnApplyOpMoveUptoCard : Claim7 := { stood := { row := fnApplyOpMoveUptoRow, standIns := [], harness := (true, "4a3a4c96097a66c0b34391e04f4e9f00f2392a9c6f89335677c9fa6058c74911"), looks := false }, kinds := [], alts := [], laidByText := true, laidKinds := [.data, .data, .data], laidTests := true, laidLooks := .later }
def FnApplyOpMoveUptoCardSaid : Prop := Claim7.holds Tryz.pinned (.plain (OpenSpec.upto fnApplyOpMoveSpec)) fnApplyOpMoveUptoCard
end Rows
end Go.Proofs.YtflehdldhoebbaaGreatDoor

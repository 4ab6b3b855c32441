/-
  DERIVED. GIVEN WITH THE SEED: THE CARDS: each row of YtnonomjjbflonaaGreatDoorRows.lean that lists a variable, with what it lists TIED to the program's text (the seventh form; the later family's looks); each row that meets fmt, with fmt's text TOLD by the authors' own Lean function (tested against real Go, not proved from fmt's source: count such statements apart). THE CARD IS WHAT COUNTS. Prove the row's statement (the work); the ties are given (YtnonomjjbflonaaGreatDoorTie.lean); close each card by the builder's one call (the guide's Derived/Test/ToyasCard.lean, 'card_holds'). Laid BY PROGRAM, IN A SANDBOX (cutbox-door.mjs). By AI agents, Wed Nov 11 2026. No macro, syntax, notation, axiom, sorry.
-/
import Derived.Test.YtnonomjjbflonaaGreatDoorRows
import GoSem.ClaimSeven
namespace Go.Proofs.YtnonomjjbflonaaGreatDoor
namespace Rows

/-- THE TIED CARD OF 'laws.FnExactFailingOp'. -/
def fnExactFailingOpCard : Claim7 := { stood := { row := fnExactFailingOpRow, standIns := [], harness := (true, "001ee2db36cfd51e7ddabcec279ed338e2e45bb45a12a8632981c44048ed0052"), looks := false }, kinds := [], alts := [], laidByText := true, laidKinds := [.data, .data, .data], laidTests := true, laidLooks := .later }
def FnExactFailingOpCardSaid : Prop := Claim7.holds Tryz.pinned (.plain (OpenSpec.ofChange fnExactFailingOpSpec)) fnExactFailingOpCard

/-- THE TIED CARD OF 'laws.FnApplyPatchNone'. -/
def fnApplyPatchNoneCard : Claim7 := { stood := { row := fnApplyPatchNoneRow, standIns := [], harness := (true, "001ee2db36cfd51e7ddabcec279ed338e2e45bb45a12a8632981c44048ed0052"), looks := false }, kinds := [], alts := [], laidByText := true, laidKinds := [.data, .data, .data], laidTests := true, laidLooks := .later }
def FnApplyPatchNoneCardSaid : Prop := Claim7.holds Tryz.pinned (.plain (OpenSpec.ofChange fnApplyPatchNoneSpec)) fnApplyPatchNoneCard

/-- THE TIED CARD OF 'laws.FnUndoOpTest'. -/
def fnUndoOpTestCard : Claim7 := { stood := { row := fnUndoOpTestRow, standIns := [], harness := (true, "001ee2db36cfd51e7ddabcec279ed338e2e45bb45a12a8632981c44048ed0052"), looks := false }, kinds := [], alts := [], laidByText := true, laidKinds := [.data, .data, .data], laidTests := true, laidLooks := .later }
def FnUndoOpTestCardSaid : Prop := Claim7.holds Tryz.pinned (.plain (OpenSpec.ofChange fnUndoOpTestSpec)) fnUndoOpTestCard

/-- THE TIED CARD OF 'laws.FnExactApplyOp'. -/
def fnExactApplyOpCard : Claim7 := { stood := { row := fnExactApplyOpRow, standIns := [], harness := (true, "001ee2db36cfd51e7ddabcec279ed338e2e45bb45a12a8632981c44048ed0052"), looks := false }, kinds := [], alts := [], laidByText := true, laidKinds := [.data, .data, .data], laidTests := true, laidLooks := .later }
def FnExactApplyOpCardSaid : Prop := Claim7.holds Tryz.pinned (.plain (OpenSpec.ofChange fnExactApplyOpSpec)) fnExactApplyOpCard

/-- THE TIED CARD OF 'laws.FnFailingOp'. -/
def fnFailingOpCard : Claim7 := { stood := { row := fnFailingOpRow, standIns := [], harness := (true, "001ee2db36cfd51e7ddabcec279ed338e2e45bb45a12a8632981c44048ed0052"), looks := false }, kinds := [], alts := [], laidByText := true, laidKinds := [.data, .data, .data], laidTests := true, laidLooks := .later }
def FnFailingOpCardSaid : Prop := Claim7.holds Tryz.pinned (.plain (OpenSpec.ofChange fnFailingOpSpec)) fnFailingOpCard

/-- THE TIED CARD OF 'laws.FnFailingOpNone'. -/
def fnFailingOpNoneCard : Claim7 := { stood := { row := fnFailingOpNoneRow, standIns := [], harness := (true, "001ee2db36cfd51e7ddabcec279ed338e2e45bb45a12a8632981c44048ed0052"), looks := false }, kinds := [], alts := [], laidByText := true, laidKinds := [.data, .data, .data], laidTests := true, laidLooks := .later }
def FnFailingOpNoneCardSaid : Prop := Claim7.holds Tryz.pinned (.plain (OpenSpec.ofChange fnFailingOpNoneSpec)) fnFailingOpNoneCard

/-- THE TIED CARD OF 'laws.FnUndoOp'. -/
def fnUndoOpCard : Claim7 := { stood := { row := fnUndoOpRow, standIns := [], harness := (true, "001ee2db36cfd51e7ddabcec279ed338e2e45bb45a12a8632981c44048ed0052"), looks := false }, kinds := [], alts := [], laidByText := true, laidKinds := [.data, .data, .data], laidTests := true, laidLooks := .later }
def FnUndoOpCardSaid : Prop := Claim7.holds Tryz.pinned (.plain (OpenSpec.ofChange fnUndoOpSpec)) fnUndoOpCard

/-- THE TIED CARD OF 'laws.FnApplyPatch'. -/
def fnApplyPatchCard : Claim7 := { stood := { row := fnApplyPatchRow, standIns := [], harness := (true, "001ee2db36cfd51e7ddabcec279ed338e2e45bb45a12a8632981c44048ed0052"), looks := false }, kinds := [], alts := [], laidByText := true, laidKinds := [.data, .data, .data], laidTests := true, laidLooks := .later }
def FnApplyPatchCardSaid : Prop := Claim7.holds Tryz.pinned (.plain (OpenSpec.ofChange fnApplyPatchSpec)) fnApplyPatchCard

/-- THE TIED CARD OF 'laws.FnApplyPatchTest'. -/
def fnApplyPatchTestCard : Claim7 := { stood := { row := fnApplyPatchTestRow, standIns := [], harness := (true, "001ee2db36cfd51e7ddabcec279ed338e2e45bb45a12a8632981c44048ed0052"), looks := false }, kinds := [], alts := [], laidByText := true, laidKinds := [.data, .data, .data], laidTests := true, laidLooks := .later }
def FnApplyPatchTestCardSaid : Prop := Claim7.holds Tryz.pinned (.plain (OpenSpec.ofChange fnApplyPatchTestSpec)) fnApplyPatchTestCard

/-- THE TIED CARD OF 'laws.FnExactUndoOp'. -/
def fnExactUndoOpCard : Claim7 := { stood := { row := fnExactUndoOpRow, standIns := [], harness := (true, "001ee2db36cfd51e7ddabcec279ed338e2e45bb45a12a8632981c44048ed0052"), looks := false }, kinds := [], alts := [], laidByText := true, laidKinds := [.data, .data, .data], laidTests := true, laidLooks := .later }
def FnExactUndoOpCardSaid : Prop := Claim7.holds Tryz.pinned (.plain (OpenSpec.ofChange fnExactUndoOpSpec)) fnExactUndoOpCard

/-- THE TIED CARD OF 'laws.FnExactApplyPatch'. -/
def fnExactApplyPatchCard : Claim7 := { stood := { row := fnExactApplyPatchRow, standIns := [], harness := (true, "001ee2db36cfd51e7ddabcec279ed338e2e45bb45a12a8632981c44048ed0052"), looks := false }, kinds := [], alts := [], laidByText := true, laidKinds := [.data, .data, .data], laidTests := true, laidLooks := .later }
def FnExactApplyPatchCardSaid : Prop := Claim7.holds Tryz.pinned (.plain (OpenSpec.ofChange fnExactApplyPatchSpec)) fnExactApplyPatchCard

/-- THE SECOND FORM's CARD OF 'laws.FnExactFailingOp'. -/
def fnExactFailingOpUptoCard : Claim7 := { stood := { row := fnExactFailingOpUptoRow, standIns := [], harness := (true, "001ee2db36cfd51e7ddabcec279ed338e2e45bb45a12a8632981c44048ed0052"), looks := false }, kinds := [], alts := [], laidByText := true, laidKinds := [.data, .data, .data], laidTests := true, laidLooks := .later }
def FnExactFailingOpUptoCardSaid : Prop := Claim7.holds Tryz.pinned (.plain (OpenSpec.upto fnExactFailingOpSpec)) fnExactFailingOpUptoCard

/-- THE SECOND FORM's CARD OF 'laws.FnApplyPatchNone'. -/
def fnApplyPatchNoneUptoCard : Claim7 := { stood := { row := fnApplyPatchNoneUptoRow, standIns := [], harness := (true, "001ee2db36cfd51e7ddabcec279ed338e2e45bb45a12a8632981c44048ed0052"), looks := false }, kinds := [], alts := [], laidByText := true, laidKinds := [.data, .data, .data], laidTests := true, laidLooks := .later }
def FnApplyPatchNoneUptoCardSaid : Prop := Claim7.holds Tryz.pinned (.plain (OpenSpec.upto fnApplyPatchNoneSpec)) fnApplyPatchNoneUptoCard

/-- THE SECOND FORM's CARD OF 'laws.FnUndoOpTest'. -/
def fnUndoOpTestUptoCard : Claim7 := { stood := { row := fnUndoOpTestUptoRow, standIns := [], harness := (true, "001ee2db36cfd51e7ddabcec279ed338e2e45bb45a12a8632981c44048ed0052"), looks := false }, kinds := [], alts := [], laidByText := true, laidKinds := [.data, .data, .data], laidTests := true, laidLooks := .later }
def FnUndoOpTestUptoCardSaid : Prop := Claim7.holds Tryz.pinned (.plain (OpenSpec.upto fnUndoOpTestSpec)) fnUndoOpTestUptoCard

/-- THE SECOND FORM's CARD OF 'laws.FnExactApplyOp'. -/
def fnExactApplyOpUptoCard : Claim7 := { stood := { row := fnExactApplyOpUptoRow, standIns := [], harness := (true, "001ee2db36cfd51e7ddabcec279ed338e2e45bb45a12a8632981c44048ed0052"), looks := false }, kinds := [], alts := [], laidByText := true, laidKinds := [.data, .data, .data], laidTests := true, laidLooks := .later }
def FnExactApplyOpUptoCardSaid : Prop := Claim7.holds Tryz.pinned (.plain (OpenSpec.upto fnExactApplyOpSpec)) fnExactApplyOpUptoCard

/-- THE SECOND FORM's CARD OF 'laws.FnFailingOp'. -/
def fnFailingOpUptoCard : Claim7 := { stood := { row := fnFailingOpUptoRow, standIns := [], harness := (true, "001ee2db36cfd51e7ddabcec279ed338e2e45bb45a12a8632981c44048ed0052"), looks := false }, kinds := [], alts := [], laidByText := true, laidKinds := [.data, .data, .data], laidTests := true, laidLooks := .later }
def FnFailingOpUptoCardSaid : Prop := Claim7.holds Tryz.pinned (.plain (OpenSpec.upto fnFailingOpSpec)) fnFailingOpUptoCard

/-- THE SECOND FORM's CARD OF 'laws.FnFailingOpNone'. -/
def fnFailingOpNoneUptoCard : Claim7 := { stood := { row := fnFailingOpNoneUptoRow, standIns := [], harness := (true, "001ee2db36cfd51e7ddabcec279ed338e2e45bb45a12a8632981c44048ed0052"), looks := false }, kinds := [], alts := [], laidByText := true, laidKinds := [.data, .data, .data], laidTests := true, laidLooks := .later }
def FnFailingOpNoneUptoCardSaid : Prop := Claim7.holds Tryz.pinned (.plain (OpenSpec.upto fnFailingOpNoneSpec)) fnFailingOpNoneUptoCard

/-- THE SECOND FORM's CARD OF 'laws.FnUndoOp'. -/
def fnUndoOpUptoCard : Claim7 := { stood := { row := fnUndoOpUptoRow, standIns := [], harness := (true, "001ee2db36cfd51e7ddabcec279ed338e2e45bb45a12a8632981c44048ed0052"), looks := false }, kinds := [], alts := [], laidByText := true, laidKinds := [.data, .data, .data], laidTests := true, laidLooks := .later }
def FnUndoOpUptoCardSaid : Prop := Claim7.holds Tryz.pinned (.plain (OpenSpec.upto fnUndoOpSpec)) fnUndoOpUptoCard

/-- THE SECOND FORM's CARD OF 'laws.FnApplyPatch'. -/
def fnApplyPatchUptoCard : Claim7 := { stood := { row := fnApplyPatchUptoRow, standIns := [], harness := (true, "001ee2db36cfd51e7ddabcec279ed338e2e45bb45a12a8632981c44048ed0052"), looks := false }, kinds := [], alts := [], laidByText := true, laidKinds := [.data, .data, .data], laidTests := true, laidLooks := .later }
def FnApplyPatchUptoCardSaid : Prop := Claim7.holds Tryz.pinned (.plain (OpenSpec.upto fnApplyPatchSpec)) fnApplyPatchUptoCard

/-- THE SECOND FORM's CARD OF 'laws.FnApplyPatchTest'. -/
def fnApplyPatchTestUptoCard : Claim7 := { stood := { row := fnApplyPatchTestUptoRow, standIns := [], harness := (true, "001ee2db36cfd51e7ddabcec279ed338e2e45bb45a12a8632981c44048ed0052"), looks := false }, kinds := [], alts := [], laidByText := true, laidKinds := [.data, .data, .data], laidTests := true, laidLooks := .later }
def FnApplyPatchTestUptoCardSaid : Prop := Claim7.holds Tryz.pinned (.plain (OpenSpec.upto fnApplyPatchTestSpec)) fnApplyPatchTestUptoCard

/-- THE SECOND FORM's CARD OF 'laws.FnExactUndoOp'. -/
def fnExactUndoOpUptoCard : Claim7 := { stood := { row := fnExactUndoOpUptoRow, standIns := [], harness := (true, "001ee2db36cfd51e7ddabcec279ed338e2e45bb45a12a8632981c44048ed0052"), looks := false }, kinds := [], alts := [], laidByText := true, laidKinds := [.data, .data, .data], laidTests := true, laidLooks := .later }
def FnExactUndoOpUptoCardSaid : Prop := Claim7.holds Tryz.pinned (.plain (OpenSpec.upto fnExactUndoOpSpec)) fnExactUndoOpUptoCard

/-- THE SECOND FORM's CARD OF 'laws.FnExactApplyPatch'. -/
def fnExactApplyPatchUptoCard : Claim7 := { stood := { row := fnExactApplyPatchUptoRow, standIns := [], harness := (true, "001ee2db36cfd51e7ddabcec279ed338e2e45bb45a12a8632981c44048ed0052"), looks := false }, kinds := [], alts := [], laidByText := true, laidKinds := [.data, .data, .data], laidTests := true, laidLooks := .later }
def FnExactApplyPatchUptoCardSaid : Prop := Claim7.holds Tryz.pinned (.plain (OpenSpec.upto fnExactApplyPatchSpec)) fnExactApplyPatchUptoCard
end Rows
end Go.Proofs.YtnonomjjbflonaaGreatDoor

/-
  DERIVED. GIVEN WITH THE SEED: THE CARDS: each row of YtffpflffdijmfaaGreatDoorRows.lean that lists a variable, with what it lists TIED to the program's text (the seventh form; the later family's looks); each row that meets fmt, with fmt's text TOLD by the authors' own Lean function (tested against real Go, not proved from fmt's source: count such statements apart). THE CARD IS WHAT COUNTS. Prove the row's statement (the work); the ties are given (YtffpflffdijmfaaGreatDoorTie.lean); close each card by the builder's one call (the guide's Derived/Test/ToyasCard.lean, 'card_holds'). Laid BY PROGRAM, IN A SANDBOX (cutbox-door.mjs). By AI agents, Wed Nov 11 2026. No macro, syntax, notation, axiom, sorry.
-/
import Derived.Test.YtffpflffdijmfaaGreatDoorRows
import GoSem.ClaimSeven
namespace Go.Proofs.YtffpflffdijmfaaGreatDoor
namespace Rows

/-- THE TIED CARD OF 'laws.FnIsSafe'. -/
def fnIsSafeCard : Claim7 := { stood := { row := fnIsSafeRow, standIns := [], harness := (true, "c2533adcd15161c54b0e535b3d20532763a438670428d70e5e5d1c6af82a0fac"), looks := false }, kinds := [], alts := [], laidByText := true, laidKinds := [.data, .data, .data], laidTests := true, laidLooks := .later }
def FnIsSafeCardSaid : Prop := Claim7.holds Tryz.pinned (.plain (OpenSpec.ofChange fnIsSafeSpec)) fnIsSafeCard

/-- THE TIED CARD OF 'laws.FnSucceeds'. -/
def fnSucceedsCard : Claim7 := { stood := { row := fnSucceedsRow, standIns := [], harness := (true, "c2533adcd15161c54b0e535b3d20532763a438670428d70e5e5d1c6af82a0fac"), looks := false }, kinds := [], alts := [], laidByText := true, laidKinds := [.data, .data, .data], laidTests := true, laidLooks := .later }
def FnSucceedsCardSaid : Prop := Claim7.holds Tryz.pinned (.plain (OpenSpec.ofChange fnSucceedsSpec)) fnSucceedsCard

/-- THE TIED CARD OF 'laws.FnSucceedsGet'. -/
def fnSucceedsGetCard : Claim7 := { stood := { row := fnSucceedsGetRow, standIns := [], harness := (true, "c2533adcd15161c54b0e535b3d20532763a438670428d70e5e5d1c6af82a0fac"), looks := false }, kinds := [], alts := [], laidByText := true, laidKinds := [.data, .data, .data], laidTests := true, laidLooks := .later }
def FnSucceedsGetCardSaid : Prop := Claim7.holds Tryz.pinned (.plain (OpenSpec.ofChange fnSucceedsGetSpec)) fnSucceedsGetCard

/-- THE TIED CARD OF 'laws.FnHandleRequest'. -/
def fnHandleRequestCard : Claim7 := { stood := { row := fnHandleRequestRow, standIns := [], harness := (true, "c2533adcd15161c54b0e535b3d20532763a438670428d70e5e5d1c6af82a0fac"), looks := false }, kinds := [], alts := [], laidByText := true, laidKinds := [.data, .data, .data], laidTests := true, laidLooks := .later }
def FnHandleRequestCardSaid : Prop := Claim7.holds Tryz.pinned (.plain (OpenSpec.ofChange fnHandleRequestSpec)) fnHandleRequestCard

/-- THE TIED CARD OF 'laws.FnHandleRequestClock'. -/
def fnHandleRequestClockCard : Claim7 := { stood := { row := fnHandleRequestClockRow, standIns := [], harness := (true, "c2533adcd15161c54b0e535b3d20532763a438670428d70e5e5d1c6af82a0fac"), looks := false }, kinds := [], alts := [], laidByText := true, laidKinds := [.data, .data, .data], laidTests := true, laidLooks := .later }
def FnHandleRequestClockCardSaid : Prop := Claim7.holds Tryz.pinned (.plain (OpenSpec.ofChange fnHandleRequestClockSpec)) fnHandleRequestClockCard

/-- THE TIED CARD OF 'laws.FnHandleRequestDelete'. -/
def fnHandleRequestDeleteCard : Claim7 := { stood := { row := fnHandleRequestDeleteRow, standIns := [], harness := (true, "c2533adcd15161c54b0e535b3d20532763a438670428d70e5e5d1c6af82a0fac"), looks := false }, kinds := [], alts := [], laidByText := true, laidKinds := [.data, .data, .data], laidTests := true, laidLooks := .later }
def FnHandleRequestDeleteCardSaid : Prop := Claim7.holds Tryz.pinned (.plain (OpenSpec.ofChange fnHandleRequestDeleteSpec)) fnHandleRequestDeleteCard

/-- THE TIED CARD OF 'laws.FnHandleRequestNone'. -/
def fnHandleRequestNoneCard : Claim7 := { stood := { row := fnHandleRequestNoneRow, standIns := [], harness := (true, "c2533adcd15161c54b0e535b3d20532763a438670428d70e5e5d1c6af82a0fac"), looks := false }, kinds := [], alts := [], laidByText := true, laidKinds := [.data, .data, .data], laidTests := true, laidLooks := .later }
def FnHandleRequestNoneCardSaid : Prop := Claim7.holds Tryz.pinned (.plain (OpenSpec.ofChange fnHandleRequestNoneSpec)) fnHandleRequestNoneCard

/-- THE SECOND FORM's CARD OF 'laws.FnIsSafe'. -/
def fnIsSafeUptoCard : Claim7 := { stood := { row := fnIsSafeUptoRow, standIns := [], harness := (true, "c2533adcd15161c54b0e535b3d20532763a438670428d70e5e5d1c6af82a0fac"), looks := false }, kinds := [], alts := [], laidByText := true, laidKinds := [.data, .data, .data], laidTests := true, laidLooks := .later }
def FnIsSafeUptoCardSaid : Prop := Claim7.holds Tryz.pinned (.plain (OpenSpec.upto fnIsSafeSpec)) fnIsSafeUptoCard

/-- THE SECOND FORM's CARD OF 'laws.FnSucceeds'. -/
def fnSucceedsUptoCard : Claim7 := { stood := { row := fnSucceedsUptoRow, standIns := [], harness := (true, "c2533adcd15161c54b0e535b3d20532763a438670428d70e5e5d1c6af82a0fac"), looks := false }, kinds := [], alts := [], laidByText := true, laidKinds := [.data, .data, .data], laidTests := true, laidLooks := .later }
def FnSucceedsUptoCardSaid : Prop := Claim7.holds Tryz.pinned (.plain (OpenSpec.upto fnSucceedsSpec)) fnSucceedsUptoCard

/-- THE SECOND FORM's CARD OF 'laws.FnSucceedsGet'. -/
def fnSucceedsGetUptoCard : Claim7 := { stood := { row := fnSucceedsGetUptoRow, standIns := [], harness := (true, "c2533adcd15161c54b0e535b3d20532763a438670428d70e5e5d1c6af82a0fac"), looks := false }, kinds := [], alts := [], laidByText := true, laidKinds := [.data, .data, .data], laidTests := true, laidLooks := .later }
def FnSucceedsGetUptoCardSaid : Prop := Claim7.holds Tryz.pinned (.plain (OpenSpec.upto fnSucceedsGetSpec)) fnSucceedsGetUptoCard

/-- THE SECOND FORM's CARD OF 'laws.FnHandleRequest'. -/
def fnHandleRequestUptoCard : Claim7 := { stood := { row := fnHandleRequestUptoRow, standIns := [], harness := (true, "c2533adcd15161c54b0e535b3d20532763a438670428d70e5e5d1c6af82a0fac"), looks := false }, kinds := [], alts := [], laidByText := true, laidKinds := [.data, .data, .data], laidTests := true, laidLooks := .later }
def FnHandleRequestUptoCardSaid : Prop := Claim7.holds Tryz.pinned (.plain (OpenSpec.upto fnHandleRequestSpec)) fnHandleRequestUptoCard

/-- THE SECOND FORM's CARD OF 'laws.FnHandleRequestClock'. -/
def fnHandleRequestClockUptoCard : Claim7 := { stood := { row := fnHandleRequestClockUptoRow, standIns := [], harness := (true, "c2533adcd15161c54b0e535b3d20532763a438670428d70e5e5d1c6af82a0fac"), looks := false }, kinds := [], alts := [], laidByText := true, laidKinds := [.data, .data, .data], laidTests := true, laidLooks := .later }
def FnHandleRequestClockUptoCardSaid : Prop := Claim7.holds Tryz.pinned (.plain (OpenSpec.upto fnHandleRequestClockSpec)) fnHandleRequestClockUptoCard

/-- THE SECOND FORM's CARD OF 'laws.FnHandleRequestDelete'. -/
def fnHandleRequestDeleteUptoCard : Claim7 := { stood := { row := fnHandleRequestDeleteUptoRow, standIns := [], harness := (true, "c2533adcd15161c54b0e535b3d20532763a438670428d70e5e5d1c6af82a0fac"), looks := false }, kinds := [], alts := [], laidByText := true, laidKinds := [.data, .data, .data], laidTests := true, laidLooks := .later }
def FnHandleRequestDeleteUptoCardSaid : Prop := Claim7.holds Tryz.pinned (.plain (OpenSpec.upto fnHandleRequestDeleteSpec)) fnHandleRequestDeleteUptoCard

/-- THE SECOND FORM's CARD OF 'laws.FnHandleRequestNone'. -/
def fnHandleRequestNoneUptoCard : Claim7 := { stood := { row := fnHandleRequestNoneUptoRow, standIns := [], harness := (true, "c2533adcd15161c54b0e535b3d20532763a438670428d70e5e5d1c6af82a0fac"), looks := false }, kinds := [], alts := [], laidByText := true, laidKinds := [.data, .data, .data], laidTests := true, laidLooks := .later }
def FnHandleRequestNoneUptoCardSaid : Prop := Claim7.holds Tryz.pinned (.plain (OpenSpec.upto fnHandleRequestNoneSpec)) fnHandleRequestNoneUptoCard
end Rows
end Go.Proofs.YtffpflffdijmfaaGreatDoor

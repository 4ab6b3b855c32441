/-
  DERIVED. GIVEN WITH THE SEED: THE CARDS: each row of YtfengbmckcgbiaaGreatDoorRows.lean that lists a variable, with what it lists TIED to the program's text (the seventh form; the later family's looks); each row that meets fmt, with fmt's text TOLD by the authors' own Lean function (tested against real Go, not proved from fmt's source: count such statements apart). THE CARD IS WHAT COUNTS. Prove the row's statement (the work); the ties are given (YtfengbmckcgbiaaGreatDoorTie.lean); close each card by the builder's one call (the guide's Derived/Test/ToyasCard.lean, 'card_holds'). Laid BY PROGRAM, IN A SANDBOX (cutbox-door.mjs). By AI agents, Wed Nov 11 2026. No macro, syntax, notation, axiom, sorry.
-/
import Derived.Test.YtfengbmckcgbiaaGreatDoorRows
import GoSem.ClaimSeven
namespace Go.Proofs.YtfengbmckcgbiaaGreatDoor
namespace Rows

/-- THE TIED CARD OF 'laws.FnExactHandleRequest'. -/
def fnExactHandleRequestCard : Claim7 := { stood := { row := fnExactHandleRequestRow, standIns := [], harness := (true, "cba67d64f96b5c9be63dc43498eeb6f3ddc46177ebda743d68a46589e4bc9288"), looks := false }, kinds := [], alts := [], laidByText := true, laidKinds := [.data, .data, .data], laidTests := true, laidLooks := .later }
def FnExactHandleRequestCardSaid : Prop := Claim7.holds Tryz.pinned (.plain (OpenSpec.ofChange fnExactHandleRequestSpec)) fnExactHandleRequestCard

/-- THE TIED CARD OF 'laws.FnExactRunRequests'. -/
def fnExactRunRequestsCard : Claim7 := { stood := { row := fnExactRunRequestsRow, standIns := [], harness := (true, "cba67d64f96b5c9be63dc43498eeb6f3ddc46177ebda743d68a46589e4bc9288"), looks := false }, kinds := [], alts := [], laidByText := true, laidKinds := [.data, .data, .data], laidTests := true, laidLooks := .later }
def FnExactRunRequestsCardSaid : Prop := Claim7.holds Tryz.pinned (.plain (OpenSpec.ofChange fnExactRunRequestsSpec)) fnExactRunRequestsCard

/-- THE TIED CARD OF 'laws.FnExactRunBatch'. -/
def fnExactRunBatchCard : Claim7 := { stood := { row := fnExactRunBatchRow, standIns := [], harness := (true, "cba67d64f96b5c9be63dc43498eeb6f3ddc46177ebda743d68a46589e4bc9288"), looks := false }, kinds := [], alts := [], laidByText := true, laidKinds := [.data, .data, .data], laidTests := true, laidLooks := .later }
def FnExactRunBatchCardSaid : Prop := Claim7.holds Tryz.pinned (.plain (OpenSpec.ofChange fnExactRunBatchSpec)) fnExactRunBatchCard

/-- THE SECOND FORM's CARD OF 'laws.FnExactHandleRequest'. -/
def fnExactHandleRequestUptoCard : Claim7 := { stood := { row := fnExactHandleRequestUptoRow, standIns := [], harness := (true, "cba67d64f96b5c9be63dc43498eeb6f3ddc46177ebda743d68a46589e4bc9288"), looks := false }, kinds := [], alts := [], laidByText := true, laidKinds := [.data, .data, .data], laidTests := true, laidLooks := .later }
def FnExactHandleRequestUptoCardSaid : Prop := Claim7.holds Tryz.pinned (.plain (OpenSpec.upto fnExactHandleRequestSpec)) fnExactHandleRequestUptoCard

/-- THE SECOND FORM's CARD OF 'laws.FnExactRunRequests'. -/
def fnExactRunRequestsUptoCard : Claim7 := { stood := { row := fnExactRunRequestsUptoRow, standIns := [], harness := (true, "cba67d64f96b5c9be63dc43498eeb6f3ddc46177ebda743d68a46589e4bc9288"), looks := false }, kinds := [], alts := [], laidByText := true, laidKinds := [.data, .data, .data], laidTests := true, laidLooks := .later }
def FnExactRunRequestsUptoCardSaid : Prop := Claim7.holds Tryz.pinned (.plain (OpenSpec.upto fnExactRunRequestsSpec)) fnExactRunRequestsUptoCard

/-- THE SECOND FORM's CARD OF 'laws.FnExactRunBatch'. -/
def fnExactRunBatchUptoCard : Claim7 := { stood := { row := fnExactRunBatchUptoRow, standIns := [], harness := (true, "cba67d64f96b5c9be63dc43498eeb6f3ddc46177ebda743d68a46589e4bc9288"), looks := false }, kinds := [], alts := [], laidByText := true, laidKinds := [.data, .data, .data], laidTests := true, laidLooks := .later }
def FnExactRunBatchUptoCardSaid : Prop := Claim7.holds Tryz.pinned (.plain (OpenSpec.upto fnExactRunBatchSpec)) fnExactRunBatchUptoCard
end Rows
end Go.Proofs.YtfengbmckcgbiaaGreatDoor

/-
  DERIVED. GIVEN WITH THE SEED: THE CARDS: each row of YtaodeagfpncomaaGreatDoorRows.lean that lists a variable, with what it lists TIED to the program's text (the seventh form; the later family's looks); each row that meets fmt, with fmt's text TOLD by the authors' own Lean function (tested against real Go, not proved from fmt's source: count such statements apart). THE CARD IS WHAT COUNTS. Prove the row's statement (the work); the ties are given (YtaodeagfpncomaaGreatDoorTie.lean); close each card by the builder's one call (the guide's Derived/Test/ToyasCard.lean, 'card_holds'). Laid BY PROGRAM, IN A SANDBOX (cutbox-door.mjs). By AI agents, Wed Nov 11 2026. No macro, syntax, notation, axiom, sorry.
-/
import Derived.Test.YtaodeagfpncomaaGreatDoorRows
import GoSem.ClaimSeven
namespace Go.Proofs.YtaodeagfpncomaaGreatDoor
namespace Rows

/-- THE TIED CARD OF 'laws.FnExactIndexStore'. -/
def fnExactIndexStoreCard : Claim7 := { stood := { row := fnExactIndexStoreRow, standIns := [], harness := (true, "9b16902be424f5fd5b766bfb72ae4f98bf2bd09cea4f60b9bc9ded09c3994d09"), looks := true }, kinds := [], alts := [], laidByText := true, laidKinds := [.data, .data, .data], laidTests := true, laidLooks := .later }
def FnExactIndexStoreCardSaid : Prop := Claim7.holds Tryz.pinned (.plain (OpenSpec.ofChange fnExactIndexStoreSpec)) fnExactIndexStoreCard

/-- THE TIED CARD OF 'laws.FnExactParseRequest'. -/
def fnExactParseRequestCard : Claim7 := { stood := { row := fnExactParseRequestRow, standIns := [], harness := (true, "9b16902be424f5fd5b766bfb72ae4f98bf2bd09cea4f60b9bc9ded09c3994d09"), looks := true }, kinds := [], alts := [], laidByText := true, laidKinds := [.data, .data, .data, .data, .sentinel, .sentinel, .pinned], laidTests := true, laidLooks := .later }
def FnExactParseRequestCardSaid : Prop := Claim7.holds Tryz.pinned (.plain (OpenSpec.ofChange fnExactParseRequestSpec)) fnExactParseRequestCard

/-- THE SECOND FORM's CARD OF 'laws.FnExactIndexStore'. -/
def fnExactIndexStoreUptoCard : Claim7 := { stood := { row := fnExactIndexStoreUptoRow, standIns := [], harness := (true, "9b16902be424f5fd5b766bfb72ae4f98bf2bd09cea4f60b9bc9ded09c3994d09"), looks := true }, kinds := [], alts := [], laidByText := true, laidKinds := [.data, .data, .data], laidTests := true, laidLooks := .later }
def FnExactIndexStoreUptoCardSaid : Prop := Claim7.holds Tryz.pinned (.plain (OpenSpec.upto fnExactIndexStoreSpec)) fnExactIndexStoreUptoCard

/-- THE SECOND FORM's CARD OF 'laws.FnExactParseRequest'. -/
def fnExactParseRequestUptoCard : Claim7 := { stood := { row := fnExactParseRequestUptoRow, standIns := [], harness := (true, "9b16902be424f5fd5b766bfb72ae4f98bf2bd09cea4f60b9bc9ded09c3994d09"), looks := true }, kinds := [], alts := [], laidByText := true, laidKinds := [.data, .data, .data, .data, .sentinel, .sentinel, .pinned], laidTests := true, laidLooks := .later }
def FnExactParseRequestUptoCardSaid : Prop := Claim7.holds Tryz.pinned (.plain (OpenSpec.upto fnExactParseRequestSpec)) fnExactParseRequestUptoCard
end Rows
end Go.Proofs.YtaodeagfpncomaaGreatDoor

/-
  DERIVED. GIVEN WITH THE SEED: THE CARDS: each row of YtaejlonmildglaaGreatDoorRows.lean that lists a variable, with what it lists TIED to the program's text (the seventh form; the later family's looks); each row that meets fmt, with fmt's text TOLD by the authors' own Lean function (tested against real Go, not proved from fmt's source: count such statements apart). THE CARD IS WHAT COUNTS. Prove the row's statement (the work); the ties are given (YtaejlonmildglaaGreatDoorTie.lean); close each card by the builder's one call (the guide's Derived/Test/ToyasCard.lean, 'card_holds'). Laid BY PROGRAM, IN A SANDBOX (cutbox-door.mjs). By AI agents, Wed Nov 11 2026. No macro, syntax, notation, axiom, sorry.
-/
import Derived.Test.YtaejlonmildglaaGreatDoorRows
import GoSem.ClaimSeven
namespace Go.Proofs.YtaejlonmildglaaGreatDoor
namespace Rows

/-- THE TIED CARD OF 'laws.FnHandleRequestGet'. -/
def fnHandleRequestGetCard : Claim7 := { stood := { row := fnHandleRequestGetRow, standIns := [], harness := (true, "bad1b0eadc28d2561123ab9b1d20d60244212b354edb189a3bf81981113e6e22"), looks := false }, kinds := [], alts := [], laidByText := true, laidKinds := [.data, .data, .data], laidTests := true, laidLooks := .later }
def FnHandleRequestGetCardSaid : Prop := Claim7.holds Tryz.pinned (.plain (OpenSpec.ofChange fnHandleRequestGetSpec)) fnHandleRequestGetCard

/-- THE TIED CARD OF 'laws.FnHandleRequestPatch'. -/
def fnHandleRequestPatchCard : Claim7 := { stood := { row := fnHandleRequestPatchRow, standIns := [], harness := (true, "bad1b0eadc28d2561123ab9b1d20d60244212b354edb189a3bf81981113e6e22"), looks := false }, kinds := [], alts := [], laidByText := true, laidKinds := [.data, .data, .data], laidTests := true, laidLooks := .later }
def FnHandleRequestPatchCardSaid : Prop := Claim7.holds Tryz.pinned (.plain (OpenSpec.ofChange fnHandleRequestPatchSpec)) fnHandleRequestPatchCard

/-- THE TIED CARD OF 'laws.FnHandleRequestTwice'. -/
def fnHandleRequestTwiceCard : Claim7 := { stood := { row := fnHandleRequestTwiceRow, standIns := [], harness := (true, "bad1b0eadc28d2561123ab9b1d20d60244212b354edb189a3bf81981113e6e22"), looks := false }, kinds := [], alts := [], laidByText := true, laidKinds := [.data, .data, .data], laidTests := true, laidLooks := .later }
def FnHandleRequestTwiceCardSaid : Prop := Claim7.holds Tryz.pinned (.plain (OpenSpec.ofChange fnHandleRequestTwiceSpec)) fnHandleRequestTwiceCard

/-- THE TIED CARD OF 'laws.FnRunRequestsOne'. -/
def fnRunRequestsOneCard : Claim7 := { stood := { row := fnRunRequestsOneRow, standIns := [], harness := (true, "bad1b0eadc28d2561123ab9b1d20d60244212b354edb189a3bf81981113e6e22"), looks := false }, kinds := [], alts := [], laidByText := true, laidKinds := [.data, .data, .data], laidTests := true, laidLooks := .later }
def FnRunRequestsOneCardSaid : Prop := Claim7.holds Tryz.pinned (.plain (OpenSpec.ofChange fnRunRequestsOneSpec)) fnRunRequestsOneCard

/-- THE TIED CARD OF 'laws.FnRunRequests'. -/
def fnRunRequestsCard : Claim7 := { stood := { row := fnRunRequestsRow, standIns := [], harness := (true, "bad1b0eadc28d2561123ab9b1d20d60244212b354edb189a3bf81981113e6e22"), looks := false }, kinds := [], alts := [], laidByText := true, laidKinds := [.data, .data, .data], laidTests := true, laidLooks := .later }
def FnRunRequestsCardSaid : Prop := Claim7.holds Tryz.pinned (.plain (OpenSpec.ofChange fnRunRequestsSpec)) fnRunRequestsCard

/-- THE TIED CARD OF 'laws.FnRunBatch'. -/
def fnRunBatchCard : Claim7 := { stood := { row := fnRunBatchRow, standIns := [], harness := (true, "bad1b0eadc28d2561123ab9b1d20d60244212b354edb189a3bf81981113e6e22"), looks := false }, kinds := [], alts := [], laidByText := true, laidKinds := [.data, .data, .data], laidTests := true, laidLooks := .later }
def FnRunBatchCardSaid : Prop := Claim7.holds Tryz.pinned (.plain (OpenSpec.ofChange fnRunBatchSpec)) fnRunBatchCard

/-- THE TIED CARD OF 'laws.FnRunBatchGood'. -/
def fnRunBatchGoodCard : Claim7 := { stood := { row := fnRunBatchGoodRow, standIns := [], harness := (true, "bad1b0eadc28d2561123ab9b1d20d60244212b354edb189a3bf81981113e6e22"), looks := false }, kinds := [], alts := [], laidByText := true, laidKinds := [.data, .data, .data], laidTests := true, laidLooks := .later }
def FnRunBatchGoodCardSaid : Prop := Claim7.holds Tryz.pinned (.plain (OpenSpec.ofChange fnRunBatchGoodSpec)) fnRunBatchGoodCard

/-- THE TIED CARD OF 'laws.FnRunBatchNone'. -/
def fnRunBatchNoneCard : Claim7 := { stood := { row := fnRunBatchNoneRow, standIns := [], harness := (true, "bad1b0eadc28d2561123ab9b1d20d60244212b354edb189a3bf81981113e6e22"), looks := false }, kinds := [], alts := [], laidByText := true, laidKinds := [.data, .data, .data], laidTests := true, laidLooks := .later }
def FnRunBatchNoneCardSaid : Prop := Claim7.holds Tryz.pinned (.plain (OpenSpec.ofChange fnRunBatchNoneSpec)) fnRunBatchNoneCard

/-- THE TIED CARD OF 'laws.FnTouches'. -/
def fnTouchesCard : Claim7 := { stood := { row := fnTouchesRow, standIns := [], harness := (true, "bad1b0eadc28d2561123ab9b1d20d60244212b354edb189a3bf81981113e6e22"), looks := false }, kinds := [], alts := [], laidByText := true, laidKinds := [.data, .data, .data], laidTests := true, laidLooks := .later }
def FnTouchesCardSaid : Prop := Claim7.holds Tryz.pinned (.plain (OpenSpec.ofChange fnTouchesSpec)) fnTouchesCard

/-- THE SECOND FORM's CARD OF 'laws.FnHandleRequestGet'. -/
def fnHandleRequestGetUptoCard : Claim7 := { stood := { row := fnHandleRequestGetUptoRow, standIns := [], harness := (true, "bad1b0eadc28d2561123ab9b1d20d60244212b354edb189a3bf81981113e6e22"), looks := false }, kinds := [], alts := [], laidByText := true, laidKinds := [.data, .data, .data], laidTests := true, laidLooks := .later }
def FnHandleRequestGetUptoCardSaid : Prop := Claim7.holds Tryz.pinned (.plain (OpenSpec.upto fnHandleRequestGetSpec)) fnHandleRequestGetUptoCard

/-- THE SECOND FORM's CARD OF 'laws.FnHandleRequestPatch'. -/
def fnHandleRequestPatchUptoCard : Claim7 := { stood := { row := fnHandleRequestPatchUptoRow, standIns := [], harness := (true, "bad1b0eadc28d2561123ab9b1d20d60244212b354edb189a3bf81981113e6e22"), looks := false }, kinds := [], alts := [], laidByText := true, laidKinds := [.data, .data, .data], laidTests := true, laidLooks := .later }
def FnHandleRequestPatchUptoCardSaid : Prop := Claim7.holds Tryz.pinned (.plain (OpenSpec.upto fnHandleRequestPatchSpec)) fnHandleRequestPatchUptoCard

/-- THE SECOND FORM's CARD OF 'laws.FnHandleRequestTwice'. -/
def fnHandleRequestTwiceUptoCard : Claim7 := { stood := { row := fnHandleRequestTwiceUptoRow, standIns := [], harness := (true, "bad1b0eadc28d2561123ab9b1d20d60244212b354edb189a3bf81981113e6e22"), looks := false }, kinds := [], alts := [], laidByText := true, laidKinds := [.data, .data, .data], laidTests := true, laidLooks := .later }
def FnHandleRequestTwiceUptoCardSaid : Prop := Claim7.holds Tryz.pinned (.plain (OpenSpec.upto fnHandleRequestTwiceSpec)) fnHandleRequestTwiceUptoCard

/-- THE SECOND FORM's CARD OF 'laws.FnRunRequestsOne'. -/
def fnRunRequestsOneUptoCard : Claim7 := { stood := { row := fnRunRequestsOneUptoRow, standIns := [], harness := (true, "bad1b0eadc28d2561123ab9b1d20d60244212b354edb189a3bf81981113e6e22"), looks := false }, kinds := [], alts := [], laidByText := true, laidKinds := [.data, .data, .data], laidTests := true, laidLooks := .later }
def FnRunRequestsOneUptoCardSaid : Prop := Claim7.holds Tryz.pinned (.plain (OpenSpec.upto fnRunRequestsOneSpec)) fnRunRequestsOneUptoCard

/-- THE SECOND FORM's CARD OF 'laws.FnRunRequests'. -/
def fnRunRequestsUptoCard : Claim7 := { stood := { row := fnRunRequestsUptoRow, standIns := [], harness := (true, "bad1b0eadc28d2561123ab9b1d20d60244212b354edb189a3bf81981113e6e22"), looks := false }, kinds := [], alts := [], laidByText := true, laidKinds := [.data, .data, .data], laidTests := true, laidLooks := .later }
def FnRunRequestsUptoCardSaid : Prop := Claim7.holds Tryz.pinned (.plain (OpenSpec.upto fnRunRequestsSpec)) fnRunRequestsUptoCard

/-- THE SECOND FORM's CARD OF 'laws.FnRunBatch'. -/
def fnRunBatchUptoCard : Claim7 := { stood := { row := fnRunBatchUptoRow, standIns := [], harness := (true, "bad1b0eadc28d2561123ab9b1d20d60244212b354edb189a3bf81981113e6e22"), looks := false }, kinds := [], alts := [], laidByText := true, laidKinds := [.data, .data, .data], laidTests := true, laidLooks := .later }
def FnRunBatchUptoCardSaid : Prop := Claim7.holds Tryz.pinned (.plain (OpenSpec.upto fnRunBatchSpec)) fnRunBatchUptoCard

/-- THE SECOND FORM's CARD OF 'laws.FnRunBatchGood'. -/
def fnRunBatchGoodUptoCard : Claim7 := { stood := { row := fnRunBatchGoodUptoRow, standIns := [], harness := (true, "bad1b0eadc28d2561123ab9b1d20d60244212b354edb189a3bf81981113e6e22"), looks := false }, kinds := [], alts := [], laidByText := true, laidKinds := [.data, .data, .data], laidTests := true, laidLooks := .later }
def FnRunBatchGoodUptoCardSaid : Prop := Claim7.holds Tryz.pinned (.plain (OpenSpec.upto fnRunBatchGoodSpec)) fnRunBatchGoodUptoCard

/-- THE SECOND FORM's CARD OF 'laws.FnRunBatchNone'. -/
def fnRunBatchNoneUptoCard : Claim7 := { stood := { row := fnRunBatchNoneUptoRow, standIns := [], harness := (true, "bad1b0eadc28d2561123ab9b1d20d60244212b354edb189a3bf81981113e6e22"), looks := false }, kinds := [], alts := [], laidByText := true, laidKinds := [.data, .data, .data], laidTests := true, laidLooks := .later }
def FnRunBatchNoneUptoCardSaid : Prop := Claim7.holds Tryz.pinned (.plain (OpenSpec.upto fnRunBatchNoneSpec)) fnRunBatchNoneUptoCard

/-- THE SECOND FORM's CARD OF 'laws.FnTouches'. -/
def fnTouchesUptoCard : Claim7 := { stood := { row := fnTouchesUptoRow, standIns := [], harness := (true, "bad1b0eadc28d2561123ab9b1d20d60244212b354edb189a3bf81981113e6e22"), looks := false }, kinds := [], alts := [], laidByText := true, laidKinds := [.data, .data, .data], laidTests := true, laidLooks := .later }
def FnTouchesUptoCardSaid : Prop := Claim7.holds Tryz.pinned (.plain (OpenSpec.upto fnTouchesSpec)) fnTouchesUptoCard
end Rows
end Go.Proofs.YtaejlonmildglaaGreatDoor

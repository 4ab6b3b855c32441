/-
  DERIVED. GIVEN WITH THE SEED: THE CARDS: each row of YtjflgnaccghfmaaGreatDoorRows.lean that lists a variable, with what it lists TIED to the program's text (the seventh form; the later family's looks); each row that meets fmt, with fmt's text TOLD by the authors' own Lean function (tested against real Go, not proved from fmt's source: count such statements apart). THE CARD IS WHAT COUNTS. Prove the row's statement (the work); the ties are given (YtjflgnaccghfmaaGreatDoorTie.lean); close each card by the builder's one call (the guide's Derived/Test/ToyasCard.lean, 'card_holds'). Laid BY PROGRAM, IN A SANDBOX (cutbox-door.mjs). By AI agents, Wed Nov 11 2026. No macro, syntax, notation, axiom, sorry.
-/
import Derived.Test.YtjflgnaccghfmaaGreatDoorRows
import GoSem.ClaimSeven
namespace Go.Proofs.YtjflgnaccghfmaaGreatDoor
namespace Rows

/-- THE TIED CARD OF 'laws.FnDiffSize'. -/
def fnDiffSizeCard : Claim7 := { stood := { row := fnDiffSizeRow, standIns := [], harness := (true, "845dbdbbc52d267aabad38eb3f34fb9bded18566eaff79da0445406dce29ccff"), looks := false }, kinds := [], alts := [], laidByText := true, laidKinds := [.data, .data, .data], laidTests := true, laidLooks := .later }
def FnDiffSizeCardSaid : Prop := Claim7.holds Tryz.pinned (.plain (OpenSpec.ofChange fnDiffSizeSpec)) fnDiffSizeCard

/-- THE TIED CARD OF 'laws.FnDiffNodesMerge'. -/
def fnDiffNodesMergeCard : Claim7 := { stood := { row := fnDiffNodesMergeRow, standIns := [], harness := (true, "845dbdbbc52d267aabad38eb3f34fb9bded18566eaff79da0445406dce29ccff"), looks := false }, kinds := [], alts := [], laidByText := true, laidKinds := [.data, .data, .data], laidTests := true, laidLooks := .later }
def FnDiffNodesMergeCardSaid : Prop := Claim7.holds Tryz.pinned (.plain (OpenSpec.ofChange fnDiffNodesMergeSpec)) fnDiffNodesMergeCard

/-- THE TIED CARD OF 'laws.FnDiffNodes'. -/
def fnDiffNodesCard : Claim7 := { stood := { row := fnDiffNodesRow, standIns := [], harness := (true, "845dbdbbc52d267aabad38eb3f34fb9bded18566eaff79da0445406dce29ccff"), looks := false }, kinds := [], alts := [], laidByText := true, laidKinds := [.data, .data, .data], laidTests := true, laidLooks := .later }
def FnDiffNodesCardSaid : Prop := Claim7.holds Tryz.pinned (.plain (OpenSpec.ofChange fnDiffNodesSpec)) fnDiffNodesCard

/-- THE TIED CARD OF 'laws.FnDiffNodesKinds'. -/
def fnDiffNodesKindsCard : Claim7 := { stood := { row := fnDiffNodesKindsRow, standIns := [], harness := (true, "845dbdbbc52d267aabad38eb3f34fb9bded18566eaff79da0445406dce29ccff"), looks := false }, kinds := [], alts := [], laidByText := true, laidKinds := [.data, .data, .data], laidTests := true, laidLooks := .later }
def FnDiffNodesKindsCardSaid : Prop := Claim7.holds Tryz.pinned (.plain (OpenSpec.ofChange fnDiffNodesKindsSpec)) fnDiffNodesKindsCard

/-- THE TIED CARD OF 'laws.FnDiffNodesSame'. -/
def fnDiffNodesSameCard : Claim7 := { stood := { row := fnDiffNodesSameRow, standIns := [], harness := (true, "845dbdbbc52d267aabad38eb3f34fb9bded18566eaff79da0445406dce29ccff"), looks := false }, kinds := [], alts := [], laidByText := true, laidKinds := [.data, .data, .data], laidTests := true, laidLooks := .later }
def FnDiffNodesSameCardSaid : Prop := Claim7.holds Tryz.pinned (.plain (OpenSpec.ofChange fnDiffNodesSameSpec)) fnDiffNodesSameCard

/-- THE TIED CARD OF 'laws.FnIndexStoreOrder'. -/
def fnIndexStoreOrderCard : Claim7 := { stood := { row := fnIndexStoreOrderRow, standIns := [], harness := (true, "845dbdbbc52d267aabad38eb3f34fb9bded18566eaff79da0445406dce29ccff"), looks := false }, kinds := [], alts := [], laidByText := true, laidKinds := [.data, .data, .data], laidTests := true, laidLooks := .later }
def FnIndexStoreOrderCardSaid : Prop := Claim7.holds Tryz.pinned (.plain (OpenSpec.ofChange fnIndexStoreOrderSpec)) fnIndexStoreOrderCard

/-- THE TIED CARD OF 'laws.FnIndexStore'. -/
def fnIndexStoreCard : Claim7 := { stood := { row := fnIndexStoreRow, standIns := [], harness := (true, "845dbdbbc52d267aabad38eb3f34fb9bded18566eaff79da0445406dce29ccff"), looks := false }, kinds := [], alts := [], laidByText := true, laidKinds := [.data, .data, .data], laidTests := true, laidLooks := .later }
def FnIndexStoreCardSaid : Prop := Claim7.holds Tryz.pinned (.plain (OpenSpec.ofChange fnIndexStoreSpec)) fnIndexStoreCard

/-- THE TIED CARD OF 'laws.FnFindRangeScan'. -/
def fnFindRangeScanCard : Claim7 := { stood := { row := fnFindRangeScanRow, standIns := [], harness := (true, "845dbdbbc52d267aabad38eb3f34fb9bded18566eaff79da0445406dce29ccff"), looks := false }, kinds := [], alts := [], laidByText := true, laidKinds := [.data, .data, .data], laidTests := true, laidLooks := .later }
def FnFindRangeScanCardSaid : Prop := Claim7.holds Tryz.pinned (.plain (OpenSpec.ofChange fnFindRangeScanSpec)) fnFindRangeScanCard

/-- THE TIED CARD OF 'laws.FnIndexStorePut'. -/
def fnIndexStorePutCard : Claim7 := { stood := { row := fnIndexStorePutRow, standIns := [], harness := (true, "845dbdbbc52d267aabad38eb3f34fb9bded18566eaff79da0445406dce29ccff"), looks := false }, kinds := [], alts := [], laidByText := true, laidKinds := [.data, .data, .data], laidTests := true, laidLooks := .later }
def FnIndexStorePutCardSaid : Prop := Claim7.holds Tryz.pinned (.plain (OpenSpec.ofChange fnIndexStorePutSpec)) fnIndexStorePutCard

/-- THE SECOND FORM's CARD OF 'laws.FnDiffSize'. -/
def fnDiffSizeUptoCard : Claim7 := { stood := { row := fnDiffSizeUptoRow, standIns := [], harness := (true, "845dbdbbc52d267aabad38eb3f34fb9bded18566eaff79da0445406dce29ccff"), looks := false }, kinds := [], alts := [], laidByText := true, laidKinds := [.data, .data, .data], laidTests := true, laidLooks := .later }
def FnDiffSizeUptoCardSaid : Prop := Claim7.holds Tryz.pinned (.plain (OpenSpec.upto fnDiffSizeSpec)) fnDiffSizeUptoCard

/-- THE SECOND FORM's CARD OF 'laws.FnDiffNodesMerge'. -/
def fnDiffNodesMergeUptoCard : Claim7 := { stood := { row := fnDiffNodesMergeUptoRow, standIns := [], harness := (true, "845dbdbbc52d267aabad38eb3f34fb9bded18566eaff79da0445406dce29ccff"), looks := false }, kinds := [], alts := [], laidByText := true, laidKinds := [.data, .data, .data], laidTests := true, laidLooks := .later }
def FnDiffNodesMergeUptoCardSaid : Prop := Claim7.holds Tryz.pinned (.plain (OpenSpec.upto fnDiffNodesMergeSpec)) fnDiffNodesMergeUptoCard

/-- THE SECOND FORM's CARD OF 'laws.FnDiffNodes'. -/
def fnDiffNodesUptoCard : Claim7 := { stood := { row := fnDiffNodesUptoRow, standIns := [], harness := (true, "845dbdbbc52d267aabad38eb3f34fb9bded18566eaff79da0445406dce29ccff"), looks := false }, kinds := [], alts := [], laidByText := true, laidKinds := [.data, .data, .data], laidTests := true, laidLooks := .later }
def FnDiffNodesUptoCardSaid : Prop := Claim7.holds Tryz.pinned (.plain (OpenSpec.upto fnDiffNodesSpec)) fnDiffNodesUptoCard

/-- THE SECOND FORM's CARD OF 'laws.FnDiffNodesKinds'. -/
def fnDiffNodesKindsUptoCard : Claim7 := { stood := { row := fnDiffNodesKindsUptoRow, standIns := [], harness := (true, "845dbdbbc52d267aabad38eb3f34fb9bded18566eaff79da0445406dce29ccff"), looks := false }, kinds := [], alts := [], laidByText := true, laidKinds := [.data, .data, .data], laidTests := true, laidLooks := .later }
def FnDiffNodesKindsUptoCardSaid : Prop := Claim7.holds Tryz.pinned (.plain (OpenSpec.upto fnDiffNodesKindsSpec)) fnDiffNodesKindsUptoCard

/-- THE SECOND FORM's CARD OF 'laws.FnDiffNodesSame'. -/
def fnDiffNodesSameUptoCard : Claim7 := { stood := { row := fnDiffNodesSameUptoRow, standIns := [], harness := (true, "845dbdbbc52d267aabad38eb3f34fb9bded18566eaff79da0445406dce29ccff"), looks := false }, kinds := [], alts := [], laidByText := true, laidKinds := [.data, .data, .data], laidTests := true, laidLooks := .later }
def FnDiffNodesSameUptoCardSaid : Prop := Claim7.holds Tryz.pinned (.plain (OpenSpec.upto fnDiffNodesSameSpec)) fnDiffNodesSameUptoCard

/-- THE SECOND FORM's CARD OF 'laws.FnIndexStoreOrder'. -/
def fnIndexStoreOrderUptoCard : Claim7 := { stood := { row := fnIndexStoreOrderUptoRow, standIns := [], harness := (true, "845dbdbbc52d267aabad38eb3f34fb9bded18566eaff79da0445406dce29ccff"), looks := false }, kinds := [], alts := [], laidByText := true, laidKinds := [.data, .data, .data], laidTests := true, laidLooks := .later }
def FnIndexStoreOrderUptoCardSaid : Prop := Claim7.holds Tryz.pinned (.plain (OpenSpec.upto fnIndexStoreOrderSpec)) fnIndexStoreOrderUptoCard

/-- THE SECOND FORM's CARD OF 'laws.FnIndexStore'. -/
def fnIndexStoreUptoCard : Claim7 := { stood := { row := fnIndexStoreUptoRow, standIns := [], harness := (true, "845dbdbbc52d267aabad38eb3f34fb9bded18566eaff79da0445406dce29ccff"), looks := false }, kinds := [], alts := [], laidByText := true, laidKinds := [.data, .data, .data], laidTests := true, laidLooks := .later }
def FnIndexStoreUptoCardSaid : Prop := Claim7.holds Tryz.pinned (.plain (OpenSpec.upto fnIndexStoreSpec)) fnIndexStoreUptoCard

/-- THE SECOND FORM's CARD OF 'laws.FnFindRangeScan'. -/
def fnFindRangeScanUptoCard : Claim7 := { stood := { row := fnFindRangeScanUptoRow, standIns := [], harness := (true, "845dbdbbc52d267aabad38eb3f34fb9bded18566eaff79da0445406dce29ccff"), looks := false }, kinds := [], alts := [], laidByText := true, laidKinds := [.data, .data, .data], laidTests := true, laidLooks := .later }
def FnFindRangeScanUptoCardSaid : Prop := Claim7.holds Tryz.pinned (.plain (OpenSpec.upto fnFindRangeScanSpec)) fnFindRangeScanUptoCard

/-- THE SECOND FORM's CARD OF 'laws.FnIndexStorePut'. -/
def fnIndexStorePutUptoCard : Claim7 := { stood := { row := fnIndexStorePutUptoRow, standIns := [], harness := (true, "845dbdbbc52d267aabad38eb3f34fb9bded18566eaff79da0445406dce29ccff"), looks := false }, kinds := [], alts := [], laidByText := true, laidKinds := [.data, .data, .data], laidTests := true, laidLooks := .later }
def FnIndexStorePutUptoCardSaid : Prop := Claim7.holds Tryz.pinned (.plain (OpenSpec.upto fnIndexStorePutSpec)) fnIndexStorePutUptoCard
end Rows
end Go.Proofs.YtjflgnaccghfmaaGreatDoor

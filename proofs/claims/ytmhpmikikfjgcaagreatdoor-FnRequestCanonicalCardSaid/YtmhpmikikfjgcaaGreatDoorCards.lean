/-
  DERIVED. GIVEN WITH THE SEED: THE CARDS: each row of YtmhpmikikfjgcaaGreatDoorRows.lean that lists a variable, with what it lists TIED to the program's text (the seventh form; the later family's looks); each row that meets fmt, with fmt's text TOLD by the authors' own Lean function (tested against real Go, not proved from fmt's source: count such statements apart). THE CARD IS WHAT COUNTS. Prove the row's statement (the work); the ties are given (YtmhpmikikfjgcaaGreatDoorTie.lean); close each card by the builder's one call (the guide's Derived/Test/ToyasCard.lean, 'card_holds'). Laid BY PROGRAM, IN A SANDBOX (cutbox-door.mjs). By AI agents, Wed Nov 11 2026. No macro, syntax, notation, axiom, sorry.
-/
import Derived.Test.YtmhpmikikfjgcaaGreatDoorRows
import GoSem.ClaimSeven
namespace Go.Proofs.YtmhpmikikfjgcaaGreatDoor
namespace Rows

/-- THE TIED CARD OF 'laws.FnRequestRoundTrip'. -/
def fnRequestRoundTripCard : Claim7 := { stood := { row := fnRequestRoundTripRow, standIns := [], harness := (true, "ccb6944beeb78d526ad8459ee114024da1832e85273bb591e842e6caaedabee3"), looks := true }, kinds := [], alts := [], laidByText := true, laidKinds := [.data, .data, .data, .data, .sentinel, .sentinel, .pinned], laidTests := true, laidLooks := .later }
def FnRequestRoundTripCardSaid : Prop := Claim7.holds Tryz.pinned (.plain (OpenSpec.ofChange fnRequestRoundTripSpec)) fnRequestRoundTripCard

/-- THE TIED CARD OF 'laws.FnRequestCanonical'. -/
def fnRequestCanonicalCard : Claim7 := { stood := { row := fnRequestCanonicalRow, standIns := [], harness := (true, "ccb6944beeb78d526ad8459ee114024da1832e85273bb591e842e6caaedabee3"), looks := true }, kinds := [], alts := [], laidByText := true, laidKinds := [.data, .data, .data, .data, .sentinel, .sentinel, .pinned], laidTests := true, laidLooks := .later }
def FnRequestCanonicalCardSaid : Prop := Claim7.holds Tryz.pinned (.plain (OpenSpec.ofChange fnRequestCanonicalSpec)) fnRequestCanonicalCard

/-- THE TIED CARD OF 'laws.FnSessionBack'. -/
def fnSessionBackCard : Claim7 := { stood := { row := fnSessionBackRow, standIns := [], harness := (true, "ccb6944beeb78d526ad8459ee114024da1832e85273bb591e842e6caaedabee3"), looks := true }, kinds := [], alts := [], laidByText := true, laidKinds := [.data, .data, .data, .data, .sentinel, .sentinel, .pinned], laidTests := true, laidLooks := .later }
def FnSessionBackCardSaid : Prop := Claim7.holds Tryz.pinned (.plain (OpenSpec.ofChange fnSessionBackSpec)) fnSessionBackCard

/-- THE TIED CARD OF 'laws.FnSessionGet'. -/
def fnSessionGetCard : Claim7 := { stood := { row := fnSessionGetRow, standIns := [], harness := (true, "ccb6944beeb78d526ad8459ee114024da1832e85273bb591e842e6caaedabee3"), looks := true }, kinds := [], alts := [], laidByText := true, laidKinds := [.data, .data, .data, .data, .sentinel, .sentinel, .pinned], laidTests := true, laidLooks := .later }
def FnSessionGetCardSaid : Prop := Claim7.holds Tryz.pinned (.plain (OpenSpec.ofChange fnSessionGetSpec)) fnSessionGetCard

/-- THE TIED CARD OF 'laws.FnSessionPrefix'. -/
def fnSessionPrefixCard : Claim7 := { stood := { row := fnSessionPrefixRow, standIns := [], harness := (true, "ccb6944beeb78d526ad8459ee114024da1832e85273bb591e842e6caaedabee3"), looks := true }, kinds := [], alts := [], laidByText := true, laidKinds := [.data, .data, .data, .data, .sentinel, .sentinel, .pinned], laidTests := true, laidLooks := .later }
def FnSessionPrefixCardSaid : Prop := Claim7.holds Tryz.pinned (.plain (OpenSpec.ofChange fnSessionPrefixSpec)) fnSessionPrefixCard

/-- THE TIED CARD OF 'laws.FnExactRunSession'. -/
def fnExactRunSessionCard : Claim7 := { stood := { row := fnExactRunSessionRow, standIns := [], harness := (true, "ccb6944beeb78d526ad8459ee114024da1832e85273bb591e842e6caaedabee3"), looks := true }, kinds := [], alts := [], laidByText := true, laidKinds := [.data, .data, .data, .data, .sentinel, .sentinel, .pinned], laidTests := true, laidLooks := .later }
def FnExactRunSessionCardSaid : Prop := Claim7.holds Tryz.pinned (.plain (OpenSpec.ofChange fnExactRunSessionSpec)) fnExactRunSessionCard

/-- THE TIED CARD OF 'laws.FnExactParseRequest'. -/
def fnExactParseRequestCard : Claim7 := { stood := { row := fnExactParseRequestRow, standIns := [], harness := (true, "ccb6944beeb78d526ad8459ee114024da1832e85273bb591e842e6caaedabee3"), looks := true }, kinds := [], alts := [], laidByText := true, laidKinds := [.data, .data, .data, .data, .sentinel, .sentinel, .pinned], laidTests := true, laidLooks := .later }
def FnExactParseRequestCardSaid : Prop := Claim7.holds Tryz.pinned (.plain (OpenSpec.ofChange fnExactParseRequestSpec)) fnExactParseRequestCard

/-- THE SECOND FORM's CARD OF 'laws.FnRequestRoundTrip'. -/
def fnRequestRoundTripUptoCard : Claim7 := { stood := { row := fnRequestRoundTripUptoRow, standIns := [], harness := (true, "ccb6944beeb78d526ad8459ee114024da1832e85273bb591e842e6caaedabee3"), looks := true }, kinds := [], alts := [], laidByText := true, laidKinds := [.data, .data, .data, .data, .sentinel, .sentinel, .pinned], laidTests := true, laidLooks := .later }
def FnRequestRoundTripUptoCardSaid : Prop := Claim7.holds Tryz.pinned (.plain (OpenSpec.upto fnRequestRoundTripSpec)) fnRequestRoundTripUptoCard

/-- THE SECOND FORM's CARD OF 'laws.FnRequestCanonical'. -/
def fnRequestCanonicalUptoCard : Claim7 := { stood := { row := fnRequestCanonicalUptoRow, standIns := [], harness := (true, "ccb6944beeb78d526ad8459ee114024da1832e85273bb591e842e6caaedabee3"), looks := true }, kinds := [], alts := [], laidByText := true, laidKinds := [.data, .data, .data, .data, .sentinel, .sentinel, .pinned], laidTests := true, laidLooks := .later }
def FnRequestCanonicalUptoCardSaid : Prop := Claim7.holds Tryz.pinned (.plain (OpenSpec.upto fnRequestCanonicalSpec)) fnRequestCanonicalUptoCard

/-- THE SECOND FORM's CARD OF 'laws.FnSessionBack'. -/
def fnSessionBackUptoCard : Claim7 := { stood := { row := fnSessionBackUptoRow, standIns := [], harness := (true, "ccb6944beeb78d526ad8459ee114024da1832e85273bb591e842e6caaedabee3"), looks := true }, kinds := [], alts := [], laidByText := true, laidKinds := [.data, .data, .data, .data, .sentinel, .sentinel, .pinned], laidTests := true, laidLooks := .later }
def FnSessionBackUptoCardSaid : Prop := Claim7.holds Tryz.pinned (.plain (OpenSpec.upto fnSessionBackSpec)) fnSessionBackUptoCard

/-- THE SECOND FORM's CARD OF 'laws.FnSessionGet'. -/
def fnSessionGetUptoCard : Claim7 := { stood := { row := fnSessionGetUptoRow, standIns := [], harness := (true, "ccb6944beeb78d526ad8459ee114024da1832e85273bb591e842e6caaedabee3"), looks := true }, kinds := [], alts := [], laidByText := true, laidKinds := [.data, .data, .data, .data, .sentinel, .sentinel, .pinned], laidTests := true, laidLooks := .later }
def FnSessionGetUptoCardSaid : Prop := Claim7.holds Tryz.pinned (.plain (OpenSpec.upto fnSessionGetSpec)) fnSessionGetUptoCard

/-- THE SECOND FORM's CARD OF 'laws.FnSessionPrefix'. -/
def fnSessionPrefixUptoCard : Claim7 := { stood := { row := fnSessionPrefixUptoRow, standIns := [], harness := (true, "ccb6944beeb78d526ad8459ee114024da1832e85273bb591e842e6caaedabee3"), looks := true }, kinds := [], alts := [], laidByText := true, laidKinds := [.data, .data, .data, .data, .sentinel, .sentinel, .pinned], laidTests := true, laidLooks := .later }
def FnSessionPrefixUptoCardSaid : Prop := Claim7.holds Tryz.pinned (.plain (OpenSpec.upto fnSessionPrefixSpec)) fnSessionPrefixUptoCard

/-- THE SECOND FORM's CARD OF 'laws.FnExactRunSession'. -/
def fnExactRunSessionUptoCard : Claim7 := { stood := { row := fnExactRunSessionUptoRow, standIns := [], harness := (true, "ccb6944beeb78d526ad8459ee114024da1832e85273bb591e842e6caaedabee3"), looks := true }, kinds := [], alts := [], laidByText := true, laidKinds := [.data, .data, .data, .data, .sentinel, .sentinel, .pinned], laidTests := true, laidLooks := .later }
def FnExactRunSessionUptoCardSaid : Prop := Claim7.holds Tryz.pinned (.plain (OpenSpec.upto fnExactRunSessionSpec)) fnExactRunSessionUptoCard

/-- THE SECOND FORM's CARD OF 'laws.FnExactParseRequest'. -/
def fnExactParseRequestUptoCard : Claim7 := { stood := { row := fnExactParseRequestUptoRow, standIns := [], harness := (true, "ccb6944beeb78d526ad8459ee114024da1832e85273bb591e842e6caaedabee3"), looks := true }, kinds := [], alts := [], laidByText := true, laidKinds := [.data, .data, .data, .data, .sentinel, .sentinel, .pinned], laidTests := true, laidLooks := .later }
def FnExactParseRequestUptoCardSaid : Prop := Claim7.holds Tryz.pinned (.plain (OpenSpec.upto fnExactParseRequestSpec)) fnExactParseRequestUptoCard
end Rows
end Go.Proofs.YtmhpmikikfjgcaaGreatDoor

/-
  DERIVED. GIVEN WITH THE SEED: THE CARDS: each row of YtghoohcdipegcaaGreatDoorRows.lean that lists a variable, with what it lists TIED to the program's text (the seventh form; the later family's looks); each row that meets fmt, with fmt's text TOLD by the authors' own Lean function (tested against real Go, not proved from fmt's source: count such statements apart). THE CARD IS WHAT COUNTS. Prove the row's statement (the work); the ties are given (YtghoohcdipegcaaGreatDoorTie.lean); close each card by the builder's one call (the guide's Derived/Test/ToyasCard.lean, 'card_holds'). Laid BY PROGRAM, IN A SANDBOX (cutbox-door.mjs). By AI agents, Wed Nov 11 2026. No macro, syntax, notation, axiom, sorry.
-/
import Derived.Test.YtghoohcdipegcaaGreatDoorRows
import GoSem.ClaimSeven
namespace Go.Proofs.YtghoohcdipegcaaGreatDoor
namespace Rows

/-- THE TIED CARD OF 'laws.FnSessionBack'. -/
def fnSessionBackCard : Claim7 := { stood := { row := fnSessionBackRow, standIns := [], harness := (true, "83b2c28683d491d80231ffa023af3e897abce4479d5709f9b66366339d0ff90a"), looks := true }, kinds := [], alts := [], laidByText := true, laidKinds := [.data, .data, .data, .data, .sentinel, .sentinel, .pinned], laidTests := true, laidLooks := .later }
def FnSessionBackCardSaid : Prop := Claim7.holds Tryz.pinned (.plain (OpenSpec.ofChange fnSessionBackSpec)) fnSessionBackCard

/-- THE TIED CARD OF 'laws.FnSessionGet'. -/
def fnSessionGetCard : Claim7 := { stood := { row := fnSessionGetRow, standIns := [], harness := (true, "83b2c28683d491d80231ffa023af3e897abce4479d5709f9b66366339d0ff90a"), looks := true }, kinds := [], alts := [], laidByText := true, laidKinds := [.data, .data, .data, .data, .sentinel, .sentinel, .pinned], laidTests := true, laidLooks := .later }
def FnSessionGetCardSaid : Prop := Claim7.holds Tryz.pinned (.plain (OpenSpec.ofChange fnSessionGetSpec)) fnSessionGetCard

/-- THE TIED CARD OF 'laws.FnSessionPrefix'. -/
def fnSessionPrefixCard : Claim7 := { stood := { row := fnSessionPrefixRow, standIns := [], harness := (true, "83b2c28683d491d80231ffa023af3e897abce4479d5709f9b66366339d0ff90a"), looks := true }, kinds := [], alts := [], laidByText := true, laidKinds := [.data, .data, .data, .data, .sentinel, .sentinel, .pinned], laidTests := true, laidLooks := .later }
def FnSessionPrefixCardSaid : Prop := Claim7.holds Tryz.pinned (.plain (OpenSpec.ofChange fnSessionPrefixSpec)) fnSessionPrefixCard

/-- THE SECOND FORM's CARD OF 'laws.FnSessionBack'. -/
def fnSessionBackUptoCard : Claim7 := { stood := { row := fnSessionBackUptoRow, standIns := [], harness := (true, "83b2c28683d491d80231ffa023af3e897abce4479d5709f9b66366339d0ff90a"), looks := true }, kinds := [], alts := [], laidByText := true, laidKinds := [.data, .data, .data, .data, .sentinel, .sentinel, .pinned], laidTests := true, laidLooks := .later }
def FnSessionBackUptoCardSaid : Prop := Claim7.holds Tryz.pinned (.plain (OpenSpec.upto fnSessionBackSpec)) fnSessionBackUptoCard

/-- THE SECOND FORM's CARD OF 'laws.FnSessionGet'. -/
def fnSessionGetUptoCard : Claim7 := { stood := { row := fnSessionGetUptoRow, standIns := [], harness := (true, "83b2c28683d491d80231ffa023af3e897abce4479d5709f9b66366339d0ff90a"), looks := true }, kinds := [], alts := [], laidByText := true, laidKinds := [.data, .data, .data, .data, .sentinel, .sentinel, .pinned], laidTests := true, laidLooks := .later }
def FnSessionGetUptoCardSaid : Prop := Claim7.holds Tryz.pinned (.plain (OpenSpec.upto fnSessionGetSpec)) fnSessionGetUptoCard

/-- THE SECOND FORM's CARD OF 'laws.FnSessionPrefix'. -/
def fnSessionPrefixUptoCard : Claim7 := { stood := { row := fnSessionPrefixUptoRow, standIns := [], harness := (true, "83b2c28683d491d80231ffa023af3e897abce4479d5709f9b66366339d0ff90a"), looks := true }, kinds := [], alts := [], laidByText := true, laidKinds := [.data, .data, .data, .data, .sentinel, .sentinel, .pinned], laidTests := true, laidLooks := .later }
def FnSessionPrefixUptoCardSaid : Prop := Claim7.holds Tryz.pinned (.plain (OpenSpec.upto fnSessionPrefixSpec)) fnSessionPrefixUptoCard
end Rows
end Go.Proofs.YtghoohcdipegcaaGreatDoor

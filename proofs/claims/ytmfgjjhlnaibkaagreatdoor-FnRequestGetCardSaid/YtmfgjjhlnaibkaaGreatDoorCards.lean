/-
  DERIVED. GIVEN WITH THE SEED: THE CARDS: each row of YtmfgjjhlnaibkaaGreatDoorRows.lean that lists a variable, with what it lists TIED to the program's text (the seventh form; the later family's looks); each row that meets fmt, with fmt's text TOLD by the authors' own Lean function (tested against real Go, not proved from fmt's source: count such statements apart). THE CARD IS WHAT COUNTS. Prove the row's statement (the work); the ties are given (YtmfgjjhlnaibkaaGreatDoorTie.lean); close each card by the builder's one call (the guide's Derived/Test/ToyasCard.lean, 'card_holds'). Laid BY PROGRAM, IN A SANDBOX (cutbox-door.mjs). By AI agents, Wed Nov 11 2026. No macro, syntax, notation, axiom, sorry.
-/
import Derived.Test.YtmfgjjhlnaibkaaGreatDoorRows
import GoSem.ClaimSeven
namespace Go.Proofs.YtmfgjjhlnaibkaaGreatDoor
namespace Rows

/-- THE TIED CARD OF 'laws.FnRequestText'. -/
def fnRequestTextCard : Claim7 := { stood := { row := fnRequestTextRow, standIns := [], harness := (true, "735c4fd783e46d5bb76160001ad1783d03e51a715491735f68ffc25504882389"), looks := false }, kinds := [], alts := [], laidByText := true, laidKinds := [.data, .data, .data], laidTests := true, laidLooks := .later }
def FnRequestTextCardSaid : Prop := Claim7.holds Tryz.pinned (.plain (OpenSpec.ofChange fnRequestTextSpec)) fnRequestTextCard

/-- THE TIED CARD OF 'laws.FnRequestGet'. -/
def fnRequestGetCard : Claim7 := { stood := { row := fnRequestGetRow, standIns := [], harness := (true, "735c4fd783e46d5bb76160001ad1783d03e51a715491735f68ffc25504882389"), looks := false }, kinds := [], alts := [], laidByText := true, laidKinds := [.data, .data, .data], laidTests := true, laidLooks := .later }
def FnRequestGetCardSaid : Prop := Claim7.holds Tryz.pinned (.plain (OpenSpec.ofChange fnRequestGetSpec)) fnRequestGetCard

/-- THE SECOND FORM's CARD OF 'laws.FnRequestText'. -/
def fnRequestTextUptoCard : Claim7 := { stood := { row := fnRequestTextUptoRow, standIns := [], harness := (true, "735c4fd783e46d5bb76160001ad1783d03e51a715491735f68ffc25504882389"), looks := false }, kinds := [], alts := [], laidByText := true, laidKinds := [.data, .data, .data], laidTests := true, laidLooks := .later }
def FnRequestTextUptoCardSaid : Prop := Claim7.holds Tryz.pinned (.plain (OpenSpec.upto fnRequestTextSpec)) fnRequestTextUptoCard

/-- THE SECOND FORM's CARD OF 'laws.FnRequestGet'. -/
def fnRequestGetUptoCard : Claim7 := { stood := { row := fnRequestGetUptoRow, standIns := [], harness := (true, "735c4fd783e46d5bb76160001ad1783d03e51a715491735f68ffc25504882389"), looks := false }, kinds := [], alts := [], laidByText := true, laidKinds := [.data, .data, .data], laidTests := true, laidLooks := .later }
def FnRequestGetUptoCardSaid : Prop := Claim7.holds Tryz.pinned (.plain (OpenSpec.upto fnRequestGetSpec)) fnRequestGetUptoCard
end Rows
end Go.Proofs.YtmfgjjhlnaibkaaGreatDoor

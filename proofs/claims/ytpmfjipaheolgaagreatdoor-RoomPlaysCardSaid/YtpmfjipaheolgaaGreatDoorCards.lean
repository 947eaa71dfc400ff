/-
  DERIVED. GIVEN WITH THE SEED: THE CARDS: each row of YtpmfjipaheolgaaGreatDoorRows.lean that lists a variable, with what it lists TIED to the program's text (the seventh form; the later family's looks); each row that meets fmt, with fmt's text TOLD by the authors' own Lean function (tested against real Go, not proved from fmt's source: count such statements apart). THE CARD IS WHAT COUNTS. Prove the row's statement (the work); the ties are given (YtpmfjipaheolgaaGreatDoorTie.lean); close each card by the builder's one call (the guide's Derived/Test/ToyasCard.lean, 'card_holds'). Laid BY PROGRAM, IN A SANDBOX (cutbox-door.mjs). By AI agents, Wed Nov 11 2026. No macro, syntax, notation, axiom, sorry.
-/
import Derived.Test.YtpmfjipaheolgaaGreatDoorRows
import GoSem.ClaimSeven
namespace Go.Proofs.YtpmfjipaheolgaaGreatDoor
namespace Rows

/-- THE TIED CARD OF 'wringinglaw08.RoomGathers'. -/
def roomGathersCard : Claim7 := { stood := { row := roomGathersRow, standIns := [], harness := (true, "eb15e8c058175b29450ce3603d9665ca066cc0fb7c4a561fad1fef09f36ee5e2"), looks := true }, kinds := [], alts := [], laidByText := true, laidKinds := [.data, .data, .data, .sentinel, .sentinel], laidTests := true, laidLooks := .later }
def RoomGathersCardSaid : Prop := Claim7.holds Tryz.pinned (.plain (OpenSpec.ofChange roomGathersSpec)) roomGathersCard

/-- THE TIED CARD OF 'wringinglaw08.RoomPlays'. -/
def roomPlaysCard : Claim7 := { stood := { row := roomPlaysRow, standIns := [], harness := (true, "eb15e8c058175b29450ce3603d9665ca066cc0fb7c4a561fad1fef09f36ee5e2"), looks := true }, kinds := [], alts := [], laidByText := true, laidKinds := [.data, .data, .data, .sentinel, .sentinel, .pinned, .data, .data, .listed], laidTests := true, laidLooks := .later }
def RoomPlaysCardSaid : Prop := Claim7.holds Tryz.pinned (.plain (OpenSpec.ofChange roomPlaysSpec)) roomPlaysCard

/-- THE SECOND FORM's CARD OF 'wringinglaw08.RoomGathers'. -/
def roomGathersUptoCard : Claim7 := { stood := { row := roomGathersUptoRow, standIns := [], harness := (true, "eb15e8c058175b29450ce3603d9665ca066cc0fb7c4a561fad1fef09f36ee5e2"), looks := true }, kinds := [], alts := [], laidByText := true, laidKinds := [.data, .data, .data, .sentinel, .sentinel], laidTests := true, laidLooks := .later }
def RoomGathersUptoCardSaid : Prop := Claim7.holds Tryz.pinned (.plain (OpenSpec.upto roomGathersSpec)) roomGathersUptoCard

/-- THE SECOND FORM's CARD OF 'wringinglaw08.RoomPlays'. -/
def roomPlaysUptoCard : Claim7 := { stood := { row := roomPlaysUptoRow, standIns := [], harness := (true, "eb15e8c058175b29450ce3603d9665ca066cc0fb7c4a561fad1fef09f36ee5e2"), looks := true }, kinds := [], alts := [], laidByText := true, laidKinds := [.data, .data, .data, .sentinel, .sentinel, .pinned, .data, .data, .listed], laidTests := true, laidLooks := .later }
def RoomPlaysUptoCardSaid : Prop := Claim7.holds Tryz.pinned (.plain (OpenSpec.upto roomPlaysSpec)) roomPlaysUptoCard
end Rows
end Go.Proofs.YtpmfjipaheolgaaGreatDoor

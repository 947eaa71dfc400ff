/-
  DERIVED. GIVEN WITH THE SEED: THE CARDS: each row of YtefodipjjofocaaGreatDoorRows.lean that lists a variable, with what it lists TIED to the program's text (the seventh form; the later family's looks); each row that meets fmt, with fmt's text TOLD by the authors' own Lean function (tested against real Go, not proved from fmt's source: count such statements apart). THE CARD IS WHAT COUNTS. Prove the row's statement (the work); the ties are given (YtefodipjjofocaaGreatDoorTie.lean); close each card by the builder's one call (the guide's Derived/Test/ToyasCard.lean, 'card_holds'). Laid BY PROGRAM, IN A SANDBOX (cutbox-door.mjs). By AI agents, Wed Nov 11 2026. No macro, syntax, notation, axiom, sorry.
-/
import Derived.Test.YtefodipjjofocaaGreatDoorRows
import GoSem.ClaimSeven
namespace Go.Proofs.YtefodipjjofocaaGreatDoor
namespace Rows

/-- THE TIED CARD OF 'wringinglaw08.RoomFacts'. -/
def roomFactsCard : Claim7 := { stood := { row := roomFactsRow, standIns := [], harness := (true, "428d4dddf37a9cc27f046ec9fc3a5a4b629650ecdab7d3afd2372d8f2db67c29"), looks := true }, kinds := [], alts := [], laidByText := true, laidKinds := [.data, .data, .data, .sentinel, .sentinel], laidTests := true, laidLooks := .later }
def RoomFactsCardSaid : Prop := Claim7.holds Tryz.pinned (.plain (OpenSpec.ofChange roomFactsSpec)) roomFactsCard

/-- THE TIED CARD OF 'wringinglaw08.RoomGathers'. -/
def roomGathersCard : Claim7 := { stood := { row := roomGathersRow, standIns := [], harness := (true, "428d4dddf37a9cc27f046ec9fc3a5a4b629650ecdab7d3afd2372d8f2db67c29"), looks := true }, kinds := [], alts := [], laidByText := true, laidKinds := [.data, .data, .data, .sentinel, .sentinel], laidTests := true, laidLooks := .later }
def RoomGathersCardSaid : Prop := Claim7.holds Tryz.pinned (.plain (OpenSpec.ofChange roomGathersSpec)) roomGathersCard

/-- THE TIED CARD OF 'wringinglaw08.RoomMerges'. -/
def roomMergesCard : Claim7 := { stood := { row := roomMergesRow, standIns := [], harness := (true, "428d4dddf37a9cc27f046ec9fc3a5a4b629650ecdab7d3afd2372d8f2db67c29"), looks := true }, kinds := [], alts := [], laidByText := true, laidKinds := [.data, .data, .data, .sentinel, .sentinel], laidTests := true, laidLooks := .later }
def RoomMergesCardSaid : Prop := Claim7.holds Tryz.pinned (.plain (OpenSpec.ofChange roomMergesSpec)) roomMergesCard

/-- THE SECOND FORM's CARD OF 'wringinglaw08.RoomFacts'. -/
def roomFactsUptoCard : Claim7 := { stood := { row := roomFactsUptoRow, standIns := [], harness := (true, "428d4dddf37a9cc27f046ec9fc3a5a4b629650ecdab7d3afd2372d8f2db67c29"), looks := true }, kinds := [], alts := [], laidByText := true, laidKinds := [.data, .data, .data, .sentinel, .sentinel], laidTests := true, laidLooks := .later }
def RoomFactsUptoCardSaid : Prop := Claim7.holds Tryz.pinned (.plain (OpenSpec.upto roomFactsSpec)) roomFactsUptoCard

/-- THE SECOND FORM's CARD OF 'wringinglaw08.RoomGathers'. -/
def roomGathersUptoCard : Claim7 := { stood := { row := roomGathersUptoRow, standIns := [], harness := (true, "428d4dddf37a9cc27f046ec9fc3a5a4b629650ecdab7d3afd2372d8f2db67c29"), looks := true }, kinds := [], alts := [], laidByText := true, laidKinds := [.data, .data, .data, .sentinel, .sentinel], laidTests := true, laidLooks := .later }
def RoomGathersUptoCardSaid : Prop := Claim7.holds Tryz.pinned (.plain (OpenSpec.upto roomGathersSpec)) roomGathersUptoCard

/-- THE SECOND FORM's CARD OF 'wringinglaw08.RoomMerges'. -/
def roomMergesUptoCard : Claim7 := { stood := { row := roomMergesUptoRow, standIns := [], harness := (true, "428d4dddf37a9cc27f046ec9fc3a5a4b629650ecdab7d3afd2372d8f2db67c29"), looks := true }, kinds := [], alts := [], laidByText := true, laidKinds := [.data, .data, .data, .sentinel, .sentinel], laidTests := true, laidLooks := .later }
def RoomMergesUptoCardSaid : Prop := Claim7.holds Tryz.pinned (.plain (OpenSpec.upto roomMergesSpec)) roomMergesUptoCard
end Rows
end Go.Proofs.YtefodipjjofocaaGreatDoor

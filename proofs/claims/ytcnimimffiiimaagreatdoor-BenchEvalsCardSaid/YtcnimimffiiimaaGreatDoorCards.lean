/-
  DERIVED. GIVEN WITH THE SEED: THE CARDS: each row of YtcnimimffiiimaaGreatDoorRows.lean that lists a variable, with what it lists TIED to the program's text (the seventh form; the later family's looks); each row that meets fmt, with fmt's text TOLD by the authors' own Lean function (tested against real Go, not proved from fmt's source: count such statements apart). THE CARD IS WHAT COUNTS. Prove the row's statement (the work); the ties are given (YtcnimimffiiimaaGreatDoorTie.lean); close each card by the builder's one call (the guide's Derived/Test/ToyasCard.lean, 'card_holds'). Laid BY PROGRAM, IN A SANDBOX (cutbox-door.mjs). By AI agents, Wed Nov 11 2026. No macro, syntax, notation, axiom, sorry.
-/
import Derived.Test.YtcnimimffiiimaaGreatDoorRows
import GoSem.ClaimSeven
namespace Go.Proofs.YtcnimimffiiimaaGreatDoor
namespace Rows

/-- THE TIED CARD OF 'wringinglaw09.BenchFolds'. -/
def benchFoldsCard : Claim7 := { stood := { row := benchFoldsRow, standIns := [], harness := (true, "fa7968eb1ba0ce5dc20bbccee07c6cf8e8ef120d86ca6c6f314a02d8a1f89521"), looks := true }, kinds := [], alts := [], laidByText := true, laidKinds := [.sentinel, .sentinel, .data, .data, .data, .pinned, .data, .data, .listed], laidTests := true, laidLooks := .later }
def BenchFoldsCardSaid : Prop := Claim7.holds Tryz.pinned (.plain (OpenSpec.ofChange benchFoldsSpec)) benchFoldsCard

/-- THE TIED CARD OF 'wringinglaw09.BenchEvals'. -/
def benchEvalsCard : Claim7 := { stood := { row := benchEvalsRow, standIns := [], harness := (true, "fa7968eb1ba0ce5dc20bbccee07c6cf8e8ef120d86ca6c6f314a02d8a1f89521"), looks := true }, kinds := [], alts := [], laidByText := true, laidKinds := [.sentinel, .sentinel, .data, .data, .data, .pinned, .data, .data, .listed], laidTests := true, laidLooks := .later }
def BenchEvalsCardSaid : Prop := Claim7.holds Tryz.pinned (.plain (OpenSpec.ofChange benchEvalsSpec)) benchEvalsCard

/-- THE TIED CARD OF 'wringinglaw09.BenchMemory'. -/
def benchMemoryCard : Claim7 := { stood := { row := benchMemoryRow, standIns := [], harness := (true, "fa7968eb1ba0ce5dc20bbccee07c6cf8e8ef120d86ca6c6f314a02d8a1f89521"), looks := true }, kinds := [], alts := [], laidByText := true, laidKinds := [.data, .data, .data, .sentinel, .sentinel, .pinned, .data, .data, .listed], laidTests := true, laidLooks := .later }
def BenchMemoryCardSaid : Prop := Claim7.holds Tryz.pinned (.plain (OpenSpec.ofChange benchMemorySpec)) benchMemoryCard

/-- THE SECOND FORM's CARD OF 'wringinglaw09.BenchFolds'. -/
def benchFoldsUptoCard : Claim7 := { stood := { row := benchFoldsUptoRow, standIns := [], harness := (true, "fa7968eb1ba0ce5dc20bbccee07c6cf8e8ef120d86ca6c6f314a02d8a1f89521"), looks := true }, kinds := [], alts := [], laidByText := true, laidKinds := [.sentinel, .sentinel, .data, .data, .data, .pinned, .data, .data, .listed], laidTests := true, laidLooks := .later }
def BenchFoldsUptoCardSaid : Prop := Claim7.holds Tryz.pinned (.plain (OpenSpec.upto benchFoldsSpec)) benchFoldsUptoCard

/-- THE SECOND FORM's CARD OF 'wringinglaw09.BenchEvals'. -/
def benchEvalsUptoCard : Claim7 := { stood := { row := benchEvalsUptoRow, standIns := [], harness := (true, "fa7968eb1ba0ce5dc20bbccee07c6cf8e8ef120d86ca6c6f314a02d8a1f89521"), looks := true }, kinds := [], alts := [], laidByText := true, laidKinds := [.sentinel, .sentinel, .data, .data, .data, .pinned, .data, .data, .listed], laidTests := true, laidLooks := .later }
def BenchEvalsUptoCardSaid : Prop := Claim7.holds Tryz.pinned (.plain (OpenSpec.upto benchEvalsSpec)) benchEvalsUptoCard

/-- THE SECOND FORM's CARD OF 'wringinglaw09.BenchMemory'. -/
def benchMemoryUptoCard : Claim7 := { stood := { row := benchMemoryUptoRow, standIns := [], harness := (true, "fa7968eb1ba0ce5dc20bbccee07c6cf8e8ef120d86ca6c6f314a02d8a1f89521"), looks := true }, kinds := [], alts := [], laidByText := true, laidKinds := [.data, .data, .data, .sentinel, .sentinel, .pinned, .data, .data, .listed], laidTests := true, laidLooks := .later }
def BenchMemoryUptoCardSaid : Prop := Claim7.holds Tryz.pinned (.plain (OpenSpec.upto benchMemorySpec)) benchMemoryUptoCard
end Rows
end Go.Proofs.YtcnimimffiiimaaGreatDoor

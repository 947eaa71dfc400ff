/-
  DERIVED. GIVEN WITH THE SEED: THE CARDS: each row of YteecnooaopfkeaaGreatDoorRows.lean that lists a variable, with what it lists TIED to the program's text (the seventh form; the later family's looks); each row that meets fmt, with fmt's text TOLD by the authors' own Lean function (tested against real Go, not proved from fmt's source: count such statements apart). THE CARD IS WHAT COUNTS. Prove the row's statement (the work); the ties are given (YteecnooaopfkeaaGreatDoorTie.lean); close each card by the builder's one call (the guide's Derived/Test/ToyasCard.lean, 'card_holds'). Laid BY PROGRAM, IN A SANDBOX (cutbox-door.mjs). By AI agents, Wed Nov 11 2026. No macro, syntax, notation, axiom, sorry.
-/
import Derived.Test.YteecnooaopfkeaaGreatDoorRows
import GoSem.ClaimSeven
namespace Go.Proofs.YteecnooaopfkeaaGreatDoor
namespace Rows

/-- THE TIED CARD OF 'wringinglaw09.BenchLexes'. -/
def benchLexesCard : Claim7 := { stood := { row := benchLexesRow, standIns := [], harness := (true, "f707728d3372d309cb380a4dba4f6299f9b4727bb9effc7e3a68847ea55f3a2a"), looks := true }, kinds := [], alts := [], laidByText := true, laidKinds := [.sentinel, .sentinel, .data, .data, .data, .pinned, .data, .data, .listed], laidTests := true, laidLooks := .later }
def BenchLexesCardSaid : Prop := Claim7.holds Tryz.pinned (.plain (OpenSpec.ofChange benchLexesSpec)) benchLexesCard

/-- THE TIED CARD OF 'wringinglaw09.BenchParses'. -/
def benchParsesCard : Claim7 := { stood := { row := benchParsesRow, standIns := [], harness := (true, "f707728d3372d309cb380a4dba4f6299f9b4727bb9effc7e3a68847ea55f3a2a"), looks := true }, kinds := [], alts := [], laidByText := true, laidKinds := [.sentinel, .sentinel, .data, .data, .data, .pinned, .data, .data, .listed], laidTests := true, laidLooks := .later }
def BenchParsesCardSaid : Prop := Claim7.holds Tryz.pinned (.plain (OpenSpec.ofChange benchParsesSpec)) benchParsesCard

/-- THE TIED CARD OF 'wringinglaw09.BenchPrints'. -/
def benchPrintsCard : Claim7 := { stood := { row := benchPrintsRow, standIns := [], harness := (true, "f707728d3372d309cb380a4dba4f6299f9b4727bb9effc7e3a68847ea55f3a2a"), looks := true }, kinds := [], alts := [], laidByText := true, laidKinds := [.sentinel, .sentinel, .data, .data, .data, .pinned, .data, .data, .listed], laidTests := true, laidLooks := .later }
def BenchPrintsCardSaid : Prop := Claim7.holds Tryz.pinned (.plain (OpenSpec.ofChange benchPrintsSpec)) benchPrintsCard

/-- THE TIED CARD OF 'wringinglaw09.BenchBack'. -/
def benchBackCard : Claim7 := { stood := { row := benchBackRow, standIns := [], harness := (true, "f707728d3372d309cb380a4dba4f6299f9b4727bb9effc7e3a68847ea55f3a2a"), looks := true }, kinds := [], alts := [], laidByText := true, laidKinds := [.sentinel, .sentinel, .data, .data, .data, .pinned, .data, .data, .listed], laidTests := true, laidLooks := .later }
def BenchBackCardSaid : Prop := Claim7.holds Tryz.pinned (.plain (OpenSpec.ofChange benchBackSpec)) benchBackCard

/-- THE SECOND FORM's CARD OF 'wringinglaw09.BenchLexes'. -/
def benchLexesUptoCard : Claim7 := { stood := { row := benchLexesUptoRow, standIns := [], harness := (true, "f707728d3372d309cb380a4dba4f6299f9b4727bb9effc7e3a68847ea55f3a2a"), looks := true }, kinds := [], alts := [], laidByText := true, laidKinds := [.sentinel, .sentinel, .data, .data, .data, .pinned, .data, .data, .listed], laidTests := true, laidLooks := .later }
def BenchLexesUptoCardSaid : Prop := Claim7.holds Tryz.pinned (.plain (OpenSpec.upto benchLexesSpec)) benchLexesUptoCard

/-- THE SECOND FORM's CARD OF 'wringinglaw09.BenchParses'. -/
def benchParsesUptoCard : Claim7 := { stood := { row := benchParsesUptoRow, standIns := [], harness := (true, "f707728d3372d309cb380a4dba4f6299f9b4727bb9effc7e3a68847ea55f3a2a"), looks := true }, kinds := [], alts := [], laidByText := true, laidKinds := [.sentinel, .sentinel, .data, .data, .data, .pinned, .data, .data, .listed], laidTests := true, laidLooks := .later }
def BenchParsesUptoCardSaid : Prop := Claim7.holds Tryz.pinned (.plain (OpenSpec.upto benchParsesSpec)) benchParsesUptoCard

/-- THE SECOND FORM's CARD OF 'wringinglaw09.BenchPrints'. -/
def benchPrintsUptoCard : Claim7 := { stood := { row := benchPrintsUptoRow, standIns := [], harness := (true, "f707728d3372d309cb380a4dba4f6299f9b4727bb9effc7e3a68847ea55f3a2a"), looks := true }, kinds := [], alts := [], laidByText := true, laidKinds := [.sentinel, .sentinel, .data, .data, .data, .pinned, .data, .data, .listed], laidTests := true, laidLooks := .later }
def BenchPrintsUptoCardSaid : Prop := Claim7.holds Tryz.pinned (.plain (OpenSpec.upto benchPrintsSpec)) benchPrintsUptoCard

/-- THE SECOND FORM's CARD OF 'wringinglaw09.BenchBack'. -/
def benchBackUptoCard : Claim7 := { stood := { row := benchBackUptoRow, standIns := [], harness := (true, "f707728d3372d309cb380a4dba4f6299f9b4727bb9effc7e3a68847ea55f3a2a"), looks := true }, kinds := [], alts := [], laidByText := true, laidKinds := [.sentinel, .sentinel, .data, .data, .data, .pinned, .data, .data, .listed], laidTests := true, laidLooks := .later }
def BenchBackUptoCardSaid : Prop := Claim7.holds Tryz.pinned (.plain (OpenSpec.upto benchBackSpec)) benchBackUptoCard
end Rows
end Go.Proofs.YteecnooaopfkeaaGreatDoor

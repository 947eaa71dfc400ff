/-
  DERIVED. GIVEN WITH THE SEED: THE CARDS: each row of YtfnlnpllpfhhnaaGreatDoorRows.lean that lists a variable, with what it lists TIED to the program's text (the seventh form; the later family's looks); each row that meets fmt, with fmt's text TOLD by the authors' own Lean function (tested against real Go, not proved from fmt's source: count such statements apart). THE CARD IS WHAT COUNTS. Prove the row's statement (the work); the ties are given (YtfnlnpllpfhhnaaGreatDoorTie.lean); close each card by the builder's one call (the guide's Derived/Test/ToyasCard.lean, 'card_holds'). Laid BY PROGRAM, IN A SANDBOX (cutbox-door.mjs). By AI agents, Wed Nov 11 2026. No macro, syntax, notation, axiom, sorry.
-/
import Derived.Test.YtfnlnpllpfhhnaaGreatDoorRows
import GoSem.ClaimSeven
namespace Go.Proofs.YtfnlnpllpfhhnaaGreatDoor
namespace Rows

/-- THE TIED CARD OF 'wringinglaw08.RoomTexts'. -/
def roomTextsCard : Claim7 := { stood := { row := roomTextsRow, standIns := [], harness := (true, "b11c46b45828f6678e86c8f999832f945a1c062c9f875deaf66930a7dd8f79f8"), looks := true }, kinds := [], alts := [], laidByText := true, laidKinds := [.data, .data, .data, .sentinel, .sentinel, .data, .listed], laidTests := true, laidLooks := .later }
def RoomTextsCardSaid : Prop := Claim7.holds Tryz.pinned (.plain (OpenSpec.ofChange roomTextsSpec)) roomTextsCard

/-- THE TIED CARD OF 'wringinglaw08.RoomTextsBack'. -/
def roomTextsBackCard : Claim7 := { stood := { row := roomTextsBackRow, standIns := [], harness := (true, "b11c46b45828f6678e86c8f999832f945a1c062c9f875deaf66930a7dd8f79f8"), looks := true }, kinds := [], alts := [], laidByText := true, laidKinds := [.data, .data, .data, .sentinel, .sentinel, .data, .listed], laidTests := true, laidLooks := .later }
def RoomTextsBackCardSaid : Prop := Claim7.holds Tryz.pinned (.plain (OpenSpec.ofChange roomTextsBackSpec)) roomTextsBackCard

/-- THE TIED CARD OF 'wringinglaw08.RoomOpens'. -/
def roomOpensCard : Claim7 := { stood := { row := roomOpensRow, standIns := [], harness := (true, "b11c46b45828f6678e86c8f999832f945a1c062c9f875deaf66930a7dd8f79f8"), looks := true }, kinds := [], alts := [], laidByText := true, laidKinds := [.data, .data, .data, .sentinel, .sentinel, .pinned, .data, .data, .listed], laidTests := true, laidLooks := .later }
def RoomOpensCardSaid : Prop := Claim7.holds Tryz.pinned (.plain (OpenSpec.ofChange roomOpensSpec)) roomOpensCard

/-- THE TIED CARD OF 'wringinglaw08.RoomCrashes'. -/
def roomCrashesCard : Claim7 := { stood := { row := roomCrashesRow, standIns := [], harness := (true, "b11c46b45828f6678e86c8f999832f945a1c062c9f875deaf66930a7dd8f79f8"), looks := true }, kinds := [], alts := [], laidByText := true, laidKinds := [.data, .data, .data, .sentinel, .sentinel, .pinned, .data, .data, .listed], laidTests := true, laidLooks := .later }
def RoomCrashesCardSaid : Prop := Claim7.holds Tryz.pinned (.plain (OpenSpec.ofChange roomCrashesSpec)) roomCrashesCard

/-- THE SECOND FORM's CARD OF 'wringinglaw08.RoomTexts'. -/
def roomTextsUptoCard : Claim7 := { stood := { row := roomTextsUptoRow, standIns := [], harness := (true, "b11c46b45828f6678e86c8f999832f945a1c062c9f875deaf66930a7dd8f79f8"), looks := true }, kinds := [], alts := [], laidByText := true, laidKinds := [.data, .data, .data, .sentinel, .sentinel, .data, .listed], laidTests := true, laidLooks := .later }
def RoomTextsUptoCardSaid : Prop := Claim7.holds Tryz.pinned (.plain (OpenSpec.upto roomTextsSpec)) roomTextsUptoCard

/-- THE SECOND FORM's CARD OF 'wringinglaw08.RoomTextsBack'. -/
def roomTextsBackUptoCard : Claim7 := { stood := { row := roomTextsBackUptoRow, standIns := [], harness := (true, "b11c46b45828f6678e86c8f999832f945a1c062c9f875deaf66930a7dd8f79f8"), looks := true }, kinds := [], alts := [], laidByText := true, laidKinds := [.data, .data, .data, .sentinel, .sentinel, .data, .listed], laidTests := true, laidLooks := .later }
def RoomTextsBackUptoCardSaid : Prop := Claim7.holds Tryz.pinned (.plain (OpenSpec.upto roomTextsBackSpec)) roomTextsBackUptoCard

/-- THE SECOND FORM's CARD OF 'wringinglaw08.RoomOpens'. -/
def roomOpensUptoCard : Claim7 := { stood := { row := roomOpensUptoRow, standIns := [], harness := (true, "b11c46b45828f6678e86c8f999832f945a1c062c9f875deaf66930a7dd8f79f8"), looks := true }, kinds := [], alts := [], laidByText := true, laidKinds := [.data, .data, .data, .sentinel, .sentinel, .pinned, .data, .data, .listed], laidTests := true, laidLooks := .later }
def RoomOpensUptoCardSaid : Prop := Claim7.holds Tryz.pinned (.plain (OpenSpec.upto roomOpensSpec)) roomOpensUptoCard

/-- THE SECOND FORM's CARD OF 'wringinglaw08.RoomCrashes'. -/
def roomCrashesUptoCard : Claim7 := { stood := { row := roomCrashesUptoRow, standIns := [], harness := (true, "b11c46b45828f6678e86c8f999832f945a1c062c9f875deaf66930a7dd8f79f8"), looks := true }, kinds := [], alts := [], laidByText := true, laidKinds := [.data, .data, .data, .sentinel, .sentinel, .pinned, .data, .data, .listed], laidTests := true, laidLooks := .later }
def RoomCrashesUptoCardSaid : Prop := Claim7.holds Tryz.pinned (.plain (OpenSpec.upto roomCrashesSpec)) roomCrashesUptoCard
end Rows
end Go.Proofs.YtfnlnpllpfhhnaaGreatDoor

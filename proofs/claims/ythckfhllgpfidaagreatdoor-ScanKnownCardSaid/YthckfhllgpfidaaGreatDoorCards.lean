/-
  DERIVED. GIVEN WITH THE SEED: THE CARDS: each row of YthckfhllgpfidaaGreatDoorRows.lean that lists a variable, with what it lists TIED to the program's text (the seventh form; the later family's looks); each row that meets fmt, with fmt's text TOLD by the authors' own Lean function (tested against real Go, not proved from fmt's source: count such statements apart). THE CARD IS WHAT COUNTS. Prove the row's statement (the work); the ties are given (YthckfhllgpfidaaGreatDoorTie.lean); close each card by the builder's one call (the guide's Derived/Test/ToyasCard.lean, 'card_holds'). Laid BY PROGRAM, IN A SANDBOX (cutbox-door.mjs). By AI agents, Wed Nov 11 2026. No macro, syntax, notation, axiom, sorry.
-/
import Derived.Test.YthckfhllgpfidaaGreatDoorRows
import GoSem.ClaimSeven
namespace Go.Proofs.YthckfhllgpfidaaGreatDoor
namespace Rows

/-- THE TIED CARD OF 'chaselaw04.ScanNexts'. -/
def scanNextsCard : Claim7 := { stood := { row := scanNextsRow, standIns := [], harness := (true, "b620d7d99bd304bd5b1ef685d383035002741168776b1069508e91bb65ed3e70"), looks := false }, kinds := [], alts := [], laidByText := true, laidKinds := [.data, .data, .data], laidTests := true, laidLooks := .later }
def ScanNextsCardSaid : Prop := Claim7.holds Tryz.pinned (.plain (OpenSpec.ofChange scanNextsSpec)) scanNextsCard

/-- THE TIED CARD OF 'chaselaw04.ScanAlls'. -/
def scanAllsCard : Claim7 := { stood := { row := scanAllsRow, standIns := [], harness := (true, "b620d7d99bd304bd5b1ef685d383035002741168776b1069508e91bb65ed3e70"), looks := false }, kinds := [], alts := [], laidByText := true, laidKinds := [.data, .data, .data], laidTests := true, laidLooks := .later }
def ScanAllsCardSaid : Prop := Claim7.holds Tryz.pinned (.plain (OpenSpec.ofChange scanAllsSpec)) scanAllsCard

/-- THE TIED CARD OF 'chaselaw04.ScanWrites'. -/
def scanWritesCard : Claim7 := { stood := { row := scanWritesRow, standIns := [], harness := (true, "b620d7d99bd304bd5b1ef685d383035002741168776b1069508e91bb65ed3e70"), looks := false }, kinds := [], alts := [], laidByText := true, laidKinds := [.data, .data, .data], laidTests := true, laidLooks := .later }
def ScanWritesCardSaid : Prop := Claim7.holds Tryz.pinned (.plain (OpenSpec.ofChange scanWritesSpec)) scanWritesCard

/-- THE TIED CARD OF 'chaselaw04.ScanBack'. -/
def scanBackCard : Claim7 := { stood := { row := scanBackRow, standIns := [], harness := (true, "b620d7d99bd304bd5b1ef685d383035002741168776b1069508e91bb65ed3e70"), looks := false }, kinds := [], alts := [], laidByText := true, laidKinds := [.data, .data, .data], laidTests := true, laidLooks := .later }
def ScanBackCardSaid : Prop := Claim7.holds Tryz.pinned (.plain (OpenSpec.ofChange scanBackSpec)) scanBackCard

/-- THE TIED CARD OF 'chaselaw04.ScanSpaces'. -/
def scanSpacesCard : Claim7 := { stood := { row := scanSpacesRow, standIns := [], harness := (true, "b620d7d99bd304bd5b1ef685d383035002741168776b1069508e91bb65ed3e70"), looks := false }, kinds := [], alts := [], laidByText := true, laidKinds := [.data, .data, .data], laidTests := true, laidLooks := .later }
def ScanSpacesCardSaid : Prop := Claim7.holds Tryz.pinned (.plain (OpenSpec.ofChange scanSpacesSpec)) scanSpacesCard

/-- THE TIED CARD OF 'chaselaw04.ScanSteps'. -/
def scanStepsCard : Claim7 := { stood := { row := scanStepsRow, standIns := [], harness := (true, "b620d7d99bd304bd5b1ef685d383035002741168776b1069508e91bb65ed3e70"), looks := false }, kinds := [], alts := [], laidByText := true, laidKinds := [.data, .data, .data], laidTests := true, laidLooks := .later }
def ScanStepsCardSaid : Prop := Claim7.holds Tryz.pinned (.plain (OpenSpec.ofChange scanStepsSpec)) scanStepsCard

/-- THE TIED CARD OF 'chaselaw04.ScanKnown'. -/
def scanKnownCard : Claim7 := { stood := { row := scanKnownRow, standIns := [], harness := (true, "b620d7d99bd304bd5b1ef685d383035002741168776b1069508e91bb65ed3e70"), looks := false }, kinds := [], alts := [], laidByText := true, laidKinds := [.data, .data, .data], laidTests := true, laidLooks := .later }
def ScanKnownCardSaid : Prop := Claim7.holds Tryz.pinned (.plain (OpenSpec.ofChange scanKnownSpec)) scanKnownCard

/-- THE SECOND FORM's CARD OF 'chaselaw04.ScanNexts'. -/
def scanNextsUptoCard : Claim7 := { stood := { row := scanNextsUptoRow, standIns := [], harness := (true, "b620d7d99bd304bd5b1ef685d383035002741168776b1069508e91bb65ed3e70"), looks := false }, kinds := [], alts := [], laidByText := true, laidKinds := [.data, .data, .data], laidTests := true, laidLooks := .later }
def ScanNextsUptoCardSaid : Prop := Claim7.holds Tryz.pinned (.plain (OpenSpec.upto scanNextsSpec)) scanNextsUptoCard

/-- THE SECOND FORM's CARD OF 'chaselaw04.ScanAlls'. -/
def scanAllsUptoCard : Claim7 := { stood := { row := scanAllsUptoRow, standIns := [], harness := (true, "b620d7d99bd304bd5b1ef685d383035002741168776b1069508e91bb65ed3e70"), looks := false }, kinds := [], alts := [], laidByText := true, laidKinds := [.data, .data, .data], laidTests := true, laidLooks := .later }
def ScanAllsUptoCardSaid : Prop := Claim7.holds Tryz.pinned (.plain (OpenSpec.upto scanAllsSpec)) scanAllsUptoCard

/-- THE SECOND FORM's CARD OF 'chaselaw04.ScanWrites'. -/
def scanWritesUptoCard : Claim7 := { stood := { row := scanWritesUptoRow, standIns := [], harness := (true, "b620d7d99bd304bd5b1ef685d383035002741168776b1069508e91bb65ed3e70"), looks := false }, kinds := [], alts := [], laidByText := true, laidKinds := [.data, .data, .data], laidTests := true, laidLooks := .later }
def ScanWritesUptoCardSaid : Prop := Claim7.holds Tryz.pinned (.plain (OpenSpec.upto scanWritesSpec)) scanWritesUptoCard

/-- THE SECOND FORM's CARD OF 'chaselaw04.ScanBack'. -/
def scanBackUptoCard : Claim7 := { stood := { row := scanBackUptoRow, standIns := [], harness := (true, "b620d7d99bd304bd5b1ef685d383035002741168776b1069508e91bb65ed3e70"), looks := false }, kinds := [], alts := [], laidByText := true, laidKinds := [.data, .data, .data], laidTests := true, laidLooks := .later }
def ScanBackUptoCardSaid : Prop := Claim7.holds Tryz.pinned (.plain (OpenSpec.upto scanBackSpec)) scanBackUptoCard

/-- THE SECOND FORM's CARD OF 'chaselaw04.ScanSpaces'. -/
def scanSpacesUptoCard : Claim7 := { stood := { row := scanSpacesUptoRow, standIns := [], harness := (true, "b620d7d99bd304bd5b1ef685d383035002741168776b1069508e91bb65ed3e70"), looks := false }, kinds := [], alts := [], laidByText := true, laidKinds := [.data, .data, .data], laidTests := true, laidLooks := .later }
def ScanSpacesUptoCardSaid : Prop := Claim7.holds Tryz.pinned (.plain (OpenSpec.upto scanSpacesSpec)) scanSpacesUptoCard

/-- THE SECOND FORM's CARD OF 'chaselaw04.ScanSteps'. -/
def scanStepsUptoCard : Claim7 := { stood := { row := scanStepsUptoRow, standIns := [], harness := (true, "b620d7d99bd304bd5b1ef685d383035002741168776b1069508e91bb65ed3e70"), looks := false }, kinds := [], alts := [], laidByText := true, laidKinds := [.data, .data, .data], laidTests := true, laidLooks := .later }
def ScanStepsUptoCardSaid : Prop := Claim7.holds Tryz.pinned (.plain (OpenSpec.upto scanStepsSpec)) scanStepsUptoCard

/-- THE SECOND FORM's CARD OF 'chaselaw04.ScanKnown'. -/
def scanKnownUptoCard : Claim7 := { stood := { row := scanKnownUptoRow, standIns := [], harness := (true, "b620d7d99bd304bd5b1ef685d383035002741168776b1069508e91bb65ed3e70"), looks := false }, kinds := [], alts := [], laidByText := true, laidKinds := [.data, .data, .data], laidTests := true, laidLooks := .later }
def ScanKnownUptoCardSaid : Prop := Claim7.holds Tryz.pinned (.plain (OpenSpec.upto scanKnownSpec)) scanKnownUptoCard
end Rows
end Go.Proofs.YthckfhllgpfidaaGreatDoor

/-
  DERIVED. GIVEN WITH THE SEED: THE CARDS: each row of YtodphnhkhnebcaaDoorRows.lean that lists a variable, with what it lists TIED to the program's text (the seventh form; the later family's looks); each row that meets fmt, with fmt's text TOLD by the authors' own Lean function (tested against real Go, not proved from fmt's source: count such statements apart). THE CARD IS WHAT COUNTS. Prove the row's statement (the work); the ties are given (YtodphnhkhnebcaaDoorTie.lean); close each card by the builder's one call (the guide's Derived/Test/ToyasCard.lean, 'card_holds'). Laid BY PROGRAM, IN A SANDBOX (cutbox-door.mjs). By AI agents, Wed Nov 11 2026. No macro, syntax, notation, axiom, sorry.
-/
import Derived.Test.YtodphnhkhnebcaaDoorRows
import GoSem.ClaimSeven
namespace Go.Proofs.YtodphnhkhnebcaaDoor
namespace Rows

/-- THE TIED CARD OF 'chaselaw03.LexTexts'. -/
def lexTextsCard : Claim7 := { stood := { row := lexTextsRow, standIns := [], harness := (true, "52ea1da6dd4a69e6b9eadeb4ef3339353cfeca390447343a0726293f4dff1a53"), looks := false }, kinds := [], alts := [], laidByText := true, laidKinds := [.data, .data, .data], laidTests := true, laidLooks := .later }
def LexTextsCardSaid : Prop := Claim7.holds Tryd.pinned (.plain (OpenSpec.ofChange lexTextsSpec)) lexTextsCard

/-- THE TIED CARD OF 'chaselaw03.LexBack'. -/
def lexBackCard : Claim7 := { stood := { row := lexBackRow, standIns := [], harness := (true, "52ea1da6dd4a69e6b9eadeb4ef3339353cfeca390447343a0726293f4dff1a53"), looks := false }, kinds := [], alts := [], laidByText := true, laidKinds := [.data, .data, .data], laidTests := true, laidLooks := .later }
def LexBackCardSaid : Prop := Claim7.holds Tryd.pinned (.plain (OpenSpec.ofChange lexBackSpec)) lexBackCard

/-- THE TIED CARD OF 'chaselaw03.LexBases'. -/
def lexBasesCard : Claim7 := { stood := { row := lexBasesRow, standIns := [], harness := (true, "52ea1da6dd4a69e6b9eadeb4ef3339353cfeca390447343a0726293f4dff1a53"), looks := false }, kinds := [], alts := [], laidByText := true, laidKinds := [.data, .pinned, .pinned], laidTests := true, laidLooks := .later }
def LexBasesCardSaid : Prop := Claim7.holds Tryd.pinned (.plain (OpenSpec.ofChange lexBasesSpec)) lexBasesCard

/-- THE SECOND FORM's CARD OF 'chaselaw03.LexTexts'. -/
def lexTextsUptoCard : Claim7 := { stood := { row := lexTextsUptoRow, standIns := [], harness := (true, "52ea1da6dd4a69e6b9eadeb4ef3339353cfeca390447343a0726293f4dff1a53"), looks := false }, kinds := [], alts := [], laidByText := true, laidKinds := [.data, .data, .data], laidTests := true, laidLooks := .later }
def LexTextsUptoCardSaid : Prop := Claim7.holds Tryd.pinned (.plain (OpenSpec.upto lexTextsSpec)) lexTextsUptoCard

/-- THE SECOND FORM's CARD OF 'chaselaw03.LexBack'. -/
def lexBackUptoCard : Claim7 := { stood := { row := lexBackUptoRow, standIns := [], harness := (true, "52ea1da6dd4a69e6b9eadeb4ef3339353cfeca390447343a0726293f4dff1a53"), looks := false }, kinds := [], alts := [], laidByText := true, laidKinds := [.data, .data, .data], laidTests := true, laidLooks := .later }
def LexBackUptoCardSaid : Prop := Claim7.holds Tryd.pinned (.plain (OpenSpec.upto lexBackSpec)) lexBackUptoCard

/-- THE SECOND FORM's CARD OF 'chaselaw03.LexBases'. -/
def lexBasesUptoCard : Claim7 := { stood := { row := lexBasesUptoRow, standIns := [], harness := (true, "52ea1da6dd4a69e6b9eadeb4ef3339353cfeca390447343a0726293f4dff1a53"), looks := false }, kinds := [], alts := [], laidByText := true, laidKinds := [.data, .pinned, .pinned], laidTests := true, laidLooks := .later }
def LexBasesUptoCardSaid : Prop := Claim7.holds Tryd.pinned (.plain (OpenSpec.upto lexBasesSpec)) lexBasesUptoCard
end Rows
end Go.Proofs.YtodphnhkhnebcaaDoor

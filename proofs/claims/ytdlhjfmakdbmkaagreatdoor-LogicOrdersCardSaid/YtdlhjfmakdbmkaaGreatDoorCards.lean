/-
  DERIVED. GIVEN WITH THE SEED: THE CARDS: each row of YtdlhjfmakdbmkaaGreatDoorRows.lean that lists a variable, with what it lists TIED to the program's text (the seventh form; the later family's looks); each row that meets fmt, with fmt's text TOLD by the authors' own Lean function (tested against real Go, not proved from fmt's source: count such statements apart). THE CARD IS WHAT COUNTS. Prove the row's statement (the work); the ties are given (YtdlhjfmakdbmkaaGreatDoorTie.lean); close each card by the builder's one call (the guide's Derived/Test/ToyasCard.lean, 'card_holds'). Laid BY PROGRAM, IN A SANDBOX (cutbox-door.mjs). By AI agents, Wed Nov 11 2026. No macro, syntax, notation, axiom, sorry.
-/
import Derived.Test.YtdlhjfmakdbmkaaGreatDoorRows
import GoSem.ClaimSeven
namespace Go.Proofs.YtdlhjfmakdbmkaaGreatDoor
namespace Rows

/-- THE TIED CARD OF 'chaselaw14.LogicAll'. -/
def logicAllCard : Claim7 := { stood := { row := logicAllRow, standIns := [], harness := (true, "2f44a24deaf24122f0868da2d46fde64df1e1dde7ef37a44f0d62e2e12ad3e1e"), looks := false }, kinds := [], alts := [], laidByText := true, laidKinds := [.data, .data, .data, .data, .data, .pinned, .pinned], laidTests := true, laidLooks := .later }
def LogicAllCardSaid : Prop := Claim7.holds Tryz.pinned (.plain (OpenSpec.ofChange logicAllSpec)) logicAllCard

/-- THE TIED CARD OF 'chaselaw14.LogicTexts'. -/
def logicTextsCard : Claim7 := { stood := { row := logicTextsRow, standIns := [], harness := (true, "2f44a24deaf24122f0868da2d46fde64df1e1dde7ef37a44f0d62e2e12ad3e1e"), looks := false }, kinds := [], alts := [], laidByText := true, laidKinds := [.data, .data, .data, .data, .data, .pinned, .pinned], laidTests := true, laidLooks := .later }
def LogicTextsCardSaid : Prop := Claim7.holds Tryz.pinned (.plain (OpenSpec.ofChange logicTextsSpec)) logicTextsCard

/-- THE TIED CARD OF 'chaselaw14.LogicOrders'. -/
def logicOrdersCard : Claim7 := { stood := { row := logicOrdersRow, standIns := [], harness := (true, "2f44a24deaf24122f0868da2d46fde64df1e1dde7ef37a44f0d62e2e12ad3e1e"), looks := false }, kinds := [], alts := [], laidByText := true, laidKinds := [.data, .data, .data, .data, .data, .pinned, .pinned], laidTests := true, laidLooks := .later }
def LogicOrdersCardSaid : Prop := Claim7.holds Tryz.pinned (.plain (OpenSpec.ofChange logicOrdersSpec)) logicOrdersCard

/-- THE TIED CARD OF 'chaselaw14.LogicBits'. -/
def logicBitsCard : Claim7 := { stood := { row := logicBitsRow, standIns := [], harness := (true, "2f44a24deaf24122f0868da2d46fde64df1e1dde7ef37a44f0d62e2e12ad3e1e"), looks := false }, kinds := [], alts := [], laidByText := true, laidKinds := [.data, .data, .data, .data, .pinned, .pinned], laidTests := true, laidLooks := .later }
def LogicBitsCardSaid : Prop := Claim7.holds Tryz.pinned (.plain (OpenSpec.ofChange logicBitsSpec)) logicBitsCard

/-- THE TIED CARD OF 'chaselaw14.LogicTurns'. -/
def logicTurnsCard : Claim7 := { stood := { row := logicTurnsRow, standIns := [], harness := (true, "2f44a24deaf24122f0868da2d46fde64df1e1dde7ef37a44f0d62e2e12ad3e1e"), looks := false }, kinds := [], alts := [], laidByText := true, laidKinds := [.data, .data, .data, .data, .pinned, .pinned], laidTests := true, laidLooks := .later }
def LogicTurnsCardSaid : Prop := Claim7.holds Tryz.pinned (.plain (OpenSpec.ofChange logicTurnsSpec)) logicTurnsCard

/-- THE TIED CARD OF 'chaselaw14.LogicBack'. -/
def logicBackCard : Claim7 := { stood := { row := logicBackRow, standIns := [], harness := (true, "2f44a24deaf24122f0868da2d46fde64df1e1dde7ef37a44f0d62e2e12ad3e1e"), looks := false }, kinds := [], alts := [], laidByText := true, laidKinds := [.data, .data, .data, .data, .pinned, .pinned], laidTests := true, laidLooks := .later }
def LogicBackCardSaid : Prop := Claim7.holds Tryz.pinned (.plain (OpenSpec.ofChange logicBackSpec)) logicBackCard

/-- THE TIED CARD OF 'chaselaw14.LogicKnown'. -/
def logicKnownCard : Claim7 := { stood := { row := logicKnownRow, standIns := [], harness := (true, "2f44a24deaf24122f0868da2d46fde64df1e1dde7ef37a44f0d62e2e12ad3e1e"), looks := false }, kinds := [], alts := [], laidByText := true, laidKinds := [.data, .data, .data, .data, .pinned, .pinned], laidTests := true, laidLooks := .later }
def LogicKnownCardSaid : Prop := Claim7.holds Tryz.pinned (.plain (OpenSpec.ofChange logicKnownSpec)) logicKnownCard

/-- THE TIED CARD OF 'chaselaw14.LogicDoes'. -/
def logicDoesCard : Claim7 := { stood := { row := logicDoesRow, standIns := [], harness := (true, "2f44a24deaf24122f0868da2d46fde64df1e1dde7ef37a44f0d62e2e12ad3e1e"), looks := false }, kinds := [], alts := [], laidByText := true, laidKinds := [.data, .data, .data, .data, .data, .pinned, .pinned], laidTests := true, laidLooks := .later }
def LogicDoesCardSaid : Prop := Claim7.holds Tryz.pinned (.plain (OpenSpec.ofChange logicDoesSpec)) logicDoesCard

/-- THE SECOND FORM's CARD OF 'chaselaw14.LogicAll'. -/
def logicAllUptoCard : Claim7 := { stood := { row := logicAllUptoRow, standIns := [], harness := (true, "2f44a24deaf24122f0868da2d46fde64df1e1dde7ef37a44f0d62e2e12ad3e1e"), looks := false }, kinds := [], alts := [], laidByText := true, laidKinds := [.data, .data, .data, .data, .data, .pinned, .pinned], laidTests := true, laidLooks := .later }
def LogicAllUptoCardSaid : Prop := Claim7.holds Tryz.pinned (.plain (OpenSpec.upto logicAllSpec)) logicAllUptoCard

/-- THE SECOND FORM's CARD OF 'chaselaw14.LogicTexts'. -/
def logicTextsUptoCard : Claim7 := { stood := { row := logicTextsUptoRow, standIns := [], harness := (true, "2f44a24deaf24122f0868da2d46fde64df1e1dde7ef37a44f0d62e2e12ad3e1e"), looks := false }, kinds := [], alts := [], laidByText := true, laidKinds := [.data, .data, .data, .data, .data, .pinned, .pinned], laidTests := true, laidLooks := .later }
def LogicTextsUptoCardSaid : Prop := Claim7.holds Tryz.pinned (.plain (OpenSpec.upto logicTextsSpec)) logicTextsUptoCard

/-- THE SECOND FORM's CARD OF 'chaselaw14.LogicOrders'. -/
def logicOrdersUptoCard : Claim7 := { stood := { row := logicOrdersUptoRow, standIns := [], harness := (true, "2f44a24deaf24122f0868da2d46fde64df1e1dde7ef37a44f0d62e2e12ad3e1e"), looks := false }, kinds := [], alts := [], laidByText := true, laidKinds := [.data, .data, .data, .data, .data, .pinned, .pinned], laidTests := true, laidLooks := .later }
def LogicOrdersUptoCardSaid : Prop := Claim7.holds Tryz.pinned (.plain (OpenSpec.upto logicOrdersSpec)) logicOrdersUptoCard

/-- THE SECOND FORM's CARD OF 'chaselaw14.LogicBits'. -/
def logicBitsUptoCard : Claim7 := { stood := { row := logicBitsUptoRow, standIns := [], harness := (true, "2f44a24deaf24122f0868da2d46fde64df1e1dde7ef37a44f0d62e2e12ad3e1e"), looks := false }, kinds := [], alts := [], laidByText := true, laidKinds := [.data, .data, .data, .data, .pinned, .pinned], laidTests := true, laidLooks := .later }
def LogicBitsUptoCardSaid : Prop := Claim7.holds Tryz.pinned (.plain (OpenSpec.upto logicBitsSpec)) logicBitsUptoCard

/-- THE SECOND FORM's CARD OF 'chaselaw14.LogicTurns'. -/
def logicTurnsUptoCard : Claim7 := { stood := { row := logicTurnsUptoRow, standIns := [], harness := (true, "2f44a24deaf24122f0868da2d46fde64df1e1dde7ef37a44f0d62e2e12ad3e1e"), looks := false }, kinds := [], alts := [], laidByText := true, laidKinds := [.data, .data, .data, .data, .pinned, .pinned], laidTests := true, laidLooks := .later }
def LogicTurnsUptoCardSaid : Prop := Claim7.holds Tryz.pinned (.plain (OpenSpec.upto logicTurnsSpec)) logicTurnsUptoCard

/-- THE SECOND FORM's CARD OF 'chaselaw14.LogicBack'. -/
def logicBackUptoCard : Claim7 := { stood := { row := logicBackUptoRow, standIns := [], harness := (true, "2f44a24deaf24122f0868da2d46fde64df1e1dde7ef37a44f0d62e2e12ad3e1e"), looks := false }, kinds := [], alts := [], laidByText := true, laidKinds := [.data, .data, .data, .data, .pinned, .pinned], laidTests := true, laidLooks := .later }
def LogicBackUptoCardSaid : Prop := Claim7.holds Tryz.pinned (.plain (OpenSpec.upto logicBackSpec)) logicBackUptoCard

/-- THE SECOND FORM's CARD OF 'chaselaw14.LogicKnown'. -/
def logicKnownUptoCard : Claim7 := { stood := { row := logicKnownUptoRow, standIns := [], harness := (true, "2f44a24deaf24122f0868da2d46fde64df1e1dde7ef37a44f0d62e2e12ad3e1e"), looks := false }, kinds := [], alts := [], laidByText := true, laidKinds := [.data, .data, .data, .data, .pinned, .pinned], laidTests := true, laidLooks := .later }
def LogicKnownUptoCardSaid : Prop := Claim7.holds Tryz.pinned (.plain (OpenSpec.upto logicKnownSpec)) logicKnownUptoCard

/-- THE SECOND FORM's CARD OF 'chaselaw14.LogicDoes'. -/
def logicDoesUptoCard : Claim7 := { stood := { row := logicDoesUptoRow, standIns := [], harness := (true, "2f44a24deaf24122f0868da2d46fde64df1e1dde7ef37a44f0d62e2e12ad3e1e"), looks := false }, kinds := [], alts := [], laidByText := true, laidKinds := [.data, .data, .data, .data, .data, .pinned, .pinned], laidTests := true, laidLooks := .later }
def LogicDoesUptoCardSaid : Prop := Claim7.holds Tryz.pinned (.plain (OpenSpec.upto logicDoesSpec)) logicDoesUptoCard
end Rows
end Go.Proofs.YtdlhjfmakdbmkaaGreatDoor

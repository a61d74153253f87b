/-
  DERIVED. GIVEN WITH THE SEED: THE CARDS: each row of YtcjbjemfobdkgaaGreatDoorRows.lean that lists a variable, with what it lists TIED to the program's text (the seventh form; the later family's looks); each row that meets fmt, with fmt's text TOLD by the authors' own Lean function (tested against real Go, not proved from fmt's source: count such statements apart). THE CARD IS WHAT COUNTS. Prove the row's statement (the work); the ties are given (YtcjbjemfobdkgaaGreatDoorTie.lean); close each card by the builder's one call (the guide's Derived/Test/ToyasCard.lean, 'card_holds'). Laid BY PROGRAM, IN A SANDBOX (cutbox-door.mjs). By AI agents, Wed Nov 11 2026. No macro, syntax, notation, axiom, sorry.
-/
import Derived.Test.YtcjbjemfobdkgaaGreatDoorRows
import GoSem.ClaimSeven
namespace Go.Proofs.YtcjbjemfobdkgaaGreatDoor
namespace Rows

/-- THE TIED CARD OF 'chaselaw09.FilterChecks'. -/
def filterChecksCard : Claim7 := { stood := { row := filterChecksRow, standIns := [], harness := (true, "73c626fe4eabbcb0cb59e325dabc2cd9995bc949708e13eecc935ddeb20f9043"), looks := false }, kinds := [], alts := [], laidByText := true, laidKinds := [.data], laidTests := true, laidLooks := .later }
def FilterChecksCardSaid : Prop := Claim7.holds Tryz.pinned (.plain (OpenSpec.ofChange filterChecksSpec)) filterChecksCard

/-- THE TIED CARD OF 'chaselaw09.FilterDecodes'. -/
def filterDecodesCard : Claim7 := { stood := { row := filterDecodesRow, standIns := [], harness := (true, "73c626fe4eabbcb0cb59e325dabc2cd9995bc949708e13eecc935ddeb20f9043"), looks := false }, kinds := [], alts := [], laidByText := true, laidKinds := [.data], laidTests := true, laidLooks := .later }
def FilterDecodesCardSaid : Prop := Claim7.holds Tryz.pinned (.plain (OpenSpec.ofChange filterDecodesSpec)) filterDecodesCard

/-- THE TIED CARD OF 'chaselaw09.FilterEncodes'. -/
def filterEncodesCard : Claim7 := { stood := { row := filterEncodesRow, standIns := [], harness := (true, "73c626fe4eabbcb0cb59e325dabc2cd9995bc949708e13eecc935ddeb20f9043"), looks := false }, kinds := [], alts := [], laidByText := true, laidKinds := [.data], laidTests := true, laidLooks := .later }
def FilterEncodesCardSaid : Prop := Claim7.holds Tryz.pinned (.plain (OpenSpec.ofChange filterEncodesSpec)) filterEncodesCard

/-- THE TIED CARD OF 'chaselaw09.FilterBack'. -/
def filterBackCard : Claim7 := { stood := { row := filterBackRow, standIns := [], harness := (true, "73c626fe4eabbcb0cb59e325dabc2cd9995bc949708e13eecc935ddeb20f9043"), looks := false }, kinds := [], alts := [], laidByText := true, laidKinds := [.data], laidTests := true, laidLooks := .later }
def FilterBackCardSaid : Prop := Claim7.holds Tryz.pinned (.plain (OpenSpec.ofChange filterBackSpec)) filterBackCard

/-- THE TIED CARD OF 'chaselaw09.FilterJoins'. -/
def filterJoinsCard : Claim7 := { stood := { row := filterJoinsRow, standIns := [], harness := (true, "73c626fe4eabbcb0cb59e325dabc2cd9995bc949708e13eecc935ddeb20f9043"), looks := false }, kinds := [], alts := [], laidByText := true, laidKinds := [.data], laidTests := true, laidLooks := .later }
def FilterJoinsCardSaid : Prop := Claim7.holds Tryz.pinned (.plain (OpenSpec.ofChange filterJoinsSpec)) filterJoinsCard

/-- THE TIED CARD OF 'chaselaw09.FilterPictures'. -/
def filterPicturesCard : Claim7 := { stood := { row := filterPicturesRow, standIns := [], harness := (true, "73c626fe4eabbcb0cb59e325dabc2cd9995bc949708e13eecc935ddeb20f9043"), looks := false }, kinds := [], alts := [], laidByText := true, laidKinds := [.data], laidTests := true, laidLooks := .later }
def FilterPicturesCardSaid : Prop := Claim7.holds Tryz.pinned (.plain (OpenSpec.ofChange filterPicturesSpec)) filterPicturesCard

/-- THE TIED CARD OF 'chaselaw09.FilterKnown'. -/
def filterKnownCard : Claim7 := { stood := { row := filterKnownRow, standIns := [], harness := (true, "73c626fe4eabbcb0cb59e325dabc2cd9995bc949708e13eecc935ddeb20f9043"), looks := false }, kinds := [], alts := [], laidByText := true, laidKinds := [.data], laidTests := true, laidLooks := .later }
def FilterKnownCardSaid : Prop := Claim7.holds Tryz.pinned (.plain (OpenSpec.ofChange filterKnownSpec)) filterKnownCard

/-- THE SECOND FORM's CARD OF 'chaselaw09.FilterChecks'. -/
def filterChecksUptoCard : Claim7 := { stood := { row := filterChecksUptoRow, standIns := [], harness := (true, "73c626fe4eabbcb0cb59e325dabc2cd9995bc949708e13eecc935ddeb20f9043"), looks := false }, kinds := [], alts := [], laidByText := true, laidKinds := [.data], laidTests := true, laidLooks := .later }
def FilterChecksUptoCardSaid : Prop := Claim7.holds Tryz.pinned (.plain (OpenSpec.upto filterChecksSpec)) filterChecksUptoCard

/-- THE SECOND FORM's CARD OF 'chaselaw09.FilterDecodes'. -/
def filterDecodesUptoCard : Claim7 := { stood := { row := filterDecodesUptoRow, standIns := [], harness := (true, "73c626fe4eabbcb0cb59e325dabc2cd9995bc949708e13eecc935ddeb20f9043"), looks := false }, kinds := [], alts := [], laidByText := true, laidKinds := [.data], laidTests := true, laidLooks := .later }
def FilterDecodesUptoCardSaid : Prop := Claim7.holds Tryz.pinned (.plain (OpenSpec.upto filterDecodesSpec)) filterDecodesUptoCard

/-- THE SECOND FORM's CARD OF 'chaselaw09.FilterEncodes'. -/
def filterEncodesUptoCard : Claim7 := { stood := { row := filterEncodesUptoRow, standIns := [], harness := (true, "73c626fe4eabbcb0cb59e325dabc2cd9995bc949708e13eecc935ddeb20f9043"), looks := false }, kinds := [], alts := [], laidByText := true, laidKinds := [.data], laidTests := true, laidLooks := .later }
def FilterEncodesUptoCardSaid : Prop := Claim7.holds Tryz.pinned (.plain (OpenSpec.upto filterEncodesSpec)) filterEncodesUptoCard

/-- THE SECOND FORM's CARD OF 'chaselaw09.FilterBack'. -/
def filterBackUptoCard : Claim7 := { stood := { row := filterBackUptoRow, standIns := [], harness := (true, "73c626fe4eabbcb0cb59e325dabc2cd9995bc949708e13eecc935ddeb20f9043"), looks := false }, kinds := [], alts := [], laidByText := true, laidKinds := [.data], laidTests := true, laidLooks := .later }
def FilterBackUptoCardSaid : Prop := Claim7.holds Tryz.pinned (.plain (OpenSpec.upto filterBackSpec)) filterBackUptoCard

/-- THE SECOND FORM's CARD OF 'chaselaw09.FilterJoins'. -/
def filterJoinsUptoCard : Claim7 := { stood := { row := filterJoinsUptoRow, standIns := [], harness := (true, "73c626fe4eabbcb0cb59e325dabc2cd9995bc949708e13eecc935ddeb20f9043"), looks := false }, kinds := [], alts := [], laidByText := true, laidKinds := [.data], laidTests := true, laidLooks := .later }
def FilterJoinsUptoCardSaid : Prop := Claim7.holds Tryz.pinned (.plain (OpenSpec.upto filterJoinsSpec)) filterJoinsUptoCard

/-- THE SECOND FORM's CARD OF 'chaselaw09.FilterPictures'. -/
def filterPicturesUptoCard : Claim7 := { stood := { row := filterPicturesUptoRow, standIns := [], harness := (true, "73c626fe4eabbcb0cb59e325dabc2cd9995bc949708e13eecc935ddeb20f9043"), looks := false }, kinds := [], alts := [], laidByText := true, laidKinds := [.data], laidTests := true, laidLooks := .later }
def FilterPicturesUptoCardSaid : Prop := Claim7.holds Tryz.pinned (.plain (OpenSpec.upto filterPicturesSpec)) filterPicturesUptoCard

/-- THE SECOND FORM's CARD OF 'chaselaw09.FilterKnown'. -/
def filterKnownUptoCard : Claim7 := { stood := { row := filterKnownUptoRow, standIns := [], harness := (true, "73c626fe4eabbcb0cb59e325dabc2cd9995bc949708e13eecc935ddeb20f9043"), looks := false }, kinds := [], alts := [], laidByText := true, laidKinds := [.data], laidTests := true, laidLooks := .later }
def FilterKnownUptoCardSaid : Prop := Claim7.holds Tryz.pinned (.plain (OpenSpec.upto filterKnownSpec)) filterKnownUptoCard
end Rows
end Go.Proofs.YtcjbjemfobdkgaaGreatDoor

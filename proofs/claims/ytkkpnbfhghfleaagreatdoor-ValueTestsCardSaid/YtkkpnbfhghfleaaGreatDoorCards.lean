/-
  DERIVED. GIVEN WITH THE SEED: THE CARDS: each row of YtkkpnbfhghfleaaGreatDoorRows.lean that lists a variable, with what it lists TIED to the program's text (the seventh form; the later family's looks); each row that meets fmt, with fmt's text TOLD by the authors' own Lean function (tested against real Go, not proved from fmt's source: count such statements apart). THE CARD IS WHAT COUNTS. Prove the row's statement (the work); the ties are given (YtkkpnbfhghfleaaGreatDoorTie.lean); close each card by the builder's one call (the guide's Derived/Test/ToyasCard.lean, 'card_holds'). Laid BY PROGRAM, IN A SANDBOX (cutbox-door.mjs). By AI agents, Wed Nov 11 2026. No macro, syntax, notation, axiom, sorry.
-/
import Derived.Test.YtkkpnbfhghfleaaGreatDoorRows
import GoSem.ClaimSeven
namespace Go.Proofs.YtkkpnbfhghfleaaGreatDoor
namespace Rows

/-- THE TIED CARD OF 'locksteplaw01.ValueTests'. -/
def valueTestsCard : Claim7 := { stood := { row := valueTestsRow, standIns := [], harness := (true, "2e824cc9b084a2babd8c2b42510f9621e3a54570a8aed3c7eda6fc1e879c8082"), looks := true }, kinds := [], alts := [], laidByText := true, laidKinds := [.data, .data, .data, .data, .pinned], laidTests := true, laidLooks := .later }
def ValueTestsCardSaid : Prop := Claim7.holds Tryz.pinned (.plain (OpenSpec.ofChange valueTestsSpec)) valueTestsCard

/-- THE TIED CARD OF 'locksteplaw01.ValueTexts'. -/
def valueTextsCard : Claim7 := { stood := { row := valueTextsRow, standIns := [], harness := (true, "2e824cc9b084a2babd8c2b42510f9621e3a54570a8aed3c7eda6fc1e879c8082"), looks := true }, kinds := [], alts := [], laidByText := true, laidKinds := [.data, .data, .data, .data, .sentinel, .sentinel, .pinned], laidTests := true, laidLooks := .later }
def ValueTextsCardSaid : Prop := Claim7.holds Tryz.pinned (.plain (OpenSpec.ofChange valueTextsSpec)) valueTextsCard

/-- THE SECOND FORM's CARD OF 'locksteplaw01.ValueTests'. -/
def valueTestsUptoCard : Claim7 := { stood := { row := valueTestsUptoRow, standIns := [], harness := (true, "2e824cc9b084a2babd8c2b42510f9621e3a54570a8aed3c7eda6fc1e879c8082"), looks := true }, kinds := [], alts := [], laidByText := true, laidKinds := [.data, .data, .data, .data, .pinned], laidTests := true, laidLooks := .later }
def ValueTestsUptoCardSaid : Prop := Claim7.holds Tryz.pinned (.plain (OpenSpec.upto valueTestsSpec)) valueTestsUptoCard

/-- THE SECOND FORM's CARD OF 'locksteplaw01.ValueTexts'. -/
def valueTextsUptoCard : Claim7 := { stood := { row := valueTextsUptoRow, standIns := [], harness := (true, "2e824cc9b084a2babd8c2b42510f9621e3a54570a8aed3c7eda6fc1e879c8082"), looks := true }, kinds := [], alts := [], laidByText := true, laidKinds := [.data, .data, .data, .data, .sentinel, .sentinel, .pinned], laidTests := true, laidLooks := .later }
def ValueTextsUptoCardSaid : Prop := Claim7.holds Tryz.pinned (.plain (OpenSpec.upto valueTextsSpec)) valueTextsUptoCard
end Rows
end Go.Proofs.YtkkpnbfhghfleaaGreatDoor

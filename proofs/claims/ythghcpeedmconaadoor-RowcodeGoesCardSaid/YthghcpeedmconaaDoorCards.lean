/-
  DERIVED. GIVEN WITH THE SEED: THE CARDS: each row of YthghcpeedmconaaDoorRows.lean that lists a variable, with what it lists TIED to the program's text (the seventh form; the later family's looks); each row that meets fmt, with fmt's text TOLD by the authors' own Lean function (tested against real Go, not proved from fmt's source: count such statements apart). THE CARD IS WHAT COUNTS. Prove the row's statement (the work); the ties are given (YthghcpeedmconaaDoorTie.lean); close each card by the builder's one call (the guide's Derived/Test/ToyasCard.lean, 'card_holds'). Laid BY PROGRAM, IN A SANDBOX (cutbox-door.mjs). By AI agents, Wed Nov 11 2026. No macro, syntax, notation, axiom, sorry.
-/
import Derived.Test.YthghcpeedmconaaDoorRows
import GoSem.ClaimSeven
namespace Go.Proofs.YthghcpeedmconaaDoor
namespace Rows

/-- THE TIED CARD OF 'locksteplaw02.RowcodeDigests'. -/
def rowcodeDigestsCard : Claim7 := { stood := { row := rowcodeDigestsRow, standIns := [], harness := (true, "ebc974b1c00948b6eca63426d838411f2a0b5dda1438d44cba6f64da15e514b4"), looks := false }, kinds := [], alts := [], laidByText := true, laidKinds := [.data, .pinned], laidTests := true, laidLooks := .later }
def RowcodeDigestsCardSaid : Prop := Claim7.holds Tryd.pinned (.plain (OpenSpec.ofChange rowcodeDigestsSpec)) rowcodeDigestsCard

/-- THE TIED CARD OF 'locksteplaw02.RowcodeGoes'. -/
def rowcodeGoesCard : Claim7 := { stood := { row := rowcodeGoesRow, standIns := [], harness := (true, "ebc974b1c00948b6eca63426d838411f2a0b5dda1438d44cba6f64da15e514b4"), looks := false }, kinds := [], alts := [], laidByText := true, laidKinds := [.data, .pinned], laidTests := true, laidLooks := .later }
def RowcodeGoesCardSaid : Prop := Claim7.holds Tryd.pinned (.plain (OpenSpec.ofChange rowcodeGoesSpec)) rowcodeGoesCard

/-- THE TIED CARD OF 'locksteplaw02.RowcodeOrder'. -/
def rowcodeOrderCard : Claim7 := { stood := { row := rowcodeOrderRow, standIns := [], harness := (true, "ebc974b1c00948b6eca63426d838411f2a0b5dda1438d44cba6f64da15e514b4"), looks := false }, kinds := [], alts := [], laidByText := true, laidKinds := [.data, .pinned], laidTests := true, laidLooks := .later }
def RowcodeOrderCardSaid : Prop := Claim7.holds Tryd.pinned (.plain (OpenSpec.ofChange rowcodeOrderSpec)) rowcodeOrderCard

/-- THE TIED CARD OF 'locksteplaw02.RowcodeValues'. -/
def rowcodeValuesCard : Claim7 := { stood := { row := rowcodeValuesRow, standIns := [], harness := (true, "ebc974b1c00948b6eca63426d838411f2a0b5dda1438d44cba6f64da15e514b4"), looks := false }, kinds := [], alts := [], laidByText := true, laidKinds := [.data, .pinned], laidTests := true, laidLooks := .later }
def RowcodeValuesCardSaid : Prop := Claim7.holds Tryd.pinned (.plain (OpenSpec.ofChange rowcodeValuesSpec)) rowcodeValuesCard

/-- THE TIED CARD OF 'locksteplaw02.RowcodeBack'. -/
def rowcodeBackCard : Claim7 := { stood := { row := rowcodeBackRow, standIns := [], harness := (true, "ebc974b1c00948b6eca63426d838411f2a0b5dda1438d44cba6f64da15e514b4"), looks := false }, kinds := [], alts := [], laidByText := true, laidKinds := [.data, .pinned], laidTests := true, laidLooks := .later }
def RowcodeBackCardSaid : Prop := Claim7.holds Tryd.pinned (.plain (OpenSpec.ofChange rowcodeBackSpec)) rowcodeBackCard

/-- THE TIED CARD OF 'locksteplaw02.RowcodeRows'. -/
def rowcodeRowsCard : Claim7 := { stood := { row := rowcodeRowsRow, standIns := [], harness := (true, "ebc974b1c00948b6eca63426d838411f2a0b5dda1438d44cba6f64da15e514b4"), looks := false }, kinds := [], alts := [], laidByText := true, laidKinds := [.data, .pinned], laidTests := true, laidLooks := .later }
def RowcodeRowsCardSaid : Prop := Claim7.holds Tryd.pinned (.plain (OpenSpec.ofChange rowcodeRowsSpec)) rowcodeRowsCard

/-- THE TIED CARD OF 'locksteplaw02.RowcodeBags'. -/
def rowcodeBagsCard : Claim7 := { stood := { row := rowcodeBagsRow, standIns := [], harness := (true, "ebc974b1c00948b6eca63426d838411f2a0b5dda1438d44cba6f64da15e514b4"), looks := false }, kinds := [], alts := [], laidByText := true, laidKinds := [.data, .pinned], laidTests := true, laidLooks := .later }
def RowcodeBagsCardSaid : Prop := Claim7.holds Tryd.pinned (.plain (OpenSpec.ofChange rowcodeBagsSpec)) rowcodeBagsCard

/-- THE SECOND FORM's CARD OF 'locksteplaw02.RowcodeDigests'. -/
def rowcodeDigestsUptoCard : Claim7 := { stood := { row := rowcodeDigestsUptoRow, standIns := [], harness := (true, "ebc974b1c00948b6eca63426d838411f2a0b5dda1438d44cba6f64da15e514b4"), looks := false }, kinds := [], alts := [], laidByText := true, laidKinds := [.data, .pinned], laidTests := true, laidLooks := .later }
def RowcodeDigestsUptoCardSaid : Prop := Claim7.holds Tryd.pinned (.plain (OpenSpec.upto rowcodeDigestsSpec)) rowcodeDigestsUptoCard

/-- THE SECOND FORM's CARD OF 'locksteplaw02.RowcodeGoes'. -/
def rowcodeGoesUptoCard : Claim7 := { stood := { row := rowcodeGoesUptoRow, standIns := [], harness := (true, "ebc974b1c00948b6eca63426d838411f2a0b5dda1438d44cba6f64da15e514b4"), looks := false }, kinds := [], alts := [], laidByText := true, laidKinds := [.data, .pinned], laidTests := true, laidLooks := .later }
def RowcodeGoesUptoCardSaid : Prop := Claim7.holds Tryd.pinned (.plain (OpenSpec.upto rowcodeGoesSpec)) rowcodeGoesUptoCard

/-- THE SECOND FORM's CARD OF 'locksteplaw02.RowcodeOrder'. -/
def rowcodeOrderUptoCard : Claim7 := { stood := { row := rowcodeOrderUptoRow, standIns := [], harness := (true, "ebc974b1c00948b6eca63426d838411f2a0b5dda1438d44cba6f64da15e514b4"), looks := false }, kinds := [], alts := [], laidByText := true, laidKinds := [.data, .pinned], laidTests := true, laidLooks := .later }
def RowcodeOrderUptoCardSaid : Prop := Claim7.holds Tryd.pinned (.plain (OpenSpec.upto rowcodeOrderSpec)) rowcodeOrderUptoCard

/-- THE SECOND FORM's CARD OF 'locksteplaw02.RowcodeValues'. -/
def rowcodeValuesUptoCard : Claim7 := { stood := { row := rowcodeValuesUptoRow, standIns := [], harness := (true, "ebc974b1c00948b6eca63426d838411f2a0b5dda1438d44cba6f64da15e514b4"), looks := false }, kinds := [], alts := [], laidByText := true, laidKinds := [.data, .pinned], laidTests := true, laidLooks := .later }
def RowcodeValuesUptoCardSaid : Prop := Claim7.holds Tryd.pinned (.plain (OpenSpec.upto rowcodeValuesSpec)) rowcodeValuesUptoCard

/-- THE SECOND FORM's CARD OF 'locksteplaw02.RowcodeBack'. -/
def rowcodeBackUptoCard : Claim7 := { stood := { row := rowcodeBackUptoRow, standIns := [], harness := (true, "ebc974b1c00948b6eca63426d838411f2a0b5dda1438d44cba6f64da15e514b4"), looks := false }, kinds := [], alts := [], laidByText := true, laidKinds := [.data, .pinned], laidTests := true, laidLooks := .later }
def RowcodeBackUptoCardSaid : Prop := Claim7.holds Tryd.pinned (.plain (OpenSpec.upto rowcodeBackSpec)) rowcodeBackUptoCard

/-- THE SECOND FORM's CARD OF 'locksteplaw02.RowcodeRows'. -/
def rowcodeRowsUptoCard : Claim7 := { stood := { row := rowcodeRowsUptoRow, standIns := [], harness := (true, "ebc974b1c00948b6eca63426d838411f2a0b5dda1438d44cba6f64da15e514b4"), looks := false }, kinds := [], alts := [], laidByText := true, laidKinds := [.data, .pinned], laidTests := true, laidLooks := .later }
def RowcodeRowsUptoCardSaid : Prop := Claim7.holds Tryd.pinned (.plain (OpenSpec.upto rowcodeRowsSpec)) rowcodeRowsUptoCard

/-- THE SECOND FORM's CARD OF 'locksteplaw02.RowcodeBags'. -/
def rowcodeBagsUptoCard : Claim7 := { stood := { row := rowcodeBagsUptoRow, standIns := [], harness := (true, "ebc974b1c00948b6eca63426d838411f2a0b5dda1438d44cba6f64da15e514b4"), looks := false }, kinds := [], alts := [], laidByText := true, laidKinds := [.data, .pinned], laidTests := true, laidLooks := .later }
def RowcodeBagsUptoCardSaid : Prop := Claim7.holds Tryd.pinned (.plain (OpenSpec.upto rowcodeBagsSpec)) rowcodeBagsUptoCard
end Rows
end Go.Proofs.YthghcpeedmconaaDoor

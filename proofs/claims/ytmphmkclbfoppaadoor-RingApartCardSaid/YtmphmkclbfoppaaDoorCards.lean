/-
  DERIVED. GIVEN WITH THE SEED: THE CARDS: each row of YtmphmkclbfoppaaDoorRows.lean that lists a variable, with what it lists TIED to the program's text (the seventh form; the later family's looks); each row that meets fmt, with fmt's text TOLD by the authors' own Lean function (tested against real Go, not proved from fmt's source: count such statements apart). THE CARD IS WHAT COUNTS. Prove the row's statement (the work); the ties are given (YtmphmkclbfoppaaDoorTie.lean); close each card by the builder's one call (the guide's Derived/Test/ToyasCard.lean, 'card_holds'). Laid BY PROGRAM, IN A SANDBOX (cutbox-door.mjs). By AI agents, Wed Nov 11 2026. No macro, syntax, notation, axiom, sorry.
-/
import Derived.Test.YtmphmkclbfoppaaDoorRows
import GoSem.ClaimSeven
namespace Go.Proofs.YtmphmkclbfoppaaDoor
namespace Rows

/-- THE TIED CARD OF 'locksteplaw18.RingMoves'. -/
def ringMovesCard : Claim7 := { stood := { row := ringMovesRow, standIns := [], harness := (true, "d38f8ac378fef3b0a9a3e0daa1da9f52e95ab22d4c88fbe9bc0c42d8ab2b9d9f"), looks := false }, kinds := [], alts := [], laidByText := true, laidKinds := [.data, .pinned], laidTests := true, laidLooks := .later }
def RingMovesCardSaid : Prop := Claim7.holds Tryd.pinned (.plain (OpenSpec.ofChange ringMovesSpec)) ringMovesCard

/-- THE TIED CARD OF 'locksteplaw18.RingAll'. -/
def ringAllCard : Claim7 := { stood := { row := ringAllRow, standIns := [], harness := (true, "d38f8ac378fef3b0a9a3e0daa1da9f52e95ab22d4c88fbe9bc0c42d8ab2b9d9f"), looks := false }, kinds := [], alts := [], laidByText := true, laidKinds := [.data, .pinned], laidTests := true, laidLooks := .later }
def RingAllCardSaid : Prop := Claim7.holds Tryd.pinned (.plain (OpenSpec.ofChange ringAllSpec)) ringAllCard

/-- THE TIED CARD OF 'locksteplaw18.RingApart'. -/
def ringApartCard : Claim7 := { stood := { row := ringApartRow, standIns := [], harness := (true, "d38f8ac378fef3b0a9a3e0daa1da9f52e95ab22d4c88fbe9bc0c42d8ab2b9d9f"), looks := false }, kinds := [], alts := [], laidByText := true, laidKinds := [.data, .pinned], laidTests := true, laidLooks := .later }
def RingApartCardSaid : Prop := Claim7.holds Tryd.pinned (.plain (OpenSpec.ofChange ringApartSpec)) ringApartCard

/-- THE SECOND FORM's CARD OF 'locksteplaw18.RingMoves'. -/
def ringMovesUptoCard : Claim7 := { stood := { row := ringMovesUptoRow, standIns := [], harness := (true, "d38f8ac378fef3b0a9a3e0daa1da9f52e95ab22d4c88fbe9bc0c42d8ab2b9d9f"), looks := false }, kinds := [], alts := [], laidByText := true, laidKinds := [.data, .pinned], laidTests := true, laidLooks := .later }
def RingMovesUptoCardSaid : Prop := Claim7.holds Tryd.pinned (.plain (OpenSpec.upto ringMovesSpec)) ringMovesUptoCard

/-- THE SECOND FORM's CARD OF 'locksteplaw18.RingAll'. -/
def ringAllUptoCard : Claim7 := { stood := { row := ringAllUptoRow, standIns := [], harness := (true, "d38f8ac378fef3b0a9a3e0daa1da9f52e95ab22d4c88fbe9bc0c42d8ab2b9d9f"), looks := false }, kinds := [], alts := [], laidByText := true, laidKinds := [.data, .pinned], laidTests := true, laidLooks := .later }
def RingAllUptoCardSaid : Prop := Claim7.holds Tryd.pinned (.plain (OpenSpec.upto ringAllSpec)) ringAllUptoCard

/-- THE SECOND FORM's CARD OF 'locksteplaw18.RingApart'. -/
def ringApartUptoCard : Claim7 := { stood := { row := ringApartUptoRow, standIns := [], harness := (true, "d38f8ac378fef3b0a9a3e0daa1da9f52e95ab22d4c88fbe9bc0c42d8ab2b9d9f"), looks := false }, kinds := [], alts := [], laidByText := true, laidKinds := [.data, .pinned], laidTests := true, laidLooks := .later }
def RingApartUptoCardSaid : Prop := Claim7.holds Tryd.pinned (.plain (OpenSpec.upto ringApartSpec)) ringApartUptoCard
end Rows
end Go.Proofs.YtmphmkclbfoppaaDoor

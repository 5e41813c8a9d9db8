/-
  NARROWER THAN 'FOR EVERY INPUT', by the rows' own cells (each row's printed sentence says how): RowcodeDigests: laid · RowcodeGoes: laid · RowcodeOrder: laid · RowcodeValues: laid · RowcodeBack: laid · RowcodeRows: laid · RowcodeBags: laid.
  DERIVED. THE GIVEN ROWS OF THIS SEAT. 7 by the template 'for every input the law returns true; each argument reads behind the call as it read before'; 0 by the template 'total and deterministic' (their statements: YthghcpeedmconaaDoorTotals.lean).
  GIVEN WITH THE SEED: the statements are not yours to turn. If you find one false, say at which input.
  Laid BY PROGRAM, IN A SANDBOX (cutbox-rows.mjs): the forced cells as the released guide's own fill.sh prints them over the translation 9d4c4c933b4c1f3f… (all of the seat's roots in one cut). By AI agents, Wed Nov 11 2026. No macro, syntax, notation, axiom, sorry.
-/
import Derived.Test.YthghcpeedmconaaDoorChecked
import GoSem.PinnedTables
import GoSem.Claim
import GoSem.ClaimJoined
import GoSem.ClaimMapViews
import Derived.JoinedTies
import Derived.KernelRfl
namespace Go.Proofs.YthghcpeedmconaaDoor
/- THE CELL 'sum', in the pinned program and in every row, IS THE sha256 OF THE DUMP (.gsa) THAT YthghcpeedmconaaDoorProg.lean LOADS. Nothing in Lean hashes anything: it is a label: what it is worth is what the hold of that sum in a sandbox is worth. -/
noncomputable def Tryd.pinned : Pinned := { name := "ythghcpeedmconaadoor", sum := "9d4c4c933b4c1f3fe1fa1b144d1acaf436cef0da70d9a1d55251eb9bda663eaf", checked := Tryd.checked }
namespace Rows
def none {H : Type} : Left H := { results := [], args := [] }

/- WHAT THE LISTED PACKAGE-LEVEL VARIABLES READ AS WHEN THE CALL BEGINS. Each datum BY PROGRAM (the guide's laid-datum.mjs) off the statement by which the dump's own 'gosem.cut.vars' lays the variable. In a bare row this is a premise. The card (YthghcpeedmconaaDoorCards.lean) ties it to the program's text. -/
def laid_unicode_utf8_acceptRanges {H : Type} : DataW H := .agg [.agg [.lit (.int .u8 128), .lit (.int .u8 191)], .agg [.lit (.int .u8 160), .lit (.int .u8 191)], .agg [.lit (.int .u8 128), .lit (.int .u8 159)], .agg [.lit (.int .u8 144), .lit (.int .u8 191)], .agg [.lit (.int .u8 128), .lit (.int .u8 143)], .agg [.lit (.int .u8 0), .lit (.int .u8 0)], .agg [.lit (.int .u8 0), .lit (.int .u8 0)], .agg [.lit (.int .u8 0), .lit (.int .u8 0)], .agg [.lit (.int .u8 0), .lit (.int .u8 0)], .agg [.lit (.int .u8 0), .lit (.int .u8 0)], .agg [.lit (.int .u8 0), .lit (.int .u8 0)], .agg [.lit (.int .u8 0), .lit (.int .u8 0)], .agg [.lit (.int .u8 0), .lit (.int .u8 0)], .agg [.lit (.int .u8 0), .lit (.int .u8 0)], .agg [.lit (.int .u8 0), .lit (.int .u8 0)], .agg [.lit (.int .u8 0), .lit (.int .u8 0)]]
/-- One of Go's own tables, pinned by name: the form's constant. -/
def laid_unicode_utf8_first : DataW Unit := Go.Pinned.utf8First

/-- 'locksteplaw02.RowcodeDigests': WHATEVER THE INPUT: true; the input reads as it did. -/
def rowcodeDigestsSpec : ChangeSpec := { name := "rowcodeDigests", fn := fun _ => fun
  | [d] => { results := [.lit (.bool true)], args := [d] }
  | _ => none }
def rowcodeDigestsRow : OpenClaim := { program := "ythghcpeedmconaadoor", sum := "9d4c4c933b4c1f3fe1fa1b144d1acaf436cef0da70d9a1d55251eb9bda663eaf", func := "lockstep/locksteplaw02.RowcodeDigests", spec := "rowcodeDigests", inPlace := ["internal/bytealg.CountString", "internal/bytealg.IndexByteString", "internal/bytealg.IndexString", "internal/abi.NoEscape", "internal/bytealg.MakeNoZero"], named := ["unicode/utf8.first", "unicode/utf8.acceptRanges", "internal/bytealg.MaxLen"], apart := false, laid := [("unicode/utf8.acceptRanges", laid_unicode_utf8_acceptRanges), ("unicode/utf8.first", laid_unicode_utf8_first)] }
def RowcodeDigestsSaid : Prop := rowcodeDigestsRow.holds Tryd.pinned (OpenSpec.ofChange rowcodeDigestsSpec)

/-- ITS FALSE NEIGHBOUR: 'it returns false'. Refute it at one input. -/
def rowcodeDigestsWrong : ChangeSpec := { name := "rowcodeDigests", fn := fun _ => fun
  | [d] => { results := [.lit (.bool false)], args := [d] }
  | _ => none }
def RowcodeDigestsWrongFalsely : Prop := rowcodeDigestsRow.holds Tryd.pinned (OpenSpec.ofChange rowcodeDigestsWrong)

/-- 'locksteplaw02.RowcodeGoes': WHATEVER THE INPUT: true; the input reads as it did. -/
def rowcodeGoesSpec : ChangeSpec := { name := "rowcodeGoes", fn := fun _ => fun
  | [d1, d2] => { results := [.lit (.bool true)], args := [d1, d2] }
  | _ => none }
def rowcodeGoesRow : OpenClaim := { program := "ythghcpeedmconaadoor", sum := "9d4c4c933b4c1f3fe1fa1b144d1acaf436cef0da70d9a1d55251eb9bda663eaf", func := "lockstep/locksteplaw02.RowcodeGoes", spec := "rowcodeGoes", inPlace := ["internal/bytealg.CountString", "internal/bytealg.IndexByteString", "internal/bytealg.IndexString", "internal/abi.NoEscape", "internal/bytealg.MakeNoZero"], named := ["unicode/utf8.first", "unicode/utf8.acceptRanges", "internal/bytealg.MaxLen"], apart := false, laid := [("unicode/utf8.acceptRanges", laid_unicode_utf8_acceptRanges), ("unicode/utf8.first", laid_unicode_utf8_first)] }
def RowcodeGoesSaid : Prop := rowcodeGoesRow.holds Tryd.pinned (OpenSpec.ofChange rowcodeGoesSpec)

/-- ITS FALSE NEIGHBOUR: 'it returns false'. Refute it at one input. -/
def rowcodeGoesWrong : ChangeSpec := { name := "rowcodeGoes", fn := fun _ => fun
  | [d1, d2] => { results := [.lit (.bool false)], args := [d1, d2] }
  | _ => none }
def RowcodeGoesWrongFalsely : Prop := rowcodeGoesRow.holds Tryd.pinned (OpenSpec.ofChange rowcodeGoesWrong)

/-- 'locksteplaw02.RowcodeOrder': WHATEVER THE INPUT: true; the input reads as it did. -/
def rowcodeOrderSpec : ChangeSpec := { name := "rowcodeOrder", fn := fun _ => fun
  | [d1, d2, d3, d4] => { results := [.lit (.bool true)], args := [d1, d2, d3, d4] }
  | _ => none }
def rowcodeOrderRow : OpenClaim := { program := "ythghcpeedmconaadoor", sum := "9d4c4c933b4c1f3fe1fa1b144d1acaf436cef0da70d9a1d55251eb9bda663eaf", func := "lockstep/locksteplaw02.RowcodeOrder", spec := "rowcodeOrder", inPlace := ["internal/bytealg.CountString", "internal/bytealg.IndexByteString", "internal/bytealg.IndexString", "internal/abi.NoEscape", "internal/bytealg.MakeNoZero"], named := ["unicode/utf8.first", "unicode/utf8.acceptRanges", "internal/bytealg.MaxLen"], apart := false, laid := [("unicode/utf8.acceptRanges", laid_unicode_utf8_acceptRanges), ("unicode/utf8.first", laid_unicode_utf8_first)] }
def RowcodeOrderSaid : Prop := rowcodeOrderRow.holds Tryd.pinned (OpenSpec.ofChange rowcodeOrderSpec)

/-- ITS FALSE NEIGHBOUR: 'it returns false'. Refute it at one input. -/
def rowcodeOrderWrong : ChangeSpec := { name := "rowcodeOrder", fn := fun _ => fun
  | [d1, d2, d3, d4] => { results := [.lit (.bool false)], args := [d1, d2, d3, d4] }
  | _ => none }
def RowcodeOrderWrongFalsely : Prop := rowcodeOrderRow.holds Tryd.pinned (OpenSpec.ofChange rowcodeOrderWrong)

/-- 'locksteplaw02.RowcodeValues': WHATEVER THE INPUT: true; the input reads as it did. -/
def rowcodeValuesSpec : ChangeSpec := { name := "rowcodeValues", fn := fun _ => fun
  | [d1, d2] => { results := [.lit (.bool true)], args := [d1, d2] }
  | _ => none }
def rowcodeValuesRow : OpenClaim := { program := "ythghcpeedmconaadoor", sum := "9d4c4c933b4c1f3fe1fa1b144d1acaf436cef0da70d9a1d55251eb9bda663eaf", func := "lockstep/locksteplaw02.RowcodeValues", spec := "rowcodeValues", inPlace := ["internal/bytealg.CountString", "internal/bytealg.IndexByteString", "internal/bytealg.IndexString", "internal/abi.NoEscape", "internal/bytealg.MakeNoZero", "math/bits.Add64", "internal/bytealg.IndexByte"], named := ["unicode/utf8.first", "unicode/utf8.acceptRanges", "internal/bytealg.MaxLen", "math/bits.divideError", "math/bits.overflowError"], apart := false, laid := [("unicode/utf8.acceptRanges", laid_unicode_utf8_acceptRanges), ("unicode/utf8.first", laid_unicode_utf8_first)] }
def RowcodeValuesSaid : Prop := rowcodeValuesRow.holds Tryd.pinned (OpenSpec.ofChange rowcodeValuesSpec)

/-- ITS FALSE NEIGHBOUR: 'it returns false'. Refute it at one input. -/
def rowcodeValuesWrong : ChangeSpec := { name := "rowcodeValues", fn := fun _ => fun
  | [d1, d2] => { results := [.lit (.bool false)], args := [d1, d2] }
  | _ => none }
def RowcodeValuesWrongFalsely : Prop := rowcodeValuesRow.holds Tryd.pinned (OpenSpec.ofChange rowcodeValuesWrong)

/-- 'locksteplaw02.RowcodeBack': WHATEVER THE INPUT: true; the input reads as it did. -/
def rowcodeBackSpec : ChangeSpec := { name := "rowcodeBack", fn := fun _ => fun
  | [d1, d2, d3] => { results := [.lit (.bool true)], args := [d1, d2, d3] }
  | _ => none }
def rowcodeBackRow : OpenClaim := { program := "ythghcpeedmconaadoor", sum := "9d4c4c933b4c1f3fe1fa1b144d1acaf436cef0da70d9a1d55251eb9bda663eaf", func := "lockstep/locksteplaw02.RowcodeBack", spec := "rowcodeBack", inPlace := ["internal/bytealg.CountString", "internal/bytealg.IndexByteString", "internal/bytealg.IndexString", "internal/abi.NoEscape", "internal/bytealg.MakeNoZero", "math/bits.Add64", "internal/bytealg.IndexByte"], named := ["unicode/utf8.first", "unicode/utf8.acceptRanges", "internal/bytealg.MaxLen", "math/bits.divideError", "math/bits.overflowError"], apart := false, laid := [("unicode/utf8.acceptRanges", laid_unicode_utf8_acceptRanges), ("unicode/utf8.first", laid_unicode_utf8_first)] }
def RowcodeBackSaid : Prop := rowcodeBackRow.holds Tryd.pinned (OpenSpec.ofChange rowcodeBackSpec)

/-- ITS FALSE NEIGHBOUR: 'it returns false'. Refute it at one input. -/
def rowcodeBackWrong : ChangeSpec := { name := "rowcodeBack", fn := fun _ => fun
  | [d1, d2, d3] => { results := [.lit (.bool false)], args := [d1, d2, d3] }
  | _ => none }
def RowcodeBackWrongFalsely : Prop := rowcodeBackRow.holds Tryd.pinned (OpenSpec.ofChange rowcodeBackWrong)

/-- 'locksteplaw02.RowcodeRows': WHATEVER THE INPUT: true; the input reads as it did. -/
def rowcodeRowsSpec : ChangeSpec := { name := "rowcodeRows", fn := fun _ => fun
  | [d1, d2] => { results := [.lit (.bool true)], args := [d1, d2] }
  | _ => none }
def rowcodeRowsRow : OpenClaim := { program := "ythghcpeedmconaadoor", sum := "9d4c4c933b4c1f3fe1fa1b144d1acaf436cef0da70d9a1d55251eb9bda663eaf", func := "lockstep/locksteplaw02.RowcodeRows", spec := "rowcodeRows", inPlace := ["internal/bytealg.CountString", "internal/bytealg.IndexByteString", "internal/bytealg.IndexString", "internal/abi.NoEscape", "internal/bytealg.MakeNoZero", "internal/bytealg.Compare", "math/bits.Add64", "internal/bytealg.IndexByte"], unfollowed := true, recurses := true, named := ["unicode/utf8.first", "unicode/utf8.acceptRanges", "internal/bytealg.MaxLen", "math/bits.divideError", "math/bits.overflowError"], apart := false, laid := [("unicode/utf8.acceptRanges", laid_unicode_utf8_acceptRanges), ("unicode/utf8.first", laid_unicode_utf8_first)] }
def RowcodeRowsSaid : Prop := rowcodeRowsRow.holds Tryd.pinned (OpenSpec.ofChange rowcodeRowsSpec)

/-- ITS FALSE NEIGHBOUR: 'it returns false'. Refute it at one input. -/
def rowcodeRowsWrong : ChangeSpec := { name := "rowcodeRows", fn := fun _ => fun
  | [d1, d2] => { results := [.lit (.bool false)], args := [d1, d2] }
  | _ => none }
def RowcodeRowsWrongFalsely : Prop := rowcodeRowsRow.holds Tryd.pinned (OpenSpec.ofChange rowcodeRowsWrong)

/-- 'locksteplaw02.RowcodeBags': WHATEVER THE INPUT: true; the input reads as it did. -/
def rowcodeBagsSpec : ChangeSpec := { name := "rowcodeBags", fn := fun _ => fun
  | [d1, d2, d3] => { results := [.lit (.bool true)], args := [d1, d2, d3] }
  | _ => none }
def rowcodeBagsRow : OpenClaim := { program := "ythghcpeedmconaadoor", sum := "9d4c4c933b4c1f3fe1fa1b144d1acaf436cef0da70d9a1d55251eb9bda663eaf", func := "lockstep/locksteplaw02.RowcodeBags", spec := "rowcodeBags", inPlace := ["internal/bytealg.CountString", "internal/bytealg.IndexByteString", "internal/bytealg.IndexString", "internal/abi.NoEscape", "internal/bytealg.MakeNoZero", "internal/bytealg.Compare", "math/bits.Add64", "internal/bytealg.IndexByte"], unfollowed := true, recurses := true, named := ["unicode/utf8.first", "unicode/utf8.acceptRanges", "internal/bytealg.MaxLen", "math/bits.divideError", "math/bits.overflowError"], apart := false, laid := [("unicode/utf8.acceptRanges", laid_unicode_utf8_acceptRanges), ("unicode/utf8.first", laid_unicode_utf8_first)] }
def RowcodeBagsSaid : Prop := rowcodeBagsRow.holds Tryd.pinned (OpenSpec.ofChange rowcodeBagsSpec)

/-- ITS FALSE NEIGHBOUR: 'it returns false'. Refute it at one input. -/
def rowcodeBagsWrong : ChangeSpec := { name := "rowcodeBags", fn := fun _ => fun
  | [d1, d2, d3] => { results := [.lit (.bool false)], args := [d1, d2, d3] }
  | _ => none }
def RowcodeBagsWrongFalsely : Prop := rowcodeBagsRow.holds Tryd.pinned (OpenSpec.ofChange rowcodeBagsWrong)

/- THE SECOND FORM. 'bulk': how many values and letters a reading holds, each counted each time it is reached (what is shared counts as often as it is met; a slice's spare places count too). A statement '..UptoSaid' is the law's where the arguments, and the package variables that the reading takes, are together of bulk at most 1048576: NARROWER than '..Said'. Prove '..Said' where nothing that the law and all that it calls make is longer than what came in: it says more and counts as full. Else prove '..UptoSaid'. A law counts once. -/
mutual
def uptoBulk {H : Type} : DataW H → Nat
  | .lit (.string bytes) => bytes.length + 1
  | .lit _ => 1
  | .nil => 1
  | .ptr d => uptoBulk d + 1
  | .slice elems spare => uptoBulkAll elems + uptoBulkAll spare + 1
  | .agg parts => uptoBulkAll parts + 1
  | .iface _ d => uptoBulk d + 1
  | .map entries => uptoBulkEntries entries + 1
  | .held _ => 1
def uptoBulkAll {H : Type} : List (DataW H) → Nat
  | [] => 0
  | d :: r => uptoBulk d + uptoBulkAll r
def uptoBulkEntries {H : Type} : List (Lit × DataW H) → Nat
  | [] => 0
  | x :: r => uptoBulkEntry x + uptoBulkEntries r
def uptoBulkEntry {H : Type} : Lit × DataW H → Nat
  | (.string bytes, d) => bytes.length + uptoBulk d + 1
  | (_, d) => uptoBulk d + 1
 end
def uptoSmall : (H : Type) → List (DataW H) → Bool := fun _ ds => decide (uptoBulkAll ds ≤ 1048576)
def OpenSpec.upto (s : _root_.Go.ChangeSpec) : _root_.Go.OpenSpec := { _root_.Go.OpenSpec.ofChange s with cond := some uptoSmall }

/-- 'locksteplaw02.RowcodeDigests', WHERE WHAT IT READS IS OF BULK AT MOST 1048576: true; the input reads as it did. -/
def rowcodeDigestsUptoRow : OpenClaim := { program := "ythghcpeedmconaadoor", sum := "9d4c4c933b4c1f3fe1fa1b144d1acaf436cef0da70d9a1d55251eb9bda663eaf", func := "lockstep/locksteplaw02.RowcodeDigests", spec := "rowcodeDigests", inPlace := ["internal/bytealg.CountString", "internal/bytealg.IndexByteString", "internal/bytealg.IndexString", "internal/abi.NoEscape", "internal/bytealg.MakeNoZero"], named := ["unicode/utf8.first", "unicode/utf8.acceptRanges", "internal/bytealg.MaxLen"], apart := false, laid := [("unicode/utf8.acceptRanges", laid_unicode_utf8_acceptRanges), ("unicode/utf8.first", laid_unicode_utf8_first)], narrowed := true }
def RowcodeDigestsUptoSaid : Prop := rowcodeDigestsUptoRow.holds Tryd.pinned (OpenSpec.upto rowcodeDigestsSpec)

/-- 'locksteplaw02.RowcodeGoes', WHERE WHAT IT READS IS OF BULK AT MOST 1048576: true; the input reads as it did. -/
def rowcodeGoesUptoRow : OpenClaim := { program := "ythghcpeedmconaadoor", sum := "9d4c4c933b4c1f3fe1fa1b144d1acaf436cef0da70d9a1d55251eb9bda663eaf", func := "lockstep/locksteplaw02.RowcodeGoes", spec := "rowcodeGoes", inPlace := ["internal/bytealg.CountString", "internal/bytealg.IndexByteString", "internal/bytealg.IndexString", "internal/abi.NoEscape", "internal/bytealg.MakeNoZero"], named := ["unicode/utf8.first", "unicode/utf8.acceptRanges", "internal/bytealg.MaxLen"], apart := false, laid := [("unicode/utf8.acceptRanges", laid_unicode_utf8_acceptRanges), ("unicode/utf8.first", laid_unicode_utf8_first)], narrowed := true }
def RowcodeGoesUptoSaid : Prop := rowcodeGoesUptoRow.holds Tryd.pinned (OpenSpec.upto rowcodeGoesSpec)

/-- 'locksteplaw02.RowcodeOrder', WHERE WHAT IT READS IS OF BULK AT MOST 1048576: true; the input reads as it did. -/
def rowcodeOrderUptoRow : OpenClaim := { program := "ythghcpeedmconaadoor", sum := "9d4c4c933b4c1f3fe1fa1b144d1acaf436cef0da70d9a1d55251eb9bda663eaf", func := "lockstep/locksteplaw02.RowcodeOrder", spec := "rowcodeOrder", inPlace := ["internal/bytealg.CountString", "internal/bytealg.IndexByteString", "internal/bytealg.IndexString", "internal/abi.NoEscape", "internal/bytealg.MakeNoZero"], named := ["unicode/utf8.first", "unicode/utf8.acceptRanges", "internal/bytealg.MaxLen"], apart := false, laid := [("unicode/utf8.acceptRanges", laid_unicode_utf8_acceptRanges), ("unicode/utf8.first", laid_unicode_utf8_first)], narrowed := true }
def RowcodeOrderUptoSaid : Prop := rowcodeOrderUptoRow.holds Tryd.pinned (OpenSpec.upto rowcodeOrderSpec)

/-- 'locksteplaw02.RowcodeValues', WHERE WHAT IT READS IS OF BULK AT MOST 1048576: true; the input reads as it did. -/
def rowcodeValuesUptoRow : OpenClaim := { program := "ythghcpeedmconaadoor", sum := "9d4c4c933b4c1f3fe1fa1b144d1acaf436cef0da70d9a1d55251eb9bda663eaf", func := "lockstep/locksteplaw02.RowcodeValues", spec := "rowcodeValues", inPlace := ["internal/bytealg.CountString", "internal/bytealg.IndexByteString", "internal/bytealg.IndexString", "internal/abi.NoEscape", "internal/bytealg.MakeNoZero", "math/bits.Add64", "internal/bytealg.IndexByte"], named := ["unicode/utf8.first", "unicode/utf8.acceptRanges", "internal/bytealg.MaxLen", "math/bits.divideError", "math/bits.overflowError"], apart := false, laid := [("unicode/utf8.acceptRanges", laid_unicode_utf8_acceptRanges), ("unicode/utf8.first", laid_unicode_utf8_first)], narrowed := true }
def RowcodeValuesUptoSaid : Prop := rowcodeValuesUptoRow.holds Tryd.pinned (OpenSpec.upto rowcodeValuesSpec)

/-- 'locksteplaw02.RowcodeBack', WHERE WHAT IT READS IS OF BULK AT MOST 1048576: true; the input reads as it did. -/
def rowcodeBackUptoRow : OpenClaim := { program := "ythghcpeedmconaadoor", sum := "9d4c4c933b4c1f3fe1fa1b144d1acaf436cef0da70d9a1d55251eb9bda663eaf", func := "lockstep/locksteplaw02.RowcodeBack", spec := "rowcodeBack", inPlace := ["internal/bytealg.CountString", "internal/bytealg.IndexByteString", "internal/bytealg.IndexString", "internal/abi.NoEscape", "internal/bytealg.MakeNoZero", "math/bits.Add64", "internal/bytealg.IndexByte"], named := ["unicode/utf8.first", "unicode/utf8.acceptRanges", "internal/bytealg.MaxLen", "math/bits.divideError", "math/bits.overflowError"], apart := false, laid := [("unicode/utf8.acceptRanges", laid_unicode_utf8_acceptRanges), ("unicode/utf8.first", laid_unicode_utf8_first)], narrowed := true }
def RowcodeBackUptoSaid : Prop := rowcodeBackUptoRow.holds Tryd.pinned (OpenSpec.upto rowcodeBackSpec)

/-- 'locksteplaw02.RowcodeRows', WHERE WHAT IT READS IS OF BULK AT MOST 1048576: true; the input reads as it did. -/
def rowcodeRowsUptoRow : OpenClaim := { program := "ythghcpeedmconaadoor", sum := "9d4c4c933b4c1f3fe1fa1b144d1acaf436cef0da70d9a1d55251eb9bda663eaf", func := "lockstep/locksteplaw02.RowcodeRows", spec := "rowcodeRows", inPlace := ["internal/bytealg.CountString", "internal/bytealg.IndexByteString", "internal/bytealg.IndexString", "internal/abi.NoEscape", "internal/bytealg.MakeNoZero", "internal/bytealg.Compare", "math/bits.Add64", "internal/bytealg.IndexByte"], unfollowed := true, recurses := true, named := ["unicode/utf8.first", "unicode/utf8.acceptRanges", "internal/bytealg.MaxLen", "math/bits.divideError", "math/bits.overflowError"], apart := false, laid := [("unicode/utf8.acceptRanges", laid_unicode_utf8_acceptRanges), ("unicode/utf8.first", laid_unicode_utf8_first)], narrowed := true }
def RowcodeRowsUptoSaid : Prop := rowcodeRowsUptoRow.holds Tryd.pinned (OpenSpec.upto rowcodeRowsSpec)

/-- 'locksteplaw02.RowcodeBags', WHERE WHAT IT READS IS OF BULK AT MOST 1048576: true; the input reads as it did. -/
def rowcodeBagsUptoRow : OpenClaim := { program := "ythghcpeedmconaadoor", sum := "9d4c4c933b4c1f3fe1fa1b144d1acaf436cef0da70d9a1d55251eb9bda663eaf", func := "lockstep/locksteplaw02.RowcodeBags", spec := "rowcodeBags", inPlace := ["internal/bytealg.CountString", "internal/bytealg.IndexByteString", "internal/bytealg.IndexString", "internal/abi.NoEscape", "internal/bytealg.MakeNoZero", "internal/bytealg.Compare", "math/bits.Add64", "internal/bytealg.IndexByte"], unfollowed := true, recurses := true, named := ["unicode/utf8.first", "unicode/utf8.acceptRanges", "internal/bytealg.MaxLen", "math/bits.divideError", "math/bits.overflowError"], apart := false, laid := [("unicode/utf8.acceptRanges", laid_unicode_utf8_acceptRanges), ("unicode/utf8.first", laid_unicode_utf8_first)], narrowed := true }
def RowcodeBagsUptoSaid : Prop := rowcodeBagsUptoRow.holds Tryd.pinned (OpenSpec.upto rowcodeBagsSpec)

end Rows
end Go.Proofs.YthghcpeedmconaaDoor

/- Part 1 of a claim of this seat: texts merged by a program of the claim's session (wip/bundle.py). -/
import Derived.Test.YthghcpeedmconaaDoorZGo0
import Derived.WalkKit
import Derived.Laws.Cover1
import Derived.Laws.Externs
import Derived.Test.YthghcpeedmconaaDoorProg
import Derived.Below
import Derived.Deep.Draws
import Derived.Deep.AppendLies
import Derived.Maps.AppendAt
import Derived.OwnWalk
import Derived.Laws.BytesArg
import Derived.Laws.MakeOwn
import Derived.Laws.OwnMore
import Derived.Deep.OwnRows
import Derived.Tactics
import Derived.Lib.ConvBytes
import Derived.Laws.Slices
import Derived.KernelRfl
import Derived.RowKit3
import Derived.Deep.LoopGhost
import Derived.Deep.QuietTactic
import Derived.BigQuiet
import Derived.WideLaws
import Derived.Deep.DeepCutAuto
import Derived.Deep.CutBlock
import Derived.Deep.RegionHeld3
import Derived.Laws.Rows
import Derived.Lib.AppendStr
import Derived.ArgAppend
import Derived.Laws.IdiomCopy
import Derived.OrdersHeld
import Derived.Laws.BitsLemmas
import Derived.RowKit
import Derived.Shelf.Strings.Builder1
import Derived.Shelf.Strings.Builder2
import Derived.Shelf.Small.Bits
import Derived.Shelf.Small.Wraps
import Derived.Shelf.Strconv.Itoa0
import Derived.Shelf.Strings.Search1
import Derived.Shelf.Strings.Search2
import Derived.Shelf.Strings.Search3
import Derived.Shelf.Strings.Count
import Derived.Shelf.LaysM
import Derived.Shelf.Strings.Shaped
import Derived.Shelf.Strings.Split
import Derived.Shelf.Strings.Replace
import Derived.Shelf.Bits.Mul64
import Derived.Shelf.Unicode.DecodeSlow
import Derived.Shelf.Unicode.DecodeAny
import Derived.Ground.Names2Prog
import Derived.Shelf.Slices.SearchI
import Derived.Shelf.Bytes.SlIndexAt
import Derived.Shelf.Bytes.SlSearch0
import Derived.Ground.SlbNamesProg
import Derived.Shelf.Bytes.SlJoin
import Derived.Shelf.Bytes.IndexByte
import Derived.Shelf.Unicode.ValidAny
import Derived.WalkSmall
import Derived.Lib.Hide
import Derived.Laws.IdiomStrings
import Derived.Lib.BytesEntry
import Derived.Lib.ValidLaws
import Derived.Lib.MapLaws
import Derived.Lib.TrimUEq
import Derived.Laws.DeepStrings4
import Derived.Laws.RangeAny
import Derived.Lib.OthersKept
import Derived.Lib.Mul64
import Derived.Laws.Bits64b
import Derived.Lib.ItoaNum
import Derived.Laws.StructEq
import Derived.SizedLaws
import Derived.ChangeSlices
section
namespace Go.Proofs.YthghcpeedmconaaDoor.X
open Go
theorem at_region {P : Program} {id : Nat} {ops : Array Oper} {Q : Exit → Act → World → Prop} {a : Act} {w : World}
    (h : (Code.region id ops true).wp P Q a w) : (Code.region id ops true).wp P Q a w := h
end Go.Proofs.YthghcpeedmconaaDoor.X
end
section
namespace Go.Proofs.YthghcpeedmconaaDoorW.PrintWords
open Go Go.RowKit
set_option linter.unusedVariables false
def ExtCalls (P : Program) (f : FuncId) (args : Array Value) (w : World) (R : Ending → World → Prop) : Prop := ∃ v w', (callFunc f args).run P w = .ok (.value v) w' ∧ R (.returned v) w'
theorem ExtCalls.mono {P : Program} {f : FuncId} {args : Array Value} {w : World} {R R' : Ending → World → Prop} (h : ExtCalls P f args w R) (hr : ∀ e w', R e w' → R' e w') : ExtCalls P f args w R' := by
  obtain ⟨v, w', h1, h2⟩ := h
  exact ⟨v, w', h1, hr _ _ h2⟩
end Go.Proofs.YthghcpeedmconaaDoorW.PrintWords
end
section
namespace Go.Proofs.YthghcpeedmconaaDoor.X
open Go.RowKit Go.Proofs.YthghcpeedmconaaDoorW.PrintWords Go.Proofs.YthghcpeedmconaaDoorW.PrintLast Go.Proofs.YthghcpeedmconaaDoorW.PrintMore
attribute [local go_sem] max2_int min2_int max_two min_two max_three min_three max_four min_four
set_option linter.unusedVariables false
set_option linter.unusedSimpArgs false
def errW : Option Int → Value
 | none => .nilIface
 | some c => .iface 0 (.int .i64 c)
theorem errW_none : errW none = .nilIface := rfl
theorem errW_some (c : Int) : errW (some c) = .iface 0 (.int .i64 c) := rfl
theorem info5 : (Tryd.prog.info? 5).map (fun i => (i.zero, i.size, i.bytes)) = some (some (.int .u8 0), 1, 1) := by kernel_rfl
structure S42 where
 f0 : Int
 f1 : Int
 f2 : ByteArray
def z42 : S42 := ⟨(0 : Int), (0 : Int), (⟨#[]⟩ : ByteArray)⟩
def k42 : Kd S42 := Kd.iso (Kd.pair (Kd.int .i64) (Kd.pair (Kd.int .i64) Kd.string)) (fun x : S42 => (x.f0, x.f1, x.f2))
theorem k42_heap : Kd.Heap k42 := Kd.heap_iso _ (Kd.heap_pair (Kd.heap_int .i64) (Kd.heap_pair (Kd.heap_int .i64) Kd.heap_string))
theorem k42_open {w : World} {x : S42} {cs : List Value} (h : k42.K w x cs) : cs = [.int .i64 x.f0, .int .i64 x.f1, .string x.f2] := by
 obtain ⟨_, _, rfl, rfl, ⟨_, _, rfl, rfl, rfl⟩⟩ := h
 exact rfl
theorem k42_mkM (w : World) (base : Nat) (ok : Nat → Prop) (x : S42)  : k42.M w base ok x [.int .i64 x.f0, .int .i64 x.f1, .string x.f2] := ⟨[.int .i64 x.f0], [.int .i64 x.f1, .string x.f2], rfl, rfl, ⟨[.int .i64 x.f1], [.string x.f2], rfl, rfl, rfl⟩⟩
def rd_T42 (xs : List S42) (i : Int) : S42 := xs.getD i.toNat z42
theorem at_T42 {w : World} {A : Option Addr} {n : Nat} {xs : List S42} (h : Kd.C k42 w A n xs) (i : Int) (h0 : 0 ≤ i) (h1 : i < n) : ∃ ad , A = some ad ∧ w.cell? (ad.add (i.toNat * 3)) = some (.int .i64 (rd_T42 xs i).f0) ∧ w.cell? ⟨(ad.add (i.toNat * 3)).block, (ad.add (i.toNat * 3)).off + 1, none⟩ = some (.int .i64 (rd_T42 xs i).f1) ∧ w.cell? ⟨(ad.add (i.toNat * 3)).block, (ad.add (i.toNat * 3)).off + 2, none⟩ = some (.string (rd_T42 xs i).f2) := by
 obtain ⟨ad, c, e, _, hK, hc0⟩ := Kd.C_get h z42 i h0 h1
 have hc : ∀ j u, c[j]? = some u → w.cell? (ad.add (i.toNat * 3 + j)) = some u := hc0
 obtain rfl := k42_open hK
 exact ⟨ad, e, hc 0 _ rfl, by rw [← add_field _ _ 1 (by omega)]; exact hc 1 _ rfl, by rw [← add_field _ _ 2 (by omega)]; exact hc 2 _ rfl⟩
def rd_L5 (xs : List (List S42)) (i : Int) : (List S42) := xs.getD i.toNat ([] : List S42)
theorem at_L5 {w : World} {A : Option Addr} {n : Nat} {xs : List (List S42)} (h : Kd.C (Kd.slice 42 k42) w A n xs) (i : Int) (h0 : 0 ≤ i) (h1 : i < n) : ∃ ad A0 c0, A = some ad ∧ w.cell? (ad.add i.toNat) = some (.slice A0 (rd_L5 xs i).length c0) ∧ (rd_L5 xs i).length ≤ c0 ∧ k42.C w A0 (rd_L5 xs i).length (rd_L5 xs i) := by
 obtain ⟨ad, c, e, _, hK, hc0⟩ := Kd.C_get h ([] : List S42) i h0 h1
 have hc : ∀ j u, c[j]? = some u → w.cell? (ad.add (i.toNat * 1 + j)) = some u := hc0
 obtain ⟨A0, c0, rfl, l0, g0⟩ := hK
 exact ⟨ad, A0, c0, e, by have hq := hc 0 _ rfl; rwa [Nat.mul_one, Nat.add_zero] at hq, l0, g0⟩
structure S36 where
 f0 : Bool
 f1 : (List S42)
end Go.Proofs.YthghcpeedmconaaDoor.X
end
section
namespace Go.Proofs
open Go.Shelf
def Tryd.lays134_ren : Go.Shelf.Ren := ⟨fun | 134 => 121 | 129 => 100 | n => n, fun | 53 => 24 | 3 => 3 | 4 => 4 | 46 => 89 | 5 => 5 | 9 => 9 | n => n, fun | n => n⟩
theorem Tryd.lays134 : Go.Proofs.Lays.n134 Tryd.prog Tryd.lays134_ren := {
  mixed := by kernel_rfl
  f129 := Tryd.func100.trans (congrArg some (by kernel_rfl))
  f134 := Tryd.func121.trans (congrArg some (by kernel_rfl))
  t3 := Tryd.underlying3
  a3 := Tryd.isAgg3
  z3 := Tryd.sizeOf3
  v3 := Tryd.zeroValue3
  t4 := Tryd.underlying4
  a4 := Tryd.isAgg4
  z4 := Tryd.sizeOf4
  v4 := Tryd.zeroValue4
  t5 := Tryd.underlying5
  a5 := Tryd.isAgg5
  z5 := Tryd.sizeOf5
  v5 := Tryd.zeroValue5
  t9 := Tryd.underlying9
  a9 := Tryd.isAgg9
  z9 := Tryd.sizeOf9
  v9 := Tryd.zeroValue9
  t46 := Tryd.underlying89
  a46 := Tryd.isAgg89
  z46 := Tryd.sizeOf89
  v46 := Tryd.zeroValue89
  t53 := Tryd.underlying24
  a53 := Tryd.isAgg24
  z53 := Tryd.sizeOf24
  v53 := Tryd.zeroValue24 }
theorem Tryd.bits_LeadingZeros64 (x : Int) (w : World) (h0 : 0 ≤ x) (h1 : x ≤ 18446744073709551615) :
    Calls Tryd.prog 121 #[.int .u64 x] w fun e w' => e = .returned (.int .i64 (64 - (Lib.bitLen x.toNat : Int))) ∧ w' = w := Any.bits_LeadingZeros64 Tryd.lays134 x w h0 h1
def Tryd.lays155_ren : Go.Shelf.Ren := ⟨fun | 155 => 68 | 154 => 86 | 138 => 101 | 165 => 102 | 143 => 103 | 166 => 104 | 197 => 105 | 169 => 106 | 195 => 115 | 218 => 116 | 240 => 117 | 241 => 118 | 219 => 119 | 260 => 120 | 276 => 123 | 277 => 83 | 217 => 124 | 225 => 125 | 224 => 126 | 267 => 127 | 266 => 128 | 314 => 129 | n => n, fun | 9 => 9 | 3 => 3 | 4 => 4 | 72 => 132 | 0 => 0 | 76 => 136 | 105 => 138 | 21 => 21 | 5 => 5 | 70 => 130 | 20 => 20 | 37 => 47 | 75 => 135 | 127 => 149 | 164 => 153 | 46 => 89 | 119 => 110 | 139 => 113 | 138 => 112 | 146 => 156 | 51 => 92 | 80 => 140 | n => n, fun | 1 => 2 | 3 => 0 | 4 => 1 | n => n⟩
theorem Tryd.lays155 : Go.Proofs.Lays.n155 Tryd.prog Tryd.lays155_ren := {
  mixed := by kernel_rfl
  f138 := Tryd.func101.trans (congrArg some (by kernel_rfl))
  f143 := Tryd.func103.trans (congrArg some (by kernel_rfl))
  f154 := Tryd.func86.trans (congrArg some (by kernel_rfl))
  f155 := Tryd.func68.trans (congrArg some (by kernel_rfl))
  f165 := Tryd.func102.trans (congrArg some (by kernel_rfl))
  f166 := Tryd.func104.trans (congrArg some (by kernel_rfl))
  f169 := Tryd.func106.trans (congrArg some (by kernel_rfl))
  f195 := Tryd.func115.trans (congrArg some (by kernel_rfl))
  f197 := Tryd.func105.trans (congrArg some (by kernel_rfl))
  f217 := Tryd.func124.trans (congrArg some (by kernel_rfl))
  f218 := Tryd.func116.trans (congrArg some (by kernel_rfl))
  f219 := Tryd.func119.trans (congrArg some (by kernel_rfl))
  f224 := Tryd.func126.trans (congrArg some (by kernel_rfl))
  f225 := Tryd.func125.trans (congrArg some (by kernel_rfl))
  f240 := Tryd.func117.trans (congrArg some (by kernel_rfl))
  f241 := Tryd.func118.trans (congrArg some (by kernel_rfl))
  f260 := Tryd.func120.trans (congrArg some (by kernel_rfl))
  f266 := Tryd.func128.trans (congrArg some (by kernel_rfl))
  f267 := Tryd.func127.trans (congrArg some (by kernel_rfl))
  f276 := Tryd.func123.trans (congrArg some (by kernel_rfl))
  f277 := Tryd.func83.trans (congrArg some (by kernel_rfl))
  f314 := Tryd.func129.trans (congrArg some (by kernel_rfl))
  t0 := Tryd.underlying0
  a0 := Tryd.isAgg0
  z0 := Tryd.sizeOf0
  v0 := Tryd.zeroValue0
  t3 := Tryd.underlying3
  a3 := Tryd.isAgg3
  z3 := Tryd.sizeOf3
  v3 := Tryd.zeroValue3
  t4 := Tryd.underlying4
  a4 := Tryd.isAgg4
  z4 := Tryd.sizeOf4
  v4 := Tryd.zeroValue4
  t5 := Tryd.underlying5
  a5 := Tryd.isAgg5
  z5 := Tryd.sizeOf5
  v5 := Tryd.zeroValue5
  t9 := Tryd.underlying9
  a9 := Tryd.isAgg9
  z9 := Tryd.sizeOf9
  v9 := Tryd.zeroValue9
  t20 := Tryd.underlying20
  a20 := Tryd.isAgg20
  z20 := Tryd.sizeOf20
  v20 := Tryd.zeroValue20
  t21 := Tryd.underlying21
  a21 := Tryd.isAgg21
  z21 := Tryd.sizeOf21
  v21 := Tryd.zeroValue21
  t37 := Tryd.underlying47
  a37 := Tryd.isAgg47
  z37 := Tryd.sizeOf47
  v37 := Tryd.zeroValue47
  t46 := Tryd.underlying89
  a46 := Tryd.isAgg89
  z46 := Tryd.sizeOf89
  v46 := Tryd.zeroValue89
  t51 := Tryd.underlying92
  a51 := Tryd.isAgg92
  z51 := Tryd.sizeOf92
  v51 := Tryd.zeroValue92
  t70 := Tryd.underlying130
  a70 := Tryd.isAgg130
  z70 := Tryd.sizeOf130
  v70 := Tryd.zeroValue130
  t72 := Tryd.underlying132
  a72 := Tryd.isAgg132
  z72 := Tryd.sizeOf132
  v72 := Tryd.zeroValue132
  t75 := Tryd.underlying135
  a75 := Tryd.isAgg135
  z75 := Tryd.sizeOf135
  v75 := Tryd.zeroValue135
  t76 := Tryd.underlying136
  a76 := Tryd.isAgg136
  z76 := Tryd.sizeOf136
  v76 := Tryd.zeroValue136
  t105 := Tryd.underlying138
  a105 := Tryd.isAgg138
  z105 := Tryd.sizeOf138
  v105 := Tryd.zeroValue138
  t119 := Tryd.underlying110
  a119 := Tryd.isAgg110
  z119 := Tryd.sizeOf110
  t127 := Tryd.underlying149
  a127 := Tryd.isAgg149
  z127 := Tryd.sizeOf149
  v127 := Tryd.zeroValue149
  t138 := Tryd.underlying112
  a138 := Tryd.isAgg112
  z138 := Tryd.sizeOf112
  v138 := Tryd.zeroValue112
  t139 := Tryd.underlying113
  a139 := Tryd.isAgg113
  z139 := Tryd.sizeOf113
  v139 := Tryd.zeroValue113
  t146 := Tryd.underlying156
  a146 := Tryd.isAgg156
  z146 := Tryd.sizeOf156
  v146 := Tryd.zeroValue156
  t164 := Tryd.underlying153
  a164 := Tryd.isAgg153
  z164 := Tryd.sizeOf153
  v164 := Tryd.zeroValue153
  g1 := by kernel_rfl
  g3 := by kernel_rfl
  g4 := by kernel_rfl }
theorem Tryd.Builder_Extra_155 : Builder.Extra Tryd.prog Tryd.lays155_ren := {
  sizeBuilder := by kernel_rfl
  liesBuilder := by kernel_rfl
  t5 := Tryd.underlying5
  a5 := Tryd.isAgg5
  z5 := Tryd.sizeOf5
  v5 := Tryd.zeroValue5
  infoByte := by kernel_rfl
  cellsByte := by kernel_rfl
  sizeByte := by kernel_rfl
  neB5 := by decide }
open Go.RowKit Go.Lib in
theorem Tryd.strings_ReplaceAll (s old new : ByteArray) (m : Int) (w : World) (hs : s.size < 4294967281) (hm : w.cell? ⟨2, 0, none⟩ = some (.int .i64 m)) (h1 : 1 ≤ old.size) (hlen : s.size + Lib.countB s old * new.size ≤ 140737488355328) :
    Calls Tryd.prog 68 #[.string s, .string old, .string new] w fun e w' =>
      e = .returned (.string ⟨(Lib.replaceAll s.data.toList old.data.toList new.data.toList).toArray⟩) ∧ Below w.heap.size w w' := Any.strings_ReplaceAll Tryd.lays155 Tryd.Builder_Extra_155 s old new m w hs hm h1 hlen
def Tryd.lays187_ren : Go.Shelf.Ren := ⟨fun | 187 => 90 | 255 => 109 | n => n, fun | 37 => 47 | 5 => 5 | 3 => 3 | n => n, fun | n => n⟩
theorem Tryd.lays187 : Go.Proofs.Lays.n187 Tryd.prog Tryd.lays187_ren := {
  mixed := by kernel_rfl
  f187 := Tryd.func90.trans (congrArg some (by kernel_rfl))
  f255 := Tryd.func109.trans (congrArg some (by kernel_rfl))
  t3 := Tryd.underlying3
  a3 := Tryd.isAgg3
  z3 := Tryd.sizeOf3
  v3 := Tryd.zeroValue3
  t5 := Tryd.underlying5
  a5 := Tryd.isAgg5
  z5 := Tryd.sizeOf5
  v5 := Tryd.zeroValue5
  t37 := Tryd.underlying47
  a37 := Tryd.isAgg47
  z37 := Tryd.sizeOf47
  v37 := Tryd.zeroValue47 }
open Go.RowKit Go.Lib in
theorem Tryd.bytes_IndexByte_at (a : Addr) (n c : Nat) (xs : List Int) (cv : Int) (w : World) (hx : xs.length = n) (hc : ∀ i, i < n → w.cell? (a.add i) = some (.int .u8 (xs.getD i 0))) :
    Calls Tryd.prog 90 #[.slice (some a) n c, .int .u8 cv] w fun e w' => e = .returned (.int .i64 (Lib.indexByte (Lib.bytesOf xs) cv.toNat.toUInt8)) ∧ w' = w := Any.bytes_IndexByte_at Tryd.lays187 a n c xs cv w hx hc
def Tryd.laysValid_ren : Go.Shelf.Ren := ⟨fun | 196 => 66 | 259 => 84 | n => n, fun | 9 => 9 | 4 => 4 | 3 => 3 | 5 => 5 | 12 => 12 | 119 => 110 | 0 => 0 | 46 => 89 | 139 => 113 | 138 => 112 | 53 => 24 | n => n, fun | 3 => 0 | 4 => 1 | n => n⟩
theorem Tryd.laysValid : Go.Proofs.Lays.n196 Tryd.prog Tryd.laysValid_ren := {
  mixed := by kernel_rfl
  f196 := Tryd.func66.trans (congrArg some (by kernel_rfl))
  f259 := Tryd.func84.trans (congrArg some (by kernel_rfl))
  t0 := Tryd.underlying0
  a0 := Tryd.isAgg0
  z0 := Tryd.sizeOf0
  v0 := Tryd.zeroValue0
  t3 := Tryd.underlying3
  a3 := Tryd.isAgg3
  z3 := Tryd.sizeOf3
  v3 := Tryd.zeroValue3
  t4 := Tryd.underlying4
  a4 := Tryd.isAgg4
  z4 := Tryd.sizeOf4
  v4 := Tryd.zeroValue4
  t5 := Tryd.underlying5
  a5 := Tryd.isAgg5
  z5 := Tryd.sizeOf5
  v5 := Tryd.zeroValue5
  t9 := Tryd.underlying9
  a9 := Tryd.isAgg9
  z9 := Tryd.sizeOf9
  v9 := Tryd.zeroValue9
  t12 := Tryd.underlying12
  a12 := Tryd.isAgg12
  z12 := Tryd.sizeOf12
  v12 := Tryd.zeroValue12
  t46 := Tryd.underlying89
  a46 := Tryd.isAgg89
  z46 := Tryd.sizeOf89
  v46 := Tryd.zeroValue89
  t53 := Tryd.underlying24
  a53 := Tryd.isAgg24
  z53 := Tryd.sizeOf24
  v53 := Tryd.zeroValue24
  t119 := Tryd.underlying110
  a119 := Tryd.isAgg110
  z119 := Tryd.sizeOf110
  t138 := Tryd.underlying112
  a138 := Tryd.isAgg112
  z138 := Tryd.sizeOf112
  v138 := Tryd.zeroValue112
  t139 := Tryd.underlying113
  a139 := Tryd.isAgg113
  z139 := Tryd.sizeOf113
  v139 := Tryd.zeroValue113
  g3 := by kernel_rfl
  g4 := by kernel_rfl }
open Go.RowKit Go.Lib in
theorem Tryd.utf8_ValidString (s : ByteArray) (w : World) (hs : s.size ≤ 9223372036854775807) (hT : Lib.Utf8Tabs 0 1 w) :
    Calls Tryd.prog 66 #[.string s] w fun e w' => e = .returned (.bool (Lib.validD s.data.toList)) ∧ Below w.heap.size w w' := Any.utf8_ValidString Tryd.laysValid s w hs hT
end Go.Proofs
end
section
namespace Go.Proofs.YthghcpeedmconaaDoor.X
open Go.RowKit Go.Proofs.YthghcpeedmconaaDoorW.PrintWords
structure Tabs (w : World) : Prop where
  utf8 : Lib.Utf8Tabs 0 1 w
  most : ∃ m : Int, w.cell? ⟨2, 0, none⟩ = some (.int .i64 m)
theorem Tabs.big {w : World} (h : Tabs w) : 2 < w.heap.size := by
  obtain ⟨m, hm⟩ := h.most
  exact World.block_lt_of_cell? w ⟨2, 0, none⟩ hm
theorem Tabs.below {w w' : World} (h : Tabs w) (hb : Below w.heap.size w w') : Tabs w' := by
  have hB := h.big
  refine ⟨Utf8Tabs_below h.utf8 hb, ?_⟩
  obtain ⟨m, hm⟩ := h.most
  exact ⟨m, (hb.cell (p := ⟨2, 0, none⟩) hB).trans hm⟩
theorem Tabs.drewN {w : World} (n : Nat) (h : Tabs w) : Tabs (w.drewN n) := h.below (pw_below_drewN (Below.refl _ _) n)
theorem Tabs.drew {w : World} (h : Tabs w) : Tabs w.drew := h.below (below_drew (Below.refl _ _))
end Go.Proofs.YthghcpeedmconaaDoor.X
end
section
namespace Go.Proofs.YthghcpeedmconaaDoor.X
open Go.RowKit Go.Proofs.YthghcpeedmconaaDoorW.PrintWords
set_option linter.unusedVariables false
def utf8_ValidString.f (s : ByteArray) : Option Bool := if s.size ≤ 9223372036854775807 then some (Lib.validD s.data.toList) else none
theorem utf8_ValidString.calls (s : ByteArray) (r : Bool) (w : World) (hT : Tabs w) (h : utf8_ValidString.f s = some r) :
    Calls Tryd.prog 66 #[.string s] w fun e w' => e = .returned (.bool r) ∧ Below w.heap.size w w' := by
  unfold utf8_ValidString.f at h
  split at h
  · rename_i hs
    obtain rfl := Option.some.inj h
    exact Tryd.utf8_ValidString s w hs hT.utf8
  · cases h
def strings_ReplaceAll.f (s o n : ByteArray) : Option ByteArray :=
  if s.size < 4294967281 ∧ 1 ≤ o.size ∧ s.size + Lib.countB s o * n.size ≤ 140737488355328 then some ⟨(Lib.replaceAll s.data.toList o.data.toList n.data.toList).toArray⟩ else none
theorem strings_ReplaceAll.calls (s o n : ByteArray) (r : ByteArray) (w : World) (hT : Tabs w) (h : strings_ReplaceAll.f s o n = some r) :
    Calls Tryd.prog 68 #[.string s, .string o, .string n] w fun e w' => e = .returned (.string r) ∧ Below w.heap.size w w' := by
  unfold strings_ReplaceAll.f at h
  split at h
  · rename_i hc
    obtain rfl := Option.some.inj h
    obtain ⟨m, hm⟩ := hT.most
    exact Tryd.strings_ReplaceAll s o n m w hc.1 hm hc.2.1 hc.2.2
  · cases h
set_option maxRecDepth 100000 in
theorem bytes_IndexByte.nil (n c : Nat) (cv : Int) (w : World) :
    Calls Tryd.prog 90 #[.slice none n c, .int .u8 cv] w fun e w' => e = .returned (.int .i64 (-1)) ∧ w' = w := by
  go_enter Tryd.func90, Tryd.ntmps90
  go_wp2
  rw [run_callFunc_extern Tryd.func109 (by kernel_rfl) (by kernel_rfl) (by kernel_rfl) (e := Extern.BytealgIndexByte.indexByte) (by kernel_rfl), Lib.run_indexByteNil w n c cv]
  simp only [Result.andThen]
  rw [Oper.upon_value]
  go_wp2
  go_ret
  exact ⟨rfl, rfl⟩
def bytes_IndexByte.f (l : List Int) (c : Int) : Option Int := some (Lib.indexByte (Lib.bytesOf l) c.toNat.toUInt8)
theorem bytes_IndexByte.calls (A0 : Option Addr) (c0 : Nat) (l0 : List Int) (a1 : Int) (r : Int) (w : World) (hr0 : Kd.C (Kd.int .u8) w A0 l0.length l0) (hc0 : l0.length ≤ c0) (h : bytes_IndexByte.f l0 a1 = some r) :
    Calls Tryd.prog 90 #[.slice A0 l0.length c0, .int .u8 a1] w fun e w' => e = .returned (.int .i64 r) ∧ Below w.heap.size w w' := by
  unfold bytes_IndexByte.f at h
  obtain rfl := Option.some.inj h
  have hR := Kd.reads_of_C (enc := Value.int .u8) (d := (0 : Int)) (h1 := fun _ => rfl) hr0
  cases A0 with
  | some a =>
    refine (Tryd.bytes_IndexByte_at a l0.length c0 l0 a1 w rfl (fun i hi => ?_)).mono ?_
    · obtain ⟨ad, e, hc⟩ := hR.2.2 (by omega)
      injection e with e
      subst e
      exact hc i hi
    · rintro e w' ⟨rfl, rfl⟩
      exact ⟨rfl, Below.refl _ _⟩
  | none =>
    have hl : l0 = [] := by
      cases l0 with
      | nil => rfl
      | cons x l =>
        obtain ⟨ad, e, hc⟩ := hR.2.2 (by simp)
        cases e
    subst hl
    refine (bytes_IndexByte.nil _ c0 a1 w).mono ?_
    rintro e w' ⟨rfl, rfl⟩
    exact ⟨rfl, Below.refl _ _⟩
def bits_LeadingZeros64.f (x : Int) : Option Int := if 0 ≤ x ∧ x ≤ 18446744073709551615 then some (64 - (Lib.bitLen x.toNat : Int)) else none
theorem bits_LeadingZeros64.calls (x : Int) (r : Int) (w : World) (h : bits_LeadingZeros64.f x = some r) :
    Calls Tryd.prog 121 #[.int .u64 x] w fun e w' => e = .returned (.int .i64 r) ∧ Drawn0 w w' := by
  unfold bits_LeadingZeros64.f at h
  split at h
  · rename_i hc
    obtain rfl := Option.some.inj h
    refine (Tryd.bits_LeadingZeros64 x w hc.1 hc.2).mono ?_
    rintro e w' ⟨rfl, rfl⟩
    exact ⟨rfl, Drawn0.refl _⟩
  · cases h
def bits_Add64.f (x y c : Int) : Option (Int × Int) :=
  if 0 ≤ x ∧ x ≤ 18446744073709551615 ∧ 0 ≤ y ∧ y ≤ 18446744073709551615 ∧ 0 ≤ c ∧ c ≤ 1 then some ((x + y + c) % 18446744073709551616, (x + y + c) / 18446744073709551616) else none
theorem bits_Add64.calls (x y c : Int) (r1 r2 : Int) (w : World) (h : bits_Add64.f x y c = some (r1, r2)) :
    ExtCalls Tryd.prog 107 #[.int .u64 x, .int .u64 y, .int .u64 c] w fun e w' => e = .returned (.tuple #[.int .u64 r1, .int .u64 r2]) ∧ Drawn0 w w' := by
  unfold bits_Add64.f at h
  split at h
  · rename_i hc
    obtain ⟨h0, h1, h2, h3, h4, h5⟩ := hc
    simp only [Option.some.injEq, Prod.mk.injEq] at h
    obtain ⟨rfl, rfl⟩ := h
    exact ⟨_, w, by
      rw [run_callFunc_extern Tryd.func107 (by kernel_rfl) (by kernel_rfl) (by kernel_rfl) (e := add64Entry) (by kernel_rfl), run_add64 x y c h0 h2 h4 h5]; rfl, rfl, Drawn0.refl _⟩
  · cases h
theorem bytesOf_read {A : Option Addr} {c : Nat} {xs : List Int} {w : World} (h : Kd.C (Kd.int .u8) w A xs.length xs) : (Extern.Bytes.bytesOf (.slice A xs.length c)).run Tryd.prog w = .ok ⟨(Lib.bytesOf xs).toArray⟩ w := by
  have hR := Kd.reads_of_C (enc := Value.int .u8) (d := (0 : Int)) (h1 := fun _ => rfl) h
  cases A with
  | some a =>
    have hl := Lib.run_loadBytesX (P := Tryd.prog) (w := w) xs a .empty (fun j x hj => by
      have hjl : j < xs.length := (List.getElem?_eq_some_iff.1 hj).1
      obtain ⟨ad, e, hc⟩ := hR.2.2 (by omega)
      injection e with e
      subst e
      rw [hc j hjl, List.getD_eq_getElem?_getD, hj]
      rfl)
    have he : (⟨ByteArray.empty.data ++ (Lib.bytesOf xs).toArray⟩ : ByteArray) = ⟨(Lib.bytesOf xs).toArray⟩ := by
      apply ByteArray.ext
      show (#[] : Array UInt8) ++ (Lib.bytesOf xs).toArray = (Lib.bytesOf xs).toArray
      simp
    rw [he] at hl
    exact hl
  | none =>
    have hl : xs = [] := by
      cases xs with
      | nil => rfl
      | cons x l =>
        obtain ⟨ad, e, hc⟩ := hR.2.2 (by simp)
        cases e
    subst hl
    rfl
def bytes_Compare.f (l0 l1 : List Int) : Option Int := some (Lib.compareBytes (Lib.bytesOf l0) (Lib.bytesOf l1))
set_option maxRecDepth 100000 in
theorem bytes_Compare.calls (A0 : Option Addr) (c0 : Nat) (l0 : List Int) (A1 : Option Addr) (c1 : Nat) (l1 : List Int) (r : Int) (w : World) (hr0 : Kd.C (Kd.int .u8) w A0 l0.length l0) (hc0 : l0.length ≤ c0) (hr1 : Kd.C (Kd.int .u8) w A1 l1.length l1) (hc1 : l1.length ≤ c1) (h : bytes_Compare.f l0 l1 = some r) :
    Calls Tryd.prog 62 #[.slice A0 l0.length c0, .slice A1 l1.length c1] w fun e w' => e = .returned (.int .i64 r) ∧ Below w.heap.size w w' := by
  unfold bytes_Compare.f at h
  obtain rfl := Option.some.inj h
  have hrun : (Extern.BytealgCompare.compare #[.slice A0 l0.length c0, .slice A1 l1.length c1]).run Tryd.prog w = .ok (.int .i64 (Lib.compareBytes (Lib.bytesOf l0) (Lib.bytesOf l1))) w := by
    change Sem.run Tryd.prog (do pure (goInt (Extern.BytealgCompare.cmp (← Extern.Bytes.bytesOf (.slice A0 l0.length c0)) (← Extern.Bytes.bytesOf (.slice A1 l1.length c1))))) w = _
    simp only [Sem.run_bind, Sem.run_pure, bytesOf_read hr0, bytesOf_read hr1, Result.andThen]
    rw [Lib.cmp_eq]
    rfl
  clear hr0 hr1
  go_enter Tryd.func62, Tryd.ntmps62
  go_wp2
  rw [run_callFunc_extern Tryd.func82 (by kernel_rfl) (by kernel_rfl) (by kernel_rfl) (e := Extern.BytealgCompare.compare) (by kernel_rfl), hrun]
  simp only [Result.andThen]
  rw [Oper.upon_value]
  go_wp2
  go_ret
  exact ⟨rfl, Below.refl _ _⟩
end Go.Proofs.YthghcpeedmconaaDoor.X
end
section
namespace Go.Proofs.YthghcpeedmconaaDoor.X
open Go.RowKit Go.Proofs.YthghcpeedmconaaDoorW.PrintWords Go.Proofs.YthghcpeedmconaaDoorW.PrintLast Go.Proofs.YthghcpeedmconaaDoorW.PrintMore
attribute [local go_sem] max2_int min2_int max_two min_two max_three min_three max_four min_four
set_option linter.unusedVariables false
set_option linter.unusedSimpArgs false
mutual
def bits_Div64.j2 : Nat → Int → Int → Int → Int → Int → Int → Int → Int → Option (Int × Int)
 | 0, _, _, _, _, _, _, _, _ => none
 | k + 1, x2, x8, x9, x10, x11, x13, x14, x15 => if x9 = 0 then (none) else (bits_Div64.l1 k x2 x8 x9 x10 x14 x15 (IntKind.u64.wrap ((IntKind.u64.wrap ((IntKind.u64.wrap ((IntKind.u64.wrap (x11 * 4294967296)) + x13)) - (IntKind.u64.wrap (x15 * x2)))) - (IntKind.u64.wrap ((IntKind.u64.wrap (Int.tdiv (IntKind.u64.wrap ((IntKind.u64.wrap ((IntKind.u64.wrap (x11 * 4294967296)) + x13)) - (IntKind.u64.wrap (x15 * x2)))) x9)) * x9)))) (IntKind.u64.wrap ((IntKind.u64.wrap ((IntKind.u64.wrap (x11 * 4294967296)) + x13)) - (IntKind.u64.wrap (x15 * x2)))) (IntKind.u64.wrap (Int.tdiv (IntKind.u64.wrap ((IntKind.u64.wrap ((IntKind.u64.wrap (x11 * 4294967296)) + x13)) - (IntKind.u64.wrap (x15 * x2)))) x9)))
def bits_Div64.l1 : Nat → Int → Int → Int → Int → Int → Int → Int → Int → Int → Option (Int × Int)
 | 0, _, _, _, _, _, _, _, _, _ => none
 | k + 1, x2, x8, x9, x10, x14, x15, x16, x17, x18 => if x18 ≥ 4294967296 then (bits_Div64.j4 k x2 x8 x9 x10 x14 x15 x16 x17 x18 true) else (bits_Div64.j4 k x2 x8 x9 x10 x14 x15 x16 x17 x18 (decide ((IntKind.u64.wrap (x18 * x10)) > (IntKind.u64.wrap ((IntKind.u64.wrap (4294967296 * x16)) + x14)))))
def bits_Div64.j4 : Nat → Int → Int → Int → Int → Int → Int → Int → Int → Int → Bool → Option (Int × Int)
 | 0, _, _, _, _, _, _, _, _, _, _ => none
 | k + 1, x2, x8, x9, x10, x14, x15, x16, x17, x18, x113 => if x113 = true then (if (IntKind.u64.wrap (x16 + x9)) ≥ 4294967296 then (if 0 ≤ x8 then (some (IntKind.u64.wrap ((IntKind.u64.wrap (x15 * 4294967296)) + (IntKind.u64.wrap (x18 - 1))), shr .u64 (IntKind.u64.wrap ((IntKind.u64.wrap ((IntKind.u64.wrap (x17 * 4294967296)) + x14)) - (IntKind.u64.wrap ((IntKind.u64.wrap (x18 - 1)) * x2)))) x8)) else (none)) else (bits_Div64.l1 k x2 x8 x9 x10 x14 x15 (IntKind.u64.wrap (x16 + x9)) x17 (IntKind.u64.wrap (x18 - 1)))) else (if 0 ≤ x8 then (some (IntKind.u64.wrap ((IntKind.u64.wrap (x15 * 4294967296)) + x18), shr .u64 (IntKind.u64.wrap ((IntKind.u64.wrap ((IntKind.u64.wrap (x17 * 4294967296)) + x14)) - (IntKind.u64.wrap (x18 * x2)))) x8)) else (none))
def bits_Div64.l0 : Nat → Int → Int → Int → Int → Int → Int → Int → Int → Int → Option (Int × Int)
 | 0, _, _, _, _, _, _, _, _, _ => none
 | k + 1, x2, x8, x9, x10, x11, x13, x14, x15, x16 => if x15 ≥ 4294967296 then (bits_Div64.j1 k x2 x8 x9 x10 x11 x13 x14 x15 x16 true) else (bits_Div64.j1 k x2 x8 x9 x10 x11 x13 x14 x15 x16 (decide ((IntKind.u64.wrap (x15 * x10)) > (IntKind.u64.wrap ((IntKind.u64.wrap (4294967296 * x16)) + x13)))))
def bits_Div64.j1 : Nat → Int → Int → Int → Int → Int → Int → Int → Int → Int → Bool → Option (Int × Int)
 | 0, _, _, _, _, _, _, _, _, _, _ => none
 | k + 1, x2, x8, x9, x10, x11, x13, x14, x15, x16, x78 => if x78 = true then (if (IntKind.u64.wrap (x16 + x9)) ≥ 4294967296 then (bits_Div64.j2 k x2 x8 x9 x10 x11 x13 x14 (IntKind.u64.wrap (x15 - 1))) else (bits_Div64.l0 k x2 x8 x9 x10 x11 x13 x14 (IntKind.u64.wrap (x15 - 1)) (IntKind.u64.wrap (x16 + x9)))) else (bits_Div64.j2 k x2 x8 x9 x10 x11 x13 x14 x15)
end
def bits_Div64.f (k : Nat) (a0 : Int) (a1 : Int) (a2 : Int) : Option (Int × Int) := if a2 = 0 then (none) else (if a2 ≤ a0 then (none) else (if a0 = 0 then (some (IntKind.u64.wrap (Int.tdiv a1 a2), Int.tmod a1 a2)) else ((bits_LeadingZeros64.f a2).bind fun t453 => (if 0 ≤ (IntKind.u64.wrap (t453)) then (if 0 ≤ (IntKind.u64.wrap (64 - (IntKind.u64.wrap (t453)))) then (if ((shl .u64 a2 (IntKind.u64.wrap (t453))) / 4294967296) = 0 then (none) else (bits_Div64.l0 k (shl .u64 a2 (IntKind.u64.wrap (t453))) (IntKind.u64.wrap (t453)) ((shl .u64 a2 (IntKind.u64.wrap (t453))) / 4294967296) (Go.bits .and .u64 (shl .u64 a2 (IntKind.u64.wrap (t453))) 4294967295) (Go.bits .or .u64 (shl .u64 a0 (IntKind.u64.wrap (t453))) (shr .u64 a1 (IntKind.u64.wrap (64 - (IntKind.u64.wrap (t453)))))) ((shl .u64 a1 (IntKind.u64.wrap (t453))) / 4294967296) (Go.bits .and .u64 (shl .u64 a1 (IntKind.u64.wrap (t453))) 4294967295) (IntKind.u64.wrap (Int.tdiv (Go.bits .or .u64 (shl .u64 a0 (IntKind.u64.wrap (t453))) (shr .u64 a1 (IntKind.u64.wrap (64 - (IntKind.u64.wrap (t453)))))) ((shl .u64 a2 (IntKind.u64.wrap (t453))) / 4294967296))) (IntKind.u64.wrap ((Go.bits .or .u64 (shl .u64 a0 (IntKind.u64.wrap (t453))) (shr .u64 a1 (IntKind.u64.wrap (64 - (IntKind.u64.wrap (t453)))))) - (IntKind.u64.wrap ((IntKind.u64.wrap (Int.tdiv (Go.bits .or .u64 (shl .u64 a0 (IntKind.u64.wrap (t453))) (shr .u64 a1 (IntKind.u64.wrap (64 - (IntKind.u64.wrap (t453)))))) ((shl .u64 a2 (IntKind.u64.wrap (t453))) / 4294967296))) * ((shl .u64 a2 (IntKind.u64.wrap (t453))) / 4294967296))))))) else (none)) else (none)))))
def value_Check.j0 : Nat → Int → Bool → Int → Int → ByteArray → Option (Int)
 | 0, _, _, _, _, _ => none
 | k + 1, x4, x5, x108000, x108001, x108002 => if x5 = true then (some 0) else (if x4 = 4 then (if x108001 = 0 then (some 0) else (if x108001 = 1 then (some 0) else (some 1))) else (if x4 = 3 then (if (x108002.size : Int) > 4096 then (some 2) else ((utf8_ValidString.f x108002).bind fun t108 => (if t108 = true then (some 0) else (some 3)))) else (some 1)))
def value_Check.f (k : Nat) (a0_0 : Int) (a0_1 : Int) (a0_2 : ByteArray) : Option (Int) := if a0_0 = 0 then (value_Check.j0 k a0_0 (a0_0 == 0) a0_0 a0_1 a0_2) else (if a0_0 = 1 then (value_Check.j0 k a0_0 (a0_0 == 1) a0_0 a0_1 a0_2) else (value_Check.j0 k a0_0 (a0_0 == 2) a0_0 a0_1 a0_2))
theorem value_Check.mono_l : ∀ k, (∀ y0 y1 y2 y3 y4, LeO (value_Check.j0 k y0 y1 y2 y3 y4) (value_Check.j0 (k + 1) y0 y1 y2 y3 y4))
 | 0 => fun _ _ _ _ _ r h => by simp [value_Check.j0] at h
 | k + 1 => by
  have ih0 := value_Check.mono_l k
  ·
   intro y0 y1 y2 y3 y4
   unfold value_Check.j0
   repeat' first
   | (with_reducible exact ih0 _ _ _ _ _)
   | (with_reducible exact LeO.refl _)
   | (with_reducible exact LeO.none _)
   | (with_reducible refine LeO.ite ?_ ?_)
   | (with_reducible refine LeO.bind ?_ (fun _ => ?_))
   | exact ih0 _ _ _ _ _
   | exact LeO.none _
   | refine LeO.ite ?_ ?_
   | refine LeO.bind ?_ (fun _ => ?_)
theorem value_Check.mono : ∀ a0 a1 a2 k, LeO (value_Check.f k a0 a1 a2) (value_Check.f (k + 1) a0 a1 a2) := by
 intro a0 a1 a2 k
 have ih0 := value_Check.mono_l k
 unfold value_Check.f
 repeat' first
   | (with_reducible exact ih0 _ _ _ _ _)
   | (with_reducible exact LeO.refl _)
   | (with_reducible exact LeO.none _)
   | (with_reducible refine LeO.ite ?_ ?_)
   | (with_reducible refine LeO.bind ?_ (fun _ => ?_))
   | exact ih0 _ _ _ _ _
   | exact LeO.none _
   | refine LeO.ite ?_ ?_
   | refine LeO.bind ?_ (fun _ => ?_)
set_option maxHeartbeats 8000000 in
set_option maxRecDepth 100000 in
theorem value_Check.calls (k : Nat) (a0_0 : Int) (a0_1 : Int) (a0_2 : ByteArray) (r : Int) (w : World) (hT : Tabs w) (h : value_Check.f k a0_0 a0_1 a0_2 = some r) :
  Calls Tryd.prog 47 #[.agg #[.int .i64 a0_0, .int .i64 a0_1, .string a0_2]] w fun e w' => e = .returned (.int .i64 r) ∧ Below w.heap.size w w' := by
 have hu42 := Tryd.underlying42
 have HT := Aside0.mk hT
 clear hT
 have HB := Aside0.mk (Below.refl w.heap.size w)
 have H : (if a0_0 = 0 then (value_Check.j0 k a0_0 (a0_0 == 0) a0_0 a0_1 a0_2) else (if a0_0 = 1 then (value_Check.j0 k a0_0 (a0_0 == 1) a0_0 a0_1 a0_2) else (value_Check.j0 k a0_0 (a0_0 == 2) a0_0 a0_1 a0_2))) = some r := h
 clear h
 have HC2 := Aside0.mk H
 clear H
 go_enter Tryd.func47, Tryd.ntmps47
 go_upto_if 5 with (first | ((with_reducible refine gate_dst (N := 1) rfl ?_); refine box_event ?hg (N := 1) ?hd (cs := #[.int .i64 a0_0, .int .i64 a0_1, .string a0_2]) (t := 42) ?hr ?_; (case hd => rfl); (case hg => rfl); (case hr => first | (go_simp; done) | (go_simp; rfl)); intro gb107 hg w3 hbox hb; have n0_ := Aside0.mk (below_step (by repeat (first | (with_reducible first | exact HB.out | apply below_alloc | apply pw_below_drewN | apply below_drew1) | exact HB.out)) hb); have n1_ := Aside0.mk (hbox); have n2_ := Aside0.mk ((by rw [hg]; exact (below_size (by repeat (first | (with_reducible first | exact HB.out | apply below_alloc | apply pw_below_drewN | apply below_drew1) | exact HB.out))) : w.heap.size ≤ gb107)); have n3_ := Aside0.mk ((by rw [hg]; exact (below_size (by repeat (first | (with_reducible first | exact HB.out | apply below_alloc | apply pw_below_drewN | apply below_drew1) | exact HB.out))) : w.heap.size ≤ gb107)); clear HB; have HB := n0_; have BK107 := n1_; have GW107 := n2_; have GE107 := n3_; clear n0_ n1_ n2_ n3_; clear hb hbox hg; have hcz4_0 : w3.cell? ⟨gb107, 0, none⟩ = some (.int .i64 a0_0) := (blk_cell BK107.out 0).trans rfl; have hcz4_1 : w3.cell? ⟨gb107, 1, none⟩ = some (.int .i64 a0_1) := (blk_cell BK107.out 1).trans rfl; have hcz4_2 : w3.cell? ⟨gb107, 2, none⟩ = some (.string a0_2) := (blk_cell BK107.out 2).trans rfl; have hfz4_0 := blk_frozen BK107.out 0; have hfz4_1 := blk_frozen BK107.out 1; have hfz4_2 := blk_frozen BK107.out 2))
 (try simp only [Act.put, List.setIfInBounds_toArray, List.set_cons_zero, List.set_cons_succ])
 go_cut [5] (fun v5 wc => ∃ (kq : Nat) (x5_1 : Bool), v5 = .bool x5_1 ∧ Aside0 (value_Check.j0 kq a0_0 x5_1 a0_0 a0_1 a0_2 = some r) ∧ Aside0 (kq ≤ k) ∧ Aside0 (wc.heap[gb107]? = some (.cells #[.int .i64 a0_0, .int .i64 a0_1, .string a0_2] 42 (0, 0))) ∧ Aside0 (Below w.heap.size w wc))
 case first =>
  have H := HC2.out
  clear HC2
  by_cases c5 : a0_0 = 0
  ·
   rw [if_pos c5] at H
   have c5b0 : (a0_0 == 0) = true := beq_iff_eq.mpr c5
   have c5b1 : (a0_0 != 0) = false := bne_eq_false_iff_eq.mpr c5
   clear c5
   (first | rw [c5b0] | (simp only [i64_w, i32_w]; rw [c5b0]) | skip)
   have H' := Aside0.mk H
   clear H
   go_wp2
   go_meet
   case rel => exact ⟨_, ((a0_0 == 0)), (by first | with_reducible rfl | (simp; done) | (simp [*]; done) | rfl), H', ⟨by first | omega | exact Nat.le_refl _⟩, ⟨by (with_reducible repeat (first | refine blk_drewN ?_ _ | refine blk_drew ?_ | refine blk_alloc ?_ _)); exact BK107.out⟩, ⟨by repeat (first | (with_reducible first | exact HB.out | apply below_alloc | apply pw_below_drewN | apply below_drew1 | refine below_set ?_ GE107.out) | exact HB.out)⟩⟩
  ·
   rw [if_neg c5] at H
   have c5b0 : (a0_0 == 0) = false := beq_eq_false_iff_ne.mpr c5
   have c5b1 : (a0_0 != 0) = true := bne_iff_ne.mpr c5
   (first | rw [c5b0] | (simp only [i64_w, i32_w]; rw [c5b0]) | skip)
   by_cases c6 : a0_0 = 1
   ·
    rw [if_pos c6] at H
    have c6b0 : (a0_0 == 1) = true := beq_iff_eq.mpr c6
    have c6b1 : (a0_0 != 1) = false := bne_eq_false_iff_eq.mpr c6
    clear c6
    have H' := Aside0.mk H
    clear H
    go_wp2
    go_meet
    case rel => exact ⟨_, ((a0_0 == 1)), (by first | with_reducible rfl | (simp; done) | (simp [*]; done) | rfl), H', ⟨by first | omega | exact Nat.le_refl _⟩, ⟨by (with_reducible repeat (first | refine blk_drewN ?_ _ | refine blk_drew ?_ | refine blk_alloc ?_ _)); exact BK107.out⟩, ⟨by repeat (first | (with_reducible first | exact HB.out | apply below_alloc | apply pw_below_drewN | apply below_drew1 | refine below_set ?_ GE107.out) | exact HB.out)⟩⟩
   ·
    rw [if_neg c6] at H
    have c6b0 : (a0_0 == 1) = false := beq_eq_false_iff_ne.mpr c6
    have c6b1 : (a0_0 != 1) = true := bne_iff_ne.mpr c6
    have H' := Aside0.mk H
    clear H
    go_wp2
    go_meet
    case rel => exact ⟨_, ((a0_0 == 2)), (by first | with_reducible rfl | (simp; done) | (simp [*]; done) | rfl), H', ⟨by first | omega | exact Nat.le_refl _⟩, ⟨by (with_reducible repeat (first | refine blk_drewN ?_ _ | refine blk_drew ?_ | refine blk_alloc ?_ _)); exact BK107.out⟩, ⟨by repeat (first | (with_reducible first | exact HB.out | apply below_alloc | apply pw_below_drewN | apply below_drew1 | refine below_set ?_ GE107.out) | exact HB.out)⟩⟩
 case rest =>
  clear HC2
  (try clear p2); (try clear c4); (try clear c5); (try clear c5b0); (try clear c5b1); (try clear c6); (try clear c6b0); (try clear c6b1); (try clear hcz4_0); (try clear hcz4_1); (try clear hcz4_2); (try clear hfz4_0); (try clear hfz4_1); (try clear hfz4_2)
  obtain ⟨kq, x5_1, rfl, HA, HJ1, BK107, HB⟩ := hcut
  cases kq with
  | zero => exact absurd HA.out (by simp [value_Check.j0])
  | succ kj1 =>
   have H := HA.out
   clear HA
   simp only [value_Check.j0] at H
   by_cases c7 : x5_1 = true
   ·
    subst c7
    have H1 : (some 0) = some r := by rw [if_pos rfl] at H; exact H
    clear H
    have H := H1
    clear H1
    obtain rfl := Option.some.inj H
    go_wp2
    go_ret
    exact ⟨by first | rfl | (simp [errW_none, errW_some] <;> rfl) | (simp [*, errW_none, errW_some] <;> rfl), by repeat (first | (with_reducible first | exact HB.out | apply below_alloc | apply pw_below_drewN | apply below_drew1 | refine below_set ?_ GE107.out) | exact HB.out)⟩
   ·
    replace c7 := Bool.eq_false_iff.mpr c7
    subst c7
    have H1 : (if a0_0 = 4 then (if a0_1 = 0 then (some 0) else (if a0_1 = 1 then (some 0) else (some 1))) else (if a0_0 = 3 then (if (a0_2.size : Int) > 4096 then (some 2) else ((utf8_ValidString.f a0_2).bind fun t108 => (if t108 = true then (some 0) else (some 3)))) else (some 1))) = some r := by rw [if_neg (show ¬ (false = true) by decide)] at H; exact H
    clear H
    have H := H1
    clear H1
    by_cases c8 : a0_0 = 4
    ·
     rw [if_pos c8] at H
     have c8b0 : (a0_0 == 4) = true := beq_iff_eq.mpr c8
     have c8b1 : (a0_0 != 4) = false := bne_eq_false_iff_eq.mpr c8
     clear c8
     by_cases c9 : a0_1 = 0
     ·
      rw [if_pos c9] at H
      have c9b0 : (a0_1 == 0) = true := beq_iff_eq.mpr c9
      have c9b1 : (a0_1 != 0) = false := bne_eq_false_iff_eq.mpr c9
      clear c9
      obtain rfl := Option.some.inj H
      have hcz10_0 : wc.cell? ⟨gb107, 0, none⟩ = some (.int .i64 a0_0) := (blk_cell BK107.out 0).trans rfl
      have hcz10_1 : wc.cell? ⟨gb107, 1, none⟩ = some (.int .i64 a0_1) := (blk_cell BK107.out 1).trans rfl
      have hcz10_2 : wc.cell? ⟨gb107, 2, none⟩ = some (.string a0_2) := (blk_cell BK107.out 2).trans rfl
      have hfz10_0 := blk_frozen BK107.out 0
      have hfz10_1 := blk_frozen BK107.out 1
      have hfz10_2 := blk_frozen BK107.out 2
      go_wp2
      go_ret
      exact ⟨by first | rfl | (simp [errW_none, errW_some] <;> rfl) | (simp [*, errW_none, errW_some] <;> rfl), by repeat (first | (with_reducible first | exact HB.out | apply below_alloc | apply pw_below_drewN | apply below_drew1 | refine below_set ?_ GE107.out) | exact HB.out)⟩
     ·
      rw [if_neg c9] at H
      have c9b0 : (a0_1 == 0) = false := beq_eq_false_iff_ne.mpr c9
      have c9b1 : (a0_1 != 0) = true := bne_iff_ne.mpr c9
      by_cases c11 : a0_1 = 1
      ·
       rw [if_pos c11] at H
       have c11b0 : (a0_1 == 1) = true := beq_iff_eq.mpr c11
       have c11b1 : (a0_1 != 1) = false := bne_eq_false_iff_eq.mpr c11
       clear c11
       obtain rfl := Option.some.inj H
       have hcz12_0 : wc.cell? ⟨gb107, 0, none⟩ = some (.int .i64 a0_0) := (blk_cell BK107.out 0).trans rfl
       have hcz12_1 : wc.cell? ⟨gb107, 1, none⟩ = some (.int .i64 a0_1) := (blk_cell BK107.out 1).trans rfl
       have hcz12_2 : wc.cell? ⟨gb107, 2, none⟩ = some (.string a0_2) := (blk_cell BK107.out 2).trans rfl
       have hfz12_0 := blk_frozen BK107.out 0
       have hfz12_1 := blk_frozen BK107.out 1
       have hfz12_2 := blk_frozen BK107.out 2
       go_wp2
       go_ret
       exact ⟨by first | rfl | (simp [errW_none, errW_some] <;> rfl) | (simp [*, errW_none, errW_some] <;> rfl), by repeat (first | (with_reducible first | exact HB.out | apply below_alloc | apply pw_below_drewN | apply below_drew1 | refine below_set ?_ GE107.out) | exact HB.out)⟩
      ·
       rw [if_neg c11] at H
       have c11b0 : (a0_1 == 1) = false := beq_eq_false_iff_ne.mpr c11
       have c11b1 : (a0_1 != 1) = true := bne_iff_ne.mpr c11
       obtain rfl := Option.some.inj H
       have hcz13_0 : wc.cell? ⟨gb107, 0, none⟩ = some (.int .i64 a0_0) := (blk_cell BK107.out 0).trans rfl
       have hcz13_1 : wc.cell? ⟨gb107, 1, none⟩ = some (.int .i64 a0_1) := (blk_cell BK107.out 1).trans rfl
       have hcz13_2 : wc.cell? ⟨gb107, 2, none⟩ = some (.string a0_2) := (blk_cell BK107.out 2).trans rfl
       have hfz13_0 := blk_frozen BK107.out 0
       have hfz13_1 := blk_frozen BK107.out 1
       have hfz13_2 := blk_frozen BK107.out 2
       go_wp2
       go_ret
       exact ⟨by first | rfl | (simp [errW_none, errW_some] <;> rfl) | (simp [*, errW_none, errW_some] <;> rfl), by repeat (first | (with_reducible first | exact HB.out | apply below_alloc | apply pw_below_drewN | apply below_drew1 | refine below_set ?_ GE107.out) | exact HB.out)⟩
    ·
     rw [if_neg c8] at H
     have c8b0 : (a0_0 == 4) = false := beq_eq_false_iff_ne.mpr c8
     have c8b1 : (a0_0 != 4) = true := bne_iff_ne.mpr c8
     by_cases c14 : a0_0 = 3
     ·
      rw [if_pos c14] at H
      have c14b0 : (a0_0 == 3) = true := beq_iff_eq.mpr c14
      have c14b1 : (a0_0 != 3) = false := bne_eq_false_iff_eq.mpr c14
      clear c14
      by_cases c15 : (a0_2.size : Int) > 4096
      ·
       rw [if_pos c15] at H
       have c15b0 : decide (4096 < (a0_2.size : Int)) = true := decide_eq_true c15
       have c15b1 : decide (4096 < a0_2.size) = true := decide_eq_true (by omega)
       clear c15
       obtain rfl := Option.some.inj H
       have hcz16_0 : wc.cell? ⟨gb107, 0, none⟩ = some (.int .i64 a0_0) := (blk_cell BK107.out 0).trans rfl
       have hcz16_1 : wc.cell? ⟨gb107, 1, none⟩ = some (.int .i64 a0_1) := (blk_cell BK107.out 1).trans rfl
       have hcz16_2 : wc.cell? ⟨gb107, 2, none⟩ = some (.string a0_2) := (blk_cell BK107.out 2).trans rfl
       have hfz16_0 := blk_frozen BK107.out 0
       have hfz16_1 := blk_frozen BK107.out 1
       have hfz16_2 := blk_frozen BK107.out 2
       go_wp2
       go_ret
       exact ⟨by first | rfl | (simp [errW_none, errW_some] <;> rfl) | (simp [*, errW_none, errW_some] <;> rfl), by repeat (first | (with_reducible first | exact HB.out | apply below_alloc | apply pw_below_drewN | apply below_drew1 | refine below_set ?_ GE107.out) | exact HB.out)⟩
      ·
       rw [if_neg c15] at H
       have c15b0 : decide (4096 < (a0_2.size : Int)) = false := decide_eq_false c15
       have c15b1 : decide (4096 < a0_2.size) = false := decide_eq_false (by omega)
       clear c15
       replace H := Option.bind_eq_some_iff.mp H
       obtain ⟨t108, A170, H⟩ := H
       replace H : (if t108 = true then (some 0) else (some 3)) = some r := H
       have A17 := Aside0.mk A170
       clear A170
       by_cases c18 : t108 = true
       ·
        subst c18
        have H1 : (some 0) = some r := by rw [if_pos rfl] at H; exact H
        clear H
        have H := H1
        clear H1
        obtain rfl := Option.some.inj H
        have hcz19_0 : wc.cell? ⟨gb107, 0, none⟩ = some (.int .i64 a0_0) := (blk_cell BK107.out 0).trans rfl
        have hcz19_1 : wc.cell? ⟨gb107, 1, none⟩ = some (.int .i64 a0_1) := (blk_cell BK107.out 1).trans rfl
        have hcz19_2 : wc.cell? ⟨gb107, 2, none⟩ = some (.string a0_2) := (blk_cell BK107.out 2).trans rfl
        have hfz19_0 := blk_frozen BK107.out 0
        have hfz19_1 := blk_frozen BK107.out 1
        have hfz19_2 := blk_frozen BK107.out 2
        go_wp2_with (first | ((with_reducible refine gate_callee (f := 66) rfl ?_); refine goesL_ (some 29) rfl rfl Tryd.func66 (by kernel_rfl) rfl #[.string a0_2] rfl (by (try simp only [List.map_toArray, List.map_cons, List.map_nil]); first | done | rfl | (simp only [List.length_drop, List.length_take]; rfl)) ?_; (with_reducible refine (utf8_ValidString.calls a0_2 true _ ?side1 A17.out).mono ?_); (case side1 => exact Tabs.below HT.out (by repeat (first | (with_reducible first | exact HB.out | apply below_alloc | apply pw_below_drewN | apply below_drew1 | refine below_set ?_ GE107.out) | exact HB.out))); rintro e w20 ⟨rfl, hb⟩; refine ⟨_, rfl, ?_⟩; have n0_ := Aside0.mk (blk_below (g := gb107) (o := .cells #[.int .i64 a0_0, .int .i64 a0_1, .string a0_2] 42 (0, 0)) (by (with_reducible repeat (first | refine blk_drewN ?_ _ | refine blk_drew ?_ | refine blk_alloc ?_ _)); exact BK107.out) hb); have n1_ := Aside0.mk (below_step (by repeat (first | (with_reducible first | exact HB.out | apply below_alloc | apply pw_below_drewN | apply below_drew1 | refine below_set ?_ GE107.out) | exact HB.out)) hb); clear BK107; clear HB; have BK107 := n0_; have HB := n1_; clear n0_ n1_; (try clear hb); (try clear hb2); (try clear hk); (try clear hi)))
        go_ret
        exact ⟨by first | rfl | (simp [errW_none, errW_some] <;> rfl) | (simp [*, errW_none, errW_some] <;> rfl), by repeat (first | (with_reducible first | exact HB.out | apply below_alloc | apply pw_below_drewN | apply below_drew1 | refine below_set ?_ GE107.out) | exact HB.out)⟩
       ·
        replace c18 := Bool.eq_false_iff.mpr c18
        subst c18
        have H1 : (some 3) = some r := by rw [if_neg (show ¬ (false = true) by decide)] at H; exact H
        clear H
        have H := H1
        clear H1
        obtain rfl := Option.some.inj H
        have hcz21_0 : wc.cell? ⟨gb107, 0, none⟩ = some (.int .i64 a0_0) := (blk_cell BK107.out 0).trans rfl
        have hcz21_1 : wc.cell? ⟨gb107, 1, none⟩ = some (.int .i64 a0_1) := (blk_cell BK107.out 1).trans rfl
        have hcz21_2 : wc.cell? ⟨gb107, 2, none⟩ = some (.string a0_2) := (blk_cell BK107.out 2).trans rfl
        have hfz21_0 := blk_frozen BK107.out 0
        have hfz21_1 := blk_frozen BK107.out 1
        have hfz21_2 := blk_frozen BK107.out 2
        go_wp2_with (first | ((with_reducible refine gate_callee (f := 66) rfl ?_); refine goesL_ (some 29) rfl rfl Tryd.func66 (by kernel_rfl) rfl #[.string a0_2] rfl (by (try simp only [List.map_toArray, List.map_cons, List.map_nil]); first | done | rfl | (simp only [List.length_drop, List.length_take]; rfl)) ?_; (with_reducible refine (utf8_ValidString.calls a0_2 false _ ?side1 A17.out).mono ?_); (case side1 => exact Tabs.below HT.out (by repeat (first | (with_reducible first | exact HB.out | apply below_alloc | apply pw_below_drewN | apply below_drew1 | refine below_set ?_ GE107.out) | exact HB.out))); rintro e w22 ⟨rfl, hb⟩; refine ⟨_, rfl, ?_⟩; have n0_ := Aside0.mk (blk_below (g := gb107) (o := .cells #[.int .i64 a0_0, .int .i64 a0_1, .string a0_2] 42 (0, 0)) (by (with_reducible repeat (first | refine blk_drewN ?_ _ | refine blk_drew ?_ | refine blk_alloc ?_ _)); exact BK107.out) hb); have n1_ := Aside0.mk (below_step (by repeat (first | (with_reducible first | exact HB.out | apply below_alloc | apply pw_below_drewN | apply below_drew1 | refine below_set ?_ GE107.out) | exact HB.out)) hb); clear BK107; clear HB; have BK107 := n0_; have HB := n1_; clear n0_ n1_; (try clear hb); (try clear hb2); (try clear hk); (try clear hi)))
        go_ret
        exact ⟨by first | rfl | (simp [errW_none, errW_some] <;> rfl) | (simp [*, errW_none, errW_some] <;> rfl), by repeat (first | (with_reducible first | exact HB.out | apply below_alloc | apply pw_below_drewN | apply below_drew1 | refine below_set ?_ GE107.out) | exact HB.out)⟩
     ·
      rw [if_neg c14] at H
      have c14b0 : (a0_0 == 3) = false := beq_eq_false_iff_ne.mpr c14
      have c14b1 : (a0_0 != 3) = true := bne_iff_ne.mpr c14
      obtain rfl := Option.some.inj H
      go_wp2
      go_ret
      exact ⟨by first | rfl | (simp [errW_none, errW_some] <;> rfl) | (simp [*, errW_none, errW_some] <;> rfl), by repeat (first | (with_reducible first | exact HB.out | apply below_alloc | apply pw_below_drewN | apply below_drew1 | refine below_set ?_ GE107.out) | exact HB.out)⟩
def bits_Mul64.f (a0 : Int) (a1 : Int) : Option (Int × Int) := some (IntKind.u64.wrap ((IntKind.u64.wrap ((IntKind.u64.wrap ((a0 / 4294967296) * (a1 / 4294967296))) + ((IntKind.u64.wrap ((IntKind.u64.wrap ((a0 / 4294967296) * (Go.bits .and .u64 a1 4294967295))) + ((IntKind.u64.wrap ((Go.bits .and .u64 a0 4294967295) * (Go.bits .and .u64 a1 4294967295))) / 4294967296))) / 4294967296))) + ((IntKind.u64.wrap ((Go.bits .and .u64 (IntKind.u64.wrap ((IntKind.u64.wrap ((a0 / 4294967296) * (Go.bits .and .u64 a1 4294967295))) + ((IntKind.u64.wrap ((Go.bits .and .u64 a0 4294967295) * (Go.bits .and .u64 a1 4294967295))) / 4294967296))) 4294967295) + (IntKind.u64.wrap ((Go.bits .and .u64 a0 4294967295) * (a1 / 4294967296))))) / 4294967296)), IntKind.u64.wrap (a0 * a1))
set_option maxHeartbeats 8000000 in
set_option maxRecDepth 100000 in
theorem bits_Mul64.calls (a0 : Int) (a1 : Int) (r1 : Int) (r2 : Int) (w : World) (h : bits_Mul64.f a0 a1 = some (r1, r2)) :
  Calls Tryd.prog 85 #[.int .u64 a0, .int .u64 a1] w fun e w' => e = .returned (.tuple #[.int .u64 r1, .int .u64 r2]) ∧ Drawn0 w w' := by
 have H : (some (IntKind.u64.wrap ((IntKind.u64.wrap ((IntKind.u64.wrap ((a0 / 4294967296) * (a1 / 4294967296))) + ((IntKind.u64.wrap ((IntKind.u64.wrap ((a0 / 4294967296) * (Go.bits .and .u64 a1 4294967295))) + ((IntKind.u64.wrap ((Go.bits .and .u64 a0 4294967295) * (Go.bits .and .u64 a1 4294967295))) / 4294967296))) / 4294967296))) + ((IntKind.u64.wrap ((Go.bits .and .u64 (IntKind.u64.wrap ((IntKind.u64.wrap ((a0 / 4294967296) * (Go.bits .and .u64 a1 4294967295))) + ((IntKind.u64.wrap ((Go.bits .and .u64 a0 4294967295) * (Go.bits .and .u64 a1 4294967295))) / 4294967296))) 4294967295) + (IntKind.u64.wrap ((Go.bits .and .u64 a0 4294967295) * (a1 / 4294967296))))) / 4294967296)), IntKind.u64.wrap (a0 * a1))) = some (r1, r2) := h
 clear h
 simp only [Option.some.injEq, Prod.mk.injEq] at H
 obtain ⟨rfl, rfl⟩ := H
 go_enter Tryd.func85, Tryd.ntmps85
 go_wp2
 go_ret2
 exact ⟨by first | rfl | (simp; done) | (simp [*]; done), by repeat (first | exact Drawn0.refl _ | apply Drawn0.step)⟩
end Go.Proofs.YthghcpeedmconaaDoor.X
end
section
namespace Go.Proofs.YthghcpeedmconaaDoorQ
open Go Go.Lib
theorem len_size (s : ByteArray) : s.data.toList.length = s.size := by simp
theorem extract3 (s : ByteArray) (pos : Nat) (h : pos + 3 ≤ s.size) : (s.extract pos (pos + 3)).data.toList = [s.data.toList.getD pos 0, s.data.toList.getD (pos + 1) 0, s.data.toList.getD (pos + 2) 0] := by
  have hl := len_size s
  apply List.ext_getElem
  · simp; omega
  · intro i h1 h2
    have h1' : i < 3 := by simpa using h2
    have hs : s.data.size = s.size := rfl
    have : i = 0 ∨ i = 1 ∨ i = 2 := by omega
    rcases this with rfl | rfl | rfl <;> simp [List.getD] <;> (rw [Array.getElem?_eq_getElem (by omega)]; simp)
theorem byte_of (a : UInt8) (n : Nat) (hn : n < 256) (h : a.toNat = n) : a = UInt8.ofNat n := by
  apply UInt8.toNat_inj.mp; rw [h]; simp; omega
theorem bad_iff (s : ByteArray) (pos : Nat) (hp : pos < s.size) (hr : (Utf8.decode s pos).1 = 65533) :
    ((Utf8.decode s pos).2 = 1 ↔ (s.size - pos < 3 ∨ (s.extract pos (pos + 3)).data.toList ≠ [239, 191, 189])) := by
  have hl := len_size s
  rw [decode_N, hl] at hr ⊢
  have b0 := (s.data.toList.getD pos 0).toNat_lt
  have b1 := (s.data.toList.getD (pos + 1) 0).toNat_lt
  have b2 := (s.data.toList.getD (pos + 2) 0).toNat_lt
  have b3 := (s.data.toList.getD (pos + 3) 0).toNat_lt
  by_cases h3 : pos + 3 ≤ s.size
  · have hex := extract3 s pos h3
    rw [hex]
    generalize s.data.toList.getD pos 0 = x0 at *
    generalize s.data.toList.getD (pos + 1) 0 = x1 at *
    generalize s.data.toList.getD (pos + 2) 0 = x2 at *
    generalize s.data.toList.getD (pos + 3) 0 = x3 at *
    have hs : ¬ s.size - pos < 3 := by omega
    simp only [hs, false_or]
    have hq : ([x0, x1, x2] ≠ [239, 191, 189]) ↔ ¬ (x0.toNat = 239 ∧ x1.toNat = 191 ∧ x2.toNat = 189) := by
      constructor
      · rintro h ⟨e0, e1, e2⟩
        apply h
        rw [byte_of x0 239 (by omega) e0, byte_of x1 191 (by omega) e1, byte_of x2 189 (by omega) e2]; rfl
      · intro h he
        injection he with e0 he; injection he with e1 he; injection he with e2 _
        exact h ⟨by rw [e0]; rfl, by rw [e1]; rfl, by rw [e2]; rfl⟩
    rw [hq]
    rcases decodeN_shape (s.size - pos) x0.toNat x1.toNat x2.toNat x3.toNat with h | h | h | h | h
    · obtain ⟨h1, h2⟩ := h; rw [h2] at hr; simp at hr; omega
    · obtain ⟨h1, _, _, _, h2⟩ := h; rw [h2] at hr; simp at hr; omega
    · obtain ⟨h1, _, _, _, _, _, h2⟩ := h; rw [h2] at hr ⊢; simp at hr ⊢; omega
    · obtain ⟨h1, _, _, _, _, _, _, h2⟩ := h; rw [h2] at hr; simp at hr; omega
    · have hx : ¬ (x0.toNat = 239 ∧ x1.toNat = 191 ∧ x2.toNat = 189) := by
        rintro ⟨e0, e1, e2⟩
        rw [e0, e1, e2] at h
        have : decodeN (s.size - pos) 239 191 189 x3.toNat = (65533, 3) := by
          simp only [decodeN]
          have : 1 < s.size - pos := by omega
          have : 2 < s.size - pos := by omega
          simp [*]
        rw [this] at h; simp at h
      rw [h]; simp only [hx, not_false_eq_true]
  · have hs : s.size - pos < 3 := by omega
    simp only [hs, true_or, iff_true]
    rcases decodeN_shape (s.size - pos) (s.data.toList.getD pos 0).toNat (s.data.toList.getD (pos + 1) 0).toNat (s.data.toList.getD (pos + 2) 0).toNat (s.data.toList.getD (pos + 3) 0).toNat with h | h | h | h | h
    · obtain ⟨h1, h2⟩ := h; rw [h2]
    · obtain ⟨h1, _, _, _, h2⟩ := h; rw [h2] at hr; simp at hr; omega
    · obtain ⟨h1, h0, _⟩ := h; omega
    · obtain ⟨h1, h0, _⟩ := h; omega
    · rw [h]
theorem validD_at (s : ByteArray) (pos : Nat) (hp : pos < s.size) :
    validD (s.data.toList.drop pos) = if (Utf8.decode s pos).1 = 65533 ∧ (Utf8.decode s pos).2 = 1 then false else validD (s.data.toList.drop (pos + (Utf8.decode s pos).2)) := by
  have hl := len_size s
  rw [validD_step _ (by intro h; have := congrArg List.length h; rw [List.length_drop, hl] at this; simp at this; omega), decodeL_drop, List.drop_drop]
theorem validD_end (s : ByteArray) (pos : Nat) (hp : ¬ pos < s.size) : validD (s.data.toList.drop pos) = true := by
  rw [List.drop_eq_nil_of_le (by rw [len_size]; omega)]; rfl
end Go.Proofs.YthghcpeedmconaaDoorQ
end
section
namespace Go.Proofs.YthghcpeedmconaaDoor.X
open Go.RowKit Go.Proofs.YthghcpeedmconaaDoorW.PrintWords Go.Proofs.YthghcpeedmconaaDoorW.PrintLast Go.Proofs.YthghcpeedmconaaDoorW.PrintMore Go.Proofs.YthghcpeedmconaaDoorQ
set_option linter.unusedVariables false
set_option linter.unusedSimpArgs false
theorem below_iter (w : World) (s : ByteArray) (pos : Nat) : Below w.heap.size w (w.iter s pos) := (Below.refl _ _).alloc (Nat.le_refl _) _
def lockstepref01_valid.f (s : ByteArray) : Option Bool := if s.size ≤ 140737488351232 then some (Lib.validD s.data.toList) else none
set_option maxHeartbeats 4000000 in
set_option maxRecDepth 100000 in
theorem lockstepref01_valid.calls (s : ByteArray) (r : Bool) (w : World) (h : lockstepref01_valid.f s = some r) :
    Calls Tryd.prog 74 #[.string s] w fun e w' => e = .returned (.bool r) ∧ Below w.heap.size w w' := by
  unfold lockstepref01_valid.f at h
  split at h
  · rename_i hs
    obtain rfl := Option.some.inj h
    clear h
    obtain ⟨ANS, hA⟩ : ∃ A, Lib.validD s.data.toList = A := ⟨_, rfl⟩
    have HA : Hid (Lib.validD (s.data.toList.drop 0) = ANS) := by rw [List.drop_zero]; exact hA
    rw [hA]
    clear hA
    have hu9 := Tryd.underlying9
    go_enter Tryd.func74, Tryd.ntmps74
    go_wp2
    go_loopw [] (fun w' => ∃ pos : Nat, w' = w.iter s pos ∧ Hid (Lib.validD (s.data.toList.drop pos) = ANS)) (fun w' => s.size - w'.iterPos w.heap.size)
    case atStart => exact ⟨0, rfl, HA⟩
    case round =>
      obtain ⟨pos, rfl, HV⟩ := hrel
      by_cases hp : pos < s.size
      · have hnx : ∀ ty, (Instr.next (.pointer (some ⟨w.heap.size, 0, none⟩)) true ty).run Tryd.prog (w.iter s pos) = _ := fun ty => run_next_any w s pos ty hp
        have hd1 := decode_le s pos
        have hwd := Lib.width_pos s pos
        have hst := validD_at s pos hp
        have hbi := bad_iff s pos hp
        by_cases hr : (Utf8.decode s pos).1 = 65533
        · by_cases h3 : s.size - pos < 3
          · have h3i : (s.size : Int) - (pos : Int) < 3 := by omega
            have hri : ((Utf8.decode s pos).1 : Int) = 65533 := by omega
            have HF : Hid (ANS = false) := by
              have h1 := (hbi hr).mpr (.inl h3)
              have hv := HV.out
              rw [hst, if_pos ⟨hr, h1⟩] at hv
              exact hv.symm
            clear hst hbi hr h3
            go_wp2
            go_ret
            rw [HF.out]
            exact ⟨rfl, below_iter _ _ _⟩
          · have h3i : ¬ (s.size : Int) - (pos : Int) < 3 := by omega
            have h3j : (pos : Int) + 3 ≤ s.size := by omega
            have hri : ((Utf8.decode s pos).1 : Int) = 65533 := by omega
            have hsl : ∀ W, (Instr.slice 9 (.string s) (some (.int .i64 (pos : Int))) (some (.int .i64 ((pos : Int) + 3))) none).run Tryd.prog W = .ok (.string (s.extract pos (pos + 3))) W := fun W => by
              rw [run_slice_string_if W 9 s .i64 .i64 (pos : Int) ((pos : Int) + 3) hu9, if_pos ⟨by omega, h3j⟩, if_pos ⟨by omega, by omega⟩]
              rfl
            by_cases he : (s.extract pos (pos + 3)).toList = [239, 191, 189]
            · have HN : Hid (Lib.validD (s.data.toList.drop (pos + (Utf8.decode s pos).2)) = ANS) := by
                have hv := HV.out
                rw [hst, if_neg (fun h => (hbi hr).mp h.2 |>.elim h3 (fun hx => hx (by rw [← ByteArray.toList_eq]; exact he)))] at hv
                exact hv
              have heb : (!(s.extract pos (pos + 3)).toList == [239, 191, 189]) = false := by simp [he]
              clear hst hbi hr h3 he
              go_wp2
              go_roundw
              case rel => exact ⟨_, rfl, HN⟩
              case measure =>
                simp
                omega
            · have HF : Hid (ANS = false) := by
                have h1 := (hbi hr).mpr (.inr (fun hx => he (by rw [ByteArray.toList_eq]; exact hx)))
                have hv := HV.out
                rw [hst, if_pos ⟨hr, h1⟩] at hv
                exact hv.symm
              have heb : (!(s.extract pos (pos + 3)).toList == [239, 191, 189]) = true := by simp [he]
              clear hst hbi hr h3 he
              go_wp2
              go_ret
              rw [HF.out]
              exact ⟨rfl, below_iter _ _ _⟩
        · have hri : ¬ ((Utf8.decode s pos).1 : Int) = 65533 := by omega
          have HN : Hid (Lib.validD (s.data.toList.drop (pos + (Utf8.decode s pos).2)) = ANS) := by
            have hv := HV.out
            rw [hst, if_neg (fun h => hr h.1)] at hv
            exact hv
          clear hst hbi hr
          go_wp2
          go_roundw
          case rel => exact ⟨_, rfl, HN⟩
          case measure =>
            simp
            omega
      · have hnx : ∀ ty, (Instr.next (.pointer (some ⟨w.heap.size, 0, none⟩)) true ty).run Tryd.prog (w.iter s pos) = _ := fun ty => run_next_end w s pos ty hp
        go_wp2
        go_ret
        have hv := HV.out
        rw [validD_end s pos hp] at hv
        rw [← hv]
        exact ⟨rfl, below_iter _ _ _⟩
  · cases h
end Go.Proofs.YthghcpeedmconaaDoor.X
end
section
namespace Go.Proofs.YthghcpeedmconaaDoor.X
open Go.RowKit Go.Proofs.YthghcpeedmconaaDoorW.PrintWords Go.Proofs.YthghcpeedmconaaDoorW.PrintLast Go.Proofs.YthghcpeedmconaaDoorW.PrintMore
attribute [local go_sem] max2_int min2_int max_two min_two max_three min_three max_four min_four
set_option linter.unusedVariables false
set_option linter.unusedSimpArgs false
mutual
def lockstepref01_Check.j0 : Nat → Bool → Int → Int → ByteArray → Option (Int)
 | 0, _, _, _, _ => none
 | k + 1, x25, x174000, x174001, x174002 => if x25 = true then (some 1) else (if x174000 = 3 then (lockstepref01_Check.j1 k (decide ((x174002.size : Int) > 4096)) x174000 x174001 x174002) else (lockstepref01_Check.j1 k false x174000 x174001 x174002))
def lockstepref01_Check.j1 : Nat → Bool → Int → Int → ByteArray → Option (Int)
 | 0, _, _, _, _ => none
 | k + 1, x34, x174000, x174001, x174002 => if x34 = true then (some 2) else (if x174000 = 3 then ((lockstepref01_valid.f x174002).bind fun t174 => (if t174 = true then (some 0) else (some 3))) else (some 0))
end
def lockstepref01_Check.f (k : Nat) (a0_0 : Int) (a0_1 : Int) (a0_2 : ByteArray) : Option (Int) := if a0_0 < 0 then (lockstepref01_Check.j0 k true a0_0 a0_1 a0_2) else (if a0_0 > 4 then (lockstepref01_Check.j0 k true a0_0 a0_1 a0_2) else (if a0_0 = 4 then (if a0_1 = 0 then (lockstepref01_Check.j0 k false a0_0 a0_1 a0_2) else (lockstepref01_Check.j0 k (a0_1 != 1) a0_0 a0_1 a0_2)) else (lockstepref01_Check.j0 k false a0_0 a0_1 a0_2)))
end Go.Proofs.YthghcpeedmconaaDoor.X
end
section
namespace Go.Proofs.YthghcpeedmconaaDoor.X
set_option linter.unusedVariables false
set_option linter.unusedSimpArgs false
open Go.RowKit Go.Proofs.YthghcpeedmconaaDoorW.PrintWords Go.Proofs.YthghcpeedmconaaDoorW.PrintLast Go.Proofs.YthghcpeedmconaaDoorW.PrintMore
def I64 (n : Int) : Prop := -9223372036854775808 ≤ n ∧ n ≤ 9223372036854775807
namespace Num
theorem maskN (a : Nat) (ha : a < 18446744073709551616) : bits .and .u64 (a : Int) 4294967295 = ((a % 4294967296 : Nat) : Int) := by
  have h := bits_and_u64_nat a 4294967295 ha (by omega)
  have e : a &&& 4294967295 = a % 4294967296 := Nat.and_two_pow_sub_one_eq_mod a 32
  rw [e] at h
  exact h
theorem divN (a : Nat) : (a : Int) / 4294967296 = ((a / 4294967296 : Nat) : Int) := by omega
theorem mulN (a b : Nat) : (a : Int) * (b : Int) = ((a * b : Nat) : Int) := (Int.natCast_mul a b).symm
theorem addN (a b : Nat) : (a : Int) + (b : Int) = ((a + b : Nat) : Int) := (Int.natCast_add a b).symm
theorem wrapN (a : Nat) (ha : a < 18446744073709551616) : IntKind.u64.wrap (a : Int) = (a : Int) := by rw [IntKind.wrap_u64]; omega
theorem wrapM (a : Nat) : IntKind.u64.wrap (a : Int) = ((a % 18446744073709551616 : Nat) : Int) := by rw [IntKind.wrap_u64]; omega
theorem subW {r z t : Nat} (h : z + t = r) (ht : t < 18446744073709551616) : IntKind.u64.wrap ((r : Int) - IntKind.u64.wrap (z : Int)) = (t : Int) := by
  simp only [IntKind.wrap_u64]; omega
theorem subW2 {u v z r : Nat} (h : z + r = u * 4294967296 + v) (ht : r < 18446744073709551616) : IntKind.u64.wrap (IntKind.u64.wrap (IntKind.u64.wrap ((u : Int) * 4294967296) + (v : Int)) - IntKind.u64.wrap (z : Int)) = (r : Int) := by
  simp only [IntKind.wrap_u64]; omega
theorem tdivN (a b : Nat) : Int.tdiv (a : Int) (b : Int) = ((a / b : Nat) : Int) := rfl
theorem tmodN (a b : Nat) : Int.tmod (a : Int) (b : Int) = ((a % b : Nat) : Int) := rfl
end Num
open Num
theorem bits_Mul64.eq (x y : Nat) (hx : x < 18446744073709551616) (hy : y < 18446744073709551616) :
    bits_Mul64.f x y = some (((x * y / 18446744073709551616 : Nat) : Int), ((x * y % 18446744073709551616 : Nat) : Int)) := by
  obtain ⟨bd, bt, bw, hhi⟩ := Lib.mul64_hi x y hx hy
  have ba := Lib.half_mul_le (a := x / 4294967296) (b := y / 4294967296) (by omega) (by omega)
  have bb := Lib.half_mul_le (a := x / 4294967296) (b := y % 4294967296) (by omega) (by omega)
  have bc := Lib.half_mul_le (a := x % 4294967296) (b := y / 4294967296) (by omega) (by omega)
  have ba' : x / 4294967296 * (y / 4294967296) < 18446744073709551616 := by omega
  have bb' : x / 4294967296 * (y % 4294967296) < 18446744073709551616 := by omega
  have bc' : x % 4294967296 * (y / 4294967296) < 18446744073709551616 := by omega
  have bh1 : x / 4294967296 * (y / 4294967296) + (x / 4294967296 * (y % 4294967296) + x % 4294967296 * (y % 4294967296) / 4294967296) / 4294967296 < 18446744073709551616 := by omega
  have bh : x / 4294967296 * (y / 4294967296) + (x / 4294967296 * (y % 4294967296) + x % 4294967296 * (y % 4294967296) / 4294967296) / 4294967296 + ((x / 4294967296 * (y % 4294967296) + x % 4294967296 * (y % 4294967296) / 4294967296) % 4294967296 + x % 4294967296 * (y / 4294967296)) / 4294967296 < 18446744073709551616 := by omega
  unfold bits_Mul64.f
  simp only [maskN x hx, maskN y hy, divN, mulN, addN, wrapN _ bd, wrapN _ bb', wrapN _ bt, maskN _ bt, wrapN _ bc', wrapN _ bw, wrapN _ ba', wrapN _ bh1, wrapN _ bh, wrapM (x * y)]
  rw [hhi]
def chk (t n : Int) (s : ByteArray) : Int :=
  if t = 0 ∨ t = 1 ∨ t = 2 then 0 else if t = 4 then (if n = 0 ∨ n = 1 then 0 else 1) else if t = 3 then (if (s.size : Int) > 4096 then 2 else if Lib.validD s.data.toList = true then 0 else 3) else 1
theorem value_Check.eq (k : Nat) (t n : Int) (s : ByteArray) : value_Check.f (k + 1) t n s = some (chk t n s) := by
  unfold value_Check.f chk
  simp only [value_Check.j0]
  by_cases h0 : t = 0
  · subst h0; simp
  by_cases h1 : t = 1
  · subst h1; simp
  by_cases h2 : t = 2
  · subst h2; simp
  simp only [h0, h1, h2, if_false, false_or, or_false, beq_eq_false_iff_ne.mpr h2, Bool.false_eq_true]
  by_cases h4 : t = 4
  · subst h4
    simp only [if_true]
    by_cases hn : n = 0
    · simp [hn]
    · by_cases hn1 : n = 1 <;> simp [hn, hn1]
  · simp only [h4, if_false]
    by_cases h3 : t = 3
    · subst h3
      simp only [if_true]
      by_cases hs : (s.size : Int) > 4096
      · simp only [hs, if_true]
      · simp only [hs, if_false]
        unfold utf8_ValidString.f
        rw [if_pos (by omega), Option.bind_some]
        by_cases hv : Lib.validD s.data.toList = true <;> simp only [hv, if_true, if_false, Bool.false_eq_true]
    · simp only [h3, if_false]
theorem lockstepref01_Check.eq (k : Nat) (t n : Int) (s : ByteArray) : lockstepref01_Check.f (k + 2) t n s = some (chk t n s) := by
  unfold lockstepref01_Check.f chk
  simp only [lockstepref01_Check.j0]
  by_cases hlo : t < 0
  · simp only [hlo, if_true]
    rw [if_neg (by omega), if_neg (by omega), if_neg (by omega)]
  by_cases hhi : t > 4
  · simp only [hlo, hhi, if_true, if_false]
    rw [if_neg (by omega), if_neg (by omega), if_neg (by omega)]
  simp only [hlo, hhi, if_false]
  by_cases h4 : t = 4
  · subst h4
    simp only [if_true, lockstepref01_Check.j1]
    by_cases hn : n = 0
    · simp [hn]
    · by_cases hn1 : n = 1 <;> simp [hn, hn1]
  · simp only [h4, if_false, Bool.false_eq_true]
    by_cases h3 : t = 3
    · subst h3
      simp only [if_true, lockstepref01_Check.j1]
      by_cases hs : (s.size : Int) > 4096
      · simp [hs]
      · simp only [hs, decide_false, if_false, Bool.false_eq_true]
        unfold lockstepref01_valid.f
        rw [if_pos (by omega), Option.bind_some]
        by_cases hv : Lib.validD s.data.toList = true <;> simp [hv]
    · simp only [h3, if_false, lockstepref01_Check.j1, Bool.false_eq_true]
      rw [if_pos (by omega)]
end Go.Proofs.YthghcpeedmconaaDoor.X
end
section
namespace Go.Proofs.YthghcpeedmconaaDoor.X
set_option linter.unusedVariables false
set_option linter.unusedSimpArgs false
open Go.RowKit Go.Proofs.YthghcpeedmconaaDoorW.PrintWords Go.Proofs.YthghcpeedmconaaDoorW.PrintLast Go.Proofs.YthghcpeedmconaaDoorW.PrintMore
open Num
theorem kn_false {y1 y0 u v q r : Nat} (hq : q * y1 + r = u) (h : q * y0 ≤ 4294967296 * r + v) : q * (y1 * 4294967296 + y0) ≤ u * 4294967296 + v := by
  rw [Nat.mul_add, ← Nat.mul_assoc]
  generalize q * y1 = p at *
  generalize q * y0 = z at *
  omega
theorem kn_true1 {y u v q : Nat} (hu : u < y) (hv : v < 4294967296) (h : 4294967296 ≤ q) : u * 4294967296 + v < q * y := by
  have h1 := Nat.mul_le_mul_right y h
  omega
theorem kn_true2 {y1 y0 u v q r : Nat} (hq : q * y1 + r = u) (h : 4294967296 * r + v < q * y0) : u * 4294967296 + v < q * (y1 * 4294967296 + y0) := by
  rw [Nat.mul_add, ← Nat.mul_assoc]
  generalize q * y1 = p at *
  generalize q * y0 = z at *
  omega
theorem kn_exit {y1 y0 u v t r : Nat} (hq : (t + 1) * y1 + r = u) (ht : t ≤ 4294967296) (h0 : y0 < 4294967296) (h : 4294967296 ≤ r + y1) :
    t * (y1 * 4294967296 + y0) ≤ u * 4294967296 + v := by
  have h2 : t * y0 ≤ 4294967296 * 4294967295 := Nat.mul_le_mul ht (by omega)
  rw [Nat.mul_add, ← Nat.mul_assoc]
  rw [Nat.succ_mul] at hq
  generalize t * y1 = p at *
  generalize t * y0 = z at *
  omega
theorem kn_start {y1 y0 u v : Nat} (h1 : 0 < y1) : u * 4294967296 + v < (u / y1 + 1) * (y1 * 4294967296 + y0) ∨ 4294967296 ≤ v := by
  by_cases hv : v < 4294967296
  · left
    have e := Nat.lt_div_mul_add (a := u) h1
    rw [Nat.mul_add, ← Nat.mul_assoc, Nat.succ_mul]
    generalize u / y1 * y1 = p at *
    generalize (u / y1 + 1) * y0 = z
    omega
  · right; omega
theorem kn_top {y1 y0 u : Nat} (h1 : 2147483648 ≤ y1) (h0 : y0 < 4294967296) (hu : u < y1 * 4294967296 + y0) : u / y1 ≤ 4294967297 := by
  refine Nat.le_of_lt_succ ((Nat.div_lt_iff_lt_mul (by omega)).mpr ?_)
  omega
theorem toB (x : Nat) (h : x < 18446744073709551616) (y : Nat) (hy : y < 18446744073709551616) :
    (decide (IntKind.u64.wrap (x : Int) > IntKind.u64.wrap (y : Int))) = decide (y < x) := by
  rw [wrapN _ h, wrapN _ hy]; exact decide_eq_decide.mpr (by omega)
theorem l0_spec (y1 y0 u v v0 : Nat) (s : Int) (h1 : 2147483648 ≤ y1) (h1' : y1 < 4294967296) (h0 : y0 < 4294967296) (hu : u < y1 * 4294967296 + y0) (hv : v < 4294967296)
    (c : Option (Int × Int)) (K : Nat) (hc : ∀ k, K ≤ k → bits_Div64.j2 k ((y1 * 4294967296 + y0 : Nat) : Int) s y1 y0 u v v0 (((u * 4294967296 + v) / (y1 * 4294967296 + y0) : Nat) : Int) = c) :
    ∀ (n q r : Nat), q * y1 + r = u → r < 4294967296 → u * 4294967296 + v < (q + 1) * (y1 * 4294967296 + y0) → q ≤ 4294967297 → 4294967296 ≤ r + n * y1 →
      ∀ k, K + 2 + 2 * n ≤ k → bits_Div64.l0 k ((y1 * 4294967296 + y0 : Nat) : Int) s y1 y0 u v v0 q r = c
  | 0, q, r, hq, hr, hlt, hqt, hn => by omega
  | n + 1, q, r, hq, hr, hlt, hqt, hn => by
    intro k hk
    obtain ⟨k, rfl⟩ : ∃ k', k = k' + 2 := ⟨k - 2, by omega⟩
    have hstep : u * 4294967296 + v < q * (y1 * 4294967296 + y0) → bits_Div64.j1 (k + 1) ((y1 * 4294967296 + y0 : Nat) : Int) s y1 y0 u v v0 q r true = c := by
      intro ht
      have hq0 : q ≠ 0 := fun e => by subst e; omega
      obtain ⟨t, rfl⟩ : ∃ t, q = t + 1 := ⟨q - 1, by omega⟩
      rw [bits_Div64.j1, if_pos rfl]
      have ea : IntKind.u64.wrap ((r : Int) + (y1 : Int)) = ((r + y1 : Nat) : Int) := by rw [addN, wrapN _ (by omega)]
      have eb : IntKind.u64.wrap (((t + 1 : Nat) : Int) - 1) = (t : Int) := by rw [IntKind.wrap_u64]; omega
      rw [ea, eb]
      by_cases hx : 4294967296 ≤ r + y1
      · rw [if_pos (by omega)]
        have hle := kn_exit (v := v) hq (by omega) h0 hx
        have e : (u * 4294967296 + v) / (y1 * 4294967296 + y0) = t := Nat.div_eq_of_lt_le hle ht
        rw [← e]
        exact hc k (by omega)
      · rw [if_neg (by omega)]
        refine l0_spec y1 y0 u v v0 s h1 h1' h0 hu hv c K hc n t (r + y1) ?_ (by omega) ht (by omega) ?_ k (by omega)
        · rw [Nat.succ_mul] at hq; omega
        · rw [Nat.succ_mul] at hn; omega
    rw [bits_Div64.l0]
    by_cases hb : 4294967296 ≤ q
    · rw [if_pos (by omega)]
      exact hstep (kn_true1 hu hv hb)
    · rw [if_neg (by omega)]
      have hz : q * y0 ≤ 4294967295 * 4294967295 := Nat.mul_le_mul (by omega) (by omega)
      have e1 : (4294967296 : Int) * (r : Int) = ((4294967296 * r : Nat) : Int) := by omega
      rw [mulN, e1, wrapN (4294967296 * r) (by omega), addN, toB _ (by omega) _ (by omega)]
      by_cases ht : 4294967296 * r + v < q * y0
      · rw [decide_eq_true ht]
        exact hstep (kn_true2 hq ht)
      · rw [decide_eq_false ht, bits_Div64.j1, if_neg (by decide)]
        have e : (u * 4294967296 + v) / (y1 * 4294967296 + y0) = q := Nat.div_eq_of_lt_le (kn_false hq (by omega)) hlt
        rw [← e]
        exact hc k (by omega)
theorem l1_spec (y1 y0 u v q1 s : Nat) (h1 : 2147483648 ≤ y1) (h1' : y1 < 4294967296) (h0 : y0 < 4294967296) (hu : u < y1 * 4294967296 + y0) (hv : v < 4294967296) (hq1 : q1 < 4294967296) (hs : s ≤ 64) :
    ∀ (n q r : Nat), q * y1 + r = u → r < 4294967296 → u * 4294967296 + v < (q + 1) * (y1 * 4294967296 + y0) → q ≤ 4294967297 → 4294967296 ≤ r + n * y1 →
      ∀ k, 2 + 2 * n ≤ k → bits_Div64.l1 k ((y1 * 4294967296 + y0 : Nat) : Int) s y1 y0 v q1 r u q =
        some ((((q1 * 4294967296 + (u * 4294967296 + v) / (y1 * 4294967296 + y0)) : Nat) : Int), (((u * 4294967296 + v) % (y1 * 4294967296 + y0) / 2 ^ s : Nat) : Int))
  | 0, q, r, hq, hr, hlt, hqt, hn => by omega
  | n + 1, q, r, hq, hr, hlt, hqt, hn => by
    intro k hk
    obtain ⟨k, rfl⟩ : ∃ k', k = k' + 2 := ⟨k - 2, by omega⟩
    have hend : ∀ t : Nat, t < 4294967296 → t * (y1 * 4294967296 + y0) ≤ u * 4294967296 + v → u * 4294967296 + v < (t + 1) * (y1 * 4294967296 + y0) →
        (some (IntKind.u64.wrap ((IntKind.u64.wrap ((q1 : Int) * 4294967296)) + (t : Int)), shr .u64 (IntKind.u64.wrap ((IntKind.u64.wrap ((IntKind.u64.wrap ((u : Int) * 4294967296)) + (v : Int))) - (IntKind.u64.wrap ((t : Int) * ((y1 * 4294967296 + y0 : Nat) : Int))))) s) : Option (Int × Int)) =
        some ((((q1 * 4294967296 + (u * 4294967296 + v) / (y1 * 4294967296 + y0)) : Nat) : Int), (((u * 4294967296 + v) % (y1 * 4294967296 + y0) / 2 ^ s : Nat) : Int)) := by
      intro t htb hle hlt
      have e : (u * 4294967296 + v) / (y1 * 4294967296 + y0) = t := Nat.div_eq_of_lt_le hle hlt
      have em : (u * 4294967296 + v) % (y1 * 4294967296 + y0) = u * 4294967296 + v - t * (y1 * 4294967296 + y0) := by
        have := Nat.div_add_mod (u * 4294967296 + v) (y1 * 4294967296 + y0)
        rw [e, Nat.mul_comm] at this
        omega
      rw [e, em]
      have ea : IntKind.u64.wrap (IntKind.u64.wrap ((q1 : Int) * 4294967296) + (t : Int)) = ((q1 * 4294967296 + t : Nat) : Int) := by
        rw [IntKind.wrap_u64, IntKind.wrap_u64]; omega
      rw [ea, mulN]
      rw [Nat.succ_mul] at hlt
      generalize hz : t * (y1 * 4294967296 + y0) = z at *
      have eb : IntKind.u64.wrap (IntKind.u64.wrap (IntKind.u64.wrap ((u : Int) * 4294967296) + (v : Int)) - IntKind.u64.wrap (z : Int)) = ((u * 4294967296 + v - z : Nat) : Int) := by
        simp only [IntKind.wrap_u64]; omega
      rw [eb]
      have es : min ((s : Int).toNat) IntKind.u64.bits = s := by simp [IntKind.bits]; omega
      unfold shr
      rw [es]
      have e2 : ((2 : Int) ^ s) = ((2 ^ s : Nat) : Int) := by simp
      rw [e2]
      congr 1
    have hstep : u * 4294967296 + v < q * (y1 * 4294967296 + y0) → bits_Div64.j4 (k + 1) ((y1 * 4294967296 + y0 : Nat) : Int) s y1 y0 v q1 r u q true =
        some ((((q1 * 4294967296 + (u * 4294967296 + v) / (y1 * 4294967296 + y0)) : Nat) : Int), (((u * 4294967296 + v) % (y1 * 4294967296 + y0) / 2 ^ s : Nat) : Int)) := by
      intro ht
      have hq0 : q ≠ 0 := fun e => by subst e; omega
      obtain ⟨t, rfl⟩ : ∃ t, q = t + 1 := ⟨q - 1, by omega⟩
      rw [bits_Div64.j4, if_pos rfl]
      have ea : IntKind.u64.wrap ((r : Int) + (y1 : Int)) = ((r + y1 : Nat) : Int) := by rw [addN, wrapN _ (by omega)]
      have eb : IntKind.u64.wrap (((t + 1 : Nat) : Int) - 1) = (t : Int) := by rw [IntKind.wrap_u64]; omega
      rw [ea, eb]
      by_cases hx : 4294967296 ≤ r + y1
      · rw [if_pos (by omega), if_pos (by omega)]
        have hle := kn_exit (v := v) hq (by omega) h0 hx
        refine hend t ?_ hle ht
        apply Nat.lt_of_not_le
        intro hc
        have := kn_true1 (q := t) hu hv hc
        omega
      · rw [if_neg (by omega)]
        refine l1_spec y1 y0 u v q1 s h1 h1' h0 hu hv hq1 hs n t (r + y1) ?_ (by omega) ht (by omega) ?_ k (by omega)
        · rw [Nat.succ_mul] at hq; omega
        · rw [Nat.succ_mul] at hn; omega
    rw [bits_Div64.l1]
    by_cases hb : 4294967296 ≤ q
    · rw [if_pos (by omega)]
      exact hstep (kn_true1 hu hv hb)
    · rw [if_neg (by omega)]
      have hz : q * y0 ≤ 4294967295 * 4294967295 := Nat.mul_le_mul (by omega) (by omega)
      have e1 : (4294967296 : Int) * (r : Int) = ((4294967296 * r : Nat) : Int) := by omega
      rw [mulN, e1, wrapN (4294967296 * r) (by omega), addN, toB _ (by omega) _ (by omega)]
      by_cases ht : 4294967296 * r + v < q * y0
      · rw [decide_eq_true ht]
        exact hstep (kn_true2 hq ht)
      · rw [decide_eq_false ht, bits_Div64.j4, if_neg (by decide), if_pos (by omega)]
        exact hend q (by omega) (kn_false hq (by omega)) hlt
theorem j2_spec (y1 y0 u v v0 q1 s : Nat) (h1 : 2147483648 ≤ y1) (h1' : y1 < 4294967296) (h0 : y0 < 4294967296) (hu : u < y1 * 4294967296 + y0) (hv : v < 4294967296) (hv0 : v0 < 4294967296) (hs : s ≤ 64)
    (hq1 : (u * 4294967296 + v) / (y1 * 4294967296 + y0) = q1) (k : Nat) (hk : 8 ≤ k) :
    bits_Div64.j2 k ((y1 * 4294967296 + y0 : Nat) : Int) s y1 y0 u v v0 q1 =
      some (((((u * 4294967296 + v) * 4294967296 + v0) / (y1 * 4294967296 + y0) : Nat) : Int), ((((u * 4294967296 + v) * 4294967296 + v0) % (y1 * 4294967296 + y0) / 2 ^ s : Nat) : Int)) := by
  obtain ⟨k, rfl⟩ : ∃ k', k = k' + 1 := ⟨k - 1, by omega⟩
  have hy : 0 < y1 * 4294967296 + y0 := by omega
  have hm := Nat.div_add_mod (u * 4294967296 + v) (y1 * 4294967296 + y0)
  have hl := Nat.mod_lt (u * 4294967296 + v) hy
  rw [hq1] at hm
  obtain ⟨r, hr⟩ : ∃ r, r = (u * 4294967296 + v) % (y1 * 4294967296 + y0) := ⟨_, rfl⟩
  rw [← hr] at hm hl
  have hq1b : q1 < 4294967296 := by
    rw [← hq1]
    refine (Nat.div_lt_iff_lt_mul hy).mpr ?_
    omega
  rw [bits_Div64.j2, if_neg (by omega)]
  rw [Nat.mul_comm] at hm
  have er : IntKind.u64.wrap (IntKind.u64.wrap (IntKind.u64.wrap ((u : Int) * 4294967296) + (v : Int)) - IntKind.u64.wrap ((q1 : Int) * ((y1 * 4294967296 + y0 : Nat) : Int))) = (r : Int) := by
    rw [mulN]
    exact subW2 hm (by omega)
  rw [er, tdivN]
  have hqt := kn_top h1 h0 hl
  have hst := (kn_start (y0 := y0) (u := r) (v := v0) (show 0 < y1 by omega)).resolve_right (by omega)
  have hdm := Nat.div_add_mod' r y1
  have hml := Nat.mod_lt r (show 0 < y1 by omega)
  rw [wrapN (r / y1) (by omega)]
  have em : IntKind.u64.wrap ((r : Int) - IntKind.u64.wrap (((r / y1 : Nat) : Int) * (y1 : Int))) = ((r % y1 : Nat) : Int) := by
    rw [mulN]; exact subW hdm (by omega)
  rw [em, l1_spec y1 y0 r v0 q1 s h1 h1' h0 hl hv0 hq1b hs 2 (r / y1) (r % y1) hdm (by omega) hst hqt (by omega) k (by omega)]
  have e : (u * 4294967296 + v) * 4294967296 + v0 = (r * 4294967296 + v0) + (y1 * 4294967296 + y0) * (q1 * 4294967296) := by
    rw [← hm, ← Nat.mul_assoc, Nat.mul_comm (y1 * 4294967296 + y0) q1]
    omega
  rw [e, Nat.add_mul_div_left _ _ hy, Nat.add_mul_mod_self_left, Nat.add_comm (q1 * 4294967296)]
theorem bits_Div64.eq (hi lo y : Nat) (hy : y < 18446744073709551616) (hlo : lo < 18446744073709551616) (hhi : hi < y) (k : Nat) (hk : 20 ≤ k) :
    bits_Div64.f k hi lo y = some ((((hi * 18446744073709551616 + lo) / y : Nat) : Int), (((hi * 18446744073709551616 + lo) % y : Nat) : Int)) := by
  unfold bits_Div64.f
  rw [if_neg (by omega), if_neg (by omega)]
  by_cases h0 : hi = 0
  · subst h0
    have hd : lo / y ≤ lo := Nat.div_le_self _ _
    rw [if_pos (by omega), tdivN, tmodN, wrapN _ (by omega), Nat.zero_mul, Nat.zero_add]
  rw [if_neg (by omega)]
  obtain ⟨hb1, hb2, hb3⟩ := Lib.bitLenAux_bounds 64 y (by omega) (by omega)
  have hb4 := Lib.bitLen_le y 64 (by omega) (by omega)
  change 1 ≤ Lib.bitLen y at hb1
  change 2 ^ (Lib.bitLen y - 1) ≤ y at hb2
  change y < 2 ^ Lib.bitLen y at hb3
  have hz : bits_LeadingZeros64.f (y : Int) = some (((64 - Lib.bitLen y : Nat) : Int)) := by
    unfold bits_LeadingZeros64.f
    rw [if_pos (by omega), Int.toNat_natCast]
    congr 1
    omega
  rw [hz, Option.bind_some]
  generalize hB : Lib.bitLen y = B at *
  generalize hS : 64 - B = s at *
  have hsB : B = 64 - s := by omega
  have hs : s ≤ 63 := by omega
  subst hsB
  have p2 : 2 ^ (64 - s) * 2 ^ s = 18446744073709551616 := by
    rw [← Nat.pow_add, Nat.sub_add_cancel (by omega)]
  have p1 : 2 ^ (64 - s - 1) * 2 ^ s = 9223372036854775808 := by
    rw [← Nat.pow_add, show 64 - s - 1 + s = 63 by omega]
  have yl : 9223372036854775808 ≤ y * 2 ^ s := by rw [← p1]; exact Nat.mul_le_mul_right _ hb2
  have ps : 0 < 2 ^ s := Nat.pow_pos (by decide)
  have yh : y * 2 ^ s < 18446744073709551616 := by rw [← p2]; exact Nat.mul_lt_mul_of_pos_right hb3 ps
  have hh : hi * 2 ^ s < y * 2 ^ s := Nat.mul_lt_mul_of_pos_right hhi ps
  have eS : IntKind.u64.wrap (s : Int) = (s : Int) := wrapN s (by omega)
  have eS2 : IntKind.u64.wrap (64 - (s : Int)) = ((64 - s : Nat) : Int) := by rw [IntKind.wrap_u64]; omega
  rw [eS, eS2, if_pos (by omega), if_pos (by omega)]
  have eshl : ∀ x : Nat, shl .u64 (x : Int) (s : Int) = ((x * 2 ^ s % 18446744073709551616 : Nat) : Int) := fun x => by
    have es : min ((s : Int).toNat) IntKind.u64.bits = s := by simp [IntKind.bits]; omega
    unfold shl
    rw [es, show ((2 : Int) ^ s) = ((2 ^ s : Nat) : Int) by simp, mulN, wrapM]
  have eshr : shr .u64 (lo : Int) ((64 - s : Nat) : Int) = ((lo / 2 ^ (64 - s) : Nat) : Int) := by
    have es : min (((64 - s : Nat) : Int).toNat) IntKind.u64.bits = 64 - s := by rw [Int.toNat_natCast, show IntKind.u64.bits = 64 from rfl]; omega
    unfold shr
    rw [es, show ((2 : Int) ^ (64 - s)) = ((2 ^ (64 - s) : Nat) : Int) by simp]
    rfl
  rw [eshl, eshl, eshl, eshr, Nat.mod_eq_of_lt yh, Nat.mod_eq_of_lt (Nat.lt_trans hh yh)]
  have hll : lo / 2 ^ (64 - s) < 2 ^ s := by
    refine (Nat.div_lt_iff_lt_mul (Nat.pow_pos (by decide))).mpr ?_
    rw [Nat.mul_comm, p2]; exact hlo
  have eor : Go.bits .or .u64 ((hi * 2 ^ s : Nat) : Int) ((lo / 2 ^ (64 - s) : Nat) : Int) = ((hi * 2 ^ s + lo / 2 ^ (64 - s) : Nat) : Int) := by
    have hlo2 : lo / 2 ^ (64 - s) ≤ lo := Nat.div_le_self _ _
    rw [bits_or_u64_nat _ _ (Nat.lt_trans hh yh) (by omega)]
    congr 1
    rw [Nat.mul_comm, ← Nat.two_pow_add_eq_or_of_lt hll]
  rw [eor]
  have hu : hi * 2 ^ s + lo / 2 ^ (64 - s) < y * 2 ^ s := by
    have : (hi + 1) * 2 ^ s ≤ y * 2 ^ s := Nat.mul_le_mul_right _ hhi
    rw [Nat.succ_mul] at this
    omega
  have elo : lo * 2 ^ s / 18446744073709551616 = lo / 2 ^ (64 - s) := by
    rw [← p2]; exact Nat.mul_div_mul_right _ _ ps
  have hN : (hi * 2 ^ s + lo / 2 ^ (64 - s)) * 18446744073709551616 + lo * 2 ^ s % 18446744073709551616 = (hi * 18446744073709551616 + lo) * 2 ^ s := by
    rw [Nat.add_mul (hi * 18446744073709551616), Nat.mul_right_comm hi, ← elo]
    generalize hi * 2 ^ s = a
    generalize lo * 2 ^ s = b
    omega
  have hdiv : ((hi * 18446744073709551616 + lo) / y : Nat) = (hi * 18446744073709551616 + lo) * 2 ^ s / (y * 2 ^ s) := (Nat.mul_div_mul_right _ _ ps).symm
  have hmod : ((hi * 18446744073709551616 + lo) % y : Nat) = (hi * 18446744073709551616 + lo) * 2 ^ s % (y * 2 ^ s) / 2 ^ s := by
    rw [Nat.mul_mod_mul_right, Nat.mul_div_cancel _ ps]
  rw [hdiv, hmod, ← hN]
  have hlm := Nat.mod_lt (lo * 2 ^ s) (show 0 < 18446744073709551616 by decide)
  generalize hU : hi * 2 ^ s + lo / 2 ^ (64 - s) = U at *
  generalize hV : lo * 2 ^ s % 18446744073709551616 = V at *
  generalize hY : y * 2 ^ s = Y at *
  rw [divN, divN, maskN _ yh, maskN _ hlm, if_neg (by omega)]
  have hY2 : Y = Y / 4294967296 * 4294967296 + Y % 4294967296 := by omega
  have hV2 : U * 18446744073709551616 + V = (U * 4294967296 + V / 4294967296) * 4294967296 + V % 4294967296 := by omega
  rw [hV2]
  generalize hy1 : Y / 4294967296 = y1 at *
  generalize hy0 : Y % 4294967296 = y0 at *
  have b1 : 2147483648 ≤ y1 := by omega
  have b2 : y1 < 4294967296 := by omega
  have b3 : y0 < 4294967296 := by omega
  subst hY2
  have hqt := kn_top b1 b3 hu
  have hst := (kn_start (y0 := y0) (u := U) (v := V / 4294967296) (show 0 < y1 by omega)).resolve_right (by omega)
  have hdm := Nat.div_add_mod' U y1
  have hml := Nat.mod_lt U (show 0 < y1 by omega)
  rw [tdivN, wrapN (U / y1) (by omega)]
  have em : IntKind.u64.wrap ((U : Int) - IntKind.u64.wrap (((U / y1 : Nat) : Int) * (y1 : Int))) = ((U % y1 : Nat) : Int) := by
    rw [mulN]; exact subW hdm (by omega)
  rw [em]
  exact l0_spec y1 y0 U (V / 4294967296) (V % 4294967296) s b1 b2 b3 hu (by omega) _ 8
    (fun k hk => j2_spec y1 y0 U (V / 4294967296) (V % 4294967296) _ s b1 b2 b3 hu (by omega) (by omega) (by omega) rfl k hk)
    2 (U / y1) (U % y1) hdm (by omega) hst hqt (by omega) k (by omega)
end Go.Proofs.YthghcpeedmconaaDoor.X
end
section
namespace Go.Proofs.YthghcpeedmconaaDoor.X
open Go.RowKit Go.Proofs.YthghcpeedmconaaDoorW.PrintWords Go.Proofs.YthghcpeedmconaaDoorW.PrintLast Go.Proofs.YthghcpeedmconaaDoorW.PrintMore
attribute [local go_sem] max2_int min2_int max_two min_two max_three min_three max_four min_four
set_option linter.unusedVariables false
set_option linter.unusedSimpArgs false
def value_class.j0 : Nat → Int → Bool → Option (Int)
 | 0, _, _ => none
 | k + 1, x4, x7 => if x7 = true then (some 1) else (if x4 = 3 then (some 2) else (if x4 = 4 then (some 3) else (some 4)))
def value_class.f (k : Nat) (a0_0 : Int) (a0_1 : Int) (a0_2 : ByteArray) : Option (Int) := if a0_0 = 0 then (some 0) else (if a0_0 = 1 then (value_class.j0 k a0_0 (a0_0 == 1)) else (value_class.j0 k a0_0 (a0_0 == 2)))
def cmp_isNaN_int.f (a0 : Int) : Option (Bool) := some (a0 != a0)
def cmp_Compare_int.f (a0 : Int) (a1 : Int) : Option (Int) := (cmp_isNaN_int.f a0).bind fun t369 => ((cmp_isNaN_int.f a1).bind fun t370 => (if t369 = true then (if t370 = true then (some 0) else (some (-1))) else (if t370 = true then (some 1) else (if a0 < a1 then (some (-1)) else (if a0 > a1 then (some 1) else (some 0))))))
def cmp_isNaN_int64.f (a0 : Int) : Option (Bool) := some (a0 != a0)
def cmp_Compare_int64.f (a0 : Int) (a1 : Int) : Option (Int) := (cmp_isNaN_int64.f a0).bind fun t374 => ((cmp_isNaN_int64.f a1).bind fun t375 => (if t374 = true then (if t375 = true then (some 0) else (some (-1))) else (if t375 = true then (some 1) else (if a0 < a1 then (some (-1)) else (if a0 > a1 then (some 1) else (some 0))))))
def cmp_Or_int.l0 : Nat → Int → List Int → Int → Int → Option (Int)
 | 0, _, _, _, _ => none
 | k + 1, x3, x6, x7, x8 => if x8 < x7 then (if 0 ≤ x8 then (if x8 < (x6.length : Int) then (if (rd x6 x8) = x3 then (cmp_Or_int.l0 k x3 x6 x7 (wrap64 (x8 + 1))) else (some (rd x6 x8))) else (none)) else (none)) else (some x3)
def cmp_Or_int.f (k : Nat) (l0 : List Int) : Option (Int) := cmp_Or_int.l0 k 0 l0 (l0.length : Int) 0
def value_wide.f (a0_0 : Int) (a0_1 : Int) (a0_2 : ByteArray) : Option (Int × Int) := if a0_0 = 2 then (some (a0_1 / 9223372036854775808, IntKind.u64.wrap (a0_1))) else ((bits_Mul64.f (IntKind.u64.wrap (a0_1)) 10000).bind fun bt372 => (if a0_1 < 0 then (some (wrap64 (IntKind.u64.wrap (bt372.1 - 10000)), bt372.2)) else (some (wrap64 (bt372.1), bt372.2))))
def cmp_isNaN_uint64.f (a0 : Int) : Option (Bool) := some (a0 != a0)
def cmp_Compare_uint64.f (a0 : Int) (a1 : Int) : Option (Int) := (cmp_isNaN_uint64.f a0).bind fun t376 => ((cmp_isNaN_uint64.f a1).bind fun t377 => (if t376 = true then (if t377 = true then (some 0) else (some (-1))) else (if t377 = true then (some 1) else (if a0 < a1 then (some (-1)) else (if a0 > a1 then (some 1) else (some 0))))))
def value_numbers.f (k : Nat) (a0_0 : Int) (a0_1 : Int) (a0_2 : ByteArray) (a1_0 : Int) (a1_1 : Int) (a1_2 : ByteArray) : Option (Int) := (value_wide.f a0_0 a0_1 a0_2).bind fun bt381 => ((value_wide.f a1_0 a1_1 a1_2).bind fun bt383 => ((cmp_Compare_int64.f bt381.1 bt383.1).bind fun t385 => ((cmp_Compare_uint64.f bt381.2 bt383.2).bind fun t386 => ((cmp_Or_int.f k (([t385, t386] : List Int))).bind fun t390 => (some t390)))))
def cmp_isNaN_string.f (a0 : ByteArray) : Option (Bool) := some (a0.toList != a0.toList)
def cmp_Compare_string.f (a0 : ByteArray) (a1 : ByteArray) : Option (Int) := (cmp_isNaN_string.f a0).bind fun t391 => ((cmp_isNaN_string.f a1).bind fun t392 => (if t391 = true then (if t392 = true then (some 0) else (some (-1))) else (if t392 = true then (some 1) else (if (Op.bytesLess a0.toList a1.toList) = true then (some (-1)) else (if (!(Op.bytesLess a0.toList a1.toList || a0.toList == a1.toList)) = true then (some 1) else (some 0))))))
def value_Order.f (k : Nat) (a0_0 : Int) (a0_1 : Int) (a0_2 : ByteArray) (a1_0 : Int) (a1_1 : Int) (a1_2 : ByteArray) : Option (Int) := (value_class.f k a0_0 a0_1 a0_2).bind fun t395 => ((value_class.f k a1_0 a1_1 a1_2).bind fun t396 => ((cmp_Compare_int.f t395 t396).bind fun t397 => (if t397 = 0 then ((value_class.f k a0_0 a0_1 a0_2).bind fun t398 => (if t398 = 0 then (some 0) else (if t398 = 1 then ((value_numbers.f k a0_0 a0_1 a0_2 a1_0 a1_1 a1_2).bind fun t399 => ((cmp_Compare_int.f a0_0 a1_0).bind fun t400 => ((cmp_Or_int.f k (([t399, t400] : List Int))).bind fun t404 => (some t404)))) else (if t398 = 2 then ((cmp_Compare_string.f a0_2 a1_2).bind fun t405 => (some t405)) else (if t398 = 3 then ((cmp_Compare_int64.f a0_1 a1_1).bind fun t406 => (some t406)) else ((cmp_Compare_int.f a0_0 a1_0).bind fun t407 => ((cmp_Compare_int64.f a0_1 a1_1).bind fun t408 => ((cmp_Compare_string.f a0_2 a1_2).bind fun t409 => ((cmp_Or_int.f k (([t407, t408, t409] : List Int))).bind fun t413 => (some t413)))))))))) else (some t397))))
end Go.Proofs.YthghcpeedmconaaDoor.X
end
section
namespace Go.Proofs.YthghcpeedmconaaDoor.X
open Go.RowKit Go.Proofs.YthghcpeedmconaaDoorW.PrintWords Go.Proofs.YthghcpeedmconaaDoorW.PrintLast Go.Proofs.YthghcpeedmconaaDoorW.PrintMore
attribute [local go_sem] max2_int min2_int max_two min_two max_three min_three max_four min_four
end Go.Proofs.YthghcpeedmconaaDoor.X
end
section
namespace Go.Proofs.YthghcpeedmconaaDoor.X
set_option linter.unusedVariables false
set_option linter.unusedSimpArgs false
open Go.RowKit Go.Proofs.YthghcpeedmconaaDoorW.PrintWords Go.Proofs.YthghcpeedmconaaDoorW.PrintLast Go.Proofs.YthghcpeedmconaaDoorW.PrintMore
open Num
def ci (a b : Int) : Int := if a < b then -1 else if a > b then 1 else 0
def orI (a b : Int) : Int := if a = 0 then b else a
structure Good {α : Type} (C : α → α → Int) : Prop where
  anti : ∀ a b, C b a = - C a b
  trans : ∀ a b c, C a b ≤ 0 → C b c ≤ 0 → C a c ≤ 0
theorem Good.lt {α : Type} {C : α → α → Int} (h : Good C) {a b c : α} (h1 : C a b < 0) (h2 : C b c ≤ 0) : C a c < 0 := by
  have h3 := h.trans a b c (by omega) h2
  by_cases hn : C a c < 0
  · exact hn
  · have e := h.anti a c
    have h5 := h.trans b c a h2 (by omega)
    have := h.anti a b
    omega
theorem Good.lt' {α : Type} {C : α → α → Int} (h : Good C) {a b c : α} (h1 : C a b ≤ 0) (h2 : C b c < 0) : C a c < 0 := by
  have h3 := h.trans a b c h1 (by omega)
  by_cases hn : C a c < 0
  · exact hn
  · have e := h.anti a c
    have h5 := h.trans c a b (by omega) h1
    have := h.anti b c
    omega
theorem Good.or {α : Type} {C D : α → α → Int} (h : Good C) (k : Good D) : Good (fun a b => orI (C a b) (D a b)) where
  anti a b := by
    have h1 := h.anti a b
    have h2 := k.anti a b
    show orI (C b a) (D b a) = - orI (C a b) (D a b)
    unfold orI
    by_cases hc : C a b = 0
    · rw [if_pos hc, if_pos (by omega)]; exact h2
    · rw [if_neg hc, if_neg (by omega)]; exact h1
  trans a b c := by
    show orI (C a b) (D a b) ≤ 0 → orI (C b c) (D b c) ≤ 0 → orI (C a c) (D a c) ≤ 0
    intro h1 h2
    unfold orI at *
    have a1 := h.anti a b
    have a2 := h.anti b c
    have a3 := h.anti a c
    by_cases e1 : C a b = 0
    · rw [if_pos e1] at h1
      by_cases e2 : C b c = 0
      · rw [if_pos e2] at h2
        have t1 := h.trans a b c (by omega) (by omega)
        have t2 := h.trans c b a (by omega) (by omega)
        rw [if_pos (by omega)]
        exact k.trans a b c h1 h2
      · rw [if_neg e2] at h2
        have := h.lt' (a := a) (b := b) (c := c) (by omega) (by omega)
        rw [if_neg (by omega)]; omega
    · rw [if_neg e1] at h1
      by_cases e2 : C b c = 0
      · have := h.lt (a := a) (b := b) (c := c) (by omega) (by omega)
        rw [if_neg (by omega)]; omega
      · rw [if_neg e2] at h2
        have := h.lt (a := a) (b := b) (c := c) (by omega) (by omega)
        rw [if_neg (by omega)]; omega
theorem Good.key {α β : Type} {C : α → α → Int} (h : Good C) (f : β → α) : Good (fun a b => C (f a) (f b)) := ⟨fun a b => h.anti (f a) (f b), fun a b c => h.trans (f a) (f b) (f c)⟩
theorem ci_zero {a b : Int} : ci a b = 0 ↔ a = b := by
  unfold ci
  by_cases h1 : a < b
  · rw [if_pos h1]; constructor
    · intro h; omega
    · intro h; omega
  · by_cases h2 : a > b
    · rw [if_neg h1, if_pos h2]; constructor
      · intro h; omega
      · intro h; omega
    · rw [if_neg h1, if_neg h2]; constructor
      · intro _; omega
      · intro _; rfl
theorem ci_self (a : Int) : ci a a = 0 := ci_zero.mpr rfl
theorem orI_zero (a : Int) : orI a 0 = a := by unfold orI; split <;> omega
theorem zero_orI (a : Int) : orI 0 a = a := by unfold orI; exact if_pos rfl
def cl : List UInt8 → List UInt8 → Int
  | [], [] => 0
  | [], _ :: _ => -1
  | _ :: _, [] => 1
  | a :: x, b :: y => orI (ci a.toNat b.toNat) (cl x y)
theorem cl_self : ∀ x, cl x x = 0
  | [] => rfl
  | a :: x => by show orI (ci a.toNat a.toNat) (cl x x) = 0; rw [ci_self, cl_self x]; rfl
theorem cl_eq : ∀ x y, cl x y = 0 → x = y
  | [], [] => fun _ => rfl
  | [], _ :: _ => fun h => absurd h (by show ¬ ((-1 : Int) = 0); decide)
  | _ :: _, [] => fun h => absurd h (by show ¬ ((1 : Int) = 0); decide)
  | a :: x, b :: y => by
    intro h
    change orI (ci a.toNat b.toNat) (cl x y) = 0 at h
    unfold orI at h
    by_cases hc : ci (a.toNat : Int) b.toNat = 0
    · rw [if_pos hc] at h
      have h1 := ci_zero.mp hc
      have e : a = b := UInt8.toNat_inj.mp (by omega)
      rw [e, cl_eq x y h]
    · rw [if_neg hc] at h; exact absurd h hc
theorem cl_less : ∀ x y, Op.bytesLess x y = decide (cl x y = -1) ∧ (cl x y = -1 ∨ cl x y = 0 ∨ cl x y = 1)
  | [], [] => ⟨rfl, Or.inr (Or.inl rfl)⟩
  | [], _ :: _ => ⟨rfl, Or.inl rfl⟩
  | _ :: _, [] => ⟨rfl, Or.inr (Or.inr rfl)⟩
  | a :: x, b :: y => by
    obtain ⟨ih, ir⟩ := cl_less x y
    have e1 : (a < b) ↔ (a.toNat : Int) < b.toNat := by rw [UInt8.lt_iff_toNat_lt]; omega
    have e2 : (a = b) ↔ (a.toNat : Int) = b.toNat := by rw [← UInt8.toNat_inj]; omega
    have hd : Op.bytesLess (a :: x) (b :: y) = (decide (a < b) || (a == b && Op.bytesLess x y)) := rfl
    have hc : cl (a :: x) (b :: y) = orI (ci a.toNat b.toNat) (cl x y) := rfl
    rw [hd, hc, ih]
    unfold orI ci
    by_cases h1 : (a.toNat : Int) < b.toNat
    · rw [if_pos h1, if_neg (by decide), decide_eq_true (e1.mpr h1)]
      exact ⟨rfl, Or.inl rfl⟩
    · rw [if_neg h1, decide_eq_false (fun h => h1 (e1.mp h))]
      by_cases h2 : (a.toNat : Int) > b.toNat
      · rw [if_pos h2, if_neg (by decide), beq_eq_false_iff_ne.mpr (fun h => by have := e2.mp h; omega)]
        exact ⟨rfl, Or.inr (Or.inr rfl)⟩
      · rw [if_neg h2, if_pos rfl, beq_iff_eq.mpr (e2.mpr (by omega))]
        exact ⟨by simp, ir⟩
def cs (a b : ByteArray) : Int := cl a.toList b.toList
theorem cs_self (a : ByteArray) : cs a a = 0 := cl_self _
theorem texts_eq (a b : ByteArray) : (if (Op.bytesLess a.toList b.toList) = true then (some (-1)) else (if (!(Op.bytesLess a.toList b.toList || a.toList == b.toList)) = true then (some 1) else (some 0)) : Option Int) = some (cs a b) := by
  unfold cs
  obtain ⟨h1, h2⟩ := cl_less a.toList b.toList
  rw [h1]
  rcases h2 with h2 | h2 | h2
  · rw [h2]; rfl
  · rw [if_neg (by rw [h2]; decide), if_neg (by rw [cl_eq _ _ h2]; simp), h2]
  · have hne : (a.toList == b.toList) = false := by
      rw [beq_eq_false_iff_ne]
      intro h; rw [h, cl_self] at h2; exact absurd h2 (by decide)
    rw [if_neg (by rw [h2]; decide), hne, if_pos (by rw [h2]; decide), h2]
theorem cmps_eq (a b : ByteArray) : cmp_Compare_string.f a b = some (cs a b) := by
  unfold cmp_Compare_string.f cmp_isNaN_string.f
  rw [Option.bind_some, Option.bind_some, bne_self_eq_false, bne_self_eq_false, if_neg (by decide), if_neg (by decide)]
  exact texts_eq a b
theorem ints_eq (a b : Int) : (if a < b then (some (-1)) else (if a > b then (some 1) else (some 0)) : Option Int) = some (ci a b) := by
  unfold ci
  by_cases h1 : a < b
  · rw [if_pos h1, if_pos h1]
  · rw [if_neg h1, if_neg h1]; split <;> rfl
theorem cmpi_eq (a b : Int) : cmp_Compare_int.f a b = some (ci a b) := by
  unfold cmp_Compare_int.f cmp_isNaN_int.f
  rw [Option.bind_some, Option.bind_some, bne_self_eq_false, bne_self_eq_false, if_neg (by decide), if_neg (by decide)]
  exact ints_eq a b
theorem cmpi64_eq (a b : Int) : cmp_Compare_int64.f a b = some (ci a b) := by
  unfold cmp_Compare_int64.f cmp_isNaN_int64.f
  rw [Option.bind_some, Option.bind_some, bne_self_eq_false, bne_self_eq_false, if_neg (by decide), if_neg (by decide)]
  exact ints_eq a b
theorem cmpu64_eq (a b : Int) : cmp_Compare_uint64.f a b = some (ci a b) := by
  unfold cmp_Compare_uint64.f cmp_isNaN_uint64.f
  rw [Option.bind_some, Option.bind_some, bne_self_eq_false, bne_self_eq_false, if_neg (by decide), if_neg (by decide)]
  exact ints_eq a b
theorem or_step (k : Nat) (l : List Int) (n i : Int) : cmp_Or_int.l0 (k + 1) 0 l n i = if i < n then (if 0 ≤ i then (if i < (l.length : Int) then (if (rd l i) = 0 then (cmp_Or_int.l0 k 0 l n (wrap64 (i + 1))) else (some (rd l i))) else (none)) else (none)) else (some 0) := by
  conv => lhs; unfold cmp_Or_int.l0
theorem w01 : wrap64 (0 + 1) = 1 := by unfold wrap64; omega
theorem w12 : wrap64 (1 + 1) = 2 := by unfold wrap64; omega
theorem w23 : wrap64 (2 + 1) = 3 := by unfold wrap64; omega
theorem or_two (k : Nat) (a b : Int) : cmp_Or_int.f (k + 3) [a, b] = some (orI a b) := by
  unfold cmp_Or_int.f orI
  rw [or_step, if_pos (by simp), if_pos (by decide), if_pos (by simp), show rd [a, b] 0 = a from rfl]
  by_cases h : a = 0
  · rw [if_pos h, if_pos h, w01, or_step, if_pos (by simp), if_pos (by decide), if_pos (by simp), show rd [a, b] 1 = b from rfl]
    by_cases h2 : b = 0
    · rw [if_pos h2, w12, or_step, if_neg (by simp), h2]
    · rw [if_neg h2]
  · rw [if_neg h, if_neg h]
theorem or_three (k : Nat) (a b c : Int) : cmp_Or_int.f (k + 4) [a, b, c] = some (orI a (orI b c)) := by
  unfold cmp_Or_int.f orI
  rw [or_step, if_pos (by simp), if_pos (by decide), if_pos (by simp), show rd [a, b, c] 0 = a from rfl]
  by_cases h : a = 0
  · rw [if_pos h, if_pos h, w01, or_step, if_pos (by simp), if_pos (by decide), if_pos (by simp), show rd [a, b, c] 1 = b from rfl]
    by_cases h2 : b = 0
    · rw [if_pos h2, if_pos h2, w12, or_step, if_pos (by simp), if_pos (by decide), if_pos (by simp), show rd [a, b, c] 2 = c from rfl]
      by_cases h3 : c = 0
      · rw [if_pos h3, w23, or_step, if_neg (by simp), h3]
      · rw [if_neg h3]
    · rw [if_neg h2, if_neg h2]
  · rw [if_neg h, if_neg h]
def cls (t : Int) : Int := if t = 0 then 0 else if t = 1 ∨ t = 2 then 1 else if t = 3 then 2 else if t = 4 then 3 else 4
def sv (t n : Int) : Int := if t = 2 then n else n * 10000
def ky1 (v : S42) : Int := if cls v.f0 = 1 then sv v.f0 v.f1 else if cls v.f0 = 3 then v.f1 else if cls v.f0 = 4 then v.f0 else 0
def ky2 (v : S42) : Int := if cls v.f0 = 1 then v.f0 else if cls v.f0 = 4 then v.f1 else 0
def ky3 (v : S42) : ByteArray := if cls v.f0 = 2 ∨ cls v.f0 = 4 then v.f2 else ⟨#[]⟩
def ord (a b : S42) : Int := orI (ci (cls a.f0) (cls b.f0)) (orI (ci (ky1 a) (ky1 b)) (orI (ci (ky2 a) (ky2 b)) (cs (ky3 a) (ky3 b))))
theorem class_eq (k : Nat) (t n : Int) (s : ByteArray) : value_class.f (k + 1) t n s = some (cls t) := by
  unfold value_class.f cls
  by_cases h0 : t = 0
  · rw [if_pos h0, if_pos h0]
  rw [if_neg h0, if_neg h0]
  by_cases h1 : t = 1
  · subst h1; rfl
  by_cases h2 : t = 2
  · subst h2; rfl
  rw [if_neg h1, if_neg (by omega), beq_eq_false_iff_ne.mpr h2]
  simp only [value_class.j0]
  rw [if_neg (by decide)]
  by_cases h3 : t = 3
  · rw [if_pos h3, if_pos h3]
  by_cases h4 : t = 4
  · rw [if_neg h3, if_neg h3, if_pos h4, if_pos h4]
  rw [if_neg h3, if_neg h3, if_neg h4, if_neg h4]
theorem ci_pair {h l h2 l2 : Int} (hl : 0 ≤ l ∧ l < 18446744073709551616) (hl2 : 0 ≤ l2 ∧ l2 < 18446744073709551616) :
    orI (ci h h2) (ci l l2) = ci (h * 18446744073709551616 + l) (h2 * 18446744073709551616 + l2) := by
  by_cases e : h = h2
  · subst e
    rw [ci_self, zero_orI]
    unfold ci
    by_cases c1 : l < l2
    · rw [if_pos c1, if_pos (by omega)]
    by_cases c2 : l > l2
    · rw [if_neg c1, if_pos c2, if_neg (by omega), if_pos (by omega)]
    rw [if_neg c1, if_neg c2, if_neg (by omega), if_neg (by omega)]
  · have hc : ci h h2 ≠ 0 := fun h' => e (ci_zero.mp h')
    unfold orI
    rw [if_neg hc]
    unfold ci
    by_cases c1 : h < h2
    · rw [if_pos c1, if_pos (by omega)]
    rw [if_neg c1, if_pos (by omega), if_neg (by omega), if_pos (by omega)]
theorem wide_eq (t n : Int) (s : ByteArray) (hn : I64 n) : ∃ h l, value_wide.f t n s = some (h, l) ∧ h * 18446744073709551616 + l = sv t n ∧ 0 ≤ l ∧ l < 18446744073709551616 := by
  obtain ⟨hn0, hn1⟩ := hn
  unfold value_wide.f sv
  by_cases h2 : t = 2
  · rw [if_pos h2, if_pos h2]
    refine ⟨_, _, rfl, ?_⟩
    rw [IntKind.wrap_u64]
    omega
  · rw [if_neg h2, if_neg h2]
    have hN : IntKind.u64.wrap n = (((n % 18446744073709551616).toNat : Nat) : Int) := by rw [IntKind.wrap_u64]; omega
    have hm := bits_Mul64.eq (n % 18446744073709551616).toNat 10000 (by omega) (by decide)
    rw [show ((10000 : Nat) : Int) = 10000 from rfl] at hm
    rw [hN, hm, Option.bind_some]
    by_cases hneg : n < 0
    · rw [if_pos hneg]
      refine ⟨_, _, rfl, ?_⟩
      have hw : (n % 18446744073709551616).toNat = (n + 18446744073709551616).toNat := by omega
      rw [hw, IntKind.wrap_u64]
      unfold wrap64
      simp only []
      omega
    · rw [if_neg hneg]
      refine ⟨_, _, rfl, ?_⟩
      have hw : (n % 18446744073709551616).toNat = n.toNat := by omega
      rw [hw]
      unfold wrap64
      simp only []
      omega
theorem numbers_eq (k : Nat) (t n : Int) (s : ByteArray) (t2 n2 : Int) (s2 : ByteArray) (hn : I64 n) (hn2 : I64 n2) :
    value_numbers.f (k + 3) t n s t2 n2 s2 = some (ci (sv t n) (sv t2 n2)) := by
  obtain ⟨h, l, e, hv, hl⟩ := wide_eq t n s hn
  obtain ⟨h', l', e', hv', hl'⟩ := wide_eq t2 n2 s2 hn2
  unfold value_numbers.f
  rw [e, Option.bind_some, e', Option.bind_some, cmpi64_eq, Option.bind_some, cmpu64_eq, Option.bind_some, or_two, Option.bind_some, ci_pair hl hl', hv, hv']
theorem cls_cases (t : Int) : (cls t = 0 ∧ t = 0) ∨ (cls t = 1 ∧ (t = 1 ∨ t = 2)) ∨ (cls t = 2 ∧ t = 3) ∨ (cls t = 3 ∧ t = 4) ∨ cls t = 4 := by
  unfold cls
  by_cases h0 : t = 0
  · left; simp [h0]
  by_cases h1 : t = 1 ∨ t = 2
  · right; left; simp [h0, h1]
  by_cases h3 : t = 3
  · right; right; left; simp [h3]
  by_cases h4 : t = 4
  · right; right; right; left; simp [h4]
  · right; right; right; right; simp [h0, h1, h3, h4]
theorem ord_ne {a b : S42} (h : cls a.f0 ≠ cls b.f0) : ord a b = ci (cls a.f0) (cls b.f0) := by
  unfold ord orI; rw [if_neg (fun e => h (ci_zero.mp e))]
theorem ord_same {a b : S42} (h : cls a.f0 = cls b.f0) : ord a b = orI (ci (ky1 a) (ky1 b)) (orI (ci (ky2 a) (ky2 b)) (cs (ky3 a) (ky3 b))) := by
  unfold ord; rw [h, ci_self, zero_orI]
theorem ord_c0 {a b : S42} (h : cls a.f0 = 0) (h2 : cls b.f0 = 0) : ord a b = 0 := by
  rw [ord_same (h.trans h2.symm)]; simp [ky1, ky2, ky3, h, h2, ci_self, cs_self, zero_orI]
theorem ord_c1 {a b : S42} (h : cls a.f0 = 1) (h2 : cls b.f0 = 1) : ord a b = orI (ci (sv a.f0 a.f1) (sv b.f0 b.f1)) (ci a.f0 b.f0) := by
  rw [ord_same (h.trans h2.symm)]; simp [ky1, ky2, ky3, h, h2, ci_self, cs_self, orI_zero]
theorem ord_c2 {a b : S42} (h : cls a.f0 = 2) (h2 : cls b.f0 = 2) : ord a b = cs a.f2 b.f2 := by
  rw [ord_same (h.trans h2.symm)]; simp [ky1, ky2, ky3, h, h2, ci_self, cs_self, zero_orI]
theorem ord_c3 {a b : S42} (h : cls a.f0 = 3) (h2 : cls b.f0 = 3) : ord a b = ci a.f1 b.f1 := by
  rw [ord_same (h.trans h2.symm)]; simp [ky1, ky2, ky3, h, h2, ci_self, cs_self, orI_zero]
theorem ord_c4 {a b : S42} (h : cls a.f0 = 4) (h2 : cls b.f0 = 4) : ord a b = orI (ci a.f0 b.f0) (orI (ci a.f1 b.f1) (cs a.f2 b.f2)) := by
  rw [ord_same (h.trans h2.symm)]; simp [ky1, ky2, ky3, h, h2]
theorem value_Order.eq (k : Nat) (t n : Int) (s : ByteArray) (t2 n2 : Int) (s2 : ByteArray) (hn : I64 n) (hn2 : I64 n2) :
    value_Order.f (k + 4) t n s t2 n2 s2 = some (ord ⟨t, n, s⟩ ⟨t2, n2, s2⟩) := by
  unfold value_Order.f
  rw [class_eq, Option.bind_some, class_eq, Option.bind_some, cmpi_eq, Option.bind_some]
  by_cases hc : cls t = cls t2
  · rw [if_pos (ci_zero.mpr hc), Option.bind_some]
    rcases cls_cases t with ⟨h, rfl⟩ | ⟨h, ht⟩ | ⟨h, rfl⟩ | ⟨h, rfl⟩ | h
    · rw [if_pos h, ord_c0 h (hc ▸ h)]
    · rw [if_neg (by rw [h]; decide), if_pos h, numbers_eq (k + 1) _ _ _ _ _ _ hn hn2, Option.bind_some, cmpi_eq, Option.bind_some, or_two, Option.bind_some, ord_c1 h (hc ▸ h)]
    · rw [if_neg (by rw [h]; decide), if_neg (by rw [h]; decide), if_pos h, cmps_eq, Option.bind_some, ord_c2 h (hc ▸ h)]
    · rw [if_neg (by rw [h]; decide), if_neg (by rw [h]; decide), if_neg (by rw [h]; decide), if_pos h, cmpi64_eq, Option.bind_some, ord_c3 h (hc ▸ h)]
    · rw [if_neg (by rw [h]; decide), if_neg (by rw [h]; decide), if_neg (by rw [h]; decide), if_neg (by rw [h]; decide), cmpi_eq, Option.bind_some, cmpi64_eq, Option.bind_some, cmps_eq, Option.bind_some, or_three, Option.bind_some, ord_c4 h (hc ▸ h)]
  · rw [if_neg (fun e => hc (ci_zero.mp e)), ord_ne hc]
end Go.Proofs.YthghcpeedmconaaDoor.X
end
section
namespace Go.Proofs.YthghcpeedmconaaDoor.X
open Go.RowKit Go.Proofs.YthghcpeedmconaaDoorW.PrintWords Go.Proofs.YthghcpeedmconaaDoorW.PrintLast Go.Proofs.YthghcpeedmconaaDoorW.PrintMore
attribute [local go_sem] max2_int min2_int max_two min_two max_three min_three max_four min_four
set_option linter.unusedVariables false
set_option linter.unusedSimpArgs false
def rowcode_parts.j0 : Nat → Int → Int → Int → Int → ByteArray → Option (Int × Int)
 | 0, _, _, _, _, _ => none
 | k + 1, x4, x5, x110000, x110001, x110002 => if x110000 = 1 then ((bits_Mul64.f (IntKind.u64.wrap (x110001)) 10000).bind fun bt110 => (if x110001 < 0 then (some (IntKind.u16.wrap (wrap64 ((wrap64 (IntKind.u64.wrap (bt110.1 - 10000))) + 32768)), bt110.2)) else (some (IntKind.u16.wrap (wrap64 ((wrap64 (bt110.1)) + 32768)), bt110.2)))) else (some (IntKind.u16.wrap (wrap64 (x4 + 32768)), x5))
def rowcode_parts.f (k : Nat) (a0_0 : Int) (a0_1 : Int) (a0_2 : ByteArray) : Option (Int × Int) := if a0_1 < 0 then (rowcode_parts.j0 k (-1) (IntKind.u64.wrap (a0_1)) a0_0 a0_1 a0_2) else (rowcode_parts.j0 k 0 (IntKind.u64.wrap (a0_1)) a0_0 a0_1 a0_2)
theorem rowcode_parts.mono_l : ∀ k, (∀ y0 y1 y2 y3 y4, LeO (rowcode_parts.j0 k y0 y1 y2 y3 y4) (rowcode_parts.j0 (k + 1) y0 y1 y2 y3 y4))
 | 0 => fun _ _ _ _ _ r h => by simp [rowcode_parts.j0] at h
 | k + 1 => by
  have ih0 := rowcode_parts.mono_l k
  ·
   intro y0 y1 y2 y3 y4
   unfold rowcode_parts.j0
   repeat' first
   | (with_reducible exact ih0 _ _ _ _ _)
   | (with_reducible exact LeO.refl _)
   | (with_reducible exact LeO.none _)
   | (with_reducible refine LeO.ite ?_ ?_)
   | (with_reducible refine LeO.bind ?_ (fun _ => ?_))
   | exact ih0 _ _ _ _ _
   | exact LeO.none _
   | refine LeO.ite ?_ ?_
   | refine LeO.bind ?_ (fun _ => ?_)
theorem rowcode_parts.mono : ∀ a0 a1 a2 k, LeO (rowcode_parts.f k a0 a1 a2) (rowcode_parts.f (k + 1) a0 a1 a2) := by
 intro a0 a1 a2 k
 have ih0 := rowcode_parts.mono_l k
 unfold rowcode_parts.f
 repeat' first
   | (with_reducible exact ih0 _ _ _ _ _)
   | (with_reducible exact LeO.refl _)
   | (with_reducible exact LeO.none _)
   | (with_reducible refine LeO.ite ?_ ?_)
   | (with_reducible refine LeO.bind ?_ (fun _ => ?_))
   | exact ih0 _ _ _ _ _
   | exact LeO.none _
   | refine LeO.ite ?_ ?_
   | refine LeO.bind ?_ (fun _ => ?_)
set_option maxHeartbeats 8000000 in
set_option maxRecDepth 100000 in
theorem rowcode_parts.calls (k : Nat) (a0_0 : Int) (a0_1 : Int) (a0_2 : ByteArray) (r1 : Int) (r2 : Int) (w : World) (h : rowcode_parts.f k a0_0 a0_1 a0_2 = some (r1, r2)) :
  Calls Tryd.prog 67 #[.agg #[.int .i64 a0_0, .int .i64 a0_1, .string a0_2]] w fun e w' => e = .returned (.tuple #[.int .u16 r1, .int .u64 r2]) ∧ Below w.heap.size w w' := by
 have hu42 := Tryd.underlying42
 have HB := Aside0.mk (Below.refl w.heap.size w)
 have H : (if a0_1 < 0 then (rowcode_parts.j0 k (-1) (IntKind.u64.wrap (a0_1)) a0_0 a0_1 a0_2) else (rowcode_parts.j0 k 0 (IntKind.u64.wrap (a0_1)) a0_0 a0_1 a0_2)) = some (r1, r2) := h
 clear h
 have HC2 := Aside0.mk H
 clear H
 go_enter Tryd.func67, Tryd.ntmps67
 go_upto_if 13 with (first | ((with_reducible refine gate_dst (N := 1) rfl ?_); refine box_event ?hg (N := 1) ?hd (cs := #[.int .i64 a0_0, .int .i64 a0_1, .string a0_2]) (t := 42) ?hr ?_; (case hd => rfl); (case hg => rfl); (case hr => first | (go_simp; done) | (go_simp; rfl)); intro gb109 hg w3 hbox hb; have n0_ := Aside0.mk (below_step (by repeat (first | (with_reducible first | exact HB.out | apply below_alloc | apply pw_below_drewN | apply below_drew1) | exact HB.out)) hb); have n1_ := Aside0.mk (hbox); have n2_ := Aside0.mk ((by rw [hg]; exact (below_size (by repeat (first | (with_reducible first | exact HB.out | apply below_alloc | apply pw_below_drewN | apply below_drew1) | exact HB.out))) : w.heap.size ≤ gb109)); have n3_ := Aside0.mk ((by rw [hg]; exact (below_size (by repeat (first | (with_reducible first | exact HB.out | apply below_alloc | apply pw_below_drewN | apply below_drew1) | exact HB.out))) : w.heap.size ≤ gb109)); clear HB; have HB := n0_; have BK109 := n1_; have GW109 := n2_; have GE109 := n3_; clear n0_ n1_ n2_ n3_; clear hb hbox hg; have hcz4_0 : w3.cell? ⟨gb109, 0, none⟩ = some (.int .i64 a0_0) := (blk_cell BK109.out 0).trans rfl; have hcz4_1 : w3.cell? ⟨gb109, 1, none⟩ = some (.int .i64 a0_1) := (blk_cell BK109.out 1).trans rfl; have hcz4_2 : w3.cell? ⟨gb109, 2, none⟩ = some (.string a0_2) := (blk_cell BK109.out 2).trans rfl; have hfz4_0 := blk_frozen BK109.out 0; have hfz4_1 := blk_frozen BK109.out 1; have hfz4_2 := blk_frozen BK109.out 2))
 repeat ((with_reducible refine at_region ?_); go_quiet (first | ((with_reducible refine gate_dst (N := 1) rfl ?_); refine box_event ?hg (N := 1) ?hd (cs := #[.int .i64 a0_0, .int .i64 a0_1, .string a0_2]) (t := 42) ?hr ?_; (case hd => rfl); (case hg => rfl); (case hr => first | (go_simp; done) | (go_simp; rfl)); intro gb109 hg w3 hbox hb; have n0_ := Aside0.mk (below_step (by repeat (first | (with_reducible first | exact HB.out | apply below_alloc | apply pw_below_drewN | apply below_drew1) | exact HB.out)) hb); have n1_ := Aside0.mk (hbox); have n2_ := Aside0.mk ((by rw [hg]; exact (below_size (by repeat (first | (with_reducible first | exact HB.out | apply below_alloc | apply pw_below_drewN | apply below_drew1) | exact HB.out))) : w.heap.size ≤ gb109)); have n3_ := Aside0.mk ((by rw [hg]; exact (below_size (by repeat (first | (with_reducible first | exact HB.out | apply below_alloc | apply pw_below_drewN | apply below_drew1) | exact HB.out))) : w.heap.size ≤ gb109)); clear HB; have HB := n0_; have BK109 := n1_; have GW109 := n2_; have GE109 := n3_; clear n0_ n1_ n2_ n3_; clear hb hbox hg; have hcz4_0 : w3.cell? ⟨gb109, 0, none⟩ = some (.int .i64 a0_0) := (blk_cell BK109.out 0).trans rfl; have hcz4_1 : w3.cell? ⟨gb109, 1, none⟩ = some (.int .i64 a0_1) := (blk_cell BK109.out 1).trans rfl; have hcz4_2 : w3.cell? ⟨gb109, 2, none⟩ = some (.string a0_2) := (blk_cell BK109.out 2).trans rfl; have hfz4_0 := blk_frozen BK109.out 0; have hfz4_1 := blk_frozen BK109.out 1; have hfz4_2 := blk_frozen BK109.out 2)); go_upto_if 13 with (first | ((with_reducible refine gate_dst (N := 1) rfl ?_); refine box_event ?hg (N := 1) ?hd (cs := #[.int .i64 a0_0, .int .i64 a0_1, .string a0_2]) (t := 42) ?hr ?_; (case hd => rfl); (case hg => rfl); (case hr => first | (go_simp; done) | (go_simp; rfl)); intro gb109 hg w3 hbox hb; have n0_ := Aside0.mk (below_step (by repeat (first | (with_reducible first | exact HB.out | apply below_alloc | apply pw_below_drewN | apply below_drew1) | exact HB.out)) hb); have n1_ := Aside0.mk (hbox); have n2_ := Aside0.mk ((by rw [hg]; exact (below_size (by repeat (first | (with_reducible first | exact HB.out | apply below_alloc | apply pw_below_drewN | apply below_drew1) | exact HB.out))) : w.heap.size ≤ gb109)); have n3_ := Aside0.mk ((by rw [hg]; exact (below_size (by repeat (first | (with_reducible first | exact HB.out | apply below_alloc | apply pw_below_drewN | apply below_drew1) | exact HB.out))) : w.heap.size ≤ gb109)); clear HB; have HB := n0_; have BK109 := n1_; have GW109 := n2_; have GE109 := n3_; clear n0_ n1_ n2_ n3_; clear hb hbox hg; have hcz4_0 : w3.cell? ⟨gb109, 0, none⟩ = some (.int .i64 a0_0) := (blk_cell BK109.out 0).trans rfl; have hcz4_1 : w3.cell? ⟨gb109, 1, none⟩ = some (.int .i64 a0_1) := (blk_cell BK109.out 1).trans rfl; have hcz4_2 : w3.cell? ⟨gb109, 2, none⟩ = some (.string a0_2) := (blk_cell BK109.out 2).trans rfl; have hfz4_0 := blk_frozen BK109.out 0; have hfz4_1 := blk_frozen BK109.out 1; have hfz4_2 := blk_frozen BK109.out 2)))
 (try simp only [Act.put, List.setIfInBounds_toArray, List.set_cons_zero, List.set_cons_succ])
 go_cut [4] (fun v4 wc => ∃ (kq : Nat) (x4_1 : Int), v4 = .int .i64 x4_1 ∧ Aside0 (rowcode_parts.j0 kq x4_1 (IntKind.u64.wrap (a0_1)) a0_0 a0_1 a0_2 = some (r1, r2)) ∧ Aside0 (kq ≤ k) ∧ Aside0 (wc.heap[gb109]? = some (.cells #[.int .i64 a0_0, .int .i64 a0_1, .string a0_2] 42 (0, 0))) ∧ Aside0 (Below w.heap.size w wc))
 case first =>
  have H := HC2.out
  clear HC2
  by_cases c5 : a0_1 < 0
  ·
   rw [if_pos c5] at H
   have c5b0 : decide (a0_1 < 0) = true := decide_eq_true c5
   clear c5
   (first | rw [c5b0] | (simp only [i64_w, i32_w]; rw [c5b0]) | skip)
   have H' := Aside0.mk H
   clear H
   go_wp2
   repeat ((with_reducible refine at_region ?_); go_quiet (fail); try go_wp2)
   go_meet
   case rel => exact ⟨_, ((-1)), (by first | rfl | (simp; done) | (simp [*]; done)), H', ⟨by first | omega | exact Nat.le_refl _⟩, ⟨by (with_reducible repeat (first | refine blk_drewN ?_ _ | refine blk_drew ?_ | refine blk_alloc ?_ _)); exact BK109.out⟩, ⟨by repeat (first | (with_reducible first | exact HB.out | apply below_alloc | apply pw_below_drewN | apply below_drew1 | refine below_set ?_ GE109.out) | exact HB.out)⟩⟩
  ·
   rw [if_neg c5] at H
   have c5b0 : decide (a0_1 < 0) = false := decide_eq_false c5
   clear c5
   (first | rw [c5b0] | (simp only [i64_w, i32_w]; rw [c5b0]) | skip)
   have H' := Aside0.mk H
   clear H
   go_wp2
   repeat ((with_reducible refine at_region ?_); go_quiet (fail); try go_wp2)
   go_meet
   case rel => exact ⟨_, (0), (by first | rfl | (simp; done) | (simp [*]; done)), H', ⟨by first | omega | exact Nat.le_refl _⟩, ⟨by (with_reducible repeat (first | refine blk_drewN ?_ _ | refine blk_drew ?_ | refine blk_alloc ?_ _)); exact BK109.out⟩, ⟨by repeat (first | (with_reducible first | exact HB.out | apply below_alloc | apply pw_below_drewN | apply below_drew1 | refine below_set ?_ GE109.out) | exact HB.out)⟩⟩
 case rest =>
  clear HC2
  (try clear p2); (try clear c5); (try clear c5b0); (try clear hcz4_0); (try clear hcz4_1); (try clear hcz4_2); (try clear hfz4_0); (try clear hfz4_1); (try clear hfz4_2)
  obtain ⟨kq, x4_1, rfl, HA, HJ1, BK109, HB⟩ := hcut
  cases kq with
  | zero => exact absurd HA.out (by simp [rowcode_parts.j0])
  | succ kj1 =>
   have H := HA.out
   clear HA
   simp only [rowcode_parts.j0] at H
   by_cases c6 : a0_0 = 1
   ·
    rw [if_pos c6] at H
    have c6b0 : (a0_0 == 1) = true := beq_iff_eq.mpr c6
    have c6b1 : (a0_0 != 1) = false := bne_eq_false_iff_eq.mpr c6
    clear c6
    replace H := Option.bind_eq_some_iff.mp H
    obtain ⟨⟨t110, t111⟩, A70, H⟩ := H
    replace H : (if a0_1 < 0 then (some (IntKind.u16.wrap (wrap64 ((wrap64 (IntKind.u64.wrap (t110 - 10000))) + 32768)), t111)) else (some (IntKind.u16.wrap (wrap64 ((wrap64 (t110)) + 32768)), t111))) = some (r1, r2) := H
    have A7 := Aside0.mk A70
    clear A70
    by_cases c8 : a0_1 < 0
    ·
     rw [if_pos c8] at H
     have c8b0 : decide (a0_1 < 0) = true := decide_eq_true c8
     clear c8
     simp only [Option.some.injEq, Prod.mk.injEq] at H
     obtain ⟨rfl, rfl⟩ := H
     have hcz9_0 : wc.cell? ⟨gb109, 0, none⟩ = some (.int .i64 a0_0) := (blk_cell BK109.out 0).trans rfl
     have hcz9_1 : wc.cell? ⟨gb109, 1, none⟩ = some (.int .i64 a0_1) := (blk_cell BK109.out 1).trans rfl
     have hcz9_2 : wc.cell? ⟨gb109, 2, none⟩ = some (.string a0_2) := (blk_cell BK109.out 2).trans rfl
     have hfz9_0 := blk_frozen BK109.out 0
     have hfz9_1 := blk_frozen BK109.out 1
     have hfz9_2 := blk_frozen BK109.out 2
     go_wp2_with (first | (go_at_call 85; (with_reducible refine (bits_Mul64.calls (IntKind.u64.wrap (a0_1)) 10000 t110 t111 _ A7.out).mono ?_); rintro e w' ⟨rfl, ⟨nd, rfl⟩⟩; (try first | exact ⟨rfl, _, World.drewN_drewN _ _ _⟩ | exact ⟨rfl, _, Eq.trans (World.drewN_drewN _ _ _) (congrArg (World.drewN _) (Nat.add_assoc _ _ _))⟩)))
     repeat ((with_reducible refine at_region ?_); go_quiet (first | (go_at_call 85; (with_reducible refine (bits_Mul64.calls (IntKind.u64.wrap (a0_1)) 10000 t110 t111 _ A7.out).mono ?_); rintro e w' ⟨rfl, ⟨nd, rfl⟩⟩; (try first | exact ⟨rfl, _, World.drewN_drewN _ _ _⟩ | exact ⟨rfl, _, Eq.trans (World.drewN_drewN _ _ _) (congrArg (World.drewN _) (Nat.add_assoc _ _ _))⟩))); try go_wp2_with (first | (go_at_call 85; (with_reducible refine (bits_Mul64.calls (IntKind.u64.wrap (a0_1)) 10000 t110 t111 _ A7.out).mono ?_); rintro e w' ⟨rfl, ⟨nd, rfl⟩⟩; (try first | exact ⟨rfl, _, World.drewN_drewN _ _ _⟩ | exact ⟨rfl, _, Eq.trans (World.drewN_drewN _ _ _) (congrArg (World.drewN _) (Nat.add_assoc _ _ _))⟩))))
     go_ret2
     exact ⟨by first | rfl | (simp [errW_none, errW_some] <;> rfl) | (simp [*, errW_none, errW_some] <;> rfl), by repeat (first | (with_reducible first | exact HB.out | apply below_alloc | apply pw_below_drewN | apply below_drew1 | refine below_set ?_ GE109.out) | exact HB.out)⟩
    ·
     rw [if_neg c8] at H
     have c8b0 : decide (a0_1 < 0) = false := decide_eq_false c8
     clear c8
     simp only [Option.some.injEq, Prod.mk.injEq] at H
     obtain ⟨rfl, rfl⟩ := H
     have hcz10_0 : wc.cell? ⟨gb109, 0, none⟩ = some (.int .i64 a0_0) := (blk_cell BK109.out 0).trans rfl
     have hcz10_1 : wc.cell? ⟨gb109, 1, none⟩ = some (.int .i64 a0_1) := (blk_cell BK109.out 1).trans rfl
     have hcz10_2 : wc.cell? ⟨gb109, 2, none⟩ = some (.string a0_2) := (blk_cell BK109.out 2).trans rfl
     have hfz10_0 := blk_frozen BK109.out 0
     have hfz10_1 := blk_frozen BK109.out 1
     have hfz10_2 := blk_frozen BK109.out 2
     go_wp2_with (first | (go_at_call 85; (with_reducible refine (bits_Mul64.calls (IntKind.u64.wrap (a0_1)) 10000 t110 t111 _ A7.out).mono ?_); rintro e w' ⟨rfl, ⟨nd, rfl⟩⟩; (try first | exact ⟨rfl, _, World.drewN_drewN _ _ _⟩ | exact ⟨rfl, _, Eq.trans (World.drewN_drewN _ _ _) (congrArg (World.drewN _) (Nat.add_assoc _ _ _))⟩)))
     repeat ((with_reducible refine at_region ?_); go_quiet (first | (go_at_call 85; (with_reducible refine (bits_Mul64.calls (IntKind.u64.wrap (a0_1)) 10000 t110 t111 _ A7.out).mono ?_); rintro e w' ⟨rfl, ⟨nd, rfl⟩⟩; (try first | exact ⟨rfl, _, World.drewN_drewN _ _ _⟩ | exact ⟨rfl, _, Eq.trans (World.drewN_drewN _ _ _) (congrArg (World.drewN _) (Nat.add_assoc _ _ _))⟩))); try go_wp2_with (first | (go_at_call 85; (with_reducible refine (bits_Mul64.calls (IntKind.u64.wrap (a0_1)) 10000 t110 t111 _ A7.out).mono ?_); rintro e w' ⟨rfl, ⟨nd, rfl⟩⟩; (try first | exact ⟨rfl, _, World.drewN_drewN _ _ _⟩ | exact ⟨rfl, _, Eq.trans (World.drewN_drewN _ _ _) (congrArg (World.drewN _) (Nat.add_assoc _ _ _))⟩))))
     go_ret2
     exact ⟨by first | rfl | (simp [errW_none, errW_some] <;> rfl) | (simp [*, errW_none, errW_some] <;> rfl), by repeat (first | (with_reducible first | exact HB.out | apply below_alloc | apply pw_below_drewN | apply below_drew1 | refine below_set ?_ GE109.out) | exact HB.out)⟩
   ·
    rw [if_neg c6] at H
    have c6b0 : (a0_0 == 1) = false := beq_eq_false_iff_ne.mpr c6
    have c6b1 : (a0_0 != 1) = true := bne_iff_ne.mpr c6
    simp only [Option.some.injEq, Prod.mk.injEq] at H
    obtain ⟨rfl, rfl⟩ := H
    have hcz11_0 : wc.cell? ⟨gb109, 0, none⟩ = some (.int .i64 a0_0) := (blk_cell BK109.out 0).trans rfl
    have hcz11_1 : wc.cell? ⟨gb109, 1, none⟩ = some (.int .i64 a0_1) := (blk_cell BK109.out 1).trans rfl
    have hcz11_2 : wc.cell? ⟨gb109, 2, none⟩ = some (.string a0_2) := (blk_cell BK109.out 2).trans rfl
    have hfz11_0 := blk_frozen BK109.out 0
    have hfz11_1 := blk_frozen BK109.out 1
    have hfz11_2 := blk_frozen BK109.out 2
    go_wp2
    repeat ((with_reducible refine at_region ?_); go_quiet (fail); try go_wp2)
    go_ret2
    exact ⟨by first | rfl | (simp [errW_none, errW_some] <;> rfl) | (simp [*, errW_none, errW_some] <;> rfl), by repeat (first | (with_reducible first | exact HB.out | apply below_alloc | apply pw_below_drewN | apply below_drew1 | refine below_set ?_ GE109.out) | exact HB.out)⟩
end Go.Proofs.YthghcpeedmconaaDoor.X
end
section
namespace Go.Proofs.YthghcpeedmconaaDoor.X
open Go.RowKit Go.Lib Go.Proofs.YthghcpeedmconaaDoorW.PrintWords Go.Proofs.YthghcpeedmconaaDoorW.PrintLast Go.Proofs.YthghcpeedmconaaDoorW.PrintMore
set_option linter.unusedVariables false
section
variable {P : Program}
theorem run_str_at (w : World) (base : Nat) (t u ty e : TypeId) (i : TypeInfo) (ht : P.underlying t = some (.slice e)) (hu : P.underlying u = some .string) (hi : P.info? e = some i) (hz : i.zero = some (.int .u8 0))
    (hsize : i.size = 1) (hby : i.bytes = 1) (v : Value) (n : Nat) (xs : List Value) (hown : w.ownsRow base e 1 v n xs) (s : ByteArray) (hbytes : n + s.size ≤ 140737488355328) (hbase : base ≤ w.heap.size) :
    ∃ v' w', (Builtin.append_ #[t, u] ty #[v, .string s]).run P w = .ok v' w' ∧ w'.ownsRow base e 1 v' (n + s.size) (xs ++ strCells s) ∧ w.grownBy w' v.ownBlock ∧
      (v'.ownBlock = none ∨ v'.ownBlock = v.ownBlock ∨ ∃ b, v'.ownBlock = some b ∧ w.heap.size ≤ b) := by
  obtain ⟨v', w', hr, h2, h3, h4⟩ := run_append_own_string (P := P) w base t u ty e i ht hu hi hz hsize hby v n xs hown s (by simp only [maxLen]; omega) hbytes hbase
  refine ⟨v', w', hr, h2, h3, ?_⟩
  rcases hown.2 with ⟨rfl, rfl⟩ | ⟨g, cap, cur, rfl, hbg, hg, hnc, hcm, hcs, htake⟩
  · have h5 := run_append_own_string (P := P) w w.heap.size t u ty e i ht hu hi hz hsize hby (.slice none 0 0) 0 [] (World.ownsRow_nil w _ e 1) s (by simp only [maxLen]; omega) hbytes (Nat.le_refl _)
    obtain ⟨v2, w2, hr2, k2, _, _⟩ := h5
    rw [hr] at hr2
    injection hr2 with e1 e2
    subst e1
    rcases k2.2 with ⟨hn, _⟩ | ⟨b, _, _, hv, hb, _⟩
    · left; rw [hn]; rfl
    · right; right; exact ⟨b, by rw [hv]; rfl, hb⟩
  · by_cases hroom : n + s.size ≤ cap
    · have hcs' : cur.size = cap := by simpa using hcs
      have hr2 := run_append_room_string (P := P) w t u ty e i ht hu hi hsize g n cap cur hg s hroom (by omega)
      rw [hr] at hr2
      injection hr2 with e1 e2
      right; left; rw [e1]; rfl
    · have holds : ∀ j u, xs[j]? = some u → w.cell? ((⟨g, 0, none⟩ : Addr).add j) = some u := hown.cells (g := g) rfl
      have hxl : xs.length = n := by simpa using hown.1
      have hr2 := run_append_grow_string (P := P) w t u ty e i (.int .u8 0) ht hu hi hz ⟨g, 0, none⟩ n cap xs (by rw [hsize]; simpa using hxl) holds s (by omega) (by omega) (by rw [hby]; exact growslice_fits (by omega) (by omega))
      rw [hr] at hr2
      injection hr2 with e1 e2
      right; right; exact ⟨w.heap.size, by rw [e1]; rfl, Nat.le_refl _⟩
end
section
variable {ops : Array Oper} {o : Oper} {a : Act} {Q : Exit → Act → World → Prop} {Kc : Act → World → Prop}
theorem R_append_str_step {w0 W : World} (base : Nat) (hw : Region.wanted o (yielded ops a.tmps) = true) (s x : Operand)
    (ho : o.op = .call { callee := .builtin .append, args := #[s, x], argTypes := #[47, 9] })
    (v : Value) (xs : List Int) (y : ByteArray) (ok : Nat → Prop) (hs : a.eval s = v) (hx : a.eval x = .string y)
    (HO : (Kd.int .u8).R 5 W base ok v xs) (hfresh : ∀ k, W.heap.size ≤ k → ok k) (HB : Below base w0 W) (hbase : base ≤ W.heap.size) (hl : xs.length + y.size ≤ 140737488355328)
    (h : ∀ v1 w1, (Kd.int .u8).R 5 w1 base ok v1 (xs ++ bytesOf y) → Below base w0 w1 → W.grownBy w1 v.ownBlock → Kc (a.put o.dst v1) w1) :
    if Region.wanted o (yielded ops a.tmps) = true then Oper.wp Tryd.prog o a W Kc Q else Kc (a.put o.dst undef) W := by
  obtain ⟨i0, hi, hzz⟩ := Option.map_eq_some_iff.1 (show (Tryd.prog.info? 5).map (fun i => (i.zero, i.size, i.bytes)) = some (some (.int .u8 0), 1, 1) by kernel_rfl)
  simp only [Prod.mk.injEq] at hzz
  obtain ⟨hz0, hz1, hz2⟩ := hzz
  have hown := Kd.own_of_R HO
  obtain ⟨v1, w1, hr, h2, h3, h4⟩ := run_str_at (P := Tryd.prog) W base 47 9 o.type 5 i0 Tryd.underlying47 Tryd.underlying9 hi hz0 hz1 hz2 v xs.length _ hown y hl hbase
  have hrun : (execOp a.eval o).run Tryd.prog W = .ok (.value v1) w1 := by
    unfold execOp
    simp only [ho, resolve, invoke, builtin, Sem.run_bind, Sem.run_pure, Result.andThen_ok, List.map_toArray, List.map_cons, List.map_nil, hs, hx, hr]
  refine event_step hw hrun (h v1 w1 ?_ (HB.grown h3 hbase (own_base hown)) h3)
  have hl2 : (xs ++ bytesOf y).length = xs.length + y.size := by rw [List.length_append, Go.Proofs.YthghcpeedmconaaDoorW.PrintWords.bytesOf_length]
  have hc : nums .u8 (xs ++ bytesOf y) = nums .u8 xs ++ Lib.strCells y := by
    rw [nums_append]
    refine congrArg (nums .u8 xs ++ ·) ?_
    unfold nums Go.Proofs.YthghcpeedmconaaDoorW.PrintWords.bytesOf Lib.strCells
    rw [List.map_map]
    rfl
  have h2' : w1.ownsRow base 5 1 v1 (xs ++ bytesOf y).length (encs (Value.int .u8) (xs ++ bytesOf y)) := by
    rw [hl2]
    show w1.ownsRow base 5 1 v1 (xs.length + y.size) (nums .u8 (xs ++ bytesOf y))
    rw [hc]
    exact h2
  refine Kd.R_of_own h2' (fun k hk => ?_)
  rcases h4 with h4 | h4 | ⟨b, h4, h5⟩
  · rw [h4] at hk; cases hk
  · rw [h4] at hk; exact HO.1 k hk
  · rw [h4] at hk; injection hk with hk; subst hk; exact hfresh _ h5
end
end Go.Proofs.YthghcpeedmconaaDoor.X
end
section
namespace Go.Proofs.YthghcpeedmconaaDoor.X
open Go.RowKit Go.Proofs.YthghcpeedmconaaDoorW.PrintWords Go.Proofs.YthghcpeedmconaaDoorW.PrintLast Go.Proofs.YthghcpeedmconaaDoorW.PrintMore
attribute [local go_sem] max2_int min2_int max_two min_two max_three min_three max_four min_four
set_option linter.unusedVariables false
set_option linter.unusedSimpArgs false
mutual
def rowcode_appended.j0 : Nat → List Int → Int → Bool → Int → Int → ByteArray → Option (List Int)
 | 0, _, _, _, _, _, _ => none
 | k + 1, x0, x9, x10, x113000, x113001, x113002 => if x10 = true then ((rowcode_parts.f k x113000 x113001 x113002).bind fun bt113 => ((some (([2, (bt113.1 / 256) % 256, (bt113.1) % 256] : List Int) : List Int)).bind fun y115 => (if x0.length + y115.length < 140737488355328 then (rowcode_appended.l0 k (x0 ++ y115) bt113.2 56 x113000 x113001 x113002) else (none)))) else (if x9 = 3 then (if x0.length < 140737488355328 then ((some (x0 ++ [3] : List Int)).bind fun y127 => ((strings_ReplaceAll.f x113002 (⟨#[0]⟩ : ByteArray) (⟨#[0, 255]⟩ : ByteArray)).bind fun t130 => (if y127.length + t130.size < 140737488355328 then ((some (y127 ++ bytesOf t130 : List Int)).bind fun y131 => ((some (([0, 0] : List Int) : List Int)).bind fun y134 => (if y131.length + y134.length < 140737488355328 then (some (y131 ++ y134)) else (none)))) else (none)))) else (none)) else (if x9 = 4 then ((some (([4, (x113001) % 256] : List Int) : List Int)).bind fun y140 => (if x0.length + y140.length < 140737488355328 then (some (x0 ++ y140)) else (none))) else (if x0.length < 140737488355328 then (some (x0 ++ [1])) else (none))))
def rowcode_appended.l0 : Nat → List Int → Int → Int → Int → Int → ByteArray → Option (List Int)
 | 0, _, _, _, _, _, _ => none
 | k + 1, x0, x6, x7, x113000, x113001, x113002 => if x7 ≥ 0 then (if 0 ≤ x7 then (if x0.length < 140737488355328 then (rowcode_appended.l0 k (x0 ++ [(shr .u64 x6 x7) % 256]) x6 (wrap64 (x7 - 8)) x113000 x113001 x113002) else (none)) else (none)) else (if x0.length < 140737488355328 then (some (x0 ++ [(x113000) % 256])) else (none))
end
def rowcode_appended.f (k : Nat) (l0 : List Int) (a1_0 : Int) (a1_1 : Int) (a1_2 : ByteArray) : Option (List Int) := if a1_0 = 1 then (rowcode_appended.j0 k l0 a1_0 (a1_0 == 1) a1_0 a1_1 a1_2) else (rowcode_appended.j0 k l0 a1_0 (a1_0 == 2) a1_0 a1_1 a1_2)
def rowcode_appended.T12 : Bool × List (List Nat × List Nat) := (true, [([], []), ([], []), ([0, 1], [0, 1]), ([], []), ([3], [3]), ([4, 2], [4]), ([2, 5, 5], [2, 5]), ([6, 6, 0, 1, 2, 3, 4, 5, 6], [0, 6])])
def rowcode_appended.B12 : List Nat := [0, 0, 3, 0, 8, 31, 63, 127]
theorem rowcode_appended.tab12 : rtab .any (opsOf Tryd.f48 12) = rowcode_appended.T12 := by kernel_rfl
theorem rowcode_appended.bits12 : waitsOk rowcode_appended.T12.2 rowcode_appended.B12 = true := by kernel_rfl
theorem rowcode_appended.mono_l : ∀ k, (∀ y0 y1 y2 y3 y4 y5, LeO (rowcode_appended.j0 k y0 y1 y2 y3 y4 y5) (rowcode_appended.j0 (k + 1) y0 y1 y2 y3 y4 y5)) ∧ (∀ y0 y1 y2 y3 y4 y5, LeO (rowcode_appended.l0 k y0 y1 y2 y3 y4 y5) (rowcode_appended.l0 (k + 1) y0 y1 y2 y3 y4 y5))
 | 0 => ⟨fun _ _ _ _ _ _ r h => by simp [rowcode_appended.j0] at h, fun _ _ _ _ _ _ r h => by simp [rowcode_appended.l0] at h⟩
 | k + 1 => by
  obtain ⟨ih0, ih1⟩ := rowcode_appended.mono_l k
  refine ⟨?_, ?_⟩
  ·
   intro y0 y1 y2 y3 y4 y5
   unfold rowcode_appended.j0
   repeat' first
   | (with_reducible exact ih0 _ _ _ _ _ _)
   | (with_reducible exact ih1 _ _ _ _ _ _)
   | (with_reducible exact rowcode_parts.mono _ _ _ _)
   | (with_reducible exact LeO.refl _)
   | (with_reducible exact LeO.none _)
   | (with_reducible refine LeO.ite ?_ ?_)
   | (with_reducible refine LeO.bind ?_ (fun _ => ?_))
   | exact ih0 _ _ _ _ _ _
   | exact ih1 _ _ _ _ _ _
   | exact rowcode_parts.mono _ _ _ _
   | exact LeO.none _
   | refine LeO.ite ?_ ?_
   | refine LeO.bind ?_ (fun _ => ?_)
  ·
   intro y0 y1 y2 y3 y4 y5
   unfold rowcode_appended.l0
   repeat' first
   | (with_reducible exact ih0 _ _ _ _ _ _)
   | (with_reducible exact ih1 _ _ _ _ _ _)
   | (with_reducible exact rowcode_parts.mono _ _ _ _)
   | (with_reducible exact LeO.refl _)
   | (with_reducible exact LeO.none _)
   | (with_reducible refine LeO.ite ?_ ?_)
   | (with_reducible refine LeO.bind ?_ (fun _ => ?_))
   | exact ih0 _ _ _ _ _ _
   | exact ih1 _ _ _ _ _ _
   | exact rowcode_parts.mono _ _ _ _
   | exact LeO.none _
   | refine LeO.ite ?_ ?_
   | refine LeO.bind ?_ (fun _ => ?_)
theorem rowcode_appended.mono : ∀ a0 a1 a2 a3 k, LeO (rowcode_appended.f k a0 a1 a2 a3) (rowcode_appended.f (k + 1) a0 a1 a2 a3) := by
 intro a0 a1 a2 a3 k
 obtain ⟨ih0, ih1⟩ := rowcode_appended.mono_l k
 unfold rowcode_appended.f
 repeat' first
   | (with_reducible exact ih0 _ _ _ _ _ _)
   | (with_reducible exact ih1 _ _ _ _ _ _)
   | (with_reducible exact rowcode_parts.mono _ _ _ _)
   | (with_reducible exact LeO.refl _)
   | (with_reducible exact LeO.none _)
   | (with_reducible refine LeO.ite ?_ ?_)
   | (with_reducible refine LeO.bind ?_ (fun _ => ?_))
   | exact ih0 _ _ _ _ _ _
   | exact ih1 _ _ _ _ _ _
   | exact rowcode_parts.mono _ _ _ _
   | exact LeO.none _
   | refine LeO.ite ?_ ?_
   | refine LeO.bind ?_ (fun _ => ?_)
set_option maxHeartbeats 8000000 in
set_option maxRecDepth 100000 in
theorem rowcode_appended.calls (k : Nat) (P0_ : Nat → Prop) (u9000_ : Value) (l0 : List Int) (a1_0 : Int) (a1_1 : Int) (a1_2 : ByteArray) (r : List Int) (w0 w : World) (hT : Tabs w0) (hB : Below w0.heap.size w0 w) (ho0 : Kd.R (Kd.int .u8) 5 w w0.heap.size P0_ u9000_ l0) (h : rowcode_appended.f k l0 a1_0 a1_1 a1_2 = some r) :
  Calls Tryd.prog 48 #[u9000_, .agg #[.int .i64 a1_0, .int .i64 a1_1, .string a1_2]] w fun e w' => ∃ v0_ : Value, e = .returned (v0_) ∧ Kd.R (Kd.int .u8) 5 w' w0.heap.size (fun k_ => (P0_ k_ ∨ w.heap.size ≤ k_)) v0_ r ∧ Below w0.heap.size w0 w' ∧ Kept w w' (fun k_ => P0_ k_) := by
 have hu42 := Tryd.underlying42
 have HT := Aside0.mk hT
 clear hT
 have HO0 := Aside0.mk (show Kd.R (Kd.int .u8) 5 w w0.heap.size (fun k_ => (P0_ k_ ∨ w.heap.size ≤ k_)) u9000_ l0 from Kd.R_mono ho0 (fun k_ hk => (.inl hk)))
 have HK := Aside0.mk (Kept.refl w (fun k_ => P0_ k_))
 have HW0 := Aside0.mk hB.size
 have HB := Aside0.mk hB
 clear hB
 have H : (if a1_0 = 1 then (rowcode_appended.j0 k l0 a1_0 (a1_0 == 1) a1_0 a1_1 a1_2) else (rowcode_appended.j0 k l0 a1_0 (a1_0 == 2) a1_0 a1_1 a1_2)) = some r := h
 clear h
 have HC3 := Aside0.mk H
 clear H
 go_enter Tryd.func48, Tryd.ntmps48
 go_upto_if 10 with (first | ((with_reducible refine gate_dst (N := 3) rfl ?_); refine box_event ?hg (N := 3) ?hd (cs := #[.int .i64 a1_0, .int .i64 a1_1, .string a1_2]) (t := 42) ?hr ?_; (case hd => rfl); (case hg => rfl); (case hr => first | (go_simp; done) | (go_simp; rfl)); intro gb112 hg w4 hbox hb; have n0_ := Aside0.mk (Kd.R_below (by (with_reducible repeat (first | apply Kd.R_alloc | apply Kd.R_drewN | apply Kd.R_drew)); exact HO0.out) hb); have n1_ := Aside0.mk (Kept.below (S := (fun k_ => P0_ k_)) (by repeat (first | (with_reducible first | exact HK.out | apply Kept.alloc | apply Kept.drewN | apply Kept.drew) | exact HK.out)) hb); have n2_ := Aside0.mk (below_step (by repeat (first | (with_reducible first | exact HB.out | apply below_alloc | apply pw_below_drewN | apply below_drew1) | exact HB.out)) hb); have n3_ := Aside0.mk (hbox); have n4_ := Aside0.mk ((by rw [hg]; exact (by first | exact HK.out.1 | exact (show Kept w _ (fun k_ => P0_ k_) from by repeat (first | (with_reducible first | exact HK.out | apply Kept.alloc | apply Kept.drewN | apply Kept.drew) | exact HK.out)).1) : w.heap.size ≤ gb112)); have n5_ := Aside0.mk ((by rw [hg]; exact (below_size (by repeat (first | (with_reducible first | exact HB.out | apply below_alloc | apply pw_below_drewN | apply below_drew1) | exact HB.out))) : w0.heap.size ≤ gb112)); clear HO0; clear HK; clear HB; have HO0 := n0_; have HK := n1_; have HB := n2_; have BK112 := n3_; have GW112 := n4_; have GE112 := n5_; clear n0_ n1_ n2_ n3_ n4_ n5_; clear hb hbox hg; have hcz5_0 : w4.cell? ⟨gb112, 0, none⟩ = some (.int .i64 a1_0) := (blk_cell BK112.out 0).trans rfl; have hcz5_1 : w4.cell? ⟨gb112, 1, none⟩ = some (.int .i64 a1_1) := (blk_cell BK112.out 1).trans rfl; have hcz5_2 : w4.cell? ⟨gb112, 2, none⟩ = some (.string a1_2) := (blk_cell BK112.out 2).trans rfl; have hfz5_0 := blk_frozen BK112.out 0; have hfz5_1 := blk_frozen BK112.out 1; have hfz5_2 := blk_frozen BK112.out 2))
 (try simp only [Act.put, List.setIfInBounds_toArray, List.set_cons_zero, List.set_cons_succ])
 go_cut [10] (fun v10 wc => ∃ (kq : Nat) (x10_2 : Bool), v10 = .bool x10_2 ∧ Aside0 (rowcode_appended.j0 kq l0 a1_0 x10_2 a1_0 a1_1 a1_2 = some r) ∧ Aside0 (kq ≤ k) ∧ Aside0 (Kd.R (Kd.int .u8) 5 wc w0.heap.size (fun k_ => (P0_ k_ ∨ w.heap.size ≤ k_)) u9000_ l0) ∧ Aside0 (wc.heap[gb112]? = some (.cells #[.int .i64 a1_0, .int .i64 a1_1, .string a1_2] 42 (0, 0))) ∧ Aside0 (Kept w wc (fun k_ => P0_ k_)) ∧ Aside0 (Below w0.heap.size w0 wc))
 case first =>
  have H := HC3.out
  clear HC3
  by_cases c6 : a1_0 = 1
  ·
   rw [if_pos c6] at H
   have c6b0 : (a1_0 == 1) = true := beq_iff_eq.mpr c6
   have c6b1 : (a1_0 != 1) = false := bne_eq_false_iff_eq.mpr c6
   clear c6
   (first | rw [c6b0] | (simp only [i64_w, i32_w]; rw [c6b0]) | skip)
   have H' := Aside0.mk H
   clear H
   go_wp2
   go_meet
   case rel => exact ⟨_, ((a1_0 == 1)), (by first | with_reducible rfl | (simp; done) | (simp [*]; done) | rfl), H', ⟨by first | omega | exact Nat.le_refl _⟩, ⟨by (with_reducible repeat (first | apply Kd.R_alloc | apply Kd.R_drewN | apply Kd.R_drew)); exact HO0.out⟩, ⟨by (with_reducible repeat (first | refine blk_drewN ?_ _ | refine blk_drew ?_ | refine blk_alloc ?_ _)); exact BK112.out⟩, ⟨by repeat (first | (with_reducible first | exact HK.out | apply Kept.alloc | apply Kept.drewN | apply Kept.drew | refine Kept.setCell ?_ (.inr GW112.out) _) | exact HK.out)⟩, ⟨by repeat (first | (with_reducible first | exact HB.out | apply below_alloc | apply pw_below_drewN | apply below_drew1 | refine below_set ?_ GE112.out) | exact HB.out)⟩⟩
  ·
   rw [if_neg c6] at H
   have c6b0 : (a1_0 == 1) = false := beq_eq_false_iff_ne.mpr c6
   have c6b1 : (a1_0 != 1) = true := bne_iff_ne.mpr c6
   (first | rw [c6b0] | (simp only [i64_w, i32_w]; rw [c6b0]) | skip)
   have H' := Aside0.mk H
   clear H
   go_wp2
   go_meet
   case rel => exact ⟨_, ((a1_0 == 2)), (by first | with_reducible rfl | (simp; done) | (simp [*]; done) | rfl), H', ⟨by first | omega | exact Nat.le_refl _⟩, ⟨by (with_reducible repeat (first | apply Kd.R_alloc | apply Kd.R_drewN | apply Kd.R_drew)); exact HO0.out⟩, ⟨by (with_reducible repeat (first | refine blk_drewN ?_ _ | refine blk_drew ?_ | refine blk_alloc ?_ _)); exact BK112.out⟩, ⟨by repeat (first | (with_reducible first | exact HK.out | apply Kept.alloc | apply Kept.drewN | apply Kept.drew | refine Kept.setCell ?_ (.inr GW112.out) _) | exact HK.out)⟩, ⟨by repeat (first | (with_reducible first | exact HB.out | apply below_alloc | apply pw_below_drewN | apply below_drew1 | refine below_set ?_ GE112.out) | exact HB.out)⟩⟩
 case rest =>
  clear HC3
  (try clear p2); (try clear c4); (try clear c6); (try clear c6b0); (try clear c6b1); (try clear hcz5_0); (try clear hcz5_1); (try clear hcz5_2); (try clear hfz5_0); (try clear hfz5_1); (try clear hfz5_2)
  obtain ⟨kq, x10_2, rfl, HA, HJ2, HO_0, BK112, HK, HB⟩ := hcut
  cases kq with
  | zero => exact absurd HA.out (by simp [rowcode_appended.j0])
  | succ kj2 =>
   have H := HA.out
   clear HA
   simp only [rowcode_appended.j0] at H
   by_cases c7 : x10_2 = true
   ·
    subst c7
    have H1 : ((rowcode_parts.f kj2 a1_0 a1_1 a1_2).bind fun bt113 => ((some (([2, (bt113.1 / 256) % 256, (bt113.1) % 256] : List Int) : List Int)).bind fun y115 => (if l0.length + y115.length < 140737488355328 then (rowcode_appended.l0 kj2 (l0 ++ y115) bt113.2 56 a1_0 a1_1 a1_2) else (none)))) = some r := by rw [if_pos rfl] at H; exact H
    clear H
    have H := H1
    clear H1
    replace H := Option.bind_eq_some_iff.mp H
    obtain ⟨⟨t113, t114⟩, A80, H⟩ := H
    replace H : ((some (([2, (t113 / 256) % 256, (t113) % 256] : List Int) : List Int)).bind fun y115 => (if l0.length + y115.length < 140737488355328 then (rowcode_appended.l0 kj2 (l0 ++ y115) t114 56 a1_0 a1_1 a1_2) else (none))) = some r := H
    have A8 := Aside0.mk A80
    clear A80
    obtain ⟨y115, hy115⟩ : ∃ y_ : List Int, y_ = (([2, (t113 / 256) % 256, (t113) % 256] : List Int)) := ⟨_, rfl⟩
    replace H : (if l0.length + y115.length < 140737488355328 then (rowcode_appended.l0 kj2 (l0 ++ y115) t114 56 a1_0 a1_1 a1_2) else (none)) = some r := by first | (rw [hy115]; with_reducible exact H) | (have H2_ := (Option.bind_some _ _).symm.trans H; rw [hy115]; with_reducible exact H2_) | (have H2_ := (Option.bind_some _ _).symm.trans H; with_reducible exact H2_) | with_reducible exact H | (rw [hy115]; exact H) | exact H
    have Ny115 := Aside0.mk hy115
    clear hy115
    by_cases c9 : l0.length + y115.length < 140737488355328
    ·
     rw [if_pos c9] at H
     have LMc9 := Aside0.mk c9
     clear c9
     obtain ⟨y118, hy118⟩ : ∃ y_ : List Int, y_ = (l0 ++ y115) := ⟨_, rfl⟩
     replace H : (rowcode_appended.l0 kj2 y118 t114 56 a1_0 a1_1 a1_2) = some r := by first | (rw [hy118]; with_reducible exact H) | (have H2_ := (Option.bind_some _ _).symm.trans H; rw [hy118]; with_reducible exact H2_) | (have H2_ := (Option.bind_some _ _).symm.trans H; with_reducible exact H2_) | with_reducible exact H | (rw [hy118]; exact H) | exact H
     have Ny118 := Aside0.mk hy118
     clear hy118
     have H' := Aside0.mk H
     clear H
     have hcz10_0 : wc.cell? ⟨gb112, 0, none⟩ = some (.int .i64 a1_0) := (blk_cell BK112.out 0).trans rfl
     have hcz10_1 : wc.cell? ⟨gb112, 1, none⟩ = some (.int .i64 a1_1) := (blk_cell BK112.out 1).trans rfl
     have hcz10_2 : wc.cell? ⟨gb112, 2, none⟩ = some (.string a1_2) := (blk_cell BK112.out 2).trans rfl
     have hfz10_0 := blk_frozen BK112.out 0
     have hfz10_1 := blk_frozen BK112.out 1
     have hfz10_2 := blk_frozen BK112.out 2
     go_wp2_with (first | ((with_reducible refine gate_callee (f := 67) rfl ?_); refine goesL_ (some 15) rfl rfl Tryd.func67 (by kernel_rfl) rfl #[.agg #[.int .i64 a1_0, .int .i64 a1_1, .string a1_2]] rfl (by (try simp only [List.map_toArray, List.map_cons, List.map_nil]); first | done | rfl | (simp only [List.length_drop, List.length_take]; rfl)) ?_; (with_reducible refine (rowcode_parts.calls kj2 a1_0 a1_1 a1_2 t113 t114 _ A8.out).mono ?_); rintro e w11 ⟨rfl, hb⟩; refine ⟨_, rfl, ?_⟩; have n0_ := Aside0.mk (Kd.R_below (by (with_reducible repeat (first | apply Kd.R_alloc | apply Kd.R_drewN | apply Kd.R_drew)); exact HO_0.out) hb); have n1_ := Aside0.mk (blk_below (g := gb112) (o := .cells #[.int .i64 a1_0, .int .i64 a1_1, .string a1_2] 42 (0, 0)) (by (with_reducible repeat (first | refine blk_drewN ?_ _ | refine blk_drew ?_ | refine blk_alloc ?_ _)); exact BK112.out) hb); have n2_ := Aside0.mk (Kept.below (S := (fun k_ => P0_ k_)) (by repeat (first | (with_reducible first | exact HK.out | apply Kept.alloc | apply Kept.drewN | apply Kept.drew | refine Kept.setCell ?_ (.inr GW112.out) _) | exact HK.out)) hb); have n3_ := Aside0.mk (below_step (by repeat (first | (with_reducible first | exact HB.out | apply below_alloc | apply pw_below_drewN | apply below_drew1 | refine below_set ?_ GE112.out) | exact HB.out)) hb); clear HO_0; clear BK112; clear HK; clear HB; have HO_0 := n0_; have BK112 := n1_; have HK := n2_; have HB := n3_; clear n0_ n1_ n2_ n3_; (try clear hb); (try clear hb2); (try clear hk); (try clear hi)) | ((with_reducible refine gate_dst (N := 24) rfl ?_); refine Kd.R_lit (Kd.int .u8) _ 5 ?hg (N := 24) ?hd (xs := ([2, (t113 / 256) % 256, (t113) % 256] : List Int)) (inner := [.int .u8 2, .int .u8 ((t113 / 256) % 256), .int .u8 ((t113) % 256)]) (ok := fun _ => True) (okp := fun _ => True) ?hr ?hp (fun _ hk => hk) trivial (Below.refl _ _) (Nat.le_refl _) (by simp) ?_; (case hd => rfl); (case hg => rfl); (case hr => first | (go_simp; done) | (go_simp; rfl)); (case hp => exact (Reps.one (show Kd.M (Kd.int .u8) _ _ _ 2 [.int .u8 2] from rfl) (Reps.one (show Kd.M (Kd.int .u8) _ _ _ ((t113 / 256) % 256) [.int .u8 ((t113 / 256) % 256)] from rfl) (Reps.one (show Kd.M (Kd.int .u8) _ _ _ ((t113) % 256) [.int .u8 ((t113) % 256)] from rfl) (Reps.none _ _))))); intro v116 w12 ho13 hb hg_ hnew_; clear hg_ hnew_; (first | rw [← Ny115.out] at ho13 | (simp only [Int.reduceToNat] at ho13; rw [← Ny115.out] at ho13)); have n0_ := Aside0.mk (Kd.R_elder' (by (with_reducible repeat (first | apply Kd.R_alloc | apply Kd.R_drewN | apply Kd.R_drew)); exact HO_0.out) (Kd.R_base ho13) hb); have n1_ := Aside0.mk (Kd.R_lower (Kd.R_new' (Kd.R_newM (M := fun k_ => (P0_ k_ ∨ w.heap.size ≤ k_)) ho13 (by first | exact HK.out.1 | exact (show Kept w _ (fun k_ => P0_ k_) from by repeat (first | (with_reducible first | exact HK.out | apply Kept.alloc | apply Kept.drewN | apply Kept.drew | refine Kept.setCell ?_ (.inr GW112.out) _) | exact HK.out)).1) (fun k_ h_ => .inr h_)) (Kd.R_lt (by (with_reducible repeat (first | apply Kd.R_alloc | apply Kd.R_drewN | apply Kd.R_drew)); exact HO_0.out))) (below_size (by repeat (first | (with_reducible first | exact HB.out | apply below_alloc | apply pw_below_drewN | apply below_drew1 | refine below_set ?_ GE112.out) | exact HB.out)))); have n2_ := Aside0.mk (blk_below (g := gb112) (o := .cells #[.int .i64 a1_0, .int .i64 a1_1, .string a1_2] 42 (0, 0)) (by (with_reducible repeat (first | refine blk_drewN ?_ _ | refine blk_drew ?_ | refine blk_alloc ?_ _)); exact BK112.out) hb); have n3_ := Aside0.mk (Kept.below (S := (fun k_ => P0_ k_)) (by repeat (first | (with_reducible first | exact HK.out | apply Kept.alloc | apply Kept.drewN | apply Kept.drew | refine Kept.setCell ?_ (.inr GW112.out) _) | exact HK.out)) hb); have n4_ := Aside0.mk (below_step (by repeat (first | (with_reducible first | exact HB.out | apply below_alloc | apply pw_below_drewN | apply below_drew1 | refine below_set ?_ GE112.out) | exact HB.out)) hb); clear HO_0; clear BK112; clear HK; clear HB; have HO_0 := n0_; have HO117 := n1_; have BK112 := n2_; have HK := n3_; have HB := n4_; clear n0_ n1_ n2_ n3_ n4_; clear hb ho13; obtain ⟨Ao15, co15, eo15⟩ := Kd.R_slice HO117.out; subst eo15) | ((with_reducible refine gate_builtin (b := .append) (xs := #[.tmp 18, .tmp 24]) rfl ?_); at_builtin; refine Kd.R_append_rows (Kd.int .u8) (w0 := w0) w0.heap.size rfl (.tmp 18) (.tmp 24) 47 5 (.int .u8 0) 1 rfl Tryd.underlying47 info5 rfl (by decide) (by omega) u9000_ l0 y115 _ _ _ (fun k_ => (P0_ k_ ∨ w.heap.size ≤ k_) ∧ some k_ ≠ (.slice Ao15 y115.length co15 : Value).ownBlock) (fun _ => False) rfl rfl ?aO ?aR (fun _ _ h => h) (fun _ h => h.elim) ?aF ?aB ?aS ?aL ?_; (case aR => repeat (first | exact (Kd.R_reads' HO117.out).2.2 | (with_reducible refine Kd.C_alloc ?_ _) | (with_reducible refine Kd.C_drewN ?_ _) | (with_reducible refine Kd.C_drew ?_))); (case aB => exact (by repeat (first | (with_reducible first | exact HB.out | apply below_alloc | apply pw_below_drewN | apply below_drew1 | refine below_set ?_ GE112.out) | exact HB.out))); (case aF => exact (fun k_ hk => ⟨(.inr (Nat.le_trans (by first | exact HK.out.1 | exact (show Kept w _ (fun k_ => P0_ k_) from by repeat (first | (with_reducible first | exact HK.out | apply Kept.alloc | apply Kept.drewN | apply Kept.drew | refine Kept.setCell ?_ (.inr GW112.out) _) | exact HK.out)).1) hk)), Kd.fresh' (Kd.R_lt (by (with_reducible repeat (first | apply Kd.R_alloc | apply Kd.R_drewN | apply Kd.R_drew)); exact HO117.out)) k_ hk⟩)); (case aO => exact (by (with_reducible repeat (first | apply Kd.R_alloc | apply Kd.R_drewN | apply Kd.R_drew)); exact HO_0.out)); (case aS => exact (below_size (by repeat (first | (with_reducible first | exact HB.out | apply below_alloc | apply pw_below_drewN | apply below_drew1 | refine below_set ?_ GE112.out) | exact HB.out)))); (case aL => have := LMc9.out; omega); intro v119 w14 ho hb hg hat; rw [← Ny118.out] at ho; have n0_ := Aside0.mk (blk_grown (g := gb112) (o := .cells #[.int .i64 a1_0, .int .i64 a1_1, .string a1_2] 42 (0, 0)) (by (with_reducible repeat (first | refine blk_drewN ?_ _ | refine blk_drew ?_ | refine blk_alloc ?_ _)); exact BK112.out) hg (Kd.R_ne HO_0.out BK112.out (by decide))); have n1_ := Aside0.mk (Kd.R_after (ok := (fun k_ => (P0_ k_ ∨ w.heap.size ≤ k_))) (by (with_reducible repeat (first | apply Kd.R_alloc | apply Kd.R_drewN | apply Kd.R_drew)); exact Kd.R_mono HO117.out (fun _ hk => ⟨hk.1.1, hk.2⟩)) hg hat); have n2_ := Aside0.mk (hb); have n3_ := Aside0.mk (Kept.of_grown (S := (fun k_ => P0_ k_)) hg (by repeat (first | (with_reducible first | exact HK.out | apply Kept.alloc | apply Kept.drewN | apply Kept.drew | refine Kept.setCell ?_ (.inr GW112.out) _) | exact HK.out)) (fun k_ e_ => (HO_0.out.1 k_ e_).1)); have n4_ := Aside0.mk (ho); clear BK112; clear HO117; clear HB; clear HK; clear HO_0; have BK112 := n0_; have HO117 := n1_; have HB := n2_; have HK := n3_; have HO120 := n4_; clear n0_ n1_ n2_ n3_ n4_; clear ho hb hg hat))
     go_loopg [0, 7] kj2 (fun kq v0 v7 w' => ∃ (x0_2 : List Int) (x7_2 : Int), v7 = .int .i64 x7_2 ∧ Aside0 (rowcode_appended.l0 kq x0_2 t114 x7_2 a1_0 a1_1 a1_2 = some r) ∧ Aside0 (kq ≤ kj2) ∧ Aside0 (Kd.R (Kd.int .u8) 5 w' w0.heap.size (fun k_ => (P0_ k_ ∨ w.heap.size ≤ k_)) v0 x0_2) ∧ Aside0 (w'.heap[gb112]? = some (.cells #[.int .i64 a1_0, .int .i64 a1_1, .string a1_2] 42 (0, 0))) ∧ Aside0 (Kept w w' (fun k_ => P0_ k_)) ∧ Aside0 (Below w0.heap.size w0 w'))
     case atStart => exact ⟨(y118), (56), (by first | rfl | (simp; done) | (simp [*]; done)), H', ⟨Nat.le_refl _⟩, ⟨by (with_reducible repeat (first | apply Kd.R_alloc | apply Kd.R_drewN | apply Kd.R_drew)); exact Kd.R_mono HO120.out (fun _ hk => hk.1)⟩, ⟨by (with_reducible repeat (first | refine blk_drewN ?_ _ | refine blk_drew ?_ | refine blk_alloc ?_ _)); exact BK112.out⟩, ⟨by repeat (first | (with_reducible first | exact HK.out | apply Kept.alloc | apply Kept.drewN | apply Kept.drew | refine Kept.setCell ?_ (.inr GW112.out) _) | exact HK.out)⟩, ⟨by repeat (first | (with_reducible first | exact HB.out | apply below_alloc | apply pw_below_drewN | apply below_drew1 | refine below_set ?_ GE112.out) | exact HB.out)⟩⟩
     case round =>
      clear H'
      (try clear p2); (try clear c4); (try clear c6); (try clear c6b0); (try clear c6b1); (try clear c7); (try clear c9); (try clear hcz10_0); (try clear hcz10_1); (try clear hcz10_2); (try clear hcz5_0); (try clear hcz5_1); (try clear hcz5_2); (try clear hfz10_0); (try clear hfz10_1); (try clear hfz10_2); (try clear hfz5_0); (try clear hfz5_1); (try clear hfz5_2); (try clear p2)
      obtain ⟨x0_2, x7_2, rfl, HA, HK2, HO_0, BK112, HK, HB⟩ := hrel
      cases gk with
      | zero => exact absurd HA.out (by simp [rowcode_appended.l0])
      | succ k2 =>
       have H := HA.out
       clear HA
       simp only [rowcode_appended.l0] at H
       by_cases c16 : x7_2 ≥ 0
       ·
        rw [if_pos c16] at H
        have c16b0 : decide (0 ≤ x7_2) = true := decide_eq_true c16
        clear c16
        by_cases c17 : 0 ≤ x7_2
        ·
         rw [if_pos c17] at H
         have c17b0 := eq_true c17
         have c17b1 : decide (0 ≤ x7_2) = true := decide_eq_true c17
         clear c17
         obtain ⟨ji18, hji18⟩ : ∃ j_ : Int, (shr .u64 t114 x7_2) = j_ := ⟨_, rfl⟩
         replace H : (if x0_2.length < 140737488355328 then (rowcode_appended.l0 k2 (x0_2 ++ [(ji18) % 256]) t114 (wrap64 (x7_2 - 8)) a1_0 a1_1 a1_2) else (none)) = some r := by first | (rw [hji18] at H; exact H) | (simp only [hji18] at H ⊢; exact H)
         have hji18_ : (t114 / 2 ^ min x7_2.toNat 64) = ji18 := hji18
         have hji18z : x7_2 ≤ 64 → (t114 / 2 ^ x7_2.toNat) = ji18 := shr_small hji18
         by_cases c19 : x0_2.length < 140737488355328
         ·
          rw [if_pos c19] at H
          have LMc19 := Aside0.mk c19
          clear c19
          obtain ⟨y121, hy121⟩ : ∃ y_ : List Int, y_ = (x0_2 ++ [(ji18) % 256]) := ⟨_, rfl⟩
          replace H : (rowcode_appended.l0 k2 y121 t114 (wrap64 (x7_2 - 8)) a1_0 a1_1 a1_2) = some r := by first | (rw [hy121]; with_reducible exact H) | (have H2_ := (Option.bind_some _ _).symm.trans H; rw [hy121]; with_reducible exact H2_) | (have H2_ := (Option.bind_some _ _).symm.trans H; with_reducible exact H2_) | with_reducible exact H | (rw [hy121]; exact H) | exact H
          have Ny121 := Aside0.mk hy121
          clear hy121
          have H' := Aside0.mk H
          clear H
          go_wp2_with (first | ((with_reducible refine gate_builtin (b := .append) (xs := #[.tmp 30, .tmp 35]) rfl ?_); at_builtin; refine Kd.R_append (Kd.int .u8) (w0 := w0) w0.heap.size rfl (.tmp 30) (.tmp 35) 47 5 (.int .u8 0) 1 rfl Tryd.underlying47 info5 rfl (by decide) (by omega) u0 x0_2 ((ji18) % 256) [.int .u8 ((ji18) % 256)] (fun k_ => (P0_ k_ ∨ w.heap.size ≤ k_)) (fun _ => False) rfl rfl ?aP (fun _ hk => hk.elim) ?aF ?aO ?aB ?aS ?aL ?_; (case aP => exact rfl); (case aB => exact (by repeat (first | (with_reducible first | exact HB.out | apply below_alloc | apply pw_below_drewN | apply below_drew1 | refine below_set ?_ GE112.out) | exact HB.out))); (case aF => exact (fun k_ hk => (.inr (Nat.le_trans (by first | exact HK.out.1 | exact (show Kept w _ (fun k_ => P0_ k_) from by repeat (first | (with_reducible first | exact HK.out | apply Kept.alloc | apply Kept.drewN | apply Kept.drew | refine Kept.setCell ?_ (.inr GW112.out) _) | exact HK.out)).1) hk)))); (case aO => exact (by (with_reducible repeat (first | apply Kd.R_alloc | apply Kd.R_drewN | apply Kd.R_drew)); exact HO_0.out)); (case aS => exact (below_size (by repeat (first | (with_reducible first | exact HB.out | apply below_alloc | apply pw_below_drewN | apply below_drew1 | refine below_set ?_ GE112.out) | exact HB.out)))); (case aL => have := LMc19.out; omega); intro v122 w20 ho hb hg hat; rw [← Ny121.out] at ho; have n0_ := Aside0.mk (blk_grown (g := gb112) (o := .cells #[.int .i64 a1_0, .int .i64 a1_1, .string a1_2] 42 (0, 0)) (by (with_reducible repeat (first | refine blk_drewN ?_ _ | refine blk_drew ?_ | refine blk_alloc ?_ _)); exact BK112.out) hg (Kd.R_ne HO_0.out BK112.out (by decide))); have n1_ := Aside0.mk (hb); have n2_ := Aside0.mk (Kept.of_grown (S := (fun k_ => P0_ k_)) hg (by repeat (first | (with_reducible first | exact HK.out | apply Kept.alloc | apply Kept.drewN | apply Kept.drew | refine Kept.setCell ?_ (.inr GW112.out) _) | exact HK.out)) (fun k_ e_ => (HO_0.out.1 k_ e_))); have n3_ := Aside0.mk (ho); clear BK112; clear HB; clear HK; clear HO_0; have BK112 := n0_; have HB := n1_; have HK := n2_; have HO123 := n3_; clear n0_ n1_ n2_ n3_; clear ho hb hg hat))
          go_roundg k2
          case measure => have := HJ2.out; have := HK2.out; omega
          case rel => exact ⟨(y121), (wrap64 (x7_2 - 8)), (by first | rfl | (simp; done) | (simp [*]; done)), H', ⟨by have := HJ2.out; have := HK2.out; omega⟩, ⟨by (with_reducible repeat (first | apply Kd.R_alloc | apply Kd.R_drewN | apply Kd.R_drew)); exact HO123.out⟩, ⟨by (with_reducible repeat (first | refine blk_drewN ?_ _ | refine blk_drew ?_ | refine blk_alloc ?_ _)); exact BK112.out⟩, ⟨by repeat (first | (with_reducible first | exact HK.out | apply Kept.alloc | apply Kept.drewN | apply Kept.drew | refine Kept.setCell ?_ (.inr GW112.out) _) | exact HK.out)⟩, ⟨by repeat (first | (with_reducible first | exact HB.out | apply below_alloc | apply pw_below_drewN | apply below_drew1 | refine below_set ?_ GE112.out) | exact HB.out)⟩⟩
         ·
          rw [if_neg c19] at H
          exact absurd H (by simp)
        ·
         rw [if_neg c17] at H
         exact absurd H (by simp)
       ·
        rw [if_neg c16] at H
        have c16b0 : decide (0 ≤ x7_2) = false := decide_eq_false c16
        clear c16
        by_cases c21 : x0_2.length < 140737488355328
        ·
         rw [if_pos c21] at H
         have LMc21 := Aside0.mk c21
         clear c21
         obtain ⟨y124, hy124⟩ : ∃ y_ : List Int, y_ = (x0_2 ++ [(a1_0) % 256]) := ⟨_, rfl⟩
         replace H : (some y124) = some r := by first | (rw [hy124]; with_reducible exact H) | (have H2_ := (Option.bind_some _ _).symm.trans H; rw [hy124]; with_reducible exact H2_) | (have H2_ := (Option.bind_some _ _).symm.trans H; with_reducible exact H2_) | with_reducible exact H | (rw [hy124]; exact H) | exact H
         have Ny124 := Aside0.mk hy124
         clear hy124
         obtain rfl := Option.some.inj H
         have hcz22_0 : wr.cell? ⟨gb112, 0, none⟩ = some (.int .i64 a1_0) := (blk_cell BK112.out 0).trans rfl
         have hcz22_1 : wr.cell? ⟨gb112, 1, none⟩ = some (.int .i64 a1_1) := (blk_cell BK112.out 1).trans rfl
         have hcz22_2 : wr.cell? ⟨gb112, 2, none⟩ = some (.string a1_2) := (blk_cell BK112.out 2).trans rfl
         have hfz22_0 := blk_frozen BK112.out 0
         have hfz22_1 := blk_frozen BK112.out 1
         have hfz22_2 := blk_frozen BK112.out 2
         go_wp2_with (first | ((with_reducible refine gate_builtin (b := .append) (xs := #[.tmp 37, .tmp 41]) rfl ?_); at_builtin; refine Kd.R_append (Kd.int .u8) (w0 := w0) w0.heap.size rfl (.tmp 37) (.tmp 41) 47 5 (.int .u8 0) 1 rfl Tryd.underlying47 info5 rfl (by decide) (by omega) u0 x0_2 ((a1_0) % 256) [.int .u8 ((a1_0) % 256)] (fun k_ => (P0_ k_ ∨ w.heap.size ≤ k_)) (fun _ => False) rfl rfl ?aP (fun _ hk => hk.elim) ?aF ?aO ?aB ?aS ?aL ?_; (case aP => exact rfl); (case aB => exact (by repeat (first | (with_reducible first | exact HB.out | apply below_alloc | apply pw_below_drewN | apply below_drew1 | refine below_set ?_ GE112.out) | exact HB.out))); (case aF => exact (fun k_ hk => (.inr (Nat.le_trans (by first | exact HK.out.1 | exact (show Kept w _ (fun k_ => P0_ k_) from by repeat (first | (with_reducible first | exact HK.out | apply Kept.alloc | apply Kept.drewN | apply Kept.drew | refine Kept.setCell ?_ (.inr GW112.out) _) | exact HK.out)).1) hk)))); (case aO => exact (by (with_reducible repeat (first | apply Kd.R_alloc | apply Kd.R_drewN | apply Kd.R_drew)); exact HO_0.out)); (case aS => exact (below_size (by repeat (first | (with_reducible first | exact HB.out | apply below_alloc | apply pw_below_drewN | apply below_drew1 | refine below_set ?_ GE112.out) | exact HB.out)))); (case aL => have := LMc21.out; omega); intro v125 w23 ho hb hg hat; rw [← Ny124.out] at ho; have n0_ := Aside0.mk (blk_grown (g := gb112) (o := .cells #[.int .i64 a1_0, .int .i64 a1_1, .string a1_2] 42 (0, 0)) (by (with_reducible repeat (first | refine blk_drewN ?_ _ | refine blk_drew ?_ | refine blk_alloc ?_ _)); exact BK112.out) hg (Kd.R_ne HO_0.out BK112.out (by decide))); have n1_ := Aside0.mk (hb); have n2_ := Aside0.mk (Kept.of_grown (S := (fun k_ => P0_ k_)) hg (by repeat (first | (with_reducible first | exact HK.out | apply Kept.alloc | apply Kept.drewN | apply Kept.drew | refine Kept.setCell ?_ (.inr GW112.out) _) | exact HK.out)) (fun k_ e_ => (HO_0.out.1 k_ e_))); have n3_ := Aside0.mk (ho); clear BK112; clear HB; clear HK; clear HO_0; have BK112 := n0_; have HB := n1_; have HK := n2_; have HO126 := n3_; clear n0_ n1_ n2_ n3_; clear ho hb hg hat))
         go_ret
         exact ⟨_, by first | rfl | (simp [errW_none, errW_some] <;> rfl) | (simp [*, errW_none, errW_some] <;> rfl), by (with_reducible repeat (first | apply Kd.R_alloc | apply Kd.R_drewN | apply Kd.R_drew)); exact HO126.out, by repeat (first | (with_reducible first | exact HB.out | apply below_alloc | apply pw_below_drewN | apply below_drew1 | refine below_set ?_ GE112.out) | exact HB.out), by repeat (first | (with_reducible first | exact HK.out | apply Kept.alloc | apply Kept.drewN | apply Kept.drew | refine Kept.setCell ?_ (.inr GW112.out) _) | exact HK.out)⟩
        ·
         rw [if_neg c21] at H
         exact absurd H (by simp)
    ·
     rw [if_neg c9] at H
     exact absurd H (by simp)
   ·
    replace c7 := Bool.eq_false_iff.mpr c7
    subst c7
    have H1 : (if a1_0 = 3 then (if l0.length < 140737488355328 then ((some (l0 ++ [3] : List Int)).bind fun y127 => ((strings_ReplaceAll.f a1_2 (⟨#[0]⟩ : ByteArray) (⟨#[0, 255]⟩ : ByteArray)).bind fun t130 => (if y127.length + t130.size < 140737488355328 then ((some (y127 ++ bytesOf t130 : List Int)).bind fun y131 => ((some (([0, 0] : List Int) : List Int)).bind fun y134 => (if y131.length + y134.length < 140737488355328 then (some (y131 ++ y134)) else (none)))) else (none)))) else (none)) else (if a1_0 = 4 then ((some (([4, (a1_1) % 256] : List Int) : List Int)).bind fun y140 => (if l0.length + y140.length < 140737488355328 then (some (l0 ++ y140)) else (none))) else (if l0.length < 140737488355328 then (some (l0 ++ [1])) else (none)))) = some r := by rw [if_neg (show ¬ (false = true) by decide)] at H; exact H
    clear H
    have H := H1
    clear H1
    by_cases c24 : a1_0 = 3
    ·
     rw [if_pos c24] at H
     have c24b0 : (a1_0 == 3) = true := beq_iff_eq.mpr c24
     have c24b1 : (a1_0 != 3) = false := bne_eq_false_iff_eq.mpr c24
     clear c24
     by_cases c25 : l0.length < 140737488355328
     ·
      rw [if_pos c25] at H
      have LMc25 := Aside0.mk c25
      clear c25
      obtain ⟨y127, hy127⟩ : ∃ y_ : List Int, y_ = (l0 ++ [3]) := ⟨_, rfl⟩
      replace H : ((strings_ReplaceAll.f a1_2 (⟨#[0]⟩ : ByteArray) (⟨#[0, 255]⟩ : ByteArray)).bind fun t130 => (if y127.length + t130.size < 140737488355328 then ((some (y127 ++ bytesOf t130 : List Int)).bind fun y131 => ((some (([0, 0] : List Int) : List Int)).bind fun y134 => (if y131.length + y134.length < 140737488355328 then (some (y131 ++ y134)) else (none)))) else (none))) = some r := by first | (rw [hy127]; with_reducible exact H) | (have H2_ := (Option.bind_some _ _).symm.trans H; rw [hy127]; with_reducible exact H2_) | (have H2_ := (Option.bind_some _ _).symm.trans H; with_reducible exact H2_) | with_reducible exact H | (rw [hy127]; exact H) | exact H
      have Ny127 := Aside0.mk hy127
      clear hy127
      replace H := Option.bind_eq_some_iff.mp H
      obtain ⟨t130, A260, H⟩ := H
      replace H : (if y127.length + t130.size < 140737488355328 then ((some (y127 ++ bytesOf t130 : List Int)).bind fun y131 => ((some (([0, 0] : List Int) : List Int)).bind fun y134 => (if y131.length + y134.length < 140737488355328 then (some (y131 ++ y134)) else (none)))) else (none)) = some r := H
      have A26 := Aside0.mk A260
      clear A260
      by_cases c27 : y127.length + t130.size < 140737488355328
      ·
       rw [if_pos c27] at H
       have LMc27 := Aside0.mk c27
       clear c27
       obtain ⟨y131, hy131⟩ : ∃ y_ : List Int, y_ = (y127 ++ bytesOf t130) := ⟨_, rfl⟩
       replace H : ((some (([0, 0] : List Int) : List Int)).bind fun y134 => (if y131.length + y134.length < 140737488355328 then (some (y131 ++ y134)) else (none))) = some r := by first | (rw [hy131]; with_reducible exact H) | (have H2_ := (Option.bind_some _ _).symm.trans H; rw [hy131]; with_reducible exact H2_) | (have H2_ := (Option.bind_some _ _).symm.trans H; with_reducible exact H2_) | with_reducible exact H | (rw [hy131]; exact H) | exact H
       have Ny131 := Aside0.mk hy131
       clear hy131
       obtain ⟨y134, hy134⟩ : ∃ y_ : List Int, y_ = (([0, 0] : List Int)) := ⟨_, rfl⟩
       replace H : (if y131.length + y134.length < 140737488355328 then (some (y131 ++ y134)) else (none)) = some r := by first | (rw [hy134]; with_reducible exact H) | (have H2_ := (Option.bind_some _ _).symm.trans H; rw [hy134]; with_reducible exact H2_) | (have H2_ := (Option.bind_some _ _).symm.trans H; with_reducible exact H2_) | with_reducible exact H | (rw [hy134]; exact H) | exact H
       have Ny134 := Aside0.mk hy134
       clear hy134
       by_cases c28 : y131.length + y134.length < 140737488355328
       ·
        rw [if_pos c28] at H
        have LMc28 := Aside0.mk c28
        clear c28
        obtain ⟨y137, hy137⟩ : ∃ y_ : List Int, y_ = (y131 ++ y134) := ⟨_, rfl⟩
        replace H : (some y137) = some r := by first | (rw [hy137]; with_reducible exact H) | (have H2_ := (Option.bind_some _ _).symm.trans H; rw [hy137]; with_reducible exact H2_) | (have H2_ := (Option.bind_some _ _).symm.trans H; with_reducible exact H2_) | with_reducible exact H | (rw [hy137]; exact H) | exact H
        have Ny137 := Aside0.mk hy137
        clear hy137
        obtain rfl := Option.some.inj H
        try go_wp2
        have n0_ := Aside0.mk (Kd.R_drew HO_0.out)
        clear HO_0
        have HO_0 := n0_
        clear n0_
        have n0_ := Aside0.mk (blk_drew BK112.out)
        clear BK112
        have BK112 := n0_
        clear n0_
        have n0_ := Aside0.mk (Kept.drew HK.out)
        clear HK
        have HK := n0_
        clear n0_
        have n0_ := Aside0.mk (below_drew1 HB.out)
        clear HB
        have HB := n0_
        clear n0_
        generalize hw10 : wc.drew = w10 at HO_0 BK112 HK HB
        have hC : ∀ w' : World, w'.heap[gb112]? = some (.cells #[.int .i64 a1_0, .int .i64 a1_1, .string a1_2] 42 (0, 0)) → (w'.cell? ⟨gb112, 2, none⟩ = some (.string a1_2) ∧ w'.frozen? ⟨gb112, 2, none⟩ = false) := fun w' h => ⟨(blk_cell h 2).trans rfl, blk_frozen h 2⟩
        refine start_ (n := 8) (S := fun w' => w'.cell? ⟨gb112, 2, none⟩ = some (.string a1_2) ∧ w'.frozen? ⟨gb112, 2, none⟩ = false) (ds := []) #[false, false, false, false, false, false, false, false] (by kernel_rfl) rfl rfl (hC _ (by rw [hw10]; exact BK112.out)) (fun hHeld => ?_); refine with_tabW rowcode_appended.tab12 rowcode_appended.bits12 (fun HT_ HW_ => ?_)
        rw [hw10] at hHeld ⊢
        refine pure_ (i := 0) (N := some 45) (v := ?_) (a' := ?_) #[true, false, false, false, false, false, false, false] rfl rfl (any_of HT_.out (by kernel_rfl)) (fun _ _ _ h => h) (Or.inl ⟨by rfl, ?_⟩) ?_ ?_
        rotate_left
        ·
         intro w'
         go_simp
         with_reducible rfl
        rotate_left
        ·
         simp only [Act.put, List.setIfInBounds_toArray, List.set_cons_zero, List.set_cons_succ, i64_w, i32_w]
         rfl
        refine pure_ (i := 3) (N := some 48) (v := ?_) (a' := ?_) #[true, false, false, true, false, false, false, false] rfl rfl (any_of HT_.out (by kernel_rfl)) (fun _ _ _ h => h) (Or.inl ⟨by rfl, ?_⟩) ?_ ?_
        rotate_left
        ·
         intro w'
         go_simp
         with_reducible rfl
        rotate_left
        ·
         simp only [Act.put, List.setIfInBounds_toArray, List.set_cons_zero, List.set_cons_succ, i64_w, i32_w]
         rfl
        refine take_ (i := 4) (N := some 49) (v := ?_) (a' := ?_) #[true, false, false, true, true, false, false, false] rfl rfl (take_ofW HT_.out HW_.out (by kernel_rfl)) (fun _ _ _ h => h) (Or.inl ⟨by rfl, ?_⟩) hHeld ?_ ?_
        rotate_left
        ·
         rintro w' ⟨s0, s1⟩
         go_simp
         with_reducible rfl
        rotate_left
        ·
         simp only [Act.put, List.setIfInBounds_toArray, List.set_cons_zero, List.set_cons_succ, i64_w, i32_w]
         rfl
        refine one_ (i := 1) (N := some 46) #[true, true, false, true, true, false, false, false] rfl rfl (one_of HT_.out (by kernel_rfl)) (by decide) (fun K hK => ?_)
        refine event_step (v := .slice (some ⟨w10.heap.size, 0, none⟩) 1 1) (w1 := w10.alloc (.cells (#[.int .u8 3] : Array Value) 5)) (by rfl) ?hr ?_
        case hr => first | (go_simp; done) | (go_simp; rfl)
        refine hK.out _ _ (hC _ (blk_alloc BK112.out _)) (fun hHeld => ?_)
        clear hK K
        refine norm_ (a' := ?_) ?_ ?_
        rotate_left
        ·
         show Act.put _ (some 46) _ = _
         simp only [Act.put, List.setIfInBounds_toArray, List.set_cons_zero, List.set_cons_succ, i64_w, i32_w]
         rfl
        refine one_ (i := 2) (N := some 47) #[true, true, true, true, true, false, false, false] rfl rfl (one_of HT_.out (by kernel_rfl)) (by decide) (fun K hK => ?_)
        refine Kd.R_append_step (Kd.int .u8) (w0 := w0) w0.heap.size (by rfl) (.tmp 45) (.tmp 46) 47 5 (.int .u8 0) 1 rfl Tryd.underlying47 info5 rfl (by decide) (by omega) u9000_ l0 3 [.int .u8 3] (fun k_ => (P0_ k_ ∨ w.heap.size ≤ k_)) (fun _ => False) rfl rfl rfl (fun _ hk => hk.elim) (fun k_ hk => .inr (Nat.le_trans HK.out.1 hk)) HO_0.out HB.out (below_size HB.out) (by have := LMc25.out; omega) ?_
        intro v128 w11 ho hb hg hat
        rw [← Ny127.out] at ho
        have n0_ := Aside0.mk (blk_grown (g := gb112) BK112.out hg (Kd.R_ne HO_0.out BK112.out (by decide)))
        clear BK112
        have BK112 := n0_
        clear n0_
        have n1_ := Aside0.mk hb
        clear HB
        have HB := n1_
        clear n1_
        have n0_ := Aside0.mk (Kept.of_grown (S := (fun k_ => P0_ k_)) hg HK.out (fun k_ e_ => (HO_0.out.1 k_ e_)))
        clear HK
        have HK := n0_
        clear n0_
        have HO129 := Aside0.mk ho
        clear HO_0 ho hb hg hat
        refine hK.out _ _ (hC _ BK112.out) (fun hHeld => ?_)
        clear hK K
        refine norm_ (a' := ?_) ?_ ?_
        rotate_left
        ·
         show Act.put _ (some 47) _ = _
         simp only [Act.put, List.setIfInBounds_toArray, List.set_cons_zero, List.set_cons_succ, i64_w, i32_w]
         rfl
        refine one_ (i := 5) (N := some 50) #[true, true, true, true, true, true, false, false] rfl rfl (one_of HT_.out (by kernel_rfl)) (by decide) (fun K hK => ?_)
        refine goes_ Tryd.func68 (by kernel_rfl) rfl #[.string a1_2, .string (⟨#[0]⟩ : ByteArray), .string (⟨#[0, 255]⟩ : ByteArray)] (by rfl) rfl rfl (by (try simp only [List.map_toArray, List.map_cons, List.map_nil]); first | done | rfl) ?_
        refine (strings_ReplaceAll.calls a1_2 (⟨#[0]⟩ : ByteArray) (⟨#[0, 255]⟩ : ByteArray) t130 _ (Tabs.below HT.out HB.out) A26.out).mono ?_
        rintro e w12 ⟨rfl, hb⟩
        refine ⟨_, rfl, ?_⟩
        have n0_ := Aside0.mk (Kd.R_below HO129.out hb)
        clear HO129
        have HO129 := n0_
        clear n0_
        have n0_ := Aside0.mk (blk_below (g := gb112) BK112.out hb)
        clear BK112
        have BK112 := n0_
        clear n0_
        have n0_ := Aside0.mk (Kept.below (S := (fun k_ => P0_ k_)) HK.out hb)
        clear HK
        have HK := n0_
        clear n0_
        have n0_ := Aside0.mk (below_step HB.out hb)
        clear HB
        have HB := n0_
        clear n0_
        refine hK.out _ _ (hC _ BK112.out) (fun hHeld => ?_)
        clear hK K hb
        refine norm_ (a' := ?_) ?_ ?_
        rotate_left
        ·
         show Act.put _ (some 50) _ = _
         simp only [Act.put, List.setIfInBounds_toArray, List.set_cons_zero, List.set_cons_succ, i64_w, i32_w]
         rfl
        refine one_ (i := 6) (N := some 51) #[true, true, true, true, true, true, true, false] rfl rfl (one_of HT_.out (by kernel_rfl)) (by decide) (fun K hK => ?_)
        refine R_append_str_step (w0 := w0) w0.heap.size (by rfl) (.tmp 47) (.tmp 50) rfl v128 y127 t130 (fun k_ => (P0_ k_ ∨ w.heap.size ≤ k_)) rfl rfl HO129.out (fun k_ hk => .inr (Nat.le_trans HK.out.1 hk)) HB.out (below_size HB.out) (by have := LMc27.out; omega) ?_
        intro v132 w13 ho hb hg
        rw [← Ny131.out] at ho
        have n0_ := Aside0.mk (blk_grown (g := gb112) BK112.out hg (Kd.R_ne HO129.out BK112.out (by decide)))
        clear BK112
        have BK112 := n0_
        clear n0_
        have n1_ := Aside0.mk hb
        clear HB
        have HB := n1_
        clear n1_
        have n0_ := Aside0.mk (Kept.of_grown (S := (fun k_ => P0_ k_)) hg HK.out (fun k_ e_ => (HO129.out.1 k_ e_)))
        clear HK
        have HK := n0_
        clear n0_
        have HO133 := Aside0.mk ho
        clear HO129 ho hb hg
        refine hK.out _ _ (hC _ BK112.out) (fun hHeld => ?_)
        clear hK K
        refine norm_ (a' := ?_) ?_ ?_
        rotate_left
        ·
         show Act.put _ (some 51) _ = _
         simp only [Act.put, List.setIfInBounds_toArray, List.set_cons_zero, List.set_cons_succ, i64_w, i32_w]
         rfl
        refine pure_ (i := 7) (N := some 0) (v := ?_) (a' := ?_) #[true, true, true, true, true, true, true, true] rfl rfl (any_of HT_.out (by kernel_rfl)) (fun _ _ _ h => h) (Or.inl ⟨by rfl, ?_⟩) ?_ ?_
        rotate_left
        ·
         intro w'
         go_simp
         with_reducible rfl
        rotate_left
        ·
         simp only [Act.put, List.setIfInBounds_toArray, List.set_cons_zero, List.set_cons_succ, i64_w, i32_w]
         rfl
        refine done_ (done_of HT_.out (by kernel_rfl)) ?_
        go_wp2_with (first | ((with_reducible refine gate_dst (N := 53) rfl ?_); refine Kd.R_lit (Kd.int .u8) _ 5 ?hg (N := 53) ?hd (xs := ([0, 0] : List Int)) (inner := [.int .u8 0, .int .u8 0]) (ok := fun _ => True) (okp := fun _ => True) ?hr ?hp (fun _ hk => hk) trivial (Below.refl _ _) (Nat.le_refl _) (by simp) ?_; (case hd => rfl); (case hg => rfl); (case hr => first | (go_simp; done) | (go_simp; rfl)); (case hp => exact (Reps.one (show Kd.M (Kd.int .u8) _ _ _ 0 [.int .u8 0] from rfl) (Reps.one (show Kd.M (Kd.int .u8) _ _ _ 0 [.int .u8 0] from rfl) (Reps.none _ _)))); intro v135 w33 ho34 hb hg_ hnew_; clear hg_ hnew_; (first | rw [← Ny134.out] at ho34 | (simp only [Int.reduceToNat] at ho34; rw [← Ny134.out] at ho34)); have n0_ := Aside0.mk (Kd.R_elder' (by (with_reducible repeat (first | apply Kd.R_alloc | apply Kd.R_drewN | apply Kd.R_drew)); exact HO133.out) (Kd.R_base ho34) hb); have n1_ := Aside0.mk (Kd.R_lower (Kd.R_new' (Kd.R_newM (M := fun k_ => (P0_ k_ ∨ w.heap.size ≤ k_)) ho34 (by first | exact HK.out.1 | exact (show Kept w _ (fun k_ => P0_ k_) from by repeat (first | (with_reducible first | exact HK.out | apply Kept.alloc | apply Kept.drewN | apply Kept.drew | refine Kept.setCell ?_ (.inr GW112.out) _) | exact HK.out)).1) (fun k_ h_ => .inr h_)) (Kd.R_lt (by (with_reducible repeat (first | apply Kd.R_alloc | apply Kd.R_drewN | apply Kd.R_drew)); exact HO133.out))) (below_size (by repeat (first | (with_reducible first | exact HB.out | apply below_alloc | apply pw_below_drewN | apply below_drew1 | refine below_set ?_ GE112.out) | exact HB.out)))); have n2_ := Aside0.mk (blk_below (g := gb112) (o := .cells #[.int .i64 a1_0, .int .i64 a1_1, .string a1_2] 42 (0, 0)) (by (with_reducible repeat (first | refine blk_drewN ?_ _ | refine blk_drew ?_ | refine blk_alloc ?_ _)); exact BK112.out) hb); have n3_ := Aside0.mk (Kept.below (S := (fun k_ => P0_ k_)) (by repeat (first | (with_reducible first | exact HK.out | apply Kept.alloc | apply Kept.drewN | apply Kept.drew | refine Kept.setCell ?_ (.inr GW112.out) _) | exact HK.out)) hb); have n4_ := Aside0.mk (below_step (by repeat (first | (with_reducible first | exact HB.out | apply below_alloc | apply pw_below_drewN | apply below_drew1 | refine below_set ?_ GE112.out) | exact HB.out)) hb); clear HO133; clear BK112; clear HK; clear HB; have HO133 := n0_; have HO136 := n1_; have BK112 := n2_; have HK := n3_; have HB := n4_; clear n0_ n1_ n2_ n3_ n4_; clear hb ho34; obtain ⟨Ao36, co36, eo36⟩ := Kd.R_slice HO136.out; subst eo36) | ((with_reducible refine gate_builtin (b := .append) (xs := #[.tmp 52, .tmp 53]) rfl ?_); at_builtin; refine Kd.R_append_rows (Kd.int .u8) (w0 := w0) w0.heap.size rfl (.tmp 52) (.tmp 53) 47 5 (.int .u8 0) 1 rfl Tryd.underlying47 info5 rfl (by decide) (by omega) v132 y131 y134 _ _ _ (fun k_ => (P0_ k_ ∨ w.heap.size ≤ k_) ∧ some k_ ≠ (.slice Ao36 y134.length co36 : Value).ownBlock) (fun _ => False) rfl rfl ?aO ?aR (fun _ _ h => h) (fun _ h => h.elim) ?aF ?aB ?aS ?aL ?_; (case aR => repeat (first | exact (Kd.R_reads' HO136.out).2.2 | (with_reducible refine Kd.C_alloc ?_ _) | (with_reducible refine Kd.C_drewN ?_ _) | (with_reducible refine Kd.C_drew ?_))); (case aB => exact (by repeat (first | (with_reducible first | exact HB.out | apply below_alloc | apply pw_below_drewN | apply below_drew1 | refine below_set ?_ GE112.out) | exact HB.out))); (case aF => exact (fun k_ hk => ⟨(.inr (Nat.le_trans (by first | exact HK.out.1 | exact (show Kept w _ (fun k_ => P0_ k_) from by repeat (first | (with_reducible first | exact HK.out | apply Kept.alloc | apply Kept.drewN | apply Kept.drew | refine Kept.setCell ?_ (.inr GW112.out) _) | exact HK.out)).1) hk)), Kd.fresh' (Kd.R_lt (by (with_reducible repeat (first | apply Kd.R_alloc | apply Kd.R_drewN | apply Kd.R_drew)); exact HO136.out)) k_ hk⟩)); (case aO => exact (by (with_reducible repeat (first | apply Kd.R_alloc | apply Kd.R_drewN | apply Kd.R_drew)); exact HO133.out)); (case aS => exact (below_size (by repeat (first | (with_reducible first | exact HB.out | apply below_alloc | apply pw_below_drewN | apply below_drew1 | refine below_set ?_ GE112.out) | exact HB.out)))); (case aL => have := LMc28.out; omega); intro v138 w35 ho hb hg hat; rw [← Ny137.out] at ho; have n0_ := Aside0.mk (blk_grown (g := gb112) (o := .cells #[.int .i64 a1_0, .int .i64 a1_1, .string a1_2] 42 (0, 0)) (by (with_reducible repeat (first | refine blk_drewN ?_ _ | refine blk_drew ?_ | refine blk_alloc ?_ _)); exact BK112.out) hg (Kd.R_ne HO133.out BK112.out (by decide))); have n1_ := Aside0.mk (Kd.R_after (ok := (fun k_ => (P0_ k_ ∨ w.heap.size ≤ k_))) (by (with_reducible repeat (first | apply Kd.R_alloc | apply Kd.R_drewN | apply Kd.R_drew)); exact Kd.R_mono HO136.out (fun _ hk => ⟨hk.1.1, hk.2⟩)) hg hat); have n2_ := Aside0.mk (hb); have n3_ := Aside0.mk (Kept.of_grown (S := (fun k_ => P0_ k_)) hg (by repeat (first | (with_reducible first | exact HK.out | apply Kept.alloc | apply Kept.drewN | apply Kept.drew | refine Kept.setCell ?_ (.inr GW112.out) _) | exact HK.out)) (fun k_ e_ => (HO133.out.1 k_ e_).1)); have n4_ := Aside0.mk (ho); clear BK112; clear HO136; clear HB; clear HK; clear HO133; have BK112 := n0_; have HO136 := n1_; have HB := n2_; have HK := n3_; have HO139 := n4_; clear n0_ n1_ n2_ n3_ n4_; clear ho hb hg hat))
        go_ret
        exact ⟨_, by first | rfl | (simp [errW_none, errW_some] <;> rfl) | (simp [*, errW_none, errW_some] <;> rfl), by (with_reducible repeat (first | apply Kd.R_alloc | apply Kd.R_drewN | apply Kd.R_drew)); exact Kd.R_mono HO139.out (fun _ hk => hk.1), by repeat (first | (with_reducible first | exact HB.out | apply below_alloc | apply pw_below_drewN | apply below_drew1 | refine below_set ?_ GE112.out) | exact HB.out), by repeat (first | (with_reducible first | exact HK.out | apply Kept.alloc | apply Kept.drewN | apply Kept.drew | refine Kept.setCell ?_ (.inr GW112.out) _) | exact HK.out)⟩
       ·
        rw [if_neg c28] at H
        exact absurd H (by simp)
      ·
       rw [if_neg c27] at H
       exact absurd H (by simp)
     ·
      rw [if_neg c25] at H
      exact absurd H (by simp)
    ·
     rw [if_neg c24] at H
     have c24b0 : (a1_0 == 3) = false := beq_eq_false_iff_ne.mpr c24
     have c24b1 : (a1_0 != 3) = true := bne_iff_ne.mpr c24
     by_cases c37 : a1_0 = 4
     ·
      rw [if_pos c37] at H
      have c37b0 : (a1_0 == 4) = true := beq_iff_eq.mpr c37
      have c37b1 : (a1_0 != 4) = false := bne_eq_false_iff_eq.mpr c37
      clear c37
      obtain ⟨y140, hy140⟩ : ∃ y_ : List Int, y_ = (([4, (a1_1) % 256] : List Int)) := ⟨_, rfl⟩
      replace H : (if l0.length + y140.length < 140737488355328 then (some (l0 ++ y140)) else (none)) = some r := by first | (rw [hy140]; with_reducible exact H) | (have H2_ := (Option.bind_some _ _).symm.trans H; rw [hy140]; with_reducible exact H2_) | (have H2_ := (Option.bind_some _ _).symm.trans H; with_reducible exact H2_) | with_reducible exact H | (rw [hy140]; exact H) | exact H
      have Ny140 := Aside0.mk hy140
      clear hy140
      by_cases c38 : l0.length + y140.length < 140737488355328
      ·
       rw [if_pos c38] at H
       have LMc38 := Aside0.mk c38
       clear c38
       obtain ⟨y143, hy143⟩ : ∃ y_ : List Int, y_ = (l0 ++ y140) := ⟨_, rfl⟩
       replace H : (some y143) = some r := by first | (rw [hy143]; with_reducible exact H) | (have H2_ := (Option.bind_some _ _).symm.trans H; rw [hy143]; with_reducible exact H2_) | (have H2_ := (Option.bind_some _ _).symm.trans H; with_reducible exact H2_) | with_reducible exact H | (rw [hy143]; exact H) | exact H
       have Ny143 := Aside0.mk hy143
       clear hy143
       obtain rfl := Option.some.inj H
       have hcz39_0 : wc.cell? ⟨gb112, 0, none⟩ = some (.int .i64 a1_0) := (blk_cell BK112.out 0).trans rfl
       have hcz39_1 : wc.cell? ⟨gb112, 1, none⟩ = some (.int .i64 a1_1) := (blk_cell BK112.out 1).trans rfl
       have hcz39_2 : wc.cell? ⟨gb112, 2, none⟩ = some (.string a1_2) := (blk_cell BK112.out 2).trans rfl
       have hfz39_0 := blk_frozen BK112.out 0
       have hfz39_1 := blk_frozen BK112.out 1
       have hfz39_2 := blk_frozen BK112.out 2
       go_wp2_with (first | ((with_reducible refine gate_dst (N := 61) rfl ?_); refine Kd.R_lit (Kd.int .u8) _ 5 ?hg (N := 61) ?hd (xs := ([4, (a1_1) % 256] : List Int)) (inner := [.int .u8 4, .int .u8 ((a1_1) % 256)]) (ok := fun _ => True) (okp := fun _ => True) ?hr ?hp (fun _ hk => hk) trivial (Below.refl _ _) (Nat.le_refl _) (by simp) ?_; (case hd => rfl); (case hg => rfl); (case hr => first | (go_simp; done) | (go_simp; rfl)); (case hp => exact (Reps.one (show Kd.M (Kd.int .u8) _ _ _ 4 [.int .u8 4] from rfl) (Reps.one (show Kd.M (Kd.int .u8) _ _ _ ((a1_1) % 256) [.int .u8 ((a1_1) % 256)] from rfl) (Reps.none _ _)))); intro v141 w40 ho41 hb hg_ hnew_; clear hg_ hnew_; (first | rw [← Ny140.out] at ho41 | (simp only [Int.reduceToNat] at ho41; rw [← Ny140.out] at ho41)); have n0_ := Aside0.mk (Kd.R_elder' (by (with_reducible repeat (first | apply Kd.R_alloc | apply Kd.R_drewN | apply Kd.R_drew)); exact HO_0.out) (Kd.R_base ho41) hb); have n1_ := Aside0.mk (Kd.R_lower (Kd.R_new' (Kd.R_newM (M := fun k_ => (P0_ k_ ∨ w.heap.size ≤ k_)) ho41 (by first | exact HK.out.1 | exact (show Kept w _ (fun k_ => P0_ k_) from by repeat (first | (with_reducible first | exact HK.out | apply Kept.alloc | apply Kept.drewN | apply Kept.drew | refine Kept.setCell ?_ (.inr GW112.out) _) | exact HK.out)).1) (fun k_ h_ => .inr h_)) (Kd.R_lt (by (with_reducible repeat (first | apply Kd.R_alloc | apply Kd.R_drewN | apply Kd.R_drew)); exact HO_0.out))) (below_size (by repeat (first | (with_reducible first | exact HB.out | apply below_alloc | apply pw_below_drewN | apply below_drew1 | refine below_set ?_ GE112.out) | exact HB.out)))); have n2_ := Aside0.mk (blk_below (g := gb112) (o := .cells #[.int .i64 a1_0, .int .i64 a1_1, .string a1_2] 42 (0, 0)) (by (with_reducible repeat (first | refine blk_drewN ?_ _ | refine blk_drew ?_ | refine blk_alloc ?_ _)); exact BK112.out) hb); have n3_ := Aside0.mk (Kept.below (S := (fun k_ => P0_ k_)) (by repeat (first | (with_reducible first | exact HK.out | apply Kept.alloc | apply Kept.drewN | apply Kept.drew | refine Kept.setCell ?_ (.inr GW112.out) _) | exact HK.out)) hb); have n4_ := Aside0.mk (below_step (by repeat (first | (with_reducible first | exact HB.out | apply below_alloc | apply pw_below_drewN | apply below_drew1 | refine below_set ?_ GE112.out) | exact HB.out)) hb); clear HO_0; clear BK112; clear HK; clear HB; have HO_0 := n0_; have HO142 := n1_; have BK112 := n2_; have HK := n3_; have HB := n4_; clear n0_ n1_ n2_ n3_ n4_; clear hb ho41; obtain ⟨Ao43, co43, eo43⟩ := Kd.R_slice HO142.out; subst eo43) | ((with_reducible refine gate_builtin (b := .append) (xs := #[.tmp 57, .tmp 61]) rfl ?_); at_builtin; refine Kd.R_append_rows (Kd.int .u8) (w0 := w0) w0.heap.size rfl (.tmp 57) (.tmp 61) 47 5 (.int .u8 0) 1 rfl Tryd.underlying47 info5 rfl (by decide) (by omega) u9000_ l0 y140 _ _ _ (fun k_ => (P0_ k_ ∨ w.heap.size ≤ k_) ∧ some k_ ≠ (.slice Ao43 y140.length co43 : Value).ownBlock) (fun _ => False) rfl rfl ?aO ?aR (fun _ _ h => h) (fun _ h => h.elim) ?aF ?aB ?aS ?aL ?_; (case aR => repeat (first | exact (Kd.R_reads' HO142.out).2.2 | (with_reducible refine Kd.C_alloc ?_ _) | (with_reducible refine Kd.C_drewN ?_ _) | (with_reducible refine Kd.C_drew ?_))); (case aB => exact (by repeat (first | (with_reducible first | exact HB.out | apply below_alloc | apply pw_below_drewN | apply below_drew1 | refine below_set ?_ GE112.out) | exact HB.out))); (case aF => exact (fun k_ hk => ⟨(.inr (Nat.le_trans (by first | exact HK.out.1 | exact (show Kept w _ (fun k_ => P0_ k_) from by repeat (first | (with_reducible first | exact HK.out | apply Kept.alloc | apply Kept.drewN | apply Kept.drew | refine Kept.setCell ?_ (.inr GW112.out) _) | exact HK.out)).1) hk)), Kd.fresh' (Kd.R_lt (by (with_reducible repeat (first | apply Kd.R_alloc | apply Kd.R_drewN | apply Kd.R_drew)); exact HO142.out)) k_ hk⟩)); (case aO => exact (by (with_reducible repeat (first | apply Kd.R_alloc | apply Kd.R_drewN | apply Kd.R_drew)); exact HO_0.out)); (case aS => exact (below_size (by repeat (first | (with_reducible first | exact HB.out | apply below_alloc | apply pw_below_drewN | apply below_drew1 | refine below_set ?_ GE112.out) | exact HB.out)))); (case aL => have := LMc38.out; omega); intro v144 w42 ho hb hg hat; rw [← Ny143.out] at ho; have n0_ := Aside0.mk (blk_grown (g := gb112) (o := .cells #[.int .i64 a1_0, .int .i64 a1_1, .string a1_2] 42 (0, 0)) (by (with_reducible repeat (first | refine blk_drewN ?_ _ | refine blk_drew ?_ | refine blk_alloc ?_ _)); exact BK112.out) hg (Kd.R_ne HO_0.out BK112.out (by decide))); have n1_ := Aside0.mk (Kd.R_after (ok := (fun k_ => (P0_ k_ ∨ w.heap.size ≤ k_))) (by (with_reducible repeat (first | apply Kd.R_alloc | apply Kd.R_drewN | apply Kd.R_drew)); exact Kd.R_mono HO142.out (fun _ hk => ⟨hk.1.1, hk.2⟩)) hg hat); have n2_ := Aside0.mk (hb); have n3_ := Aside0.mk (Kept.of_grown (S := (fun k_ => P0_ k_)) hg (by repeat (first | (with_reducible first | exact HK.out | apply Kept.alloc | apply Kept.drewN | apply Kept.drew | refine Kept.setCell ?_ (.inr GW112.out) _) | exact HK.out)) (fun k_ e_ => (HO_0.out.1 k_ e_).1)); have n4_ := Aside0.mk (ho); clear BK112; clear HO142; clear HB; clear HK; clear HO_0; have BK112 := n0_; have HO142 := n1_; have HB := n2_; have HK := n3_; have HO145 := n4_; clear n0_ n1_ n2_ n3_ n4_; clear ho hb hg hat))
       go_ret
       exact ⟨_, by first | rfl | (simp [errW_none, errW_some] <;> rfl) | (simp [*, errW_none, errW_some] <;> rfl), by (with_reducible repeat (first | apply Kd.R_alloc | apply Kd.R_drewN | apply Kd.R_drew)); exact Kd.R_mono HO145.out (fun _ hk => hk.1), by repeat (first | (with_reducible first | exact HB.out | apply below_alloc | apply pw_below_drewN | apply below_drew1 | refine below_set ?_ GE112.out) | exact HB.out), by repeat (first | (with_reducible first | exact HK.out | apply Kept.alloc | apply Kept.drewN | apply Kept.drew | refine Kept.setCell ?_ (.inr GW112.out) _) | exact HK.out)⟩
      ·
       rw [if_neg c38] at H
       exact absurd H (by simp)
     ·
      rw [if_neg c37] at H
      have c37b0 : (a1_0 == 4) = false := beq_eq_false_iff_ne.mpr c37
      have c37b1 : (a1_0 != 4) = true := bne_iff_ne.mpr c37
      by_cases c44 : l0.length < 140737488355328
      ·
       rw [if_pos c44] at H
       have LMc44 := Aside0.mk c44
       clear c44
       obtain ⟨y146, hy146⟩ : ∃ y_ : List Int, y_ = (l0 ++ [1]) := ⟨_, rfl⟩
       replace H : (some y146) = some r := by first | (rw [hy146]; with_reducible exact H) | (have H2_ := (Option.bind_some _ _).symm.trans H; rw [hy146]; with_reducible exact H2_) | (have H2_ := (Option.bind_some _ _).symm.trans H; with_reducible exact H2_) | with_reducible exact H | (rw [hy146]; exact H) | exact H
       have Ny146 := Aside0.mk hy146
       clear hy146
       obtain rfl := Option.some.inj H
       go_wp2_with (first | ((with_reducible refine gate_builtin (b := .append) (xs := #[.tmp 63, .tmp 64]) rfl ?_); at_builtin; refine Kd.R_append (Kd.int .u8) (w0 := w0) w0.heap.size rfl (.tmp 63) (.tmp 64) 47 5 (.int .u8 0) 1 rfl Tryd.underlying47 info5 rfl (by decide) (by omega) u9000_ l0 1 [.int .u8 1] (fun k_ => (P0_ k_ ∨ w.heap.size ≤ k_)) (fun _ => False) rfl rfl ?aP (fun _ hk => hk.elim) ?aF ?aO ?aB ?aS ?aL ?_; (case aP => exact rfl); (case aB => exact (by repeat (first | (with_reducible first | exact HB.out | apply below_alloc | apply pw_below_drewN | apply below_drew1 | refine below_set ?_ GE112.out) | exact HB.out))); (case aF => exact (fun k_ hk => (.inr (Nat.le_trans (by first | exact HK.out.1 | exact (show Kept w _ (fun k_ => P0_ k_) from by repeat (first | (with_reducible first | exact HK.out | apply Kept.alloc | apply Kept.drewN | apply Kept.drew | refine Kept.setCell ?_ (.inr GW112.out) _) | exact HK.out)).1) hk)))); (case aO => exact (by (with_reducible repeat (first | apply Kd.R_alloc | apply Kd.R_drewN | apply Kd.R_drew)); exact HO_0.out)); (case aS => exact (below_size (by repeat (first | (with_reducible first | exact HB.out | apply below_alloc | apply pw_below_drewN | apply below_drew1 | refine below_set ?_ GE112.out) | exact HB.out)))); (case aL => have := LMc44.out; omega); intro v147 w45 ho hb hg hat; rw [← Ny146.out] at ho; have n0_ := Aside0.mk (blk_grown (g := gb112) (o := .cells #[.int .i64 a1_0, .int .i64 a1_1, .string a1_2] 42 (0, 0)) (by (with_reducible repeat (first | refine blk_drewN ?_ _ | refine blk_drew ?_ | refine blk_alloc ?_ _)); exact BK112.out) hg (Kd.R_ne HO_0.out BK112.out (by decide))); have n1_ := Aside0.mk (hb); have n2_ := Aside0.mk (Kept.of_grown (S := (fun k_ => P0_ k_)) hg (by repeat (first | (with_reducible first | exact HK.out | apply Kept.alloc | apply Kept.drewN | apply Kept.drew | refine Kept.setCell ?_ (.inr GW112.out) _) | exact HK.out)) (fun k_ e_ => (HO_0.out.1 k_ e_))); have n3_ := Aside0.mk (ho); clear BK112; clear HB; clear HK; clear HO_0; have BK112 := n0_; have HB := n1_; have HK := n2_; have HO148 := n3_; clear n0_ n1_ n2_ n3_; clear ho hb hg hat))
       go_ret
       exact ⟨_, by first | rfl | (simp [errW_none, errW_some] <;> rfl) | (simp [*, errW_none, errW_some] <;> rfl), by (with_reducible repeat (first | apply Kd.R_alloc | apply Kd.R_drewN | apply Kd.R_drew)); exact HO148.out, by repeat (first | (with_reducible first | exact HB.out | apply below_alloc | apply pw_below_drewN | apply below_drew1 | refine below_set ?_ GE112.out) | exact HB.out), by repeat (first | (with_reducible first | exact HK.out | apply Kept.alloc | apply Kept.drewN | apply Kept.drew | refine Kept.setCell ?_ (.inr GW112.out) _) | exact HK.out)⟩
      ·
       rw [if_neg c44] at H
       exact absurd H (by simp)
end Go.Proofs.YthghcpeedmconaaDoor.X
end

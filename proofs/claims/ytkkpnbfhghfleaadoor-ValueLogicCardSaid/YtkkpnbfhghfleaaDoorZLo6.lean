/- The given row ValueLogicCardSaid is proved: at every three values the law lockstep/locksteplaw01.ValueLogic returns true and leaves its arguments as they were. Conditions: none beyond the given row's own (the listed tables hold what the program's text lays there). -/
import Derived.Test.YtkkpnbfhghfleaaDoorZLo1
import Derived.Test.YtkkpnbfhghfleaaDoorZLo2
import Derived.Test.YtkkpnbfhghfleaaDoorZLo3
import Derived.Test.YtkkpnbfhghfleaaDoorZLo5
import Derived.Lib.Mul64
import Derived.Laws.Bits64b
import Derived.Test.YtkkpnbfhghfleaaDoorCards
import Derived.Test.YtkkpnbfhghfleaaDoorTie
import Derived.Lib.LaidU8T
import Derived.Lib.LaidTab
import Derived.Lib.SmallJoins
import Derived.Shelf.Vars
import Derived.LaidMore
import Derived.OpenShut
import Derived.ShutString
import Derived.SizedLaws
import Derived.ProofKit
import Derived.Deep.DeepHandedRow
import Derived.SevenTiedAt
section
namespace Go.Proofs.YtkkpnbfhghfleaaDoor.X
open Go.RowKit Go.Proofs.YtkkpnbfhghfleaaDoorW.PrintWords Go.Proofs.YtkkpnbfhghfleaaDoorW.PrintLast Go.Proofs.YtkkpnbfhghfleaaDoorW.PrintMore
attribute [local go_sem] max2_int min2_int max_two min_two max_three min_three max_four min_four
set_option linter.unusedVariables false
set_option linter.unusedSimpArgs false
def lockstepref01_both.f (k : Nat) (a0_0 : Int) (a0_1 : Int) (a0_2 : ByteArray) (a1_0 : Int) (a1_1 : Int) (a1_2 : ByteArray) : Option (Int) := (lockstepref01_Check.f k a0_0 a0_1 a0_2).bind fun t125 => (if t125 = 0 then ((lockstepref01_Check.f k a1_0 a1_1 a1_2).bind fun t126 => (some t126)) else (some t125))
end Go.Proofs.YtkkpnbfhghfleaaDoor.X
end
section
namespace Go.Proofs.YtkkpnbfhghfleaaDoor.X
open Go.RowKit Go.Proofs.YtkkpnbfhghfleaaDoorW.PrintWords Go.Proofs.YtkkpnbfhghfleaaDoorW.PrintLast Go.Proofs.YtkkpnbfhghfleaaDoorW.PrintMore
attribute [local go_sem] max2_int min2_int max_two min_two max_three min_three max_four min_four
set_option linter.unusedVariables false
set_option linter.unusedSimpArgs false
def lockstepref01_in.l0 : Nat → List ByteArray → ByteArray → Int → Option (Bool)
 | 0, _, _, _ => none
 | k + 1, x0, x1, x5 => if x5 < (x0.length : Int) then (if 0 ≤ x5 then (if (rdOf ByteArray.empty x0 x5).toList = x1.toList then (some true) else (lockstepref01_in.l0 k x0 x1 (wrap64 (x5 + 1)))) else (none)) else (some false)
def lockstepref01_in.f (k : Nat) (l0 : List ByteArray) (a1 : ByteArray) : Option (Bool) := lockstepref01_in.l0 k l0 a1 0
end Go.Proofs.YtkkpnbfhghfleaaDoor.X
end
section
namespace Go.Proofs.YtkkpnbfhghfleaaDoor.X
open Go.RowKit Go.Proofs.YtkkpnbfhghfleaaDoorW.PrintWords Go.Proofs.YtkkpnbfhghfleaaDoorW.PrintLast Go.Proofs.YtkkpnbfhghfleaaDoorW.PrintMore
attribute [local go_sem] max2_int min2_int max_two min_two max_three min_three max_four min_four
set_option linter.unusedVariables false
set_option linter.unusedSimpArgs false
def lockstepref01_number.f (a0_0 : Int) (a0_1 : Int) (a0_2 : ByteArray) : Option (Bool) := if a0_0 = 1 then (some true) else (some (a0_0 == 2))
end Go.Proofs.YtkkpnbfhghfleaaDoor.X
end
section
namespace Go.Proofs.YtkkpnbfhghfleaaDoor.X
open Go.RowKit Go.Proofs.YtkkpnbfhghfleaaDoorW.PrintWords Go.Proofs.YtkkpnbfhghfleaaDoorW.PrintLast Go.Proofs.YtkkpnbfhghfleaaDoorW.PrintMore
attribute [local go_sem] max2_int min2_int max_two min_two max_three min_three max_four min_four
set_option linter.unusedVariables false
set_option linter.unusedSimpArgs false
def lockstepref01_size.f (a0 : Int) : Option (Int) := if a0 < 0 then (some (IntKind.u64.wrap ((IntKind.u64.wrap (wrap64 (-(wrap64 (a0 + 1))))) + 1))) else (some (IntKind.u64.wrap (a0)))
end Go.Proofs.YtkkpnbfhghfleaaDoor.X
end
section
namespace Go.Proofs.YtkkpnbfhghfleaaDoor.X
open Go.RowKit Go.Proofs.YtkkpnbfhghfleaaDoorW.PrintWords Go.Proofs.YtkkpnbfhghfleaaDoorW.PrintLast Go.Proofs.YtkkpnbfhghfleaaDoorW.PrintMore
attribute [local go_sem] max2_int min2_int max_two min_two max_three min_three max_four min_four
set_option linter.unusedVariables false
set_option linter.unusedSimpArgs false
def lockstepref01_times.f (a0 : Int) (a1 : Int) : Option (Int × Bool) := if a0 = 0 then (some (IntKind.u64.wrap (a0 * a1), true)) else (some (IntKind.u64.wrap (a0 * a1), ((IntKind.u64.wrap (Int.tdiv (IntKind.u64.wrap (a0 * a1)) a0)) == a1)))
end Go.Proofs.YtkkpnbfhghfleaaDoor.X
end
section
namespace Go.Proofs.YtkkpnbfhghfleaaDoor.X
open Go.RowKit Go.Proofs.YtkkpnbfhghfleaaDoorW.PrintWords Go.Proofs.YtkkpnbfhghfleaaDoorW.PrintLast Go.Proofs.YtkkpnbfhghfleaaDoorW.PrintMore
attribute [local go_sem] max2_int min2_int max_two min_two max_three min_three max_four min_four
set_option linter.unusedVariables false
set_option linter.unusedSimpArgs false
def lockstepref01_signed.j0 : Nat → Int → Bool → Bool → Option (Int × Bool)
 | 0, _, _, _ => none
 | k + 1, x0, x1, x15 => if x15 = true then (some (0, false)) else (if x1 = true then (some (wrap64 ((wrap64 (-(wrap64 (IntKind.u64.wrap (x0 - 1))))) - 1), true)) else (some (wrap64 (x0), true)))
def lockstepref01_signed.f (k : Nat) (a0 : Int) (a1 : Bool) : Option (Int × Bool) := if a0 > 9223372036854775808 then (lockstepref01_signed.j0 k a0 a1 true) else (if a0 = 9223372036854775808 then (lockstepref01_signed.j0 k a0 a1 (!a1)) else (lockstepref01_signed.j0 k a0 a1 false))
end Go.Proofs.YtkkpnbfhghfleaaDoor.X
end
section
namespace Go.Proofs.YtkkpnbfhghfleaaDoor.X
open Go.RowKit Go.Proofs.YtkkpnbfhghfleaaDoorW.PrintWords Go.Proofs.YtkkpnbfhghfleaaDoorW.PrintLast Go.Proofs.YtkkpnbfhghfleaaDoorW.PrintMore
attribute [local go_sem] max2_int min2_int max_two min_two max_three min_three max_four min_four
set_option linter.unusedVariables false
set_option linter.unusedSimpArgs false
def lockstepref01_near.f (k : Nat) (a0 : Int) (a1 : Bool) : Option (Int × Bool) := if a0 = 0 then (some (0, true)) else ((lockstepref01_signed.f k a0 a1).bind fun bt189 => (some (bt189.1, bt189.2)))
end Go.Proofs.YtkkpnbfhghfleaaDoor.X
end
section
namespace Go.Proofs.YtkkpnbfhghfleaaDoor.X
open Go.RowKit Go.Proofs.YtkkpnbfhghfleaaDoorW.PrintWords Go.Proofs.YtkkpnbfhghfleaaDoorW.PrintLast Go.Proofs.YtkkpnbfhghfleaaDoorW.PrintMore
attribute [local go_sem] max2_int min2_int max_two min_two max_three min_three max_four min_four
set_option linter.unusedVariables false
set_option linter.unusedSimpArgs false
def lockstepref01_plus.f (a0 : Int) (a1 : Int) (a2 : Bool) : Option (Int × Bool) := if a2 = true then (some (IntKind.u64.wrap (a0 + a1), decide ((IntKind.u64.wrap (a0 + a1)) ≥ a0))) else (some (IntKind.u64.wrap (a0 + a1), false))
end Go.Proofs.YtkkpnbfhghfleaaDoor.X
end
section
namespace Go.Proofs.YtkkpnbfhghfleaaDoor.X
open Go.RowKit Go.Proofs.YtkkpnbfhghfleaaDoorW.PrintWords Go.Proofs.YtkkpnbfhghfleaaDoorW.PrintLast Go.Proofs.YtkkpnbfhghfleaaDoorW.PrintMore
attribute [local go_sem] max2_int min2_int max_two min_two max_three min_three max_four min_four
set_option linter.unusedVariables false
set_option linter.unusedSimpArgs false
def lockstepref01_product.j0 : Nat → Int → Bool → Int → Bool → Int → Option (Int × Bool)
 | 0, _, _, _, _, _ => none
 | k + 1, x9, x10, x13, x14, x15 => (lockstepref01_plus.f x13 (IntKind.u64.wrap (Int.tdiv (IntKind.u64.wrap ((IntKind.u64.wrap (x15 * (Int.tmod x9 10000))) + 5000)) 10000)) x14).bind fun bt205 => (if bt205.2 = true then ((lockstepref01_near.f k bt205.1 x10).bind fun bt207 => (some (bt207.1, bt207.2))) else (some (0, false)))
def lockstepref01_product.f (k : Nat) (a0 : Int) (a1 : Int) (a2 : Bool) : Option (Int × Bool) := (lockstepref01_size.f a0).bind fun t191 => ((lockstepref01_size.f a1).bind fun t192 => (if a2 = true then ((lockstepref01_times.f (IntKind.u64.wrap (Int.tdiv t191 10000)) t192).bind fun bt197 => ((lockstepref01_times.f (Int.tmod t191 10000) (IntKind.u64.wrap (Int.tdiv t192 10000))).bind fun bt199 => (if bt197.2 = true then ((lockstepref01_plus.f bt197.1 bt199.1 bt199.2).bind fun bt201 => (lockstepref01_product.j0 k t192 ((decide (a0 < 0)) != (decide (a1 < 0))) bt201.1 bt201.2 (Int.tmod t191 10000))) else ((lockstepref01_plus.f bt197.1 bt199.1 false).bind fun bt203 => (lockstepref01_product.j0 k t192 ((decide (a0 < 0)) != (decide (a1 < 0))) bt203.1 bt203.2 (Int.tmod t191 10000)))))) else ((lockstepref01_times.f t191 t192).bind fun bt193 => (if bt193.2 = true then ((lockstepref01_near.f k bt193.1 ((decide (a0 < 0)) != (decide (a1 < 0)))).bind fun bt195 => (some (bt195.1, bt195.2))) else (some (0, false))))))
end Go.Proofs.YtkkpnbfhghfleaaDoor.X
end
section
namespace Go.Proofs.YtkkpnbfhghfleaaDoor.X
open Go.RowKit Go.Proofs.YtkkpnbfhghfleaaDoorW.PrintWords Go.Proofs.YtkkpnbfhghfleaaDoorW.PrintLast Go.Proofs.YtkkpnbfhghfleaaDoorW.PrintMore
attribute [local go_sem] max2_int min2_int max_two min_two max_three min_three max_four min_four
set_option linter.unusedVariables false
set_option linter.unusedSimpArgs false
def lockstepref01_scaled.f (k : Nat) (a0_0 : Int) (a0_1 : Int) (a0_2 : ByteArray) : Option (Int × Bool) := if a0_0 = 2 then (some (a0_1, true)) else ((lockstepref01_product.f k a0_1 10000 false).bind fun bt210 => (some (bt210.1, bt210.2)))
end Go.Proofs.YtkkpnbfhghfleaaDoor.X
end
section
namespace Go.Proofs.YtkkpnbfhghfleaaDoor.X
open Go.RowKit Go.Proofs.YtkkpnbfhghfleaaDoorW.PrintWords Go.Proofs.YtkkpnbfhghfleaaDoorW.PrintLast Go.Proofs.YtkkpnbfhghfleaaDoorW.PrintMore
attribute [local go_sem] max2_int min2_int max_two min_two max_three min_three max_four min_four
set_option linter.unusedVariables false
set_option linter.unusedSimpArgs false
def lockstepref01_sum.f (a0 : Int) (a1 : Int) : Option (Int × Bool) := some (wrap64 (a0 + a1), ((decide (a1 ≥ 0)) == (decide ((wrap64 (a0 + a1)) ≥ a0))))
end Go.Proofs.YtkkpnbfhghfleaaDoor.X
end
section
namespace Go.Proofs.YtkkpnbfhghfleaaDoor.X
open Go.RowKit Go.Proofs.YtkkpnbfhghfleaaDoorW.PrintWords Go.Proofs.YtkkpnbfhghfleaaDoorW.PrintLast Go.Proofs.YtkkpnbfhghfleaaDoorW.PrintMore
attribute [local go_sem] max2_int min2_int max_two min_two max_three min_three max_four min_four
set_option linter.unusedVariables false
set_option linter.unusedSimpArgs false
mutual
def lockstepref01_Quotient.l0 : Nat → Int → Int → Int → Int → Bool → Int → Option (Int × Bool)
 | 0, _, _, _, _, _, _ => none
 | k + 1, x1, x2, x8, x9, x10, x11 => if x11 < x2 then (lockstepref01_Quotient.j1 k x1 x2 x8 x9 x10 x11 x10) else (lockstepref01_Quotient.j1 k x1 x2 x8 x9 x10 x11 false)
def lockstepref01_Quotient.j1 : Nat → Int → Int → Int → Int → Bool → Int → Bool → Option (Int × Bool)
 | 0, _, _, _, _, _, _, _ => none
 | k + 1, x1, x2, x8, x9, x10, x11, x26 => if x26 = true then (lockstepref01_Quotient.l1 k x1 x2 x8 x9 x11 0 0 0) else (if x2 > 0 then (if x9 ≥ (IntKind.u64.wrap (x1 - x9)) then ((lockstepref01_plus.f x8 1 x10).bind fun bt212 => (some (bt212.1, bt212.2))) else (some (x8, x10))) else (some (x8, x10)))
def lockstepref01_Quotient.l1 : Nat → Int → Int → Int → Int → Int → Int → Int → Int → Option (Int × Bool)
 | 0, _, _, _, _, _, _, _, _ => none
 | k + 1, x1, x2, x8, x9, x11, x12, x13, x14 => if x14 < 10 then (if x13 ≥ (IntKind.u64.wrap (x1 - x9)) then (lockstepref01_Quotient.l1 k x1 x2 x8 x9 x11 (IntKind.u64.wrap (x12 + 1)) (IntKind.u64.wrap (x13 - (IntKind.u64.wrap (x1 - x9)))) (wrap64 (x14 + 1))) else (lockstepref01_Quotient.l1 k x1 x2 x8 x9 x11 x12 (IntKind.u64.wrap (x13 + x9)) (wrap64 (x14 + 1)))) else ((lockstepref01_times.f x8 10).bind fun bt214 => ((lockstepref01_plus.f bt214.1 x12 bt214.2).bind fun bt216 => (lockstepref01_Quotient.l0 k x1 x2 bt216.1 x13 bt216.2 (wrap64 (x11 + 1)))))
end
def lockstepref01_Quotient.f (k : Nat) (a0 : Int) (a1 : Int) (a2 : Int) : Option (Int × Bool) := if a1 = 0 then (none) else (lockstepref01_Quotient.l0 k a1 a2 (IntKind.u64.wrap (Int.tdiv a0 a1)) (Int.tmod a0 a1) true 0)
end Go.Proofs.YtkkpnbfhghfleaaDoor.X
end
section
namespace Go.Proofs.YtkkpnbfhghfleaaDoor.X
open Go.RowKit Go.Proofs.YtkkpnbfhghfleaaDoorW.PrintWords Go.Proofs.YtkkpnbfhghfleaaDoorW.PrintLast Go.Proofs.YtkkpnbfhghfleaaDoorW.PrintMore
attribute [local go_sem] max2_int min2_int max_two min_two max_three min_three max_four min_four
set_option linter.unusedVariables false
set_option linter.unusedSimpArgs false
def lockstepref01_reckoned.j0 : Nat → Int → Int → Int → Option (Int × Int)
 | 0, _, _, _ => none
 | k + 1, x1, x2, x12 => (lockstepref01_size.f x1).bind fun t222 => ((lockstepref01_size.f x2).bind fun t223 => ((lockstepref01_Quotient.f k t222 t223 x12).bind fun bt224 => (if bt224.2 = true then ((lockstepref01_near.f k bt224.1 ((decide (x1 < 0)) != (decide (x2 < 0)))).bind fun bt226 => (if bt226.2 = true then (some (bt226.1, 0)) else (some (0, 10)))) else (some (0, 10)))))
def lockstepref01_reckoned.f (k : Nat) (a0 : ByteArray) (a1 : Int) (a2 : Int) (a3 : Bool) : Option (Int × Int) := if a0.toList = ([43] : List UInt8) then ((lockstepref01_sum.f a1 a2).bind fun bt218 => (if bt218.2 = true then (some (bt218.1, 0)) else (some (0, 10)))) else (if a0.toList = ([45] : List UInt8) then (if (((decide (a2 ≥ 0)) == (decide ((wrap64 (a1 - a2)) ≤ a1))) = true) then (some (wrap64 (a1 - a2), 0)) else (some (0, 10))) else (if a0.toList = ([42] : List UInt8) then ((lockstepref01_product.f k a1 a2 a3).bind fun bt220 => (if bt220.2 = true then (some (bt220.1, 0)) else (some (0, 10)))) else (if a2 = 0 then (some (0, 11)) else (if a3 = true then (lockstepref01_reckoned.j0 k a1 a2 4) else (lockstepref01_reckoned.j0 k a1 a2 0)))))
end Go.Proofs.YtkkpnbfhghfleaaDoor.X
end
section
namespace Go.Proofs.YtkkpnbfhghfleaaDoor.X
open Go.RowKit Go.Proofs.YtkkpnbfhghfleaaDoorW.PrintWords Go.Proofs.YtkkpnbfhghfleaaDoorW.PrintLast Go.Proofs.YtkkpnbfhghfleaaDoorW.PrintMore
attribute [local go_sem] max2_int min2_int max_two min_two max_three min_three max_four min_four
set_option linter.unusedVariables false
set_option linter.unusedSimpArgs false
mutual
def lockstepref01_Reckon.j0 : Nat → ByteArray → Bool → Int → Int → ByteArray → Int → Int → ByteArray → Option (Int × Int × ByteArray × Int)
 | 0, _, _, _, _, _, _, _, _ => none
 | k + 1, x0, x45, x229000, x229001, x229002, x230000, x230001, x230002 => if x45 = true then (some (0, 0, (⟨#[]⟩ : ByteArray), 7)) else (if x229000 = 0 then (lockstepref01_Reckon.j1 k x0 true x229000 x229001 x229002 x230000 x230001 x230002) else (lockstepref01_Reckon.j1 k x0 (x230000 == 0) x229000 x229001 x229002 x230000 x230001 x230002))
def lockstepref01_Reckon.j1 : Nat → ByteArray → Bool → Int → Int → ByteArray → Int → Int → ByteArray → Option (Int × Int × ByteArray × Int)
 | 0, _, _, _, _, _, _, _, _ => none
 | k + 1, x0, x54, x229000, x229001, x229002, x230000, x230001, x230002 => if x54 = true then (some (0, 0, (⟨#[]⟩ : ByteArray), 0)) else (if x229000 = 2 then (lockstepref01_Reckon.j2 k x0 1 x229001 x230001 true x229000 x229001 x229002 x230000 x230001 x230002) else (lockstepref01_Reckon.j2 k x0 1 x229001 x230001 (x230000 == 2) x229000 x229001 x229002 x230000 x230001 x230002))
def lockstepref01_Reckon.j2 : Nat → ByteArray → Int → Int → Int → Bool → Int → Int → ByteArray → Int → Int → ByteArray → Option (Int × Int × ByteArray × Int)
 | 0, _, _, _, _, _, _, _, _, _, _, _ => none
 | k + 1, x0, x9, x10, x11, x67, x229000, x229001, x229002, x230000, x230001, x230002 => if x67 = true then ((lockstepref01_scaled.f k x229000 x229001 x229002).bind fun bt239 => ((lockstepref01_scaled.f k x230000 x230001 x230002).bind fun bt241 => (if bt239.2 = true then (lockstepref01_Reckon.j3 k x0 2 bt239.1 bt241.1 (!bt241.2)) else (lockstepref01_Reckon.j3 k x0 2 bt239.1 bt241.1 true)))) else ((lockstepref01_reckoned.f k x0 x10 x11 (x9 == 2)).bind fun bt245 => (if bt245.2 = 0 then (some (x9, bt245.1, (⟨#[]⟩ : ByteArray), 0)) else (some (0, 0, (⟨#[]⟩ : ByteArray), bt245.2))))
def lockstepref01_Reckon.j3 : Nat → ByteArray → Int → Int → Int → Bool → Option (Int × Int × ByteArray × Int)
 | 0, _, _, _, _, _ => none
 | k + 1, x0, x9, x10, x11, x83 => if x83 = true then (some (0, 0, (⟨#[]⟩ : ByteArray), 10)) else ((lockstepref01_reckoned.f k x0 x10 x11 (x9 == 2)).bind fun bt243 => (if bt243.2 = 0 then (some (x9, bt243.1, (⟨#[]⟩ : ByteArray), 0)) else (some (0, 0, (⟨#[]⟩ : ByteArray), bt243.2))))
end
def lockstepref01_Reckon.f (k : Nat) (a0 : ByteArray) (a1_0 : Int) (a1_1 : Int) (a1_2 : ByteArray) (a2_0 : Int) (a2_1 : Int) (a2_2 : ByteArray) : Option (Int × Int × ByteArray × Int) := (lockstepref01_in.f k (([(⟨#[43]⟩ : ByteArray), (⟨#[45]⟩ : ByteArray), (⟨#[42]⟩ : ByteArray), (⟨#[47]⟩ : ByteArray)] : List ByteArray)) a0).bind fun t234 => (if t234 = true then ((lockstepref01_both.f k a1_0 a1_1 a1_2 a2_0 a2_1 a2_2).bind fun t235 => (if t235 = 0 then (if a1_0 = 0 then (if a2_0 = 0 then (lockstepref01_Reckon.j0 k a0 false a1_0 a1_1 a1_2 a2_0 a2_1 a2_2) else ((lockstepref01_number.f a2_0 a2_1 a2_2).bind fun t236 => (lockstepref01_Reckon.j0 k a0 (!t236) a1_0 a1_1 a1_2 a2_0 a2_1 a2_2))) else ((lockstepref01_number.f a1_0 a1_1 a1_2).bind fun t237 => (if t237 = true then (if a2_0 = 0 then (lockstepref01_Reckon.j0 k a0 false a1_0 a1_1 a1_2 a2_0 a2_1 a2_2) else ((lockstepref01_number.f a2_0 a2_1 a2_2).bind fun t238 => (lockstepref01_Reckon.j0 k a0 (!t238) a1_0 a1_1 a1_2 a2_0 a2_1 a2_2))) else (lockstepref01_Reckon.j0 k a0 true a1_0 a1_1 a1_2 a2_0 a2_1 a2_2)))) else (some (0, 0, (⟨#[]⟩ : ByteArray), t235)))) else (some (0, 0, (⟨#[]⟩ : ByteArray), 1)))
end Go.Proofs.YtkkpnbfhghfleaaDoor.X
end
section
namespace Go.Proofs.YtkkpnbfhghfleaaDoor.X
open Go.RowKit Go.Proofs.YtkkpnbfhghfleaaDoorW.PrintWords Go.Proofs.YtkkpnbfhghfleaaDoorW.PrintLast Go.Proofs.YtkkpnbfhghfleaaDoorW.PrintMore
attribute [local go_sem] max2_int min2_int max_two min_two max_three min_three max_four min_four
set_option linter.unusedVariables false
set_option linter.unusedSimpArgs false
def value_Neg.f (k : Nat) (a0_0 : Int) (a0_1 : Int) (a0_2 : ByteArray) : Option (Int × Int × ByteArray × Int) := (value_Check.f k a0_0 a0_1 a0_2).bind fun t249 => (if t249 = 0 then (if a0_0 = 0 then (some (0, 0, (⟨#[]⟩ : ByteArray), 0)) else ((value_number.f a0_0 a0_1 a0_2).bind fun t250 => (if t250 = true then (if a0_1 = (-9223372036854775808) then (some (0, 0, (⟨#[]⟩ : ByteArray), 10)) else (some (a0_0, wrap64 (-a0_1), (⟨#[]⟩ : ByteArray), 0))) else (some (0, 0, (⟨#[]⟩ : ByteArray), 7))))) else (some (0, 0, (⟨#[]⟩ : ByteArray), t249)))
end Go.Proofs.YtkkpnbfhghfleaaDoor.X
end
section
namespace Go.Proofs.YtkkpnbfhghfleaaDoor.X
open Go.RowKit Go.Proofs.YtkkpnbfhghfleaaDoorW.PrintWords Go.Proofs.YtkkpnbfhghfleaaDoorW.PrintLast Go.Proofs.YtkkpnbfhghfleaaDoorW.PrintMore
attribute [local go_sem] max2_int min2_int max_two min_two max_three min_three max_four min_four
set_option linter.unusedVariables false
set_option linter.unusedSimpArgs false
def lockstepref01_Neg.j0 : Nat → Bool → Int → Int → ByteArray → Option (Int × Int × ByteArray × Int)
 | 0, _, _, _, _ => none
 | k + 1, x20, x252000, x252001, x252002 => if x20 = true then (some (0, 0, (⟨#[]⟩ : ByteArray), 7)) else (if x252000 = 0 then (some (0, 0, (⟨#[]⟩ : ByteArray), 0)) else ((lockstepref01_size.f x252001).bind fun t255 => ((lockstepref01_near.f k t255 (decide (x252001 > 0))).bind fun bt256 => (if bt256.2 = true then (some (x252000, bt256.1, (⟨#[]⟩ : ByteArray), 0)) else (some (0, 0, (⟨#[]⟩ : ByteArray), 10))))))
def lockstepref01_Neg.f (k : Nat) (a0_0 : Int) (a0_1 : Int) (a0_2 : ByteArray) : Option (Int × Int × ByteArray × Int) := (lockstepref01_Check.f k a0_0 a0_1 a0_2).bind fun t253 => (if t253 = 0 then (if a0_0 = 0 then (lockstepref01_Neg.j0 k false a0_0 a0_1 a0_2) else ((lockstepref01_number.f a0_0 a0_1 a0_2).bind fun t254 => (lockstepref01_Neg.j0 k (!t254) a0_0 a0_1 a0_2))) else (some (0, 0, (⟨#[]⟩ : ByteArray), t253)))
end Go.Proofs.YtkkpnbfhghfleaaDoor.X
end
section
namespace Go.Proofs.YtkkpnbfhghfleaaDoor.X
open Go.RowKit Go.Proofs.YtkkpnbfhghfleaaDoorW.PrintWords Go.Proofs.YtkkpnbfhghfleaaDoorW.PrintLast Go.Proofs.YtkkpnbfhghfleaaDoorW.PrintMore
attribute [local go_sem] max2_int min2_int max_two min_two max_three min_three max_four min_four
set_option linter.unusedVariables false
set_option linter.unusedSimpArgs false
attribute [local go_sem high] eqA27
end Go.Proofs.YtkkpnbfhghfleaaDoor.X
end
section
namespace Go.Proofs.YtkkpnbfhghfleaaDoor.X
set_option linter.unusedVariables false
set_option linter.unusedSimpArgs false
open Go.RowKit Go.Proofs.YtkkpnbfhghfleaaDoorW.PrintWords Go.Proofs.YtkkpnbfhghfleaaDoorW.PrintLast Go.Proofs.YtkkpnbfhghfleaaDoorW.PrintMore
namespace Num
theorem maskN (a : Nat) (ha : a < 18446744073709551616) : bits .and .u64 (a : Int) 4294967295 = ((a % 4294967296 : Nat) : Int) := by
  have h := bits_and_u64_nat a 4294967295 ha (by omega)
  have e : a &&& 4294967295 = a % 4294967296 := Nat.and_two_pow_sub_one_eq_mod a 32
  rw [e] at h
  exact h
theorem divN (a : Nat) : (a : Int) / 4294967296 = ((a / 4294967296 : Nat) : Int) := by omega
theorem mulN (a b : Nat) : (a : Int) * (b : Int) = ((a * b : Nat) : Int) := (Int.natCast_mul a b).symm
theorem addN (a b : Nat) : (a : Int) + (b : Int) = ((a + b : Nat) : Int) := (Int.natCast_add a b).symm
theorem wrapN (a : Nat) (ha : a < 18446744073709551616) : IntKind.u64.wrap (a : Int) = (a : Int) := by rw [IntKind.wrap_u64]; omega
theorem wrapM (a : Nat) : IntKind.u64.wrap (a : Int) = ((a % 18446744073709551616 : Nat) : Int) := by rw [IntKind.wrap_u64]; omega
theorem subW {r z t : Nat} (h : z + t = r) (ht : t < 18446744073709551616) : IntKind.u64.wrap ((r : Int) - IntKind.u64.wrap (z : Int)) = (t : Int) := by
  simp only [IntKind.wrap_u64]; omega
theorem subW2 {u v z r : Nat} (h : z + r = u * 4294967296 + v) (ht : r < 18446744073709551616) : IntKind.u64.wrap (IntKind.u64.wrap (IntKind.u64.wrap ((u : Int) * 4294967296) + (v : Int)) - IntKind.u64.wrap (z : Int)) = (r : Int) := by
  simp only [IntKind.wrap_u64]; omega
theorem tdivN (a b : Nat) : Int.tdiv (a : Int) (b : Int) = ((a / b : Nat) : Int) := rfl
theorem tmodN (a b : Nat) : Int.tmod (a : Int) (b : Int) = ((a % b : Nat) : Int) := rfl
end Num
open Num
theorem bits_Mul64.eq (x y : Nat) (hx : x < 18446744073709551616) (hy : y < 18446744073709551616) :
    bits_Mul64.f x y = some (((x * y / 18446744073709551616 : Nat) : Int), ((x * y % 18446744073709551616 : Nat) : Int)) := by
  obtain ⟨bd, bt, bw, hhi⟩ := Lib.mul64_hi x y hx hy
  have ba := Lib.half_mul_le (a := x / 4294967296) (b := y / 4294967296) (by omega) (by omega)
  have bb := Lib.half_mul_le (a := x / 4294967296) (b := y % 4294967296) (by omega) (by omega)
  have bc := Lib.half_mul_le (a := x % 4294967296) (b := y / 4294967296) (by omega) (by omega)
  have ba' : x / 4294967296 * (y / 4294967296) < 18446744073709551616 := by omega
  have bb' : x / 4294967296 * (y % 4294967296) < 18446744073709551616 := by omega
  have bc' : x % 4294967296 * (y / 4294967296) < 18446744073709551616 := by omega
  have bh1 : x / 4294967296 * (y / 4294967296) + (x / 4294967296 * (y % 4294967296) + x % 4294967296 * (y % 4294967296) / 4294967296) / 4294967296 < 18446744073709551616 := by omega
  have bh : x / 4294967296 * (y / 4294967296) + (x / 4294967296 * (y % 4294967296) + x % 4294967296 * (y % 4294967296) / 4294967296) / 4294967296 + ((x / 4294967296 * (y % 4294967296) + x % 4294967296 * (y % 4294967296) / 4294967296) % 4294967296 + x % 4294967296 * (y / 4294967296)) / 4294967296 < 18446744073709551616 := by omega
  unfold bits_Mul64.f
  simp only [maskN x hx, maskN y hy, divN, mulN, addN, wrapN _ bd, wrapN _ bb', wrapN _ bt, maskN _ bt, wrapN _ bc', wrapN _ bw, wrapN _ ba', wrapN _ bh1, wrapN _ bh, wrapM (x * y)]
  rw [hhi]
theorem kn_false {y1 y0 u v q r : Nat} (hq : q * y1 + r = u) (h : q * y0 ≤ 4294967296 * r + v) : q * (y1 * 4294967296 + y0) ≤ u * 4294967296 + v := by
  rw [Nat.mul_add, ← Nat.mul_assoc]
  generalize q * y1 = p at *
  generalize q * y0 = z at *
  omega
theorem kn_true1 {y u v q : Nat} (hu : u < y) (hv : v < 4294967296) (h : 4294967296 ≤ q) : u * 4294967296 + v < q * y := by
  have h1 := Nat.mul_le_mul_right y h
  omega
theorem kn_true2 {y1 y0 u v q r : Nat} (hq : q * y1 + r = u) (h : 4294967296 * r + v < q * y0) : u * 4294967296 + v < q * (y1 * 4294967296 + y0) := by
  rw [Nat.mul_add, ← Nat.mul_assoc]
  generalize q * y1 = p at *
  generalize q * y0 = z at *
  omega
theorem kn_exit {y1 y0 u v t r : Nat} (hq : (t + 1) * y1 + r = u) (ht : t ≤ 4294967296) (h0 : y0 < 4294967296) (h : 4294967296 ≤ r + y1) :
    t * (y1 * 4294967296 + y0) ≤ u * 4294967296 + v := by
  have h2 : t * y0 ≤ 4294967296 * 4294967295 := Nat.mul_le_mul ht (by omega)
  rw [Nat.mul_add, ← Nat.mul_assoc]
  rw [Nat.succ_mul] at hq
  generalize t * y1 = p at *
  generalize t * y0 = z at *
  omega
theorem kn_start {y1 y0 u v : Nat} (h1 : 0 < y1) : u * 4294967296 + v < (u / y1 + 1) * (y1 * 4294967296 + y0) ∨ 4294967296 ≤ v := by
  by_cases hv : v < 4294967296
  · left
    have e := Nat.lt_div_mul_add (a := u) h1
    rw [Nat.mul_add, ← Nat.mul_assoc, Nat.succ_mul]
    generalize u / y1 * y1 = p at *
    generalize (u / y1 + 1) * y0 = z
    omega
  · right; omega
theorem kn_top {y1 y0 u : Nat} (h1 : 2147483648 ≤ y1) (h0 : y0 < 4294967296) (hu : u < y1 * 4294967296 + y0) : u / y1 ≤ 4294967297 := by
  refine Nat.le_of_lt_succ ((Nat.div_lt_iff_lt_mul (by omega)).mpr ?_)
  omega
theorem toB (x : Nat) (h : x < 18446744073709551616) (y : Nat) (hy : y < 18446744073709551616) :
    (decide (IntKind.u64.wrap (x : Int) > IntKind.u64.wrap (y : Int))) = decide (y < x) := by
  rw [wrapN _ h, wrapN _ hy]; exact decide_eq_decide.mpr (by omega)
theorem l0_spec (y1 y0 u v v0 : Nat) (s : Int) (h1 : 2147483648 ≤ y1) (h1' : y1 < 4294967296) (h0 : y0 < 4294967296) (hu : u < y1 * 4294967296 + y0) (hv : v < 4294967296)
    (c : Option (Int × Int)) (K : Nat) (hc : ∀ k, K ≤ k → bits_Div64.j2 k ((y1 * 4294967296 + y0 : Nat) : Int) s y1 y0 u v v0 (((u * 4294967296 + v) / (y1 * 4294967296 + y0) : Nat) : Int) = c) :
    ∀ (n q r : Nat), q * y1 + r = u → r < 4294967296 → u * 4294967296 + v < (q + 1) * (y1 * 4294967296 + y0) → q ≤ 4294967297 → 4294967296 ≤ r + n * y1 →
      ∀ k, K + 2 + 2 * n ≤ k → bits_Div64.l0 k ((y1 * 4294967296 + y0 : Nat) : Int) s y1 y0 u v v0 q r = c
  | 0, q, r, hq, hr, hlt, hqt, hn => by omega
  | n + 1, q, r, hq, hr, hlt, hqt, hn => by
    intro k hk
    obtain ⟨k, rfl⟩ : ∃ k', k = k' + 2 := ⟨k - 2, by omega⟩
    have hstep : u * 4294967296 + v < q * (y1 * 4294967296 + y0) → bits_Div64.j1 (k + 1) ((y1 * 4294967296 + y0 : Nat) : Int) s y1 y0 u v v0 q r true = c := by
      intro ht
      have hq0 : q ≠ 0 := fun e => by subst e; omega
      obtain ⟨t, rfl⟩ : ∃ t, q = t + 1 := ⟨q - 1, by omega⟩
      rw [bits_Div64.j1, if_pos rfl]
      have ea : IntKind.u64.wrap ((r : Int) + (y1 : Int)) = ((r + y1 : Nat) : Int) := by rw [addN, wrapN _ (by omega)]
      have eb : IntKind.u64.wrap (((t + 1 : Nat) : Int) - 1) = (t : Int) := by rw [IntKind.wrap_u64]; omega
      rw [ea, eb]
      by_cases hx : 4294967296 ≤ r + y1
      · rw [if_pos (by omega)]
        have hle := kn_exit (v := v) hq (by omega) h0 hx
        have e : (u * 4294967296 + v) / (y1 * 4294967296 + y0) = t := Nat.div_eq_of_lt_le hle ht
        rw [← e]
        exact hc k (by omega)
      · rw [if_neg (by omega)]
        refine l0_spec y1 y0 u v v0 s h1 h1' h0 hu hv c K hc n t (r + y1) ?_ (by omega) ht (by omega) ?_ k (by omega)
        · rw [Nat.succ_mul] at hq; omega
        · rw [Nat.succ_mul] at hn; omega
    rw [bits_Div64.l0]
    by_cases hb : 4294967296 ≤ q
    · rw [if_pos (by omega)]
      exact hstep (kn_true1 hu hv hb)
    · rw [if_neg (by omega)]
      have hz : q * y0 ≤ 4294967295 * 4294967295 := Nat.mul_le_mul (by omega) (by omega)
      have e1 : (4294967296 : Int) * (r : Int) = ((4294967296 * r : Nat) : Int) := by omega
      rw [mulN, e1, wrapN (4294967296 * r) (by omega), addN, toB _ (by omega) _ (by omega)]
      by_cases ht : 4294967296 * r + v < q * y0
      · rw [decide_eq_true ht]
        exact hstep (kn_true2 hq ht)
      · rw [decide_eq_false ht, bits_Div64.j1, if_neg (by decide)]
        have e : (u * 4294967296 + v) / (y1 * 4294967296 + y0) = q := Nat.div_eq_of_lt_le (kn_false hq (by omega)) hlt
        rw [← e]
        exact hc k (by omega)
theorem l1_spec (y1 y0 u v q1 s : Nat) (h1 : 2147483648 ≤ y1) (h1' : y1 < 4294967296) (h0 : y0 < 4294967296) (hu : u < y1 * 4294967296 + y0) (hv : v < 4294967296) (hq1 : q1 < 4294967296) (hs : s ≤ 64) :
    ∀ (n q r : Nat), q * y1 + r = u → r < 4294967296 → u * 4294967296 + v < (q + 1) * (y1 * 4294967296 + y0) → q ≤ 4294967297 → 4294967296 ≤ r + n * y1 →
      ∀ k, 2 + 2 * n ≤ k → bits_Div64.l1 k ((y1 * 4294967296 + y0 : Nat) : Int) s y1 y0 v q1 r u q =
        some ((((q1 * 4294967296 + (u * 4294967296 + v) / (y1 * 4294967296 + y0)) : Nat) : Int), (((u * 4294967296 + v) % (y1 * 4294967296 + y0) / 2 ^ s : Nat) : Int))
  | 0, q, r, hq, hr, hlt, hqt, hn => by omega
  | n + 1, q, r, hq, hr, hlt, hqt, hn => by
    intro k hk
    obtain ⟨k, rfl⟩ : ∃ k', k = k' + 2 := ⟨k - 2, by omega⟩
    have hend : ∀ t : Nat, t < 4294967296 → t * (y1 * 4294967296 + y0) ≤ u * 4294967296 + v → u * 4294967296 + v < (t + 1) * (y1 * 4294967296 + y0) →
        (some (IntKind.u64.wrap ((IntKind.u64.wrap ((q1 : Int) * 4294967296)) + (t : Int)), shr .u64 (IntKind.u64.wrap ((IntKind.u64.wrap ((IntKind.u64.wrap ((u : Int) * 4294967296)) + (v : Int))) - (IntKind.u64.wrap ((t : Int) * ((y1 * 4294967296 + y0 : Nat) : Int))))) s) : Option (Int × Int)) =
        some ((((q1 * 4294967296 + (u * 4294967296 + v) / (y1 * 4294967296 + y0)) : Nat) : Int), (((u * 4294967296 + v) % (y1 * 4294967296 + y0) / 2 ^ s : Nat) : Int)) := by
      intro t htb hle hlt
      have e : (u * 4294967296 + v) / (y1 * 4294967296 + y0) = t := Nat.div_eq_of_lt_le hle hlt
      have em : (u * 4294967296 + v) % (y1 * 4294967296 + y0) = u * 4294967296 + v - t * (y1 * 4294967296 + y0) := by
        have := Nat.div_add_mod (u * 4294967296 + v) (y1 * 4294967296 + y0)
        rw [e, Nat.mul_comm] at this
        omega
      rw [e, em]
      have ea : IntKind.u64.wrap (IntKind.u64.wrap ((q1 : Int) * 4294967296) + (t : Int)) = ((q1 * 4294967296 + t : Nat) : Int) := by
        rw [IntKind.wrap_u64, IntKind.wrap_u64]; omega
      rw [ea, mulN]
      rw [Nat.succ_mul] at hlt
      generalize hz : t * (y1 * 4294967296 + y0) = z at *
      have eb : IntKind.u64.wrap (IntKind.u64.wrap (IntKind.u64.wrap ((u : Int) * 4294967296) + (v : Int)) - IntKind.u64.wrap (z : Int)) = ((u * 4294967296 + v - z : Nat) : Int) := by
        simp only [IntKind.wrap_u64]; omega
      rw [eb]
      have es : min ((s : Int).toNat) IntKind.u64.bits = s := by simp [IntKind.bits]; omega
      unfold shr
      rw [es]
      have e2 : ((2 : Int) ^ s) = ((2 ^ s : Nat) : Int) := by simp
      rw [e2]
      congr 1
    have hstep : u * 4294967296 + v < q * (y1 * 4294967296 + y0) → bits_Div64.j4 (k + 1) ((y1 * 4294967296 + y0 : Nat) : Int) s y1 y0 v q1 r u q true =
        some ((((q1 * 4294967296 + (u * 4294967296 + v) / (y1 * 4294967296 + y0)) : Nat) : Int), (((u * 4294967296 + v) % (y1 * 4294967296 + y0) / 2 ^ s : Nat) : Int)) := by
      intro ht
      have hq0 : q ≠ 0 := fun e => by subst e; omega
      obtain ⟨t, rfl⟩ : ∃ t, q = t + 1 := ⟨q - 1, by omega⟩
      rw [bits_Div64.j4, if_pos rfl]
      have ea : IntKind.u64.wrap ((r : Int) + (y1 : Int)) = ((r + y1 : Nat) : Int) := by rw [addN, wrapN _ (by omega)]
      have eb : IntKind.u64.wrap (((t + 1 : Nat) : Int) - 1) = (t : Int) := by rw [IntKind.wrap_u64]; omega
      rw [ea, eb]
      by_cases hx : 4294967296 ≤ r + y1
      · rw [if_pos (by omega), if_pos (by omega)]
        have hle := kn_exit (v := v) hq (by omega) h0 hx
        refine hend t ?_ hle ht
        apply Nat.lt_of_not_le
        intro hc
        have := kn_true1 (q := t) hu hv hc
        omega
      · rw [if_neg (by omega)]
        refine l1_spec y1 y0 u v q1 s h1 h1' h0 hu hv hq1 hs n t (r + y1) ?_ (by omega) ht (by omega) ?_ k (by omega)
        · rw [Nat.succ_mul] at hq; omega
        · rw [Nat.succ_mul] at hn; omega
    rw [bits_Div64.l1]
    by_cases hb : 4294967296 ≤ q
    · rw [if_pos (by omega)]
      exact hstep (kn_true1 hu hv hb)
    · rw [if_neg (by omega)]
      have hz : q * y0 ≤ 4294967295 * 4294967295 := Nat.mul_le_mul (by omega) (by omega)
      have e1 : (4294967296 : Int) * (r : Int) = ((4294967296 * r : Nat) : Int) := by omega
      rw [mulN, e1, wrapN (4294967296 * r) (by omega), addN, toB _ (by omega) _ (by omega)]
      by_cases ht : 4294967296 * r + v < q * y0
      · rw [decide_eq_true ht]
        exact hstep (kn_true2 hq ht)
      · rw [decide_eq_false ht, bits_Div64.j4, if_neg (by decide), if_pos (by omega)]
        exact hend q (by omega) (kn_false hq (by omega)) hlt
theorem j2_spec (y1 y0 u v v0 q1 s : Nat) (h1 : 2147483648 ≤ y1) (h1' : y1 < 4294967296) (h0 : y0 < 4294967296) (hu : u < y1 * 4294967296 + y0) (hv : v < 4294967296) (hv0 : v0 < 4294967296) (hs : s ≤ 64)
    (hq1 : (u * 4294967296 + v) / (y1 * 4294967296 + y0) = q1) (k : Nat) (hk : 8 ≤ k) :
    bits_Div64.j2 k ((y1 * 4294967296 + y0 : Nat) : Int) s y1 y0 u v v0 q1 =
      some (((((u * 4294967296 + v) * 4294967296 + v0) / (y1 * 4294967296 + y0) : Nat) : Int), ((((u * 4294967296 + v) * 4294967296 + v0) % (y1 * 4294967296 + y0) / 2 ^ s : Nat) : Int)) := by
  obtain ⟨k, rfl⟩ : ∃ k', k = k' + 1 := ⟨k - 1, by omega⟩
  have hy : 0 < y1 * 4294967296 + y0 := by omega
  have hm := Nat.div_add_mod (u * 4294967296 + v) (y1 * 4294967296 + y0)
  have hl := Nat.mod_lt (u * 4294967296 + v) hy
  rw [hq1] at hm
  obtain ⟨r, hr⟩ : ∃ r, r = (u * 4294967296 + v) % (y1 * 4294967296 + y0) := ⟨_, rfl⟩
  rw [← hr] at hm hl
  have hq1b : q1 < 4294967296 := by
    rw [← hq1]
    refine (Nat.div_lt_iff_lt_mul hy).mpr ?_
    omega
  rw [bits_Div64.j2, if_neg (by omega)]
  rw [Nat.mul_comm] at hm
  have er : IntKind.u64.wrap (IntKind.u64.wrap (IntKind.u64.wrap ((u : Int) * 4294967296) + (v : Int)) - IntKind.u64.wrap ((q1 : Int) * ((y1 * 4294967296 + y0 : Nat) : Int))) = (r : Int) := by
    rw [mulN]
    exact subW2 hm (by omega)
  rw [er, tdivN]
  have hqt := kn_top h1 h0 hl
  have hst := (kn_start (y0 := y0) (u := r) (v := v0) (show 0 < y1 by omega)).resolve_right (by omega)
  have hdm := Nat.div_add_mod' r y1
  have hml := Nat.mod_lt r (show 0 < y1 by omega)
  rw [wrapN (r / y1) (by omega)]
  have em : IntKind.u64.wrap ((r : Int) - IntKind.u64.wrap (((r / y1 : Nat) : Int) * (y1 : Int))) = ((r % y1 : Nat) : Int) := by
    rw [mulN]; exact subW hdm (by omega)
  rw [em, l1_spec y1 y0 r v0 q1 s h1 h1' h0 hl hv0 hq1b hs 2 (r / y1) (r % y1) hdm (by omega) hst hqt (by omega) k (by omega)]
  have e : (u * 4294967296 + v) * 4294967296 + v0 = (r * 4294967296 + v0) + (y1 * 4294967296 + y0) * (q1 * 4294967296) := by
    rw [← hm, ← Nat.mul_assoc, Nat.mul_comm (y1 * 4294967296 + y0) q1]
    omega
  rw [e, Nat.add_mul_div_left _ _ hy, Nat.add_mul_mod_self_left, Nat.add_comm (q1 * 4294967296)]
theorem bits_Div64.eq (hi lo y : Nat) (hy : y < 18446744073709551616) (hlo : lo < 18446744073709551616) (hhi : hi < y) (k : Nat) (hk : 20 ≤ k) :
    bits_Div64.f k hi lo y = some ((((hi * 18446744073709551616 + lo) / y : Nat) : Int), (((hi * 18446744073709551616 + lo) % y : Nat) : Int)) := by
  unfold bits_Div64.f
  rw [if_neg (by omega), if_neg (by omega)]
  by_cases h0 : hi = 0
  · subst h0
    have hd : lo / y ≤ lo := Nat.div_le_self _ _
    rw [if_pos (by omega), tdivN, tmodN, wrapN _ (by omega), Nat.zero_mul, Nat.zero_add]
  rw [if_neg (by omega)]
  obtain ⟨hb1, hb2, hb3⟩ := Lib.bitLenAux_bounds 64 y (by omega) (by omega)
  have hb4 := Lib.bitLen_le y 64 (by omega) (by omega)
  change 1 ≤ Lib.bitLen y at hb1
  change 2 ^ (Lib.bitLen y - 1) ≤ y at hb2
  change y < 2 ^ Lib.bitLen y at hb3
  have hz : bits_LeadingZeros64.f (y : Int) = some (((64 - Lib.bitLen y : Nat) : Int)) := by
    unfold bits_LeadingZeros64.f
    rw [if_pos (by omega), Int.toNat_natCast]
    congr 1
    omega
  rw [hz, Option.bind_some]
  generalize hB : Lib.bitLen y = B at *
  generalize hS : 64 - B = s at *
  have hsB : B = 64 - s := by omega
  have hs : s ≤ 63 := by omega
  subst hsB
  have p2 : 2 ^ (64 - s) * 2 ^ s = 18446744073709551616 := by
    rw [← Nat.pow_add, Nat.sub_add_cancel (by omega)]
  have p1 : 2 ^ (64 - s - 1) * 2 ^ s = 9223372036854775808 := by
    rw [← Nat.pow_add, show 64 - s - 1 + s = 63 by omega]
  have yl : 9223372036854775808 ≤ y * 2 ^ s := by rw [← p1]; exact Nat.mul_le_mul_right _ hb2
  have ps : 0 < 2 ^ s := Nat.pow_pos (by decide)
  have yh : y * 2 ^ s < 18446744073709551616 := by rw [← p2]; exact Nat.mul_lt_mul_of_pos_right hb3 ps
  have hh : hi * 2 ^ s < y * 2 ^ s := Nat.mul_lt_mul_of_pos_right hhi ps
  have eS : IntKind.u64.wrap (s : Int) = (s : Int) := wrapN s (by omega)
  have eS2 : IntKind.u64.wrap (64 - (s : Int)) = ((64 - s : Nat) : Int) := by rw [IntKind.wrap_u64]; omega
  rw [eS, eS2, if_pos (by omega), if_pos (by omega)]
  have eshl : ∀ x : Nat, shl .u64 (x : Int) (s : Int) = ((x * 2 ^ s % 18446744073709551616 : Nat) : Int) := fun x => by
    have es : min ((s : Int).toNat) IntKind.u64.bits = s := by simp [IntKind.bits]; omega
    unfold shl
    rw [es, show ((2 : Int) ^ s) = ((2 ^ s : Nat) : Int) by simp, mulN, wrapM]
  have eshr : shr .u64 (lo : Int) ((64 - s : Nat) : Int) = ((lo / 2 ^ (64 - s) : Nat) : Int) := by
    have es : min (((64 - s : Nat) : Int).toNat) IntKind.u64.bits = 64 - s := by rw [Int.toNat_natCast, show IntKind.u64.bits = 64 from rfl]; omega
    unfold shr
    rw [es, show ((2 : Int) ^ (64 - s)) = ((2 ^ (64 - s) : Nat) : Int) by simp]
    rfl
  rw [eshl, eshl, eshl, eshr, Nat.mod_eq_of_lt yh, Nat.mod_eq_of_lt (Nat.lt_trans hh yh)]
  have hll : lo / 2 ^ (64 - s) < 2 ^ s := by
    refine (Nat.div_lt_iff_lt_mul (Nat.pow_pos (by decide))).mpr ?_
    rw [Nat.mul_comm, p2]; exact hlo
  have eor : Go.bits .or .u64 ((hi * 2 ^ s : Nat) : Int) ((lo / 2 ^ (64 - s) : Nat) : Int) = ((hi * 2 ^ s + lo / 2 ^ (64 - s) : Nat) : Int) := by
    have hlo2 : lo / 2 ^ (64 - s) ≤ lo := Nat.div_le_self _ _
    rw [bits_or_u64_nat _ _ (Nat.lt_trans hh yh) (by omega)]
    congr 1
    rw [Nat.mul_comm, ← Nat.two_pow_add_eq_or_of_lt hll]
  rw [eor]
  have hu : hi * 2 ^ s + lo / 2 ^ (64 - s) < y * 2 ^ s := by
    have : (hi + 1) * 2 ^ s ≤ y * 2 ^ s := Nat.mul_le_mul_right _ hhi
    rw [Nat.succ_mul] at this
    omega
  have elo : lo * 2 ^ s / 18446744073709551616 = lo / 2 ^ (64 - s) := by
    rw [← p2]; exact Nat.mul_div_mul_right _ _ ps
  have hN : (hi * 2 ^ s + lo / 2 ^ (64 - s)) * 18446744073709551616 + lo * 2 ^ s % 18446744073709551616 = (hi * 18446744073709551616 + lo) * 2 ^ s := by
    rw [Nat.add_mul (hi * 18446744073709551616), Nat.mul_right_comm hi, ← elo]
    generalize hi * 2 ^ s = a
    generalize lo * 2 ^ s = b
    omega
  have hdiv : ((hi * 18446744073709551616 + lo) / y : Nat) = (hi * 18446744073709551616 + lo) * 2 ^ s / (y * 2 ^ s) := (Nat.mul_div_mul_right _ _ ps).symm
  have hmod : ((hi * 18446744073709551616 + lo) % y : Nat) = (hi * 18446744073709551616 + lo) * 2 ^ s % (y * 2 ^ s) / 2 ^ s := by
    rw [Nat.mul_mod_mul_right, Nat.mul_div_cancel _ ps]
  rw [hdiv, hmod, ← hN]
  have hlm := Nat.mod_lt (lo * 2 ^ s) (show 0 < 18446744073709551616 by decide)
  generalize hU : hi * 2 ^ s + lo / 2 ^ (64 - s) = U at *
  generalize hV : lo * 2 ^ s % 18446744073709551616 = V at *
  generalize hY : y * 2 ^ s = Y at *
  rw [divN, divN, maskN _ yh, maskN _ hlm, if_neg (by omega)]
  have hY2 : Y = Y / 4294967296 * 4294967296 + Y % 4294967296 := by omega
  have hV2 : U * 18446744073709551616 + V = (U * 4294967296 + V / 4294967296) * 4294967296 + V % 4294967296 := by omega
  rw [hV2]
  generalize hy1 : Y / 4294967296 = y1 at *
  generalize hy0 : Y % 4294967296 = y0 at *
  have b1 : 2147483648 ≤ y1 := by omega
  have b2 : y1 < 4294967296 := by omega
  have b3 : y0 < 4294967296 := by omega
  subst hY2
  have hqt := kn_top b1 b3 hu
  have hst := (kn_start (y0 := y0) (u := U) (v := V / 4294967296) (show 0 < y1 by omega)).resolve_right (by omega)
  have hdm := Nat.div_add_mod' U y1
  have hml := Nat.mod_lt U (show 0 < y1 by omega)
  rw [tdivN, wrapN (U / y1) (by omega)]
  have em : IntKind.u64.wrap ((U : Int) - IntKind.u64.wrap (((U / y1 : Nat) : Int) * (y1 : Int))) = ((U % y1 : Nat) : Int) := by
    rw [mulN]; exact subW hdm (by omega)
  rw [em]
  exact l0_spec y1 y0 U (V / 4294967296) (V % 4294967296) s b1 b2 b3 hu (by omega) _ 8
    (fun k hk => j2_spec y1 y0 U (V / 4294967296) (V % 4294967296) _ s b1 b2 b3 hu (by omega) (by omega) (by omega) rfl k hk)
    2 (U / y1) (U % y1) hdm (by omega) hst hqt (by omega) k (by omega)
end Go.Proofs.YtkkpnbfhghfleaaDoor.X
end
section
namespace Go.Proofs.YtkkpnbfhghfleaaDoor.X
set_option linter.unusedVariables false
set_option linter.unusedSimpArgs false
open Go.RowKit Go.Proofs.YtkkpnbfhghfleaaDoorW.PrintWords Go.Proofs.YtkkpnbfhghfleaaDoorW.PrintLast Go.Proofs.YtkkpnbfhghfleaaDoorW.PrintMore
open Num
set_option linter.unusedSimpArgs false
def chk (t n : Int) (s : ByteArray) : Int :=
  if t = 0 ∨ t = 1 ∨ t = 2 then 0 else if t = 4 then (if n = 0 ∨ n = 1 then 0 else 1) else if t = 3 then (if (s.size : Int) > 4096 then 2 else if Lib.validD s.data.toList = true then 0 else 3) else 1
theorem value_Check.eq (k : Nat) (t n : Int) (s : ByteArray) : value_Check.f (k + 1) t n s = some (chk t n s) := by
  unfold value_Check.f chk
  simp only [value_Check.j0]
  by_cases h0 : t = 0
  · subst h0; simp
  by_cases h1 : t = 1
  · subst h1; simp
  by_cases h2 : t = 2
  · subst h2; simp
  simp only [h0, h1, h2, if_false, false_or, or_false, beq_eq_false_iff_ne.mpr h2, Bool.false_eq_true]
  by_cases h4 : t = 4
  · subst h4
    simp only [if_true]
    by_cases hn : n = 0
    · simp [hn]
    · by_cases hn1 : n = 1 <;> simp [hn, hn1]
  · simp only [h4, if_false]
    by_cases h3 : t = 3
    · subst h3
      simp only [if_true]
      by_cases hs : (s.size : Int) > 4096
      · simp only [hs, if_true]
      · simp only [hs, if_false]
        unfold utf8_ValidString.f
        rw [if_pos (by omega), Option.bind_some]
        by_cases hv : Lib.validD s.data.toList = true <;> simp only [hv, if_true, if_false, Bool.false_eq_true]
    · simp only [h3, if_false]
theorem lockstepref01_Check.eq (k : Nat) (t n : Int) (s : ByteArray) : lockstepref01_Check.f (k + 2) t n s = some (chk t n s) := by
  unfold lockstepref01_Check.f chk
  simp only [lockstepref01_Check.j0]
  by_cases hlo : t < 0
  · simp only [hlo, if_true]
    rw [if_neg (by omega), if_neg (by omega), if_neg (by omega)]
  by_cases hhi : t > 4
  · simp only [hlo, hhi, if_true, if_false]
    rw [if_neg (by omega), if_neg (by omega), if_neg (by omega)]
  simp only [hlo, hhi, if_false]
  by_cases h4 : t = 4
  · subst h4
    simp only [if_true, lockstepref01_Check.j1]
    by_cases hn : n = 0
    · simp [hn]
    · by_cases hn1 : n = 1 <;> simp [hn, hn1]
  · simp only [h4, if_false, Bool.false_eq_true]
    by_cases h3 : t = 3
    · subst h3
      simp only [if_true, lockstepref01_Check.j1]
      by_cases hs : (s.size : Int) > 4096
      · simp [hs]
      · simp only [hs, decide_false, if_false, Bool.false_eq_true]
        unfold lockstepref01_valid.f
        rw [if_pos (by omega), Option.bind_some]
        by_cases hv : Lib.validD s.data.toList = true <;> simp [hv]
    · simp only [h3, if_false, lockstepref01_Check.j1, Bool.false_eq_true]
      rw [if_pos (by omega)]
def both (t n : Int) (s : ByteArray) (t2 n2 : Int) (s2 : ByteArray) : Int := if chk t n s = 0 then chk t2 n2 s2 else chk t n s
theorem value_both.eq (k : Nat) (t n : Int) (s : ByteArray) (t2 n2 : Int) (s2 : ByteArray) : value_both.f (k + 1) t n s t2 n2 s2 = some (both t n s t2 n2 s2) := by
  unfold value_both.f both
  rw [value_Check.eq, value_Check.eq, Option.bind_some, Option.bind_some]
  split <;> rfl
theorem lockstepref01_both.eq (k : Nat) (t n : Int) (s : ByteArray) (t2 n2 : Int) (s2 : ByteArray) : lockstepref01_both.f (k + 2) t n s t2 n2 s2 = some (both t n s t2 n2 s2) := by
  unfold lockstepref01_both.f both
  rw [lockstepref01_Check.eq, lockstepref01_Check.eq, Option.bind_some, Option.bind_some]
  split <;> rfl
def sgn (n : Nat) (neg : Bool) : Option Int := if neg = true then (if n ≤ 9223372036854775808 then some (-(n : Int)) else none) else if n < 9223372036854775808 then some (n : Int) else none
def opt : Option Int → Int × Bool
  | some v => (v, true)
  | none => (0, false)
def res : Option Int → Int × Int
  | some v => (v, 0)
  | none => (0, 10)
theorem sgn_big {n : Nat} (h : 18446744073709551616 ≤ n) (neg : Bool) : sgn n neg = none := by
  unfold sgn
  cases neg
  · rw [if_neg (by decide), if_neg (by omega)]
  · rw [if_pos rfl, if_neg (by omega)]
theorem value_signed.eq (k n : Nat) (hn : n < 18446744073709551616) (neg : Bool) : value_signed.f (k + 1) n neg = some (opt (sgn n neg)) := by
  unfold value_signed.f sgn
  simp only [value_signed.j0]
  cases neg
  · simp only [Bool.false_eq_true, if_false]
    by_cases h : n < 9223372036854775808
    · rw [if_pos (by omega), if_pos h, opt, show wrap64 (n : Int) = (n : Int) by unfold wrap64; omega]
    · rw [if_neg (by omega), if_neg h, opt]
  · simp only [if_true]
    by_cases h : n ≤ 9223372036854775808
    · rw [decide_eq_true (show (n : Int) ≤ 9223372036854775808 by omega), if_pos rfl, if_pos h, opt, show wrap64 (IntKind.u64.wrap (-(n : Int))) = -(n : Int) by unfold wrap64; rw [IntKind.wrap_u64]; omega]
    · rw [decide_eq_false (show ¬ (n : Int) ≤ 9223372036854775808 by omega), if_neg (by decide), if_neg h, opt]
theorem lockstepref01_near.eq (k n : Nat) (hn : n < 18446744073709551616) (neg : Bool) : lockstepref01_near.f (k + 1) n neg = some (opt (sgn n neg)) := by
  unfold lockstepref01_near.f
  by_cases h0 : n = 0
  · subst h0
    rw [if_pos (by rfl)]
    cases neg <;> rfl
  rw [if_neg (by omega)]
  unfold lockstepref01_signed.f sgn
  simp only [lockstepref01_signed.j0]
  by_cases h1 : (n : Int) > 9223372036854775808
  · have c1 : ¬ n ≤ 9223372036854775808 := by omega
    have c2 : ¬ n < 9223372036854775808 := by omega
    cases neg <;> simp [h1, c1, c2, opt]
  by_cases h2 : (n : Int) = 9223372036854775808
  · have c1 : n ≤ 9223372036854775808 := by omega
    have c2 : ¬ n < 9223372036854775808 := by omega
    rw [if_neg h1, if_pos h2, h2]
    cases neg
    · simp [c2, opt]
    · have e : n = 9223372036854775808 := by omega
      subst e
      simp only [Bool.not_true, Bool.false_eq_true, if_false, if_true, Option.bind_some, Nat.le_refl]
      rw [show wrap64 (wrap64 (-wrap64 (IntKind.u64.wrap (9223372036854775808 - 1))) - 1) = -9223372036854775808 by unfold wrap64; rw [IntKind.wrap_u64]; rfl]
      rfl
  have c1 : n ≤ 9223372036854775808 := by omega
  have c2 : n < 9223372036854775808 := by omega
  rw [if_neg h1, if_neg h2]
  cases neg
  · simp only [Bool.false_eq_true, if_false, c2, if_true, Option.bind_some, opt, show wrap64 (n : Int) = (n : Int) by unfold wrap64; omega]
  · simp only [Bool.false_eq_true, if_false, c1, if_true, Option.bind_some, opt, show wrap64 (wrap64 (-wrap64 (IntKind.u64.wrap ((n : Int) - 1))) - 1) = -(n : Int) by unfold wrap64; rw [IntKind.wrap_u64]; omega]
theorem ref_size (a0 : Int) (h0 : -9223372036854775808 ≤ a0) (h1 : a0 ≤ 9223372036854775807) : lockstepref01_size.f a0 = some ((a0.natAbs : Nat) : Int) := by
  unfold lockstepref01_size.f
  by_cases h : a0 < 0
  · rw [if_pos h]
    congr 1
    unfold wrap64
    simp only [IntKind.wrap_u64]; omega
  · rw [if_neg h]
    congr 1
    rw [IntKind.wrap_u64]; omega
def rnd (N y : Nat) : Nat := N / y + (if y ≤ 2 * (N % y) then 1 else 0)
def fits (n : Nat) : Int × Bool := if n < 18446744073709551616 then ((n : Int), true) else (0, false)
theorem near_tail (q r y : Nat) (hq : q < 18446744073709551616) (hr : r < y) (hy : y < 18446744073709551616) :
    (if (r : Int) ≥ IntKind.u64.wrap ((y : Int) - (r : Int)) then some (IntKind.u64.wrap ((q : Int) + 1), ((IntKind.u64.wrap ((q : Int) + 1)) != 0)) else some ((q : Int), true) : Option (Int × Bool)) =
      some (fits (q + (if y ≤ 2 * r then 1 else 0))) := by
  have e1 : IntKind.u64.wrap ((y : Int) - (r : Int)) = ((y - r : Nat) : Int) := by rw [IntKind.wrap_u64]; omega
  rw [e1]
  unfold fits
  by_cases hc : y ≤ 2 * r
  · rw [if_pos (by omega), if_pos hc]
    by_cases hq1 : q + 1 < 18446744073709551616
    · have e2 : IntKind.u64.wrap ((q : Int) + 1) = ((q + 1 : Nat) : Int) := by rw [IntKind.wrap_u64]; omega
      rw [if_pos hq1, e2, show (((q + 1 : Nat) : Int) != 0) = true from bne_iff_ne.mpr (by omega)]
    · have e2 : IntKind.u64.wrap ((q : Int) + 1) = 0 := by rw [IntKind.wrap_u64]; omega
      rw [if_neg hq1, e2]; rfl
  · rw [if_neg (by omega), if_neg hc, Nat.add_zero, if_pos hq]
theorem value_near.eq (hi lo y : Nat) (hlo : lo < 18446744073709551616) (hy0 : 0 < y) (hy : y < 18446744073709551616) (k : Nat) (hk : 20 ≤ k) :
    value_near.f k hi lo y = some (fits (rnd (hi * 18446744073709551616 + lo) y)) := by
  unfold value_near.f
  by_cases h : y ≤ hi
  · rw [if_pos (by omega)]
    have h1 : 18446744073709551616 ≤ (hi * 18446744073709551616 + lo) / y := by
      refine (Nat.le_div_iff_mul_le hy0).mpr ?_
      have := Nat.mul_le_mul_left 18446744073709551616 h
      omega
    unfold fits rnd
    rw [if_neg (by omega)]
  · rw [if_neg (by omega), bits_Div64.eq hi lo y hy hlo (by omega) k hk, Option.bind_some]
    have hq : (hi * 18446744073709551616 + lo) / y < 18446744073709551616 := by
      refine (Nat.div_lt_iff_lt_mul hy0).mpr ?_
      have := Nat.mul_le_mul_left 18446744073709551616 (show hi + 1 ≤ y by omega)
      omega
    exact near_tail _ _ y hq (Nat.mod_lt (hi * 18446744073709551616 + lo) hy0) hy
def inr (x : Int) : Option Int := if -9223372036854775808 ≤ x ∧ x ≤ 9223372036854775807 then some x else none
def sg (a b : Int) : Bool := decide (a < 0) != decide (b < 0)
def core (op : ByteArray) (a b : Int) (sc : Bool) : Int × Int :=
  if op.toList = [43] then res (inr (a + b)) else if op.toList = [45] then res (inr (a - b))
  else if op.toList = [42] then res (sgn (if sc = true then rnd (a.natAbs * b.natAbs) 10000 else a.natAbs * b.natAbs) (sg a b))
  else if b = 0 then (0, 11) else res (sgn (if sc = true then rnd (a.natAbs * 10000) b.natAbs else a.natAbs / b.natAbs) (sg a b))
theorem res_opt (o : Option Int) : (if (opt o).2 = true then some ((opt o).1, 0) else some (0, 10) : Option (Int × Int)) = some (res o) := by cases o <;> rfl
theorem res_fits (R : Nat) (neg : Bool) (k : Nat) :
    ((value_signed.f (k + 1) (fits R).1 neg).bind fun bt156 => (if (fits R).2 = true then (if bt156.2 = true then (some (bt156.1, 0)) else (some (0, 10))) else (some (0, 10))) : Option (Int × Int)) = some (res (sgn R neg)) := by
  unfold fits
  by_cases h : R < 18446744073709551616
  · rw [if_pos h, value_signed.eq k R h, Option.bind_some]
    cases sgn R neg <;> simp [opt, res]
  · rw [if_neg h, sgn_big (by omega)]
    have := value_signed.eq k 0 (by decide) neg
    simp only [Int.natCast_zero] at this
    rw [this, Option.bind_some]
    simp [res]
theorem natAbs_lt {a : Int} (h0 : -9223372036854775808 ≤ a) (h1 : a ≤ 9223372036854775807) : a.natAbs < 18446744073709551616 := by omega
theorem value_plus (k : Nat) (a b : Int) (a0 : -9223372036854775808 ≤ a) (a1 : a ≤ 9223372036854775807) (b0 : -9223372036854775808 ≤ b) (b1 : b ≤ 9223372036854775807) :
    value_reckon.j1 (k + 2) a b = some (res (inr (a + b))) := by
  simp only [value_reckon.j1, value_reckon.j2]
  unfold inr
  by_cases hr : -9223372036854775808 ≤ a + b ∧ a + b ≤ 9223372036854775807
  · rw [if_pos hr, res, show wrap64 (a + b) = a + b by unfold wrap64; omega]
    by_cases ha : a < 0 <;> by_cases hb : b < 0 <;> simp [ha, hb]
    · omega
    · omega
  · rw [if_neg hr, res]
    by_cases ha : a < 0 <;> by_cases hb : b < 0 <;> simp [ha, hb]
    · unfold wrap64; omega
    · omega
    · omega
    · unfold wrap64; omega
theorem value_reckon.eq (k : Nat) (op : ByteArray) (a b : Int) (sc : Bool) (a0 : -9223372036854775808 ≤ a) (a1 : a ≤ 9223372036854775807) (b0 : -9223372036854775808 ≤ b) (b1 : b ≤ 9223372036854775807) :
    value_reckon.f (k + 30) op a b sc = some (core op a b sc) := by
  unfold value_reckon.f core
  by_cases h1 : op.toList = [43]
  · rw [if_pos h1, if_pos h1, value_reckon.j0, if_pos (by rw [h1]; rfl), if_neg (by rw [h1]; decide)]
    exact value_plus _ a b a0 a1 b0 b1
  rw [if_neg h1, if_neg h1, value_reckon.j0]
  by_cases h2 : op.toList = [45]
  · rw [if_pos (by rw [h2]; rfl), if_pos h2, if_pos h2]
    by_cases hm : b = -9223372036854775808
    · rw [if_pos hm]
      subst hm
      unfold inr
      by_cases ha : a ≥ 0
      · rw [if_pos ha, if_neg (by omega), res]
      · rw [if_neg ha, if_pos (by omega), res, show wrap64 (a - -9223372036854775808) = a - -9223372036854775808 by unfold wrap64; omega]
    · rw [if_neg hm, show wrap64 (-b) = -b by unfold wrap64; omega]
      exact value_plus _ a (-b) a0 a1 (by omega) (by omega)
  rw [if_neg (by rw [beq_iff_eq]; exact h2), if_neg h2]
  have la := natAbs_lt a0 a1
  have lb := natAbs_lt b0 b1
  by_cases h3 : op.toList = [42]
  · rw [if_pos h3, if_pos h3, size_natAbs a a0 a1, Option.bind_some, size_natAbs b b0 b1, Option.bind_some, bits_Mul64.eq _ _ la lb, Option.bind_some]
    generalize hP : a.natAbs * b.natAbs = P
    by_cases hs : sc = true
    · subst hs
      rw [if_pos rfl, if_pos rfl]
      simp only []
      have hn := value_near.eq (P / 18446744073709551616) (P % 18446744073709551616) 10000 (by omega) (by decide) (by decide) (k + 29) (by omega)
      rw [show ((10000 : Nat) : Int) = 10000 from rfl, Nat.div_add_mod'] at hn
      rw [hn, Option.bind_some]
      exact res_fits _ _ _
    · rw [if_neg hs, if_neg hs, value_signed.eq _ _ (by omega), Option.bind_some]
      change _ = some (res (sgn P (sg a b)))
      by_cases hh : P < 18446744073709551616
      · simp only []
        rw [Nat.mod_eq_of_lt hh, if_pos (by omega)]
        exact res_opt (sgn P (sg a b))
      · simp only []
        rw [if_neg (by omega), sgn_big (by omega), res]
  rw [if_neg h3, if_neg h3]
  by_cases hb : b = 0
  · rw [if_pos hb, if_pos hb]
  rw [if_neg hb, if_neg hb, size_natAbs a a0 a1, Option.bind_some, size_natAbs b b0 b1, Option.bind_some]
  by_cases hs : sc = true
  · subst hs
    rw [if_pos rfl, if_pos rfl]
    rw [show (10000 : Int) = ((10000 : Nat) : Int) from rfl, bits_Mul64.eq _ 10000 la (by decide), Option.bind_some, Option.bind_some]
    generalize hP : a.natAbs * 10000 = P
    simp only []
    rw [value_near.eq (P / 18446744073709551616) (P % 18446744073709551616) b.natAbs (by omega) (by omega) lb _ (by omega), Option.bind_some, Nat.div_add_mod']
    exact res_fits _ _ _
  · rw [if_neg hs, if_neg hs, Option.bind_some, if_neg (by omega), tdivN]
    have hd : a.natAbs / b.natAbs ≤ a.natAbs := Nat.div_le_self _ _
    rw [wrapN _ (by omega), value_signed.eq _ _ (by omega), Option.bind_some]
    exact res_opt (sgn (a.natAbs / b.natAbs) (sg a b))
theorem ref_times (x y : Nat) (hy : y < 18446744073709551616) :
    lockstepref01_times.f x y = some (((x * y % 18446744073709551616 : Nat) : Int), decide (x * y < 18446744073709551616)) := by
  unfold lockstepref01_times.f
  by_cases h : x = 0
  · subst h
    rw [if_pos (by rfl), mulN, wrapM, Nat.zero_mul]; rfl
  rw [if_neg (by omega), mulN, wrapM, tdivN]
  generalize hP : x * y = P
  have hd : P % 18446744073709551616 / x ≤ P % 18446744073709551616 := Nat.div_le_self _ _
  rw [wrapN _ (by omega)]
  congr 2
  by_cases hc : P < 18446744073709551616
  · rw [Nat.mod_eq_of_lt hc, decide_eq_true hc, ← hP, Nat.mul_div_cancel_left _ (by omega)]
    exact beq_self_eq_true _
  · rw [decide_eq_false hc]
    refine beq_eq_false_iff_ne.mpr (fun e => hc ?_)
    have e' : P % 18446744073709551616 / x = y := Int.ofNat.inj e
    have := Nat.div_mul_le_self (P % 18446744073709551616) x
    rw [e', Nat.mul_comm, hP] at this
    omega
def Word (n : Nat) (w : Int × Bool) : Prop := w.2 = decide (n < 18446744073709551616) ∧ ∃ m : Nat, w.1 = (m : Int) ∧ m < 18446744073709551616 ∧ (n < 18446744073709551616 → m = n)
theorem word_times (x y : Nat) (hy : y < 18446744073709551616) :
    ∃ w, lockstepref01_times.f x y = some w ∧ Word (x * y) w :=
  ⟨_, ref_times x y hy, rfl, _, rfl, Nat.mod_lt _ (by decide), fun h => Nat.mod_eq_of_lt h⟩
theorem word_plus (n m : Nat) (w : Int × Bool) (hw : Word n w) (ok : Bool) (hok : ok = true → w.2 = true) (hm : m < 18446744073709551616) (hok2 : ok = decide (n < 18446744073709551616)) :
    ∃ v, lockstepref01_plus.f w.1 m ok = some v ∧ Word (n + m) v := by
  obtain ⟨h2, a, h1, ha, hn⟩ := hw
  unfold lockstepref01_plus.f
  rw [h1, addN, wrapM]
  cases ok
  · have hn' : ¬ n < 18446744073709551616 := of_decide_eq_false hok2.symm
    exact ⟨_, rfl, (decide_eq_false (by omega)).symm, _, rfl, Nat.mod_lt _ (by decide), fun h => absurd h (by omega)⟩
  · have hn' : n < 18446744073709551616 := of_decide_eq_true hok2.symm
    obtain rfl := hn hn'
    refine ⟨_, rfl, ?_, _, rfl, Nat.mod_lt _ (by decide), fun h => Nat.mod_eq_of_lt h⟩
    refine decide_eq_decide.mpr ?_
    omega
theorem word_opt (k n : Nat) (w : Int × Bool) (hw : Word n w) (neg : Bool) :
    (if w.2 = true then ((lockstepref01_near.f (k + 1) w.1 neg).bind fun bt207 => (some (bt207.1, bt207.2))) else (some (0, false)) : Option (Int × Bool)) = some (opt (sgn n neg)) := by
  obtain ⟨h2, a, h1, ha, hn⟩ := hw
  by_cases h : n < 18446744073709551616
  · rw [h2, if_pos (decide_eq_true h), h1, hn h, lockstepref01_near.eq k n h neg]; rfl
  · rw [h2, if_neg (by rw [decide_eq_false h]; decide), sgn_big (by omega)]; rfl
theorem mul_split (x y : Nat) : (x * y + 5000) / 10000 = x / 10000 * y + x % 10000 * (y / 10000) + (x % 10000 * (y % 10000) + 5000) / 10000 := by
  have ex := Nat.div_add_mod x 10000
  have ey := Nat.div_add_mod y 10000
  generalize x / 10000 = a at *
  generalize x % 10000 = b at *
  generalize y / 10000 = c at *
  generalize y % 10000 = d at *
  have e : x * y + 5000 = (b * d + 5000) + 10000 * (a * y + b * c) := by
    rw [← ex, Nat.add_mul, Nat.mul_assoc, Nat.mul_add 10000]
    conv => lhs; rw [show b * y = b * (10000 * c + d) by rw [ey]]
    rw [Nat.mul_add, Nat.mul_left_comm b 10000]
    omega
  rw [e, Nat.add_mul_div_left _ _ (by decide), Nat.add_comm]
theorem rnd_10000 (P : Nat) : rnd P 10000 = (P + 5000) / 10000 := by
  unfold rnd
  split <;> omega
theorem ref_product (k : Nat) (a b : Int) (sc : Bool) (a0 : -9223372036854775808 ≤ a) (a1 : a ≤ 9223372036854775807) (b0 : -9223372036854775808 ≤ b) (b1 : b ≤ 9223372036854775807) :
    lockstepref01_product.f (k + 2) a b sc = some (opt (sgn (if sc = true then rnd (a.natAbs * b.natAbs) 10000 else a.natAbs * b.natAbs) (sg a b))) := by
  have la := natAbs_lt a0 a1
  have lb := natAbs_lt b0 b1
  unfold lockstepref01_product.f
  rw [ref_size a a0 a1, Option.bind_some, ref_size b b0 b1, Option.bind_some]
  generalize hA : a.natAbs = A at *
  generalize hB : b.natAbs = B at *
  by_cases hs : sc = true
  · rw [if_pos hs, if_pos hs, rnd_10000, mul_split]
    have t1 : (Int.tdiv (A : Int) 10000) = ((A / 10000 : Nat) : Int) := tdivN A 10000
    have t2 : (Int.tmod (A : Int) 10000) = ((A % 10000 : Nat) : Int) := tmodN A 10000
    have t3 : (Int.tdiv (B : Int) 10000) = ((B / 10000 : Nat) : Int) := tdivN B 10000
    have t4 : (Int.tmod (B : Int) 10000) = ((B % 10000 : Nat) : Int) := tmodN B 10000
    rw [t1, t2, t3, wrapN (A / 10000) (by omega), wrapN (B / 10000) (by omega)]
    obtain ⟨w1, e1, h1⟩ := word_times (A / 10000) B lb
    have hz : A % 10000 * (B / 10000) ≤ 9999 * 1844674407370955 := Nat.mul_le_mul (by omega) (by omega)
    have e2 := ref_times (A % 10000) (B / 10000) (by omega)
    rw [Nat.mod_eq_of_lt (show A % 10000 * (B / 10000) < 18446744073709551616 by omega), decide_eq_true (show A % 10000 * (B / 10000) < 18446744073709551616 by omega)] at e2
    rw [e1, Option.bind_some, e2, Option.bind_some]
    simp only []
    obtain ⟨w2, e3, h3⟩ := word_plus (A / 10000 * B) (A % 10000 * (B / 10000)) w1 h1 w1.2 id (by omega) h1.1
    have hj : ∀ x : Int × Bool, Word (A / 10000 * B + A % 10000 * (B / 10000)) x →
        lockstepref01_product.j0 (k + 2) B (sg a b) x.1 x.2 ((A % 10000 : Nat) : Int) = some (opt (sgn (A / 10000 * B + A % 10000 * (B / 10000) + (A % 10000 * (B % 10000) + 5000) / 10000) (sg a b))) := by
      intro x hx
      rw [lockstepref01_product.j0, t4, mulN]
      have hy : A % 10000 * (B % 10000) ≤ 9999 * 9999 := Nat.mul_le_mul (by omega) (by omega)
      have e5 : IntKind.u64.wrap (Int.tdiv (IntKind.u64.wrap (IntKind.u64.wrap ((A % 10000 * (B % 10000) : Nat) : Int) + 5000)) 10000) = (((A % 10000 * (B % 10000) + 5000) / 10000 : Nat) : Int) := by
        rw [wrapN _ (by omega), show ((A % 10000 * (B % 10000) : Nat) : Int) + 5000 = ((A % 10000 * (B % 10000) + 5000 : Nat) : Int) by omega, wrapN _ (by omega)]
        rw [show Int.tdiv ((A % 10000 * (B % 10000) + 5000 : Nat) : Int) 10000 = (((A % 10000 * (B % 10000) + 5000) / 10000 : Nat) : Int) from tdivN _ 10000, wrapN _ (by omega)]
      rw [e5]
      obtain ⟨v, e4, h4⟩ := word_plus _ ((A % 10000 * (B % 10000) + 5000) / 10000) x hx x.2 id (by omega) hx.1
      rw [e4, Option.bind_some]
      exact word_opt k _ v h4 _
    by_cases hw : w1.2 = true
    · rw [if_pos hw]
      rw [hw] at e3
      have : lockstepref01_plus.f w1.1 ((A % 10000 * (B / 10000) : Nat) : Int) true = some w2 := e3
      rw [this, Option.bind_some]
      exact hj w2 h3
    · rw [if_neg hw]
      rw [Bool.eq_false_iff.mpr hw] at e3
      rw [e3, Option.bind_some]
      exact hj w2 h3
  · rw [if_neg hs, if_neg hs]
    obtain ⟨w1, e1, h1⟩ := word_times A B lb
    rw [e1, Option.bind_some]
    exact word_opt (k + 1) _ w1 h1 _
theorem wrapAdd (a b : Nat) (h : a + b < 18446744073709551616) : IntKind.u64.wrap ((a : Int) + (b : Int)) = ((a + b : Nat) : Int) := by rw [addN, wrapN _ h]
theorem wrapSub (a b : Nat) (h : b ≤ a) (ha : a < 18446744073709551616) : IntKind.u64.wrap ((a : Int) - (b : Int)) = ((a - b : Nat) : Int) := by rw [IntKind.wrap_u64]; omega
theorem wrapSucc (a : Nat) (h : a < 1000) : IntKind.u64.wrap ((a : Int) + 1) = ((a + 1 : Nat) : Int) := wrapAdd a 1 (by omega)
theorem wrap64Succ (a : Nat) (h : a < 1000) : wrap64 ((a : Int) + 1) = ((a + 1 : Nat) : Int) := by unfold wrap64; omega
theorem q_l1 (B : Nat) (hB : B < 18446744073709551616) (d q : Int) (r : Nat) (hr : r < B) (i : Int) (k : Nat) :
    ∀ (n dig s j : Nat), j + n = 10 → dig * B + s = j * r → s < B → dig ≤ j →
      lockstepref01_Quotient.l1 (k + n + 1) B d q r i dig s j =
        ((lockstepref01_times.f q 10).bind fun bt214 => ((lockstepref01_plus.f bt214.1 ((10 * r / B : Nat) : Int) bt214.2).bind fun bt216 => (lockstepref01_Quotient.l0 k B d bt216.1 ((10 * r % B : Nat) : Int) bt216.2 (wrap64 (i + 1)))))
  | 0, dig, s, j, hj, he, hs, hd => by
    obtain rfl : j = 10 := by omega
    rw [lockstepref01_Quotient.l1, if_neg (by decide)]
    have e1 : 10 * r / B = dig := Nat.div_eq_of_lt_le (by omega) (by rw [Nat.succ_mul dig B]; omega)
    have e2 : 10 * r % B = s := by
      rw [← he, Nat.mul_comm, Nat.mul_add_mod, Nat.mod_eq_of_lt hs]
    rw [e1, e2]
  | n + 1, dig, s, j, hj, he, hs, hd => by
    rw [lockstepref01_Quotient.l1, if_pos (by omega)]
    have e1 : IntKind.u64.wrap ((B : Int) - (r : Int)) = ((B - r : Nat) : Int) := wrapSub B r (Nat.le_of_lt hr) hB
    have hj10 : j < 1000 := by clear he; omega
    have hj1 : j + 1 + n = 10 := by clear he; omega
    have e2 : wrap64 ((j : Int) + 1) = ((j + 1 : Nat) : Int) := wrap64Succ j hj10
    rw [e1, e2]
    by_cases hc : B - r ≤ s
    · rw [if_pos (show (s : Int) ≥ ((B - r : Nat) : Int) from Int.ofNat_le.mpr hc)]
      have e3 : IntKind.u64.wrap ((dig : Int) + 1) = ((dig + 1 : Nat) : Int) := wrapSucc dig (Nat.lt_of_le_of_lt hd hj10)
      have e4 : IntKind.u64.wrap ((s : Int) - ((B - r : Nat) : Int)) = ((s - (B - r) : Nat) : Int) := wrapSub s (B - r) hc (Nat.lt_trans hs hB)
      rw [e3, e4, show k + (n + 1) = k + n + 1 by omega]
      refine q_l1 B hB d q r hr i k n (dig + 1) (s - (B - r)) (j + 1) hj1 ?_ (Nat.lt_of_le_of_lt (Nat.sub_le _ _) hs) (Nat.succ_le_succ hd)
      rw [Nat.succ_mul dig B, Nat.succ_mul j r]; omega
    · rw [if_neg (show ¬ (s : Int) ≥ ((B - r : Nat) : Int) from fun h => hc (Int.ofNat_le.mp h))]
      have e4 : IntKind.u64.wrap ((s : Int) + (r : Int)) = ((s + r : Nat) : Int) := wrapAdd s r (by clear he; omega)
      rw [e4, show k + (n + 1) = k + n + 1 by omega]
      refine q_l1 B hB d q r hr i k n dig (s + r) (j + 1) hj1 ?_ (by clear he hj1 hd hj10; omega) (Nat.le_succ_of_le hd)
      rw [Nat.succ_mul j r]; omega
def quo (A B d : Nat) : Nat := if d = 0 then A / B else rnd (A * 10 ^ d) B
theorem div_le_quo (A B d i : Nat) (h : i ≤ d) : A * 10 ^ i / B ≤ quo A B d := by
  have h1 : A * 10 ^ i ≤ A * 10 ^ d := Nat.mul_le_mul_left _ (Nat.pow_le_pow_right (by decide) h)
  have h2 : A * 10 ^ i / B ≤ A * 10 ^ d / B := Nat.div_le_div_right h1
  unfold quo rnd
  split
  · next h0 => subst h0; simpa using h2
  · omega
theorem q_end (A B d i : Nat) (hB : B < 18446744073709551616) (hB0 : 0 < B) (q : Int) (ok : Bool) (hw : Word (A * 10 ^ i / B) (q, ok)) (hi : i ≤ d) (hd : i = d ∨ ok = false) :
    ∃ w, (if (d : Int) > 0 then (if ((A * 10 ^ i % B : Nat) : Int) ≥ (IntKind.u64.wrap ((B : Int) - ((A * 10 ^ i % B : Nat) : Int))) then ((lockstepref01_plus.f q 1 ok).bind fun bt212 => (some (bt212.1, bt212.2))) else (some (q, ok))) else (some (q, ok)) : Option (Int × Bool)) = some w ∧ Word (quo A B d) w := by
  have hr := Nat.mod_lt (A * 10 ^ i) hB0
  have hle := div_le_quo A B d i hi
  generalize hN : A * 10 ^ i / B = N at *
  generalize hR : A * 10 ^ i % B = r at *
  have e1 : IntKind.u64.wrap ((B : Int) - (r : Int)) = ((B - r : Nat) : Int) := by rw [IntKind.wrap_u64]; omega
  obtain ⟨v, hv, hvw⟩ := word_plus N 1 (q, ok) hw ok id (by decide) hw.1
  rw [e1]
  by_cases ho : ok = true
  · obtain rfl : i = d := hd.resolve_right (by simp [ho])
    by_cases h0 : i = 0
    · rw [if_neg (by omega)]
      refine ⟨_, rfl, ?_⟩
      have : quo A B i = N := by unfold quo; rw [if_pos h0, ← hN, h0]; simp
      rw [this]; exact hw
    · rw [if_pos (by omega)]
      have hq : quo A B i = N + (if B ≤ 2 * r then 1 else 0) := by unfold quo rnd; rw [if_neg h0, hN, hR]
      rw [hq]
      by_cases hc : B ≤ 2 * r
      · rw [if_pos (by omega), if_pos hc]
        have : lockstepref01_plus.f q 1 ok = some v := hv
        rw [this]
        exact ⟨_, rfl, hvw⟩
      · rw [if_neg (by omega), if_neg hc]
        exact ⟨_, rfl, hw⟩
  · have ho' : ok = false := Bool.eq_false_iff.mpr ho
    subst ho'
    have hbig : ¬ N < 18446744073709551616 := of_decide_eq_false hw.1.symm
    have hbad : ∀ w : Int × Bool, w.2 = false → (∃ m : Nat, w.1 = (m : Int) ∧ m < 18446744073709551616) → Word (quo A B d) w := by
      rintro w h2 ⟨m, hm, hlt⟩
      exact ⟨by rw [h2, decide_eq_false (by omega)], m, hm, hlt, fun h => absurd h (by omega)⟩
    have hq1 : Word (quo A B d) (q, false) := by
      obtain ⟨_, m, hm, hlt, _⟩ := hw
      exact hbad _ rfl ⟨m, hm, hlt⟩
    have hv1 : Word (quo A B d) v := by
      obtain ⟨h2, m, hm, hlt, _⟩ := hvw
      exact hbad _ (by rw [h2]; exact decide_eq_false (by omega)) ⟨m, hm, hlt⟩
    have hp : lockstepref01_plus.f q 1 false = some v := hv
    by_cases h0 : (d : Int) > 0
    · rw [if_pos h0]
      by_cases hc : (r : Int) ≥ ((B - r : Nat) : Int)
      · rw [if_pos hc, hp]; exact ⟨_, rfl, hv1⟩
      · rw [if_neg hc]; exact ⟨_, rfl, hq1⟩
    · rw [if_neg h0]; exact ⟨_, rfl, hq1⟩
theorem q_l0 (A B d : Nat) (hB : B < 18446744073709551616) (hB0 : 0 < B) (hd : d ≤ 100) (k : Nat) :
    ∀ (n i : Nat) (q : Int) (ok : Bool), i + n = d → Word (A * 10 ^ i / B) (q, ok) →
      ∃ w, lockstepref01_Quotient.l0 (k + 13 * n + 2) B d q ((A * 10 ^ i % B : Nat) : Int) ok i = some w ∧ Word (quo A B d) w
  | 0, i, q, ok, hi, hw => by
    obtain rfl : i = d := by omega
    obtain ⟨w, h1, h2⟩ := q_end A B i i hB hB0 q ok hw (by omega) (Or.inl rfl)
    refine ⟨w, ?_, h2⟩
    rw [lockstepref01_Quotient.l0, if_neg (by omega), lockstepref01_Quotient.j1, if_neg (by decide)]
    exact h1
  | n + 1, i, q, ok, hi, hw => by
    rw [lockstepref01_Quotient.l0, if_pos (by omega)]
    by_cases ho : ok = true
    · subst ho
      rw [lockstepref01_Quotient.j1, if_pos rfl]
      have hr := Nat.mod_lt (A * 10 ^ i) hB0
      have hN : A * 10 ^ i / B < 18446744073709551616 := of_decide_eq_true hw.1.symm
      obtain ⟨_, m, hm, hlt, hmn⟩ := hw
      obtain rfl := hmn hN
      have hm' : q = ((A * 10 ^ i / B : Nat) : Int) := hm
      subst hm'
      have hl := q_l1 B hB (d : Int) ((A * 10 ^ i / B : Nat) : Int) (A * 10 ^ i % B) hr (i : Int) (k + 13 * n + 2) 10 0 0 0 (by omega) (by omega) hB0 (by omega)
      rw [show k + 13 * (n + 1) = k + 13 * n + 2 + 10 + 1 by omega]
      simp only [Int.natCast_zero] at hl
      rw [hl]
      obtain ⟨w1, e1, h1⟩ := word_times (A * 10 ^ i / B) 10 (by decide)
      have e1' : lockstepref01_times.f ((A * 10 ^ i / B : Nat) : Int) 10 = some w1 := e1
      rw [e1', Option.bind_some]
      have hdig : 10 * (A * 10 ^ i % B) / B < 10 := (Nat.div_lt_iff_lt_mul hB0).mpr (by omega)
      obtain ⟨w2, e2, h2⟩ := word_plus _ (10 * (A * 10 ^ i % B) / B) w1 h1 w1.2 id (by omega) h1.1
      rw [e2, Option.bind_some]
      have hdm := Nat.div_add_mod (A * 10 ^ i) B
      have hstep : A * 10 ^ (i + 1) = 10 * (A * 10 ^ i % B) + B * (A * 10 ^ i / B * 10) := by
        rw [Nat.pow_succ, ← Nat.mul_assoc, ← Nat.mul_assoc]
        conv => lhs; rw [← hdm]
        omega
      have hq : A * 10 ^ (i + 1) / B = A * 10 ^ i / B * 10 + 10 * (A * 10 ^ i % B) / B := by
        rw [hstep, Nat.add_mul_div_left _ _ hB0, Nat.add_comm]
      have hm : A * 10 ^ (i + 1) % B = 10 * (A * 10 ^ i % B) % B := by
        rw [hstep, Nat.add_mul_mod_self_left]
      have ei : wrap64 ((i : Int) + 1) = ((i + 1 : Nat) : Int) := by unfold wrap64; omega
      rw [ei, ← hm]
      rw [← hq] at h2
      exact q_l0 A B d hB hB0 hd k n (i + 1) w2.1 w2.2 (by omega) h2
    · have ho' : ok = false := Bool.eq_false_iff.mpr ho
      subst ho'
      obtain ⟨w, h1, h2⟩ := q_end A B d i hB hB0 q false hw (by omega) (Or.inr rfl)
      refine ⟨w, ?_, h2⟩
      rw [show k + 13 * (n + 1) + 1 = (k + 13 * (n + 1)) + 1 by omega, lockstepref01_Quotient.j1, if_neg (by decide)]
      exact h1
theorem ref_Quotient (k A B d : Nat) (hA : A < 18446744073709551616) (hB : B < 18446744073709551616) (hB0 : 0 < B) (hd : d ≤ 4) :
    ∃ w, lockstepref01_Quotient.f (k + 54) A B d = some w ∧ Word (quo A B d) w := by
  unfold lockstepref01_Quotient.f
  rw [if_neg (by omega), tdivN, tmodN]
  have hle := Nat.div_le_self A B
  rw [wrapN _ (by omega)]
  have hw : Word (A * 10 ^ 0 / B) (((A / B : Nat) : Int), true) := by
    rw [Nat.pow_zero, Nat.mul_one]
    exact ⟨(decide_eq_true (by omega)).symm, _, rfl, by omega, fun _ => rfl⟩
  have := q_l0 A B d hB hB0 (by omega) (k + 52 - 13 * d) d 0 _ _ (by omega) hw
  rw [Nat.pow_zero, Nat.mul_one, show k + 52 - 13 * d + 13 * d + 2 = k + 54 by omega] at this
  exact this
theorem word_res (k n : Nat) (w : Int × Bool) (hw : Word n w) (neg : Bool) :
    (if w.2 = true then ((lockstepref01_near.f (k + 1) w.1 neg).bind fun bt226 => (if bt226.2 = true then (some (bt226.1, 0)) else (some (0, 10)))) else (some (0, 10)) : Option (Int × Int)) = some (res (sgn n neg)) := by
  obtain ⟨h2, a, h1, ha, hn⟩ := hw
  by_cases h : n < 18446744073709551616
  · rw [h2, if_pos (decide_eq_true h), h1, hn h, lockstepref01_near.eq k n h neg, Option.bind_some]
    exact res_opt _
  · rw [h2, if_neg (by rw [decide_eq_false h]; decide), sgn_big (by omega)]; rfl
theorem lockstepref01_reckoned.eq (k : Nat) (op : ByteArray) (a b : Int) (sc : Bool) (a0 : -9223372036854775808 ≤ a) (a1 : a ≤ 9223372036854775807) (b0 : -9223372036854775808 ≤ b) (b1 : b ≤ 9223372036854775807) :
    lockstepref01_reckoned.f (k + 55) op a b sc = some (core op a b sc) := by
  unfold lockstepref01_reckoned.f core
  have la := natAbs_lt a0 a1
  have lb := natAbs_lt b0 b1
  by_cases h1 : op.toList = [43]
  · rw [if_pos h1, if_pos h1]
    unfold lockstepref01_sum.f inr
    rw [Option.bind_some]
    by_cases hr : -9223372036854775808 ≤ a + b ∧ a + b ≤ 9223372036854775807
    · rw [if_pos hr, show wrap64 (a + b) = a + b by unfold wrap64; omega, if_pos (by rw [beq_iff_eq, decide_eq_decide]; omega)]; rfl
    · rw [if_neg hr, if_neg (by rw [beq_iff_eq, decide_eq_decide]; unfold wrap64; omega)]; rfl
  rw [if_neg h1, if_neg h1]
  by_cases h2 : op.toList = [45]
  · rw [if_pos h2, if_pos h2]
    unfold inr
    by_cases hr : -9223372036854775808 ≤ a - b ∧ a - b ≤ 9223372036854775807
    · rw [if_pos hr, show wrap64 (a - b) = a - b by unfold wrap64; omega, if_pos (by rw [beq_iff_eq, decide_eq_decide]; omega)]; rfl
    · rw [if_neg hr, if_neg (by rw [beq_iff_eq, decide_eq_decide]; unfold wrap64; omega)]; rfl
  rw [if_neg h2, if_neg h2]
  by_cases h3 : op.toList = [42]
  · rw [if_pos h3, if_pos h3, ref_product _ a b sc a0 a1 b0 b1, Option.bind_some]
    exact res_opt _
  rw [if_neg h3, if_neg h3]
  by_cases hb : b = 0
  · rw [if_pos hb, if_pos hb]
  rw [if_neg hb, if_neg hb]
  have hj : ∀ d : Nat, d ≤ 4 → lockstepref01_reckoned.j0 (k + 55) a b (d : Int) = some (res (sgn (quo a.natAbs b.natAbs d) (sg a b))) := by
    intro d hd
    rw [lockstepref01_reckoned.j0, ref_size a a0 a1, Option.bind_some, ref_size b b0 b1, Option.bind_some]
    obtain ⟨w, e, hw⟩ := ref_Quotient k a.natAbs b.natAbs d la lb (by omega) hd
    rw [e, Option.bind_some]
    exact word_res _ _ w hw _
  by_cases hs : sc = true
  · rw [if_pos hs, if_pos hs]
    exact hj 4 (by decide)
  · rw [if_neg hs, if_neg hs]
    exact hj 0 (by decide)
end Go.Proofs.YtkkpnbfhghfleaaDoor.X
end
section
namespace Go.Proofs.YtkkpnbfhghfleaaDoor.X
set_option linter.unusedVariables false
set_option linter.unusedSimpArgs false
open Go.RowKit Go.Proofs.YtkkpnbfhghfleaaDoorW.PrintWords Go.Proofs.YtkkpnbfhghfleaaDoorW.PrintLast Go.Proofs.YtkkpnbfhghfleaaDoorW.PrintMore
open Num
set_option linter.unusedSimpArgs false
def I64 (n : Int) : Prop := -9223372036854775808 ≤ n ∧ n ≤ 9223372036854775807
def scl (t n : Int) : Option Int := if t = 2 then some n else sgn (n.natAbs * 10000) (decide (n < 0))
theorem sgn_range {m : Nat} {neg : Bool} {v : Int} (h : sgn m neg = some v) : I64 v := by
  unfold sgn at h
  unfold I64
  split at h
  · split at h
    · obtain rfl := Option.some.inj h; omega
    · simp at h
  · split at h
    · obtain rfl := Option.some.inj h; omega
    · simp at h
theorem scl_range {t n v : Int} (hn : I64 n) (h : scl t n = some v) : I64 v := by
  unfold scl at h
  split at h
  · obtain rfl := Option.some.inj h; exact hn
  · exact sgn_range h
theorem value_scaled.eq (k : Nat) (t n : Int) (s : ByteArray) (hn : I64 n) :
    ∃ x, value_scaled.f (k + 1) t n s = some (x, (scl t n).isSome) ∧ ∀ v, scl t n = some v → x = v := by
  unfold value_scaled.f scl
  by_cases h2 : t = 2
  · rw [if_pos h2, if_pos h2]
    exact ⟨n, rfl, fun v h => Option.some.inj h⟩
  rw [if_neg h2, if_neg h2, size_natAbs n hn.1 hn.2, Option.bind_some]
  have hm := bits_Mul64.eq n.natAbs 10000 (natAbs_lt hn.1 hn.2) (by decide)
  rw [show ((10000 : Nat) : Int) = 10000 from rfl] at hm
  rw [hm, Option.bind_some]
  generalize n.natAbs * 10000 = P
  simp only []
  rw [value_signed.eq k _ (by omega), Option.bind_some]
  by_cases hP : P < 18446744073709551616
  · rw [Nat.mod_eq_of_lt hP, show P / 18446744073709551616 = 0 by omega]
    cases hs : sgn P (decide (n < 0)) with
    | none => exact ⟨0, rfl, fun v h => by simp at h⟩
    | some v => exact ⟨v, rfl, fun v' h => Option.some.inj h⟩
  · rw [sgn_big (show 18446744073709551616 ≤ P by omega)]
    have hne : (((P / 18446744073709551616 : Nat) : Int) == 0) = false := beq_eq_false_iff_ne.mpr (by omega)
    rw [hne]
    cases sgn (P % 18446744073709551616) (decide (n < 0)) with
    | none => exact ⟨0, rfl, fun v h => by simp at h⟩
    | some v => exact ⟨v, rfl, fun v' h => by simp at h⟩
theorem lockstepref01_scaled.eq (k : Nat) (t n : Int) (s : ByteArray) (hn : I64 n) :
    ∃ x, lockstepref01_scaled.f (k + 2) t n s = some (x, (scl t n).isSome) ∧ ∀ v, scl t n = some v → x = v := by
  unfold lockstepref01_scaled.f scl
  by_cases h2 : t = 2
  · rw [if_pos h2, if_pos h2]
    exact ⟨n, rfl, fun v h => Option.some.inj h⟩
  rw [if_neg h2, if_neg h2, ref_product k n 10000 false hn.1 hn.2 (by decide) (by decide), Option.bind_some, if_neg (by decide)]
  have e : sg n 10000 = decide (n < 0) := by unfold sg; cases decide (n < 0) <;> rfl
  rw [e, show (10000 : Int).natAbs = 10000 from rfl]
  cases hs : sgn (n.natAbs * 10000) (decide (n < 0)) with
  | none => exact ⟨0, rfl, fun v h => by simp at h⟩
  | some v => exact ⟨v, rfl, fun v' h => Option.some.inj h⟩
def up (T : Int) (p : Int × Int) : Int × Int × ByteArray × Int := if p.2 = 0 then (T, p.1, ⟨#[]⟩, 0) else (0, 0, ⟨#[]⟩, p.2)
def isOp (op : ByteArray) : Bool := op.toList == [43] || op.toList == [45] || op.toList == [42] || op.toList == [47]
def big (op : ByteArray) (t n t2 n2 : Int) : Int × Int × ByteArray × Int :=
  match scl t n, scl t2 n2 with
  | some x, some y => up 2 (core op x y true)
  | _, _ => (0, 0, ⟨#[]⟩, 10)
def num (t : Int) : Prop := t = 0 ∨ t = 1 ∨ t = 2
instance (t : Int) : Decidable (num t) := by unfold num; infer_instance
def reckS (op : ByteArray) (t n : Int) (s : ByteArray) (t2 n2 : Int) (s2 : ByteArray) : Int × Int × ByteArray × Int :=
  if isOp op = true then
    (if both t n s t2 n2 s2 = 0 then
      (if num t ∧ num t2 then
        (if t = 0 ∨ t2 = 0 then (0, 0, ⟨#[]⟩, 0) else if t = 2 ∨ t2 = 2 then big op t n t2 n2 else up 1 (core op n n2 false))
      else (0, 0, ⟨#[]⟩, 7))
    else (0, 0, ⟨#[]⟩, both t n s t2 n2 s2))
  else (0, 0, ⟨#[]⟩, 1)
theorem up_eq (T : Int) (p : Int × Int) : (if p.2 = 0 then (some (T, p.1, (⟨#[]⟩ : ByteArray), 0)) else (some (0, 0, (⟨#[]⟩ : ByteArray), p.2)) : Option (Int × Int × ByteArray × Int)) = some (up T p) := by
  unfold up; split <;> rfl
theorem number_eq (t n : Int) (s : ByteArray) (h0 : t ≠ 0) : value_number.f t n s = some (decide (num t)) := by
  unfold value_number.f num
  by_cases h1 : t = 1
  · rw [if_pos h1]; simp [h1]
  · rw [if_neg h1]; congr 1
    by_cases h2 : t = 2 <;> simp [h0, h1, h2]
theorem ref_number_eq (t n : Int) (s : ByteArray) (h0 : t ≠ 0) : lockstepref01_number.f t n s = some (decide (num t)) := number_eq t n s h0
theorem value_j1 (k : Nat) (op : ByteArray) (t n : Int) (s : ByteArray) (t2 n2 : Int) (s2 : ByteArray) (hn : I64 n) (hn2 : I64 n2) (ht : num t) (ht2 : num t2) :
    value_Reckon.j1 (k + 40) op false t n s t2 n2 s2 = some (if t = 0 ∨ t2 = 0 then (0, 0, ⟨#[]⟩, 0) else if t = 2 ∨ t2 = 2 then big op t n t2 n2 else up 1 (core op n n2 false)) := by
  rw [value_Reckon.j1, if_neg (by decide)]
  by_cases h0 : t = 0
  · rw [if_pos h0, if_pos (Or.inl h0)]
  rw [if_neg h0]
  by_cases h20 : t2 = 0
  · rw [if_pos h20, if_pos (Or.inr h20)]
  rw [if_neg h20, if_neg (show ¬ (t = 0 ∨ t2 = 0) by omega)]
  unfold num at ht ht2
  by_cases hb : t = 2 ∨ t2 = 2
  · have hm : mx t t2 = 2 := by unfold mx; split <;> omega
    rw [if_pos hb, hm, if_pos rfl]
    obtain ⟨x, ex, hx⟩ := value_scaled.eq (k + 38) t n s hn
    obtain ⟨y, ey, hy⟩ := value_scaled.eq (k + 38) t2 n2 s2 hn2
    rw [show k + 39 = k + 38 + 1 from rfl, ex, Option.bind_some, ey, Option.bind_some]
    unfold big
    cases h1 : scl t n with
    | none => simp only [Option.isSome_none, if_neg (show ¬ false = true by decide), value_Reckon.j2, if_true]
    | some a =>
      simp only [Option.isSome_some, if_true]
      cases h2 : scl t2 n2 with
      | none => simp only [Option.isSome_none, Bool.not_false, value_Reckon.j2, if_true]
      | some b =>
        obtain rfl := hx a h1
        obtain rfl := hy b h2
        have ra := scl_range hn h1
        have rb := scl_range hn2 h2
        simp only [Option.isSome_some, Bool.not_true, value_Reckon.j2, if_neg (show ¬ false = true by decide)]
        rw [show k + 38 = k + 8 + 30 from rfl, value_reckon.eq (k + 8) op _ _ _ ra.1 ra.2 rb.1 rb.2, Option.bind_some]
        exact up_eq 2 _
  · have hm : mx t t2 = 1 := by unfold mx; split <;> omega
    rw [if_neg hb, hm, if_neg (by decide)]
    rw [show k + 39 = k + 9 + 30 from rfl, value_reckon.eq (k + 9) op n n2 _ hn.1 hn.2 hn2.1 hn2.2, Option.bind_some]
    exact up_eq 1 _
theorem value_j0 (k : Nat) (op : ByteArray) (t n : Int) (s : ByteArray) (t2 n2 : Int) (s2 : ByteArray) (hn : I64 n) (hn2 : I64 n2) :
    value_Reckon.j0 (k + 41) op t n s t2 n2 s2 = some (if both t n s t2 n2 s2 = 0 then
      (if num t ∧ num t2 then
        (if t = 0 ∨ t2 = 0 then (0, 0, ⟨#[]⟩, 0) else if t = 2 ∨ t2 = 2 then big op t n t2 n2 else up 1 (core op n n2 false))
      else (0, 0, ⟨#[]⟩, 7))
    else (0, 0, ⟨#[]⟩, both t n s t2 n2 s2)) := by
  rw [value_Reckon.j0, show k + 40 = k + 39 + 1 from rfl, value_both.eq, Option.bind_some]
  by_cases hb : both t n s t2 n2 s2 = 0
  rotate_left
  · rw [if_neg hb, if_neg hb]
  rw [if_pos hb, if_pos hb]
  have bad : value_Reckon.j1 (k + 39 + 1) op true t n s t2 n2 s2 = some (0, 0, ⟨#[]⟩, 7) := by rw [value_Reckon.j1, if_pos rfl]
  by_cases h0 : t = 0
  · have nt : num t := Or.inl h0
    rw [if_pos h0]
    by_cases h20 : t2 = 0
    · have nt2 : num t2 := Or.inl h20
      rw [if_pos h20, if_pos ⟨nt, nt2⟩]
      exact value_j1 k op t n s t2 n2 s2 hn hn2 nt nt2
    · rw [if_neg h20, number_eq t2 n2 s2 h20, Option.bind_some]
      by_cases nt2 : num t2
      · rw [if_pos ⟨nt, nt2⟩, decide_eq_true nt2]
        exact value_j1 k op t n s t2 n2 s2 hn hn2 nt nt2
      · rw [if_neg (fun h => nt2 h.2), decide_eq_false nt2]; exact bad
  · rw [if_neg h0, number_eq t n s h0, Option.bind_some]
    by_cases nt : num t
    · rw [decide_eq_true nt, if_pos rfl]
      by_cases h20 : t2 = 0
      · have nt2 : num t2 := Or.inl h20
        rw [if_pos h20, if_pos ⟨nt, nt2⟩]
        exact value_j1 k op t n s t2 n2 s2 hn hn2 nt nt2
      · rw [if_neg h20, number_eq t2 n2 s2 h20, Option.bind_some]
        by_cases nt2 : num t2
        · rw [if_pos ⟨nt, nt2⟩, decide_eq_true nt2]
          exact value_j1 k op t n s t2 n2 s2 hn hn2 nt nt2
        · rw [if_neg (fun h => nt2 h.2), decide_eq_false nt2]; exact bad
    · rw [decide_eq_false nt, if_neg (by decide), if_neg (fun h => nt h.1)]; exact bad
theorem value_Reckon.eq (k : Nat) (op : ByteArray) (t n : Int) (s : ByteArray) (t2 n2 : Int) (s2 : ByteArray) (hn : I64 n) (hn2 : I64 n2) :
    value_Reckon.f (k + 41) op t n s t2 n2 s2 = some (reckS op t n s t2 n2 s2) := by
  unfold value_Reckon.f reckS isOp
  have hj := value_j0 k op t n s t2 n2 s2 hn hn2
  by_cases h1 : op.toList = [43]
  · rw [if_pos h1, if_pos (by simp [h1])]; exact hj
  rw [if_neg h1]
  by_cases h2 : op.toList = [45]
  · rw [if_pos h2, if_pos (by simp [h2])]; exact hj
  rw [if_neg h2]
  by_cases h3 : op.toList = [42]
  · rw [if_pos h3, if_pos (by simp [h3])]; exact hj
  rw [if_neg h3]
  by_cases h4 : op.toList = [47]
  · rw [if_pos h4, if_pos (by simp [h4])]; exact hj
  rw [if_neg h4, if_neg (by simp [h1, h2, h3, h4])]
theorem ref_in (k : Nat) (op : ByteArray) : lockstepref01_in.f (k + 5) (([(⟨#[43]⟩ : ByteArray), (⟨#[45]⟩ : ByteArray), (⟨#[42]⟩ : ByteArray), (⟨#[47]⟩ : ByteArray)] : List ByteArray)) op = some (isOp op) := by
  unfold lockstepref01_in.f isOp
  have a1 : (⟨#[43]⟩ : ByteArray).toList = [43] := by decide +kernel
  have a2 : (⟨#[45]⟩ : ByteArray).toList = [45] := by decide +kernel
  have a3 : (⟨#[42]⟩ : ByteArray).toList = [42] := by decide +kernel
  have a4 : (⟨#[47]⟩ : ByteArray).toList = [47] := by decide +kernel
  have w1 : wrap64 (0 + 1) = 1 := by decide +kernel
  have w2 : wrap64 (1 + 1) = 2 := by decide +kernel
  have w3 : wrap64 (2 + 1) = 3 := by decide +kernel
  have w4 : wrap64 (3 + 1) = 4 := by decide +kernel
  rw [lockstepref01_in.l0, if_pos (by decide), if_pos (by decide)]
  change (if (⟨#[43]⟩ : ByteArray).toList = op.toList then _ else _) = _
  rw [a1]
  by_cases h1 : op.toList = [43]
  · rw [if_pos h1.symm]; simp [h1]
  rw [if_neg (fun h => h1 h.symm), w1, lockstepref01_in.l0, if_pos (by decide), if_pos (by decide)]
  change (if (⟨#[45]⟩ : ByteArray).toList = op.toList then _ else _) = _
  rw [a2]
  by_cases h2 : op.toList = [45]
  · rw [if_pos h2.symm]; simp [h2]
  rw [if_neg (fun h => h2 h.symm), w2, lockstepref01_in.l0, if_pos (by decide), if_pos (by decide)]
  change (if (⟨#[42]⟩ : ByteArray).toList = op.toList then _ else _) = _
  rw [a3]
  by_cases h3 : op.toList = [42]
  · rw [if_pos h3.symm]; simp [h3]
  rw [if_neg (fun h => h3 h.symm), w3, lockstepref01_in.l0, if_pos (by decide), if_pos (by decide)]
  change (if (⟨#[47]⟩ : ByteArray).toList = op.toList then _ else _) = _
  rw [a4]
  by_cases h4 : op.toList = [47]
  · rw [if_pos h4.symm]; simp [h4]
  rw [if_neg (fun h => h4 h.symm), w4, lockstepref01_in.l0, if_neg (by decide)]
  simp [h1, h2, h3, h4]
theorem ref_j0 (k : Nat) (op : ByteArray) (t n : Int) (s : ByteArray) (t2 n2 : Int) (s2 : ByteArray) (hn : I64 n) (hn2 : I64 n2) (ht : num t) (ht2 : num t2) :
    lockstepref01_Reckon.j0 (k + 59) op false t n s t2 n2 s2 = some (if t = 0 ∨ t2 = 0 then (0, 0, ⟨#[]⟩, 0) else if t = 2 ∨ t2 = 2 then big op t n t2 n2 else up 1 (core op n n2 false)) := by
  rw [lockstepref01_Reckon.j0, if_neg (by decide)]
  by_cases h0 : t = 0
  · rw [if_pos h0, if_pos (Or.inl h0), lockstepref01_Reckon.j1, if_pos rfl]
  rw [if_neg h0]
  by_cases h20 : t2 = 0
  · rw [lockstepref01_Reckon.j1, if_pos (by rw [h20]; rfl), if_pos (Or.inr h20)]
  rw [lockstepref01_Reckon.j1, if_neg (by rw [beq_iff_eq]; exact h20), if_neg (show ¬ (t = 0 ∨ t2 = 0) by omega)]
  unfold num at ht ht2
  have hbig : (t = 2 ∨ t2 = 2) → lockstepref01_Reckon.j2 (k + 57) op 1 n n2 true t n s t2 n2 s2 = some (big op t n t2 n2) := by
    intro hb
    rw [lockstepref01_Reckon.j2, if_pos rfl]
    obtain ⟨x, ex, hx⟩ := lockstepref01_scaled.eq (k + 54) t n s hn
    obtain ⟨y, ey, hy⟩ := lockstepref01_scaled.eq (k + 54) t2 n2 s2 hn2
    rw [show k + 56 = k + 54 + 2 from rfl, ex, Option.bind_some, ey, Option.bind_some]
    unfold big
    cases h1 : scl t n with
    | none => simp only [Option.isSome_none, if_neg (show ¬ false = true by decide), lockstepref01_Reckon.j3, if_true]
    | some a =>
      simp only [Option.isSome_some, if_true]
      cases h2 : scl t2 n2 with
      | none => simp only [Option.isSome_none, Bool.not_false, lockstepref01_Reckon.j3, if_true]
      | some b =>
        obtain rfl := hx a h1
        obtain rfl := hy b h2
        have ra := scl_range hn h1
        have rb := scl_range hn2 h2
        simp only [Option.isSome_some, Bool.not_true, lockstepref01_Reckon.j3, if_neg (show ¬ false = true by decide)]
        rw [show k + 54 + 1 = k + 55 from rfl, lockstepref01_reckoned.eq k op _ _ _ ra.1 ra.2 rb.1 rb.2, Option.bind_some]
        exact up_eq 2 _
  by_cases h2 : t = 2
  · rw [if_pos h2, if_pos (Or.inl h2)]
    exact hbig (Or.inl h2)
  rw [if_neg h2]
  by_cases h22 : t2 = 2
  · rw [if_pos (Or.inr h22), show (t2 == 2) = true by rw [h22]; rfl]
    exact hbig (Or.inr h22)
  · rw [if_neg (show ¬ (t = 2 ∨ t2 = 2) by omega), show (t2 == 2) = false from beq_eq_false_iff_ne.mpr h22, lockstepref01_Reckon.j2, if_neg (by decide)]
    rw [show k + 56 = k + 1 + 55 from rfl, lockstepref01_reckoned.eq (k + 1) op n n2 _ hn.1 hn.2 hn2.1 hn2.2, Option.bind_some]
    exact up_eq 1 _
theorem lockstepref01_Reckon.eq (k : Nat) (op : ByteArray) (t n : Int) (s : ByteArray) (t2 n2 : Int) (s2 : ByteArray) (hn : I64 n) (hn2 : I64 n2) :
    lockstepref01_Reckon.f (k + 59) op t n s t2 n2 s2 = some (reckS op t n s t2 n2 s2) := by
  unfold lockstepref01_Reckon.f reckS
  rw [show k + 59 = k + 54 + 5 from rfl, ref_in, Option.bind_some]
  by_cases ho : isOp op = true
  rotate_left
  · rw [if_neg ho, if_neg ho]
  rw [if_pos ho, if_pos ho, show k + 54 + 5 = k + 57 + 2 from rfl, lockstepref01_both.eq, Option.bind_some]
  by_cases hb : both t n s t2 n2 s2 = 0
  rotate_left
  · rw [if_neg hb, if_neg hb]
  rw [if_pos hb, if_pos hb]
  have bad : lockstepref01_Reckon.j0 (k + 57 + 2) op true t n s t2 n2 s2 = some (0, 0, ⟨#[]⟩, 7) := by rw [lockstepref01_Reckon.j0, if_pos rfl]
  by_cases h0 : t = 0
  · have nt : num t := Or.inl h0
    rw [if_pos h0]
    by_cases h20 : t2 = 0
    · have nt2 : num t2 := Or.inl h20
      rw [if_pos h20, if_pos ⟨nt, nt2⟩]
      exact ref_j0 k op t n s t2 n2 s2 hn hn2 nt nt2
    · rw [if_neg h20, ref_number_eq t2 n2 s2 h20, Option.bind_some]
      by_cases nt2 : num t2
      · rw [if_pos ⟨nt, nt2⟩, decide_eq_true nt2]
        exact ref_j0 k op t n s t2 n2 s2 hn hn2 nt nt2
      · rw [if_neg (fun h => nt2 h.2), decide_eq_false nt2]; exact bad
  · rw [if_neg h0, ref_number_eq t n s h0, Option.bind_some]
    by_cases nt : num t
    · rw [decide_eq_true nt, if_pos rfl]
      by_cases h20 : t2 = 0
      · have nt2 : num t2 := Or.inl h20
        rw [if_pos h20, if_pos ⟨nt, nt2⟩]
        exact ref_j0 k op t n s t2 n2 s2 hn hn2 nt nt2
      · rw [if_neg h20, ref_number_eq t2 n2 s2 h20, Option.bind_some]
        by_cases nt2 : num t2
        · rw [if_pos ⟨nt, nt2⟩, decide_eq_true nt2]
          exact ref_j0 k op t n s t2 n2 s2 hn hn2 nt nt2
        · rw [if_neg (fun h => nt2 h.2), decide_eq_false nt2]; exact bad
    · rw [decide_eq_false nt, if_neg (by decide), if_neg (fun h => nt h.1)]; exact bad
def negS (t n : Int) (s : ByteArray) : Int × Int × ByteArray × Int :=
  if chk t n s = 0 then (if t = 0 then (0, 0, ⟨#[]⟩, 0) else if num t then (if n = -9223372036854775808 then (0, 0, ⟨#[]⟩, 10) else (t, -n, ⟨#[]⟩, 0)) else (0, 0, ⟨#[]⟩, 7))
  else (0, 0, ⟨#[]⟩, chk t n s)
theorem value_Neg.eq (k : Nat) (t n : Int) (s : ByteArray) (hn : I64 n) : value_Neg.f (k + 1) t n s = some (negS t n s) := by
  unfold value_Neg.f negS
  rw [value_Check.eq, Option.bind_some]
  by_cases hc : chk t n s = 0
  rotate_left
  · rw [if_neg hc, if_neg hc]
  rw [if_pos hc, if_pos hc]
  by_cases h0 : t = 0
  · rw [if_pos h0, if_pos h0]
  rw [if_neg h0, if_neg h0, number_eq t n s h0, Option.bind_some]
  by_cases nt : num t
  · rw [decide_eq_true nt, if_pos rfl, if_pos nt]
    by_cases hm : n = -9223372036854775808
    · rw [if_pos hm, if_pos hm]
    · rw [if_neg hm, if_neg hm, show wrap64 (-n) = -n by unfold wrap64; unfold I64 at hn; omega]
  · rw [decide_eq_false nt, if_neg (by decide), if_neg nt]
theorem lockstepref01_Neg.eq (k : Nat) (t n : Int) (s : ByteArray) (hn : I64 n) : lockstepref01_Neg.f (k + 2) t n s = some (negS t n s) := by
  unfold lockstepref01_Neg.f negS
  rw [lockstepref01_Check.eq, Option.bind_some]
  by_cases hc : chk t n s = 0
  rotate_left
  · rw [if_neg hc, if_neg hc]
  rw [if_pos hc, if_pos hc]
  by_cases h0 : t = 0
  · rw [if_pos h0, if_pos h0, lockstepref01_Neg.j0, if_neg (by decide), if_pos h0]
  rw [if_neg h0, if_neg h0, ref_number_eq t n s h0, Option.bind_some]
  by_cases nt : num t
  · rw [decide_eq_true nt, if_pos nt, lockstepref01_Neg.j0, if_neg (by decide), if_neg h0, ref_size n hn.1 hn.2, Option.bind_some, lockstepref01_near.eq _ _ (natAbs_lt hn.1 hn.2), Option.bind_some]
    have e : sgn n.natAbs (decide (n > 0)) = if n = -9223372036854775808 then none else some (-n) := by
      unfold I64 at hn
      unfold sgn
      by_cases hp : n > 0
      · rw [decide_eq_true hp, if_pos rfl, if_pos (by omega), if_neg (by omega), show -((n.natAbs : Nat) : Int) = -n by omega]
      · rw [decide_eq_false hp, if_neg (by decide)]
        by_cases hm : n = -9223372036854775808
        · rw [if_pos hm, if_neg (by omega)]
        · rw [if_neg hm, if_pos (by omega), show ((n.natAbs : Nat) : Int) = -n by omega]
    rw [e]
    by_cases hm : n = -9223372036854775808
    · rw [if_pos hm, if_pos hm]; rfl
    · rw [if_neg hm, if_neg hm]; rfl
  · rw [decide_eq_false nt, if_neg nt, lockstepref01_Neg.j0, if_pos (by rfl)]
theorem lives_true (k : Nat) : locksteplaw01_lives.f (k + 41) = some true := by
  unfold locksteplaw01_lives.f locksteplaw01_one.f
  rw [Option.bind_some]
  simp only []
  rw [value_Reckon.eq k _ 1 7 _ 2 20000 _ (by unfold I64; omega) (by unfold I64; omega), Option.bind_some]
  have e : reckS (⟨#[47]⟩ : ByteArray) 1 7 ⟨#[]⟩ 2 20000 ⟨#[]⟩ = (2, 35000, ⟨#[]⟩, 0) := by decide +kernel
  rw [e]
  simp only []
  unfold value_Print.f
  rw [show k + 41 = k + 40 + 1 from rfl, value_Check.eq, Option.bind_some]
  have c : chk 2 35000 ⟨#[]⟩ = 0 := by decide +kernel
  have d : value_decimal.f 35000 = some (decText 35000) := by decide +kernel
  have f : (decText 35000).toList = [51, 46, 53] := by decide +kernel
  rw [c, if_pos rfl, if_neg (by decide), if_neg (by decide), if_pos rfl, d, Option.bind_some]
  rw [Option.bind_some, if_pos trivial, if_pos rfl, if_pos f]
  decide +kernel
end Go.Proofs.YtkkpnbfhghfleaaDoor.X
end
section
namespace Go.Proofs.YtkkpnbfhghfleaaDoor.X
set_option linter.unusedVariables false
set_option linter.unusedSimpArgs false
open Go.RowKit Go.Proofs.YtkkpnbfhghfleaaDoorW.PrintWords Go.Proofs.YtkkpnbfhghfleaaDoorW.PrintLast Go.Proofs.YtkkpnbfhghfleaaDoorW.PrintMore
open Num
theorem w01' : wrap64 (0 + 1) = 1 := by unfold wrap64; omega
theorem w12' : wrap64 (1 + 1) = 2 := by unfold wrap64; omega
def e1 (t n : Int) (s : ByteArray) : Int := if chk t n s = 0 then (if t = 0 ∨ t = 4 then 0 else 7) else chk t n s
def e3 (t n : Int) (s : ByteArray) (t2 n2 : Int) (s2 : ByteArray) : Int :=
  if chk t n s = 0 then (if chk t2 n2 s2 = 0 then (if t = 0 ∨ t = 4 then (if t2 = 0 ∨ t2 = 4 then 0 else 7) else 7) else chk t2 n2 s2) else chk t n s
theorem logical_step (k : Nat) (l : List S27) (m i : Int) :
    value_logical.l1 (k + 1) l m i = if i < m then (if 0 ≤ i then (if i < (l.length : Int) then (if ((rd_T27 l i).f0) = 0 then (value_logical.l1 k l m (wrap64 (i + 1))) else (if ((rd_T27 l i).f0) = 4 then (value_logical.l1 k l m (wrap64 (i + 1))) else (some 7))) else none) else none) else some 0 := by
  conv => lhs; unfold value_logical.l1
theorem value_logical.two (k : Nat) (t n : Int) (s : ByteArray) (t2 n2 : Int) (s2 : ByteArray) :
    value_logical.f (k + 8) [⟨t, n, s⟩, ⟨t2, n2, s2⟩] = some (e3 t n s t2 n2 s2) := by
  have l1 : value_logical.l1 (k + 5) [⟨t, n, s⟩, ⟨t2, n2, s2⟩] 2 0 = some (if t = 0 ∨ t = 4 then (if t2 = 0 ∨ t2 = 4 then 0 else 7) else 7) := by
    have last : value_logical.l1 (k + 3) [⟨t, n, s⟩, ⟨t2, n2, s2⟩] 2 2 = some 0 := by rw [logical_step, if_neg (by decide)]
    have mid : value_logical.l1 (k + 4) [⟨t, n, s⟩, ⟨t2, n2, s2⟩] 2 1 = some (if t2 = 0 ∨ t2 = 4 then 0 else 7) := by
      rw [logical_step, if_pos (by decide), if_pos (by decide), if_pos (by simp), w12', last]
      show (if t2 = 0 then some 0 else if t2 = 4 then some 0 else some 7) = _
      by_cases h0 : t2 = 0
      · simp [h0]
      by_cases h4 : t2 = 4
      · simp [h4]
      simp [h0, h4]
    rw [logical_step, if_pos (by decide), if_pos (by decide), if_pos (by simp), w01', mid]
    show (if t = 0 then _ else if t = 4 then _ else some 7) = _
    by_cases h0 : t = 0
    · simp [h0]
    by_cases h4 : t = 4
    · simp [h4]
    simp [h0, h4]
  unfold value_logical.f e3
  rw [value_logical.l0, if_pos (by simp), if_pos (by decide), if_pos (by simp)]
  change (value_Check.f (k + 6 + 1) t n s).bind _ = _
  rw [value_Check.eq, Option.bind_some]
  by_cases hc : chk t n s = 0
  · rw [if_pos hc, if_pos hc, w01', value_logical.l0, if_pos (by simp), if_pos (by decide), if_pos (by simp)]
    change (value_Check.f (k + 5 + 1) t2 n2 s2).bind _ = _
    rw [value_Check.eq, Option.bind_some]
    by_cases hc2 : chk t2 n2 s2 = 0
    · rw [if_pos hc2, if_pos hc2, w12', value_logical.l0, if_neg (by simp)]
      exact l1
    · rw [if_neg hc2, if_neg hc2]
  · rw [if_neg hc, if_neg hc]
theorem value_logical.one (k : Nat) (t n : Int) (s : ByteArray) : value_logical.f (k + 8) [⟨t, n, s⟩] = some (e1 t n s) := by
  have l1 : value_logical.l1 (k + 6) [⟨t, n, s⟩] 1 0 = some (if t = 0 ∨ t = 4 then 0 else 7) := by
    have last : value_logical.l1 (k + 5) [⟨t, n, s⟩] 1 1 = some 0 := by rw [logical_step, if_neg (by decide)]
    rw [logical_step, if_pos (by decide), if_pos (by decide), if_pos (by simp), w01', last]
    show (if t = 0 then _ else if t = 4 then _ else some 7) = _
    by_cases h0 : t = 0
    · simp [h0]
    by_cases h4 : t = 4
    · simp [h4]
    simp [h0, h4]
  unfold value_logical.f e1
  rw [value_logical.l0, if_pos (by simp), if_pos (by decide), if_pos (by simp)]
  change (value_Check.f (k + 6 + 1) t n s).bind _ = _
  rw [value_Check.eq, Option.bind_some]
  by_cases hc : chk t n s = 0
  · rw [if_pos hc, if_pos hc, w01', value_logical.l0, if_neg (by simp)]
    exact l1
  · rw [if_neg hc, if_neg hc]
theorem three_step (k : Nat) (l : List S27) (i : Int) :
    lockstepref01_three.l1 (k + 1) l i = if i < (l.length : Int) then (if 0 ≤ i then (if ((rd_T27 l i).f0) = 0 then (lockstepref01_three.l1 k l (wrap64 (i + 1))) else (if ((rd_T27 l i).f0) = 4 then (lockstepref01_three.l1 k l (wrap64 (i + 1))) else (some 7))) else none) else some 0 := by
  conv => lhs; unfold lockstepref01_three.l1
theorem lockstepref01_three.two (k : Nat) (t n : Int) (s : ByteArray) (t2 n2 : Int) (s2 : ByteArray) :
    lockstepref01_three.f (k + 8) [⟨t, n, s⟩, ⟨t2, n2, s2⟩] = some (e3 t n s t2 n2 s2) := by
  have l1 : lockstepref01_three.l1 (k + 5) [⟨t, n, s⟩, ⟨t2, n2, s2⟩] 0 = some (if t = 0 ∨ t = 4 then (if t2 = 0 ∨ t2 = 4 then 0 else 7) else 7) := by
    have last : lockstepref01_three.l1 (k + 3) [⟨t, n, s⟩, ⟨t2, n2, s2⟩] 2 = some 0 := by rw [three_step, if_neg (by simp)]
    have mid : lockstepref01_three.l1 (k + 4) [⟨t, n, s⟩, ⟨t2, n2, s2⟩] 1 = some (if t2 = 0 ∨ t2 = 4 then 0 else 7) := by
      rw [three_step, if_pos (by simp), if_pos (by decide), w12', last]
      show (if t2 = 0 then some 0 else if t2 = 4 then some 0 else some 7) = _
      by_cases h0 : t2 = 0
      · simp [h0]
      by_cases h4 : t2 = 4
      · simp [h4]
      simp [h0, h4]
    rw [three_step, if_pos (by simp), if_pos (by decide), w01', mid]
    show (if t = 0 then _ else if t = 4 then _ else some 7) = _
    by_cases h0 : t = 0
    · simp [h0]
    by_cases h4 : t = 4
    · simp [h4]
    simp [h0, h4]
  unfold lockstepref01_three.f e3
  rw [lockstepref01_three.l0, if_pos (by simp), if_pos (by decide)]
  change (lockstepref01_Check.f (k + 5 + 2) t n s).bind _ = _
  rw [lockstepref01_Check.eq, Option.bind_some]
  by_cases hc : chk t n s = 0
  · rw [if_pos hc, if_pos hc, w01', lockstepref01_three.l0, if_pos (by simp), if_pos (by decide)]
    change (lockstepref01_Check.f (k + 4 + 2) t2 n2 s2).bind _ = _
    rw [lockstepref01_Check.eq, Option.bind_some]
    by_cases hc2 : chk t2 n2 s2 = 0
    · rw [if_pos hc2, if_pos hc2, w12', lockstepref01_three.l0, if_neg (by simp)]
      exact l1
    · rw [if_neg hc2, if_neg hc2]
  · rw [if_neg hc, if_neg hc]
theorem lockstepref01_three.one (k : Nat) (t n : Int) (s : ByteArray) : lockstepref01_three.f (k + 8) [⟨t, n, s⟩] = some (e1 t n s) := by
  have l1 : lockstepref01_three.l1 (k + 6) [⟨t, n, s⟩] 0 = some (if t = 0 ∨ t = 4 then 0 else 7) := by
    have last : lockstepref01_three.l1 (k + 5) [⟨t, n, s⟩] 1 = some 0 := by rw [three_step, if_neg (by simp)]
    rw [three_step, if_pos (by simp), if_pos (by decide), w01', last]
    show (if t = 0 then _ else if t = 4 then _ else some 7) = _
    by_cases h0 : t = 0
    · simp [h0]
    by_cases h4 : t = 4
    · simp [h4]
    simp [h0, h4]
  unfold lockstepref01_three.f e1
  rw [lockstepref01_three.l0, if_pos (by simp), if_pos (by decide)]
  change (lockstepref01_Check.f (k + 5 + 2) t n s).bind _ = _
  rw [lockstepref01_Check.eq, Option.bind_some]
  by_cases hc : chk t n s = 0
  · rw [if_pos hc, if_pos hc, w01', lockstepref01_three.l0, if_neg (by simp)]
    exact l1
  · rw [if_neg hc, if_neg hc]
inductive Tri | N | F | T
def Tri.out : Tri → Int × Int × ByteArray × Int | .N => (0, 0, ⟨#[]⟩, 0) | .F => (4, 0, ⟨#[]⟩, 0) | .T => (4, 1, ⟨#[]⟩, 0)
def Tri.ok (t n : Int) : Tri → Prop | .N => t = 0 | .F => t = 4 ∧ n = 0 | .T => t = 4 ∧ n = 1
def Tri.and : Tri → Tri → Tri | .F, _ => .F | _, .F => .F | .N, _ => .N | _, .N => .N | .T, .T => .T
def Tri.or : Tri → Tri → Tri | .T, _ => .T | _, .T => .T | .N, _ => .N | _, .N => .N | .F, .F => .F
def Tri.not : Tri → Tri | .F => .T | .T => .F | .N => .N
theorem Tri.ok_out (x : Tri) : Tri.ok x.out.1 x.out.2.1 x := by cases x <;> simp [Tri.ok, Tri.out]
theorem Tri.out_err (x : Tri) : x.out.2.2.2 = 0 := by cases x <;> rfl
theorem Tri.chk_ok {t n : Int} {x : Tri} (h : Tri.ok t n x) (s : ByteArray) : chk t n s = 0 ∧ (t = 0 ∨ t = 4) := by
  cases x <;> simp only [Tri.ok] at h
  · subst h; exact ⟨by unfold chk; simp, Or.inl rfl⟩
  · obtain ⟨rfl, rfl⟩ := h; exact ⟨by unfold chk; simp, Or.inr rfl⟩
  · obtain ⟨rfl, rfl⟩ := h; exact ⟨by unfold chk; simp, Or.inr rfl⟩
theorem Tri.of_e1 {t n : Int} {s : ByteArray} (h : e1 t n s = 0) : ∃ x, Tri.ok t n x := by
  unfold e1 at h
  by_cases hc : chk t n s = 0
  · rw [if_pos hc] at h
    by_cases h0 : t = 0
    · exact ⟨.N, h0⟩
    by_cases h4 : t = 4
    · subst h4
      unfold chk at hc
      rw [if_neg (by decide), if_pos rfl] at hc
      by_cases hn : n = 0
      · exact ⟨.F, rfl, hn⟩
      by_cases hn1 : n = 1
      · exact ⟨.T, rfl, hn1⟩
      rw [if_neg (by omega)] at hc; exact absurd hc (by decide)
    · rw [if_neg (by omega)] at h; exact absurd h (by decide)
  · rw [if_neg hc] at h; exact absurd h hc
theorem Tri.e1_ok {t n : Int} {x : Tri} (h : Tri.ok t n x) (s : ByteArray) : e1 t n s = 0 := by
  unfold e1; rw [if_pos (Tri.chk_ok h s).1, if_pos (Tri.chk_ok h s).2]
theorem e3_iff (t n : Int) (s : ByteArray) (t2 n2 : Int) (s2 : ByteArray) : e3 t n s t2 n2 s2 = 0 ↔ e1 t n s = 0 ∧ e1 t2 n2 s2 = 0 := by
  unfold e3 e1
  by_cases h1 : chk t n s = 0
  · by_cases h2 : chk t2 n2 s2 = 0
    · by_cases h3 : t = 0 ∨ t = 4 <;> by_cases h4 : t2 = 0 ∨ t2 = 4 <;> simp [h1, h2, h3, h4]
    · simp [h1, h2]
  · simp [h1]
def jn (c : Int) (t n : Int) (s : ByteArray) (t2 n2 : Int) (s2 : ByteArray) : Int × Int × ByteArray × Int :=
  if e3 t n s t2 n2 s2 = 0 then (if (t = 4 ∧ n = c) ∨ (t2 = 4 ∧ n2 = c) then (4, c, ⟨#[]⟩, 0) else if t = 0 ∨ t2 = 0 then (0, 0, ⟨#[]⟩, 0) else (4, 1 - c, ⟨#[]⟩, 0)) else (0, 0, ⟨#[]⟩, e3 t n s t2 n2 s2)
def nt (t n : Int) (s : ByteArray) : Int × Int × ByteArray × Int :=
  if e1 t n s = 0 then (if t = 0 then (0, 0, ⟨#[]⟩, 0) else (4, if n = 0 then 1 else 0, ⟨#[]⟩, 0)) else (0, 0, ⟨#[]⟩, e1 t n s)
theorem jn_err (c : Int) (t n : Int) (s : ByteArray) (t2 n2 : Int) (s2 : ByteArray) : (jn c t n s t2 n2 s2).2.2.2 = e3 t n s t2 n2 s2 := by
  unfold jn
  split
  · next h => rw [h]; split; · rfl
              split <;> rfl
  · rfl
theorem value_joined.eq (k : Nat) (c : Int) (hc : c = 0 ∨ c = 1) (t n : Int) (s : ByteArray) (t2 n2 : Int) (s2 : ByteArray) :
    value_joined.f (k + 8) t n s t2 n2 s2 c = some (jn c t n s t2 n2 s2) := by
  unfold value_joined.f jn
  rw [value_logical.two, Option.bind_some]
  generalize e3 t n s t2 n2 s2 = e
  by_cases he : e = 0
  · have hw : wrap64 (1 - c) = 1 - c := by rcases hc with rfl | rfl <;> unfold wrap64 <;> omega
    rw [if_pos he, if_pos he]
    simp only [value_joined.j0, value_joined.j1, hw]
    by_cases h4 : t = 4 <;> by_cases h24 : t2 = 4 <;> by_cases hn : n = c <;> by_cases hn2 : n2 = c <;> by_cases h0 : t = 0 <;> by_cases h20 : t2 = 0 <;> simp [*]
  · rw [if_neg he, if_neg he]
theorem Truth_eq (c : Int) (hc : c = 0 ∨ c = 1) : lockstepref01_Truth.f (c == 1) = some (4, c, ⟨#[]⟩) ∧ lockstepref01_Truth.f (c != 1) = some (4, 1 - c, ⟨#[]⟩) := by
  rcases hc with rfl | rfl <;> exact ⟨rfl, rfl⟩
theorem lockstepref01_joined.eq (k : Nat) (c : Int) (hc : c = 0 ∨ c = 1) (t n : Int) (s : ByteArray) (t2 n2 : Int) (s2 : ByteArray) :
    lockstepref01_joined.f (k + 8) t n s t2 n2 s2 c = some (jn c t n s t2 n2 s2) := by
  unfold lockstepref01_joined.f jn
  rw [lockstepref01_three.two, Option.bind_some]
  generalize e3 t n s t2 n2 s2 = e
  obtain ⟨h1, h2⟩ := Truth_eq c hc
  by_cases he : e = 0
  · rw [if_pos he, if_pos he]
    simp only [lockstepref01_joined.j0, h1, h2, Option.bind_some]
    by_cases h4 : t = 4 <;> by_cases h24 : t2 = 4 <;> by_cases hn : n = c <;> by_cases hn2 : n2 = c <;> by_cases h0 : t = 0 <;> by_cases h20 : t2 = 0 <;> simp [*]
  · rw [if_neg he, if_neg he]
theorem value_And.eq (k : Nat) (t n : Int) (s : ByteArray) (t2 n2 : Int) (s2 : ByteArray) : value_And.f (k + 8) t n s t2 n2 s2 = some (jn 0 t n s t2 n2 s2) := by
  unfold value_And.f; rw [value_joined.eq k 0 (Or.inl rfl), Option.bind_some]
theorem value_Or.eq (k : Nat) (t n : Int) (s : ByteArray) (t2 n2 : Int) (s2 : ByteArray) : value_Or.f (k + 8) t n s t2 n2 s2 = some (jn 1 t n s t2 n2 s2) := by
  unfold value_Or.f; rw [value_joined.eq k 1 (Or.inr rfl), Option.bind_some]
theorem lockstepref01_And.eq (k : Nat) (t n : Int) (s : ByteArray) (t2 n2 : Int) (s2 : ByteArray) : lockstepref01_And.f (k + 8) t n s t2 n2 s2 = some (jn 0 t n s t2 n2 s2) := by
  unfold lockstepref01_And.f; rw [lockstepref01_joined.eq k 0 (Or.inl rfl), Option.bind_some]
theorem lockstepref01_Or.eq (k : Nat) (t n : Int) (s : ByteArray) (t2 n2 : Int) (s2 : ByteArray) : lockstepref01_Or.f (k + 8) t n s t2 n2 s2 = some (jn 1 t n s t2 n2 s2) := by
  unfold lockstepref01_Or.f; rw [lockstepref01_joined.eq k 1 (Or.inr rfl), Option.bind_some]
theorem value_Not.eq (k : Nat) (t n : Int) (s : ByteArray) : value_Not.f (k + 8) t n s = some (nt t n s) := by
  unfold value_Not.f nt
  rw [value_logical.one, Option.bind_some]
  generalize e1 t n s = e
  by_cases he : e = 0
  · rw [if_pos he, if_pos he, he]
    by_cases h0 : t = 0
    · rw [if_pos h0, if_pos h0]
    · rw [if_neg h0, if_neg h0]
      by_cases hn : n = 0
      · subst hn; rfl
      · rw [if_neg hn, beq_eq_false_iff_ne.mpr hn]; rfl
  · rw [if_neg he, if_neg he]
theorem lockstepref01_Not.eq (k : Nat) (t n : Int) (s : ByteArray) : lockstepref01_Not.f (k + 8) t n s = some (nt t n s) := by
  unfold lockstepref01_Not.f nt
  rw [lockstepref01_three.one, Option.bind_some]
  generalize e1 t n s = e
  by_cases he : e = 0
  · rw [if_pos he, if_pos he, he]
    by_cases h0 : t = 0
    · rw [if_pos h0, if_pos h0]
    · rw [if_neg h0, if_neg h0]
      by_cases hn : n = 0
      · subst hn; rfl
      · rw [if_neg hn, beq_eq_false_iff_ne.mpr hn]; rfl
  · rw [if_neg he, if_neg he]
theorem and_ok {t n t2 n2 : Int} {x y : Tri} (h : Tri.ok t n x) (h2 : Tri.ok t2 n2 y) (s s2 : ByteArray) : jn 0 t n s t2 n2 s2 = (Tri.and x y).out := by
  unfold jn
  rw [if_pos ((e3_iff _ _ _ _ _ _).mpr ⟨Tri.e1_ok h s, Tri.e1_ok h2 s2⟩)]
  cases x <;> cases y <;> simp only [Tri.ok] at h h2 <;> simp [h, h2, Tri.and, Tri.out]
theorem or_ok {t n t2 n2 : Int} {x y : Tri} (h : Tri.ok t n x) (h2 : Tri.ok t2 n2 y) (s s2 : ByteArray) : jn 1 t n s t2 n2 s2 = (Tri.or x y).out := by
  unfold jn
  rw [if_pos ((e3_iff _ _ _ _ _ _).mpr ⟨Tri.e1_ok h s, Tri.e1_ok h2 s2⟩)]
  cases x <;> cases y <;> simp only [Tri.ok] at h h2 <;> simp [h, h2, Tri.or, Tri.out]
theorem not_ok {t n : Int} {x : Tri} (h : Tri.ok t n x) (s : ByteArray) : nt t n s = (Tri.not x).out := by
  unfold nt
  rw [if_pos (Tri.e1_ok h s)]
  cases x <;> simp only [Tri.ok] at h <;> simp [h, Tri.not, Tri.out]
theorem Tri.and_comm (x y : Tri) : Tri.and x y = Tri.and y x := by cases x <;> cases y <;> rfl
theorem Tri.and_assoc (x y z : Tri) : Tri.and (Tri.and x y) z = Tri.and x (Tri.and y z) := by cases x <;> cases y <;> cases z <;> rfl
theorem Tri.not_and (x y : Tri) : Tri.not (Tri.and x y) = Tri.or (Tri.not x) (Tri.not y) := by cases x <;> cases y <;> rfl
theorem eqV (p : Int × Int × ByteArray × Int) : (p.1 == p.1 && (p.2.1 == p.2.1 && (p.2.2.1.toList == p.2.2.1.toList))) = true := by simp
theorem neV (p : Int × Int × ByteArray × Int) : ¬ ((!(p.1 == p.1) || (!(p.2.1 == p.2.1) || (!(p.2.2.1.toList == p.2.2.1.toList)))) = true) := by simp
theorem ValueLogic_true (t n : Int) (s : ByteArray) (t2 n2 : Int) (s2 : ByteArray) (t3 n3 : Int) (s3 : ByteArray) : locksteplaw01_ValueLogic.f 60 t n s t2 n2 s2 t3 n3 s3 = some true := by
  unfold locksteplaw01_ValueLogic.f
  rw [show 60 = 52 + 8 from rfl, value_And.eq, Option.bind_some, lockstepref01_And.eq, Option.bind_some, value_Or.eq, Option.bind_some, lockstepref01_Or.eq, Option.bind_some, value_Not.eq, Option.bind_some, lockstepref01_Not.eq, Option.bind_some]
  rw [if_neg (neV _), if_pos rfl, if_neg (neV _), if_pos rfl, if_neg (neV _), bne_self_eq_false, jn_err]
  change locksteplaw01_ValueLogic.j0 (59 + 1) _ _ _ _ _ _ _ _ _ _ _ _ _ _ _ _ _ = _
  rw [locksteplaw01_ValueLogic.j0, if_neg (by decide)]
  by_cases he : e3 t n s t2 n2 s2 = 0
  · rw [if_pos he, show 59 = 51 + 8 from rfl, value_And.eq, Option.bind_some, value_And.eq, Option.bind_some, value_And.eq, Option.bind_some]
    obtain ⟨ha, hb⟩ := (e3_iff _ _ _ _ _ _).mp he
    obtain ⟨x, hx⟩ := Tri.of_e1 ha
    obtain ⟨y, hy⟩ := Tri.of_e1 hb
    rw [and_ok hx hy, and_ok hy hx, not_ok hx, Tri.and_comm y x, jn_err, jn_err]
    have h1 : e3 (Tri.and x y).out.1 (Tri.and x y).out.2.1 (Tri.and x y).out.2.2.1 t3 n3 s3 = 0 ↔ e1 t3 n3 s3 = 0 :=
      (e3_iff _ _ _ _ _ _).trans ⟨fun h => h.2, fun h => ⟨Tri.e1_ok (Tri.ok_out _) _, h⟩⟩
    have h2 : e3 t2 n2 s2 t3 n3 s3 = 0 ↔ e1 t3 n3 s3 = 0 :=
      (e3_iff _ _ _ _ _ _).trans ⟨fun h => h.2, fun h => ⟨hb, h⟩⟩
    by_cases hc : e1 t3 n3 s3 = 0
    · rw [if_pos (h1.mpr hc), h2.mpr hc, show ((0 : Int) != 0) = false from rfl]
      obtain ⟨z, hz⟩ := Tri.of_e1 hc
      rw [and_ok (Tri.ok_out _) hz, and_ok hy hz]
      change locksteplaw01_ValueLogic.j1 (58 + 1) _ _ _ _ _ _ _ _ _ _ _ _ _ _ _ _ _ _ _ _ _ _ _ = _
      rw [locksteplaw01_ValueLogic.j1, if_neg (by decide), show 58 = 50 + 8 from rfl, value_And.eq, Option.bind_some, value_Not.eq, Option.bind_some, value_Not.eq, Option.bind_some, value_Or.eq, Option.bind_some]
      rw [and_ok hx (Tri.ok_out _), not_ok (Tri.ok_out _), not_ok hy, or_ok (Tri.ok_out _) (Tri.ok_out _), Tri.not_and, Tri.and_assoc]
      rw [if_pos (eqV _), Tri.out_err, Tri.out_err, Tri.out_err, if_pos rfl, if_pos (eqV _), if_pos rfl, if_pos rfl, if_pos rfl, if_pos (eqV _), show 50 + 8 = 17 + 41 from rfl, lives_true, Option.bind_some]
    · rw [if_neg (fun h => hc (h1.mp h))]
      change locksteplaw01_ValueLogic.j1 (58 + 1) _ _ _ _ _ _ _ _ _ _ _ _ _ _ _ _ _ _ _ _ _ _ _ = _
      rw [locksteplaw01_ValueLogic.j1, if_pos rfl, if_pos (eqV _), Tri.out_err, if_pos rfl, show 58 = 17 + 41 from rfl, lives_true, Option.bind_some]
  · rw [if_neg he, show 59 = 18 + 41 from rfl, lives_true, Option.bind_some]
end Go.Proofs.YtkkpnbfhghfleaaDoor.X
end
section
namespace Go.Proofs.YtkkpnbfhghfleaaDoor.X
set_option linter.unusedVariables false
set_option linter.unusedSimpArgs false
open Go.RowKit Go.Lib Go.ChangeShapes Go.WideShapes Go.ChangeAt Go.Joins
open Go.ChangeMaps (open_string shut_string)
set_option maxRecDepth 100000
theorem own : ownKnob Tryd.prog.godebug = none := by kernel_rfl
theorem u8extra : U8Extra Tryd.prog Tryd.laysValid_ren := ⟨by kernel_rfl, by kernel_rfl, by kernel_rfl, by kernel_rfl, by kernel_rfl, by kernel_rfl, by kernel_rfl⟩
theorem pow_of {w : World} {d : DataW Unit} (e : d = tabData .u64 pow10Tab) (h : VarReads Tryd.prog w "internal/strconv.uint64pow10" d) : TabIs Tryd.prog w "internal/strconv.uint64pow10" .u64 pow10Tab := by
  subst e
  obtain ⟨g', t', cs, fuel, p, hg', ht', hvar, hd⟩ := h
  obtain rfl := Option.some.inj ((show Tryd.prog.globalNamed "internal/strconv.uint64pow10" = some 4 by kernel_rfl).symm.trans hg')
  obtain rfl := Option.some.inj ((show (Tryd.prog.globals[4]?).map (·.type) = some 129 by kernel_rfl).symm.trans ht')
  unfold TabIs
  rw [hvar, ← cells_of_tab Tryd.underlying129 Tryd.underlying60 (by kernel_rfl) (by kernel_rfl) hd]
theorem most_of {w : World} (h : w.ShapedOpen Tryd.prog) : ∃ m : Int, w.cell? ⟨5, 0, none⟩ = some (.int .i64 m) :=
  cell_of_shapedOpen_int (zero := #[.int .i64 0]) (t := 3) h (of_decide_eq_true (by kernel_rfl)) (by kernel_rfl) rfl (by kernel_rfl) (by kernel_rfl) Tryd.underlying3
def five : List (String × DataW Unit) := [("math/bits.deBruijn32tab", Rows.laid_math_bits_deBruijn32tab), ("math/bits.deBruijn64tab", Rows.laid_math_bits_deBruijn64tab), ("internal/strconv.uint64pow10", Rows.laid_internal_strconv_uint64pow10), ("unicode/utf8.acceptRanges", Rows.laid_unicode_utf8_acceptRanges), ("unicode/utf8.first", Rows.laid_unicode_utf8_first)]
theorem tabs_of {w : World} (h : laidMetH Tryd.prog five w) (hs : w.ShapedOpen Tryd.prog) : Tabs w := by
  have h' : laidMet Tryd.prog five w := h
  refine ⟨?_, pow_of (by kernel_rfl) (Go.Lib.laidMet.reads h' (n := "internal/strconv.uint64pow10") (d := Rows.laid_internal_strconv_uint64pow10) (by simp [five])), most_of hs⟩
  have h3 := Go.Lib.laidMet.reads h' (n := "unicode/utf8.first") (d := Rows.laid_unicode_utf8_first) (by simp [five])
  have h4 := Go.Lib.laidMet.reads h' (n := "unicode/utf8.acceptRanges") (d := Rows.laid_unicode_utf8_acceptRanges) (by simp [five])
  rw [show (Rows.laid_unicode_utf8_first : DataW Unit) = firstData by kernel_rfl] at h3
  rw [show (Rows.laid_unicode_utf8_acceptRanges : DataW Unit) = acceptData by kernel_rfl] at h4
  exact utf8Tabs_of_readsT (U8Types.of196 Tryd.laysValid) u8extra h3 h4
section
variable {H : Type} {enc : TypeId × Value → H} {w : World} {base b0 : Nat} {spare : Nat → Bool} {held : Bool} {r : Reach}
theorem one27 : Go.Deep.oneCellFields Tryd.prog #[{ name := "Type", type := 3, offset := 0, embedded := false, tag := "", pkgPath := "", byteOffset := 0 }, { name := "Int", type := 2, offset := 1, embedded := false, tag := "", pkgPath := "", byteOffset := 8 }, { name := "Text", type := 9, offset := 2, embedded := false, tag := "", pkgPath := "", byteOffset := 16 }] = true := by kernel_rfl
theorem open_value {v : Value} {d : DataW H} {p : List MemPlace} (hv : Value.okWide Tryd.prog w r b0 27 v) (h : DataW.Trod enc Tryd.prog w base spare held 27 v d p) :
    ∃ (t n : Int) (s : ByteArray), v = .agg #[.int .i64 t, .int .i64 n, .string s] ∧ d = .agg [.lit (.int .i64 t), .lit (.int .i64 n), .lit (.string s.data.toList)] ∧ p = [] ∧
      (-9223372036854775808 ≤ t ∧ t ≤ 9223372036854775807) ∧ (-9223372036854775808 ≤ n ∧ n ≤ 9223372036854775807) ∧ s.size ≤ maxLen := by
  obtain ⟨c0, c1, c2, y0, y1, y2, m, rfl, rfl, rfl, hy0, hy1, hy2⟩ := open_agg3 Tryd.underlying27 one27 (by kernel_rfl) hv h
  obtain ⟨x, e0, rfl, wx⟩ := DataW.trod_int Tryd.underlying3 hy0
  obtain ⟨y, e1, rfl, wy⟩ := DataW.trod_int Tryd.underlying2 hy1
  obtain ⟨s, e2, rfl, ws⟩ := DataW.trod_string Tryd.underlying9 hy2
  simp at e0 e1 e2
  subst e0 e1 e2
  refine ⟨x, y, s, rfl, rfl, rfl, ?_, ?_, ws⟩
  · simp only [Lit.wf, IntKind.min, IntKind.max, IntKind.signed, IntKind.bits, Bool.and_eq_true, decide_eq_true_eq, if_true] at wx
    omega
  · simp only [Lit.wf, IntKind.min, IntKind.max, IntKind.signed, IntKind.bits, Bool.and_eq_true, decide_eq_true_eq, if_true] at wy
    omega
theorem wf64 {n : Int} (h : -9223372036854775808 ≤ n ∧ n ≤ 9223372036854775807) : (Lit.int .i64 n).wf = true := by
  simp only [Lit.wf, IntKind.min, IntKind.max, IntKind.signed, IntKind.bits, Bool.and_eq_true, decide_eq_true_eq, if_true]
  omega
theorem shut_value {t n : Int} {s : ByteArray} (ht : -9223372036854775808 ≤ t ∧ t ≤ 9223372036854775807) (hn : -9223372036854775808 ≤ n ∧ n ≤ 9223372036854775807) (hs : s.size ≤ maxLen) :
    DataW.Trod enc Tryd.prog w base spare held 27 (.agg #[.int .i64 t, .int .i64 n, .string s]) (.agg [.lit (.int .i64 t), .lit (.int .i64 n), .lit (.string s.data.toList)]) [] := by
  obtain ⟨m, hm⟩ := shut_string (enc := enc) (w := w) (base := base) (sp := spare) (held := held) Tryd.underlying9 hs
  exact shut_agg3 (y0 := (.lit (.int .i64 t), [])) (y1 := (.lit (.int .i64 n), [])) (y2 := (.lit (.string s.data.toList), [])) Tryd.underlying27 one27 (by kernel_rfl)
    ⟨1, trod_int_mk 0 Tryd.underlying3 (wf64 ht)⟩ ⟨1, trod_int_mk 0 Tryd.underlying2 (wf64 hn)⟩ ⟨m, hm⟩
end
noncomputable def laidWorld (os : Os) : World :=
  { World.doorLaid Tryd.prog 200 os with heap := (World.doorLaid Tryd.prog 200 os).heap.modify 0 fun
      | .cells _ t frozen => .cells (Go.Pinned.utf8FirstZ.map fun (n : Nat) => Value.int .u8 (n : Int)).toArray t frozen
      | o => o }
theorem laid_met (os : Os) (args : Array Value) : laidMetH Tryd.prog five ((laidWorld os).forCall (fun _ _ => 0) ⟨#[], args, []⟩).memory :=
  laidMet_of_run' 8 (by kernel_rfl) (by kernel_rfl)
end Go.Proofs.YtkkpnbfhghfleaaDoor.X
end
section
namespace Go.Proofs.YtkkpnbfhghfleaaDoor.valueLogic
open Go.ChangeShapes Go.WideShapes Go.ChangeAt Go.RowKit Go.Proofs.YtkkpnbfhghfleaaDoor.X
open Go.ChangeMaps (open_string shut_string)
set_option linter.unusedVariables false
set_option maxRecDepth 100000 in
theorem reads (os : Os) {H : Type} (enc : TypeId × Value → H) : ∃ places, DataW.whole enc Tryd.prog ((laidWorld os).forCall (fun _ _ => 0) ⟨#[], #[.agg #[.int .i64 0, .int .i64 0, .string ⟨#[]⟩], .agg #[.int .i64 0, .int .i64 0, .string ⟨#[]⟩], .agg #[.int .i64 0, .int .i64 0, .string ⟨#[]⟩]], []⟩).memory Tryd.f6.params.toList Rows.valueLogicSpec.vars false
    #[Value.agg #[.int .i64 0, .int .i64 0, .string ⟨#[]⟩], .agg #[.int .i64 0, .int .i64 0, .string ⟨#[]⟩], .agg #[.int .i64 0, .int .i64 0, .string ⟨#[]⟩]].toList 8 =
    some ([.agg [.lit (.int .i64 0), .lit (.int .i64 0), .lit (.string [])], .agg [.lit (.int .i64 0), .lit (.int .i64 0), .lit (.string [])], .agg [.lit (.int .i64 0), .lit (.int .i64 0), .lit (.string [])]], [], places) :=
  ⟨[], by kernel_rfl⟩
set_option maxRecDepth 100000 in
theorem lifted (os : Os) (started : os.Started) (H : Type) (enc : TypeId × Value → H) (F : Stop.Interp) :
    ReturnsInHanded {} Tryd.checked os 6 .any ((OpenSpec.ofChange Rows.valueLogicSpec).preRow enc Tryd.prog Tryd.f6 Rows.valueLogicRow.domain false Rows.valueLogicRow.laid) (((OpenSpec.ofChange Rows.valueLogicSpec).at F).post enc Tryd.prog Tryd.f6 false true false false) := by
  obtain ⟨places, hx⟩ := reads os enc
  refine returnsInHanded_of_row (C := Tryd.checked) (s := OpenSpec.ofChange Rows.valueLogicSpec) own started (by kernel_rfl) Tryd.func6
    (witness_row_at (enc := enc) (C := Tryd.checked) false (laidWorld os) #[.agg #[.int .i64 0, .int .i64 0, .string ⟨#[]⟩], .agg #[.int .i64 0, .int .i64 0, .string ⟨#[]⟩], .agg #[.int .i64 0, .int .i64 0, .string ⟨#[]⟩]] rfl (by kernel_rfl) (by kernel_rfl) (by kernel_rfl)
      (OpenSpec.preRow_of_cond 8 hx (by kernel_rfl) (fun k hk => by cases hk) (by kernel_rfl) (laid_met os _))) ?_
  intro W base args ds gs before hval0 hW _ _ hsz0 hL hsh _
  have hT : Tabs W := tabs_of hL hsh
  have hval : ∀ (j : Nat) t v, Tryd.f6.params[j]? = some t → args[j]? = some v → Value.okWide Tryd.prog W .any base t v := hval0
  have hW' := hW
  obtain ⟨p, q, hA0, hV, rfl, hfz, hnd⟩ := hW
  have hA : DataW.TrodAll enc Tryd.prog W 0 (fun _ => true) true Tryd.f6.params.toList args.toList ds p := hA0
  rw [Tryd.params6] at hA hval
  obtain ⟨v0, vs0, d0, ds0, p0, q0, hargs, rfl, rfl, h0, r0⟩ := trodAll_cons hA
  obtain ⟨v1, vs1, d1, ds1, p1, q1, rfl, rfl, rfl, h1, r1⟩ := trodAll_cons r0
  obtain ⟨v2, vs2, d2, ds2, p2, q2, rfl, rfl, rfl, h2, r2⟩ := trodAll_cons r1
  obtain ⟨rfl, rfl, rfl⟩ := trodAll_nil r2
  obtain rfl : args = #[v0, v1, v2] := by cases args; simp_all
  obtain ⟨rfl, rfl⟩ := trodVars_none hV
  obtain ⟨t0, n0, s0, rfl, rfl, rfl, it0, in0, z0⟩ := open_value (hval 0 27 v0 rfl rfl) h0
  obtain ⟨t1, n1, s1, rfl, rfl, rfl, it1, in1, z1⟩ := open_value (hval 1 27 v1 rfl rfl) h1
  obtain ⟨t2, n2, s2, rfl, rfl, rfl, it2, in2, z2⟩ := open_value (hval 2 27 v2 rfl rfl) h2
  clear hA0 hval0
  refine (locksteplaw01_ValueLogic.calls 60 t0 n0 s0 t1 n1 s1 t2 n2 s2 true W hT (ValueLogic_true t0 n0 s0 t1 n1 s1 t2 n2 s2) rfl).mono fun e W' ⟨he, bel⟩ => ?_
  subst he
  exact ⟨_, rfl, _, _, _, [], _, [], hW', trodAll_mk1 (shut_bool Tryd.underlying4 _), (trodAll_cons_mk (shut_value it0 in0 z0) (trodAll_cons_mk (shut_value it1 in1 z1) (trodAll_cons_mk (shut_value it2 in2 z2) trodAll_mk0))), rfl, bel.frame _, fun h => by cases h⟩
theorem said : Rows.ValueLogicSaid :=
  OpenClaim.holds_of_cond 6 Tryd.f6 rfl rfl rfl rfl rfl rfl rfl ⟨rfl, rfl, rfl, rfl, rfl⟩ rfl rfl rfl rfl rfl (by kernel_rfl) Tryd.func6 (by kernel_rfl)
    (of_decide_eq_true (by kernel_rfl)) (by unfold Func.isWrapper; first | (rw [if_pos (by decide +kernel)]; kernel_rfl) | (rw [if_neg (by decide +kernel)]; exact ⟨rfl, rfl⟩))
    (fun os started H enc _ F => by rw [OpenClaim.pre_eq_preRow]; exact lifted os started H enc F)
theorem plain (f : FuncId) (fn : Func) (hf : Tryd.pinned.checked.prog.funcNamed "lockstep/locksteplaw01.ValueLogic" = some f) (hfn : Tryd.pinned.checked.prog.funcs[f]? = some fn) :
    false = Tryd.pinned.checked.prog.looks [] ∧ ∀ (j : Nat) t, fn.params[j]? = some t → Tryd.pinned.checked.prog.wantsStandIn t = false := by
  obtain rfl : f = 6 := Option.some.inj ((show Tryd.prog.funcNamed "lockstep/locksteplaw01.ValueLogic" = some 6 by kernel_rfl).symm.trans hf) |>.symm
  obtain rfl : fn = Tryd.f6 := (Option.some.inj (Tryd.func6.symm.trans hfn)).symm
  refine ⟨by kernel_rfl, fun j t ht => ?_⟩
  rw [Tryd.params6] at ht
  have hm := Array.mem_of_getElem? ht
  have ht' : t = 27 := by simpa using hm
  subst ht'
  exact (show Tryd.prog.wantsStandIn 27 = false by kernel_rfl)
theorem card : Rows.ValueLogicCardSaid :=
  Claim7.holds_tied_plain_at .later [] _ _ _ _ said (fun _ h => by cases h) (by kernel_rfl) (fun _ h => by cases h) valueLogic_row_tie rfl ⟨rfl, rfl⟩ (by kernel_rfl) rfl plain (by kernel_rfl)
end Go.Proofs.YtkkpnbfhghfleaaDoor.valueLogic
end

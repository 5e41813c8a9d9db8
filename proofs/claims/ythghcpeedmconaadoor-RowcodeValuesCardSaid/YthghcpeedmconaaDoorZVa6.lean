/- The law RowcodeValues of layer 2 answers true at every value and every row of bytes, and leaves its arguments as they were; condition: the tables of unicode/utf8 are laid as the program's text lays them. -/
import Derived.Test.YthghcpeedmconaaDoorZVa0
import Derived.Test.YthghcpeedmconaaDoorZVa1
import Derived.Test.YthghcpeedmconaaDoorZVa2
import Derived.Test.YthghcpeedmconaaDoorZVa3
import Derived.Test.YthghcpeedmconaaDoorZVa4
import Derived.Test.YthghcpeedmconaaDoorZVa5
import Derived.Deep.Slices
import Derived.Deep.Strs
import Derived.Lib.SmallJoins
import Derived.OpenShut
import Derived.Carry
import Derived.Test.YthghcpeedmconaaDoorCards
import Derived.Test.YthghcpeedmconaaDoorTie
import Derived.Lib.LaidU8T
import Derived.Lib.LaidTab
import Derived.Shelf.Vars
import Derived.LaidMore
import Derived.ShutString
import Derived.SizedLaws
import Derived.ProofKit
import Derived.Deep.DeepHandedRow
import Derived.SevenTiedAt
section
namespace Go.Proofs.YthghcpeedmconaaDoor.X
open Go.RowKit Go.Proofs.YthghcpeedmconaaDoorW.PrintWords Go.Proofs.YthghcpeedmconaaDoorW.PrintLast Go.Proofs.YthghcpeedmconaaDoorW.PrintMore
attribute [local go_sem] max2_int min2_int max_two min_two max_three min_three max_four min_four
set_option linter.unusedVariables false
set_option linter.unusedSimpArgs false
def lockstepref02_Same.f (a0_0 : Int) (a0_1 : Int) (a0_2 : ByteArray) (a1_0 : Int) (a1_1 : Int) (a1_2 : ByteArray) : Option (Bool) := if a0_0 = a1_0 then (if a0_1 = a1_1 then (some (a0_2.toList == a1_2.toList)) else (some false)) else (some false)
set_option maxHeartbeats 8000000 in
set_option maxRecDepth 100000 in
theorem lockstepref02_Same.calls (a0_0 : Int) (a0_1 : Int) (a0_2 : ByteArray) (a1_0 : Int) (a1_1 : Int) (a1_2 : ByteArray) (r : Bool) (w : World) (h : lockstepref02_Same.f a0_0 a0_1 a0_2 a1_0 a1_1 a1_2 = some r) :
  Calls Tryd.prog 30 #[.agg #[.int .i64 a0_0, .int .i64 a0_1, .string a0_2], .agg #[.int .i64 a1_0, .int .i64 a1_1, .string a1_2]] w fun e w' => e = .returned (.bool r) ∧ Below w.heap.size w w' := by
 have hu42 := Tryd.underlying42
 have HB := Aside0.mk (Below.refl w.heap.size w)
 have H : (if a0_0 = a1_0 then (if a0_1 = a1_1 then (some (a0_2.toList == a1_2.toList)) else (some false)) else (some false)) = some r := h
 clear h
 by_cases c3 : a0_0 = a1_0
 ·
  rw [if_pos c3] at H
  have c3b0 : (a0_0 == a1_0) = true := beq_iff_eq.mpr c3
  have c3b1 : (a0_0 != a1_0) = false := bne_eq_false_iff_eq.mpr c3
  clear c3
  by_cases c4 : a0_1 = a1_1
  ·
   rw [if_pos c4] at H
   have c4b0 : (a0_1 == a1_1) = true := beq_iff_eq.mpr c4
   have c4b1 : (a0_1 != a1_1) = false := bne_eq_false_iff_eq.mpr c4
   clear c4
   obtain rfl := Option.some.inj H
   go_enter Tryd.func30, Tryd.ntmps30
   go_wp2_with (first | ((with_reducible refine gate_dst (N := 2) rfl ?_); refine box_event ?hg (N := 2) ?hd (cs := #[.int .i64 a0_0, .int .i64 a0_1, .string a0_2]) (t := 42) ?hr ?_; (case hd => rfl); (case hg => rfl); (case hr => first | (go_simp; done) | (go_simp; rfl)); intro gb588 hg w5 hbox hb; have n0_ := Aside0.mk (below_step (by repeat (first | (with_reducible first | exact HB.out | apply below_alloc | apply pw_below_drewN | apply below_drew1) | exact HB.out)) hb); have n1_ := Aside0.mk (hbox); have n2_ := Aside0.mk ((by rw [hg]; exact (below_size (by repeat (first | (with_reducible first | exact HB.out | apply below_alloc | apply pw_below_drewN | apply below_drew1) | exact HB.out))) : w.heap.size ≤ gb588)); have n3_ := Aside0.mk ((by rw [hg]; exact (below_size (by repeat (first | (with_reducible first | exact HB.out | apply below_alloc | apply pw_below_drewN | apply below_drew1) | exact HB.out))) : w.heap.size ≤ gb588)); clear HB; have HB := n0_; have BK588 := n1_; have GW588 := n2_; have GE588 := n3_; clear n0_ n1_ n2_ n3_; clear hb hbox hg) | ((with_reducible refine gate_dst (N := 3) rfl ?_); refine box_event ?hg (N := 3) ?hd (cs := #[.int .i64 a1_0, .int .i64 a1_1, .string a1_2]) (t := 42) ?hr ?_; (case hd => rfl); (case hg => rfl); (case hr => first | (go_simp; done) | (go_simp; rfl)); intro gb589 hg w6 hbox hb; have n0_ := Aside0.mk (blk_below (g := gb588) (o := .cells #[.int .i64 a0_0, .int .i64 a0_1, .string a0_2] 42 (0, 0)) (by (with_reducible repeat (first | refine blk_drewN ?_ _ | refine blk_drew ?_ | refine blk_alloc ?_ _)); exact BK588.out) hb); have n1_ := Aside0.mk (below_step (by repeat (first | (with_reducible first | exact HB.out | apply below_alloc | apply pw_below_drewN | apply below_drew1 | refine below_set ?_ GE588.out) | exact HB.out)) hb); have n2_ := Aside0.mk (hbox); have n3_ := Aside0.mk ((by rw [hg]; exact (below_size (by repeat (first | (with_reducible first | exact HB.out | apply below_alloc | apply pw_below_drewN | apply below_drew1 | refine below_set ?_ GE588.out) | exact HB.out))) : w.heap.size ≤ gb589)); have n4_ := Aside0.mk ((by rw [hg]; exact (below_size (by repeat (first | (with_reducible first | exact HB.out | apply below_alloc | apply pw_below_drewN | apply below_drew1 | refine below_set ?_ GE588.out) | exact HB.out))) : w.heap.size ≤ gb589)); have n5_ := Aside0.mk ((by rw [hg]; exact Nat.ne_of_lt (blk_lt (g := gb588) (o := .cells #[.int .i64 a0_0, .int .i64 a0_1, .string a0_2] 42 (0, 0)) (by (with_reducible repeat (first | refine blk_drewN ?_ _ | refine blk_drew ?_ | refine blk_alloc ?_ _)); exact BK588.out)) : gb588 ≠ gb589)); have n6_ := Aside0.mk ((by rw [hg]; exact Nat.ne_of_gt (blk_lt (g := gb588) (o := .cells #[.int .i64 a0_0, .int .i64 a0_1, .string a0_2] 42 (0, 0)) (by (with_reducible repeat (first | refine blk_drewN ?_ _ | refine blk_drew ?_ | refine blk_alloc ?_ _)); exact BK588.out)) : gb589 ≠ gb588)); clear BK588; clear HB; have BK588 := n0_; have HB := n1_; have BK589 := n2_; have GW589 := n3_; have GE589 := n4_; have NB588_589 := n5_; have NB589_588 := n6_; clear n0_ n1_ n2_ n3_ n4_ n5_ n6_; clear hb hbox hg; have hnb7 := eq_false NB588_589.out; have hnc7 := eq_false NB589_588.out; have hcz8_0 : w6.cell? ⟨gb588, 0, none⟩ = some (.int .i64 a0_0) := (blk_cell BK588.out 0).trans rfl; have hcz8_1 : w6.cell? ⟨gb588, 1, none⟩ = some (.int .i64 a0_1) := (blk_cell BK588.out 1).trans rfl; have hcz8_2 : w6.cell? ⟨gb588, 2, none⟩ = some (.string a0_2) := (blk_cell BK588.out 2).trans rfl; have hfz8_0 := blk_frozen BK588.out 0; have hfz8_1 := blk_frozen BK588.out 1; have hfz8_2 := blk_frozen BK588.out 2; have hcz9_0 : w6.cell? ⟨gb589, 0, none⟩ = some (.int .i64 a1_0) := (blk_cell BK589.out 0).trans rfl; have hcz9_1 : w6.cell? ⟨gb589, 1, none⟩ = some (.int .i64 a1_1) := (blk_cell BK589.out 1).trans rfl; have hcz9_2 : w6.cell? ⟨gb589, 2, none⟩ = some (.string a1_2) := (blk_cell BK589.out 2).trans rfl; have hfz9_0 := blk_frozen BK589.out 0; have hfz9_1 := blk_frozen BK589.out 1; have hfz9_2 := blk_frozen BK589.out 2))
   go_ret
   exact ⟨by first | rfl | (simp [errW_none, errW_some] <;> rfl) | (simp [*, errW_none, errW_some] <;> rfl), by repeat (first | (with_reducible first | exact HB.out | apply below_alloc | apply pw_below_drewN | apply below_drew1 | refine below_set ?_ GE588.out | refine below_set ?_ GE589.out) | exact HB.out)⟩
  ·
   rw [if_neg c4] at H
   have c4b0 : (a0_1 == a1_1) = false := beq_eq_false_iff_ne.mpr c4
   have c4b1 : (a0_1 != a1_1) = true := bne_iff_ne.mpr c4
   obtain rfl := Option.some.inj H
   go_enter Tryd.func30, Tryd.ntmps30
   go_wp2_with (first | ((with_reducible refine gate_dst (N := 2) rfl ?_); refine box_event ?hg (N := 2) ?hd (cs := #[.int .i64 a0_0, .int .i64 a0_1, .string a0_2]) (t := 42) ?hr ?_; (case hd => rfl); (case hg => rfl); (case hr => first | (go_simp; done) | (go_simp; rfl)); intro gb588 hg w10 hbox hb; have n0_ := Aside0.mk (below_step (by repeat (first | (with_reducible first | exact HB.out | apply below_alloc | apply pw_below_drewN | apply below_drew1) | exact HB.out)) hb); have n1_ := Aside0.mk (hbox); have n2_ := Aside0.mk ((by rw [hg]; exact (below_size (by repeat (first | (with_reducible first | exact HB.out | apply below_alloc | apply pw_below_drewN | apply below_drew1) | exact HB.out))) : w.heap.size ≤ gb588)); have n3_ := Aside0.mk ((by rw [hg]; exact (below_size (by repeat (first | (with_reducible first | exact HB.out | apply below_alloc | apply pw_below_drewN | apply below_drew1) | exact HB.out))) : w.heap.size ≤ gb588)); clear HB; have HB := n0_; have BK588 := n1_; have GW588 := n2_; have GE588 := n3_; clear n0_ n1_ n2_ n3_; clear hb hbox hg) | ((with_reducible refine gate_dst (N := 3) rfl ?_); refine box_event ?hg (N := 3) ?hd (cs := #[.int .i64 a1_0, .int .i64 a1_1, .string a1_2]) (t := 42) ?hr ?_; (case hd => rfl); (case hg => rfl); (case hr => first | (go_simp; done) | (go_simp; rfl)); intro gb589 hg w11 hbox hb; have n0_ := Aside0.mk (blk_below (g := gb588) (o := .cells #[.int .i64 a0_0, .int .i64 a0_1, .string a0_2] 42 (0, 0)) (by (with_reducible repeat (first | refine blk_drewN ?_ _ | refine blk_drew ?_ | refine blk_alloc ?_ _)); exact BK588.out) hb); have n1_ := Aside0.mk (below_step (by repeat (first | (with_reducible first | exact HB.out | apply below_alloc | apply pw_below_drewN | apply below_drew1 | refine below_set ?_ GE588.out) | exact HB.out)) hb); have n2_ := Aside0.mk (hbox); have n3_ := Aside0.mk ((by rw [hg]; exact (below_size (by repeat (first | (with_reducible first | exact HB.out | apply below_alloc | apply pw_below_drewN | apply below_drew1 | refine below_set ?_ GE588.out) | exact HB.out))) : w.heap.size ≤ gb589)); have n4_ := Aside0.mk ((by rw [hg]; exact (below_size (by repeat (first | (with_reducible first | exact HB.out | apply below_alloc | apply pw_below_drewN | apply below_drew1 | refine below_set ?_ GE588.out) | exact HB.out))) : w.heap.size ≤ gb589)); have n5_ := Aside0.mk ((by rw [hg]; exact Nat.ne_of_lt (blk_lt (g := gb588) (o := .cells #[.int .i64 a0_0, .int .i64 a0_1, .string a0_2] 42 (0, 0)) (by (with_reducible repeat (first | refine blk_drewN ?_ _ | refine blk_drew ?_ | refine blk_alloc ?_ _)); exact BK588.out)) : gb588 ≠ gb589)); have n6_ := Aside0.mk ((by rw [hg]; exact Nat.ne_of_gt (blk_lt (g := gb588) (o := .cells #[.int .i64 a0_0, .int .i64 a0_1, .string a0_2] 42 (0, 0)) (by (with_reducible repeat (first | refine blk_drewN ?_ _ | refine blk_drew ?_ | refine blk_alloc ?_ _)); exact BK588.out)) : gb589 ≠ gb588)); clear BK588; clear HB; have BK588 := n0_; have HB := n1_; have BK589 := n2_; have GW589 := n3_; have GE589 := n4_; have NB588_589 := n5_; have NB589_588 := n6_; clear n0_ n1_ n2_ n3_ n4_ n5_ n6_; clear hb hbox hg; have hnb12 := eq_false NB588_589.out; have hnc12 := eq_false NB589_588.out; have hcz13_0 : w11.cell? ⟨gb588, 0, none⟩ = some (.int .i64 a0_0) := (blk_cell BK588.out 0).trans rfl; have hcz13_1 : w11.cell? ⟨gb588, 1, none⟩ = some (.int .i64 a0_1) := (blk_cell BK588.out 1).trans rfl; have hcz13_2 : w11.cell? ⟨gb588, 2, none⟩ = some (.string a0_2) := (blk_cell BK588.out 2).trans rfl; have hfz13_0 := blk_frozen BK588.out 0; have hfz13_1 := blk_frozen BK588.out 1; have hfz13_2 := blk_frozen BK588.out 2; have hcz14_0 : w11.cell? ⟨gb589, 0, none⟩ = some (.int .i64 a1_0) := (blk_cell BK589.out 0).trans rfl; have hcz14_1 : w11.cell? ⟨gb589, 1, none⟩ = some (.int .i64 a1_1) := (blk_cell BK589.out 1).trans rfl; have hcz14_2 : w11.cell? ⟨gb589, 2, none⟩ = some (.string a1_2) := (blk_cell BK589.out 2).trans rfl; have hfz14_0 := blk_frozen BK589.out 0; have hfz14_1 := blk_frozen BK589.out 1; have hfz14_2 := blk_frozen BK589.out 2))
   go_ret
   exact ⟨by first | rfl | (simp [errW_none, errW_some] <;> rfl) | (simp [*, errW_none, errW_some] <;> rfl), by repeat (first | (with_reducible first | exact HB.out | apply below_alloc | apply pw_below_drewN | apply below_drew1 | refine below_set ?_ GE588.out | refine below_set ?_ GE589.out) | exact HB.out)⟩
 ·
  rw [if_neg c3] at H
  have c3b0 : (a0_0 == a1_0) = false := beq_eq_false_iff_ne.mpr c3
  have c3b1 : (a0_0 != a1_0) = true := bne_iff_ne.mpr c3
  obtain rfl := Option.some.inj H
  go_enter Tryd.func30, Tryd.ntmps30
  go_wp2_with (first | ((with_reducible refine gate_dst (N := 2) rfl ?_); refine box_event ?hg (N := 2) ?hd (cs := #[.int .i64 a0_0, .int .i64 a0_1, .string a0_2]) (t := 42) ?hr ?_; (case hd => rfl); (case hg => rfl); (case hr => first | (go_simp; done) | (go_simp; rfl)); intro gb588 hg w15 hbox hb; have n0_ := Aside0.mk (below_step (by repeat (first | (with_reducible first | exact HB.out | apply below_alloc | apply pw_below_drewN | apply below_drew1) | exact HB.out)) hb); have n1_ := Aside0.mk (hbox); have n2_ := Aside0.mk ((by rw [hg]; exact (below_size (by repeat (first | (with_reducible first | exact HB.out | apply below_alloc | apply pw_below_drewN | apply below_drew1) | exact HB.out))) : w.heap.size ≤ gb588)); have n3_ := Aside0.mk ((by rw [hg]; exact (below_size (by repeat (first | (with_reducible first | exact HB.out | apply below_alloc | apply pw_below_drewN | apply below_drew1) | exact HB.out))) : w.heap.size ≤ gb588)); clear HB; have HB := n0_; have BK588 := n1_; have GW588 := n2_; have GE588 := n3_; clear n0_ n1_ n2_ n3_; clear hb hbox hg) | ((with_reducible refine gate_dst (N := 3) rfl ?_); refine box_event ?hg (N := 3) ?hd (cs := #[.int .i64 a1_0, .int .i64 a1_1, .string a1_2]) (t := 42) ?hr ?_; (case hd => rfl); (case hg => rfl); (case hr => first | (go_simp; done) | (go_simp; rfl)); intro gb589 hg w16 hbox hb; have n0_ := Aside0.mk (blk_below (g := gb588) (o := .cells #[.int .i64 a0_0, .int .i64 a0_1, .string a0_2] 42 (0, 0)) (by (with_reducible repeat (first | refine blk_drewN ?_ _ | refine blk_drew ?_ | refine blk_alloc ?_ _)); exact BK588.out) hb); have n1_ := Aside0.mk (below_step (by repeat (first | (with_reducible first | exact HB.out | apply below_alloc | apply pw_below_drewN | apply below_drew1 | refine below_set ?_ GE588.out) | exact HB.out)) hb); have n2_ := Aside0.mk (hbox); have n3_ := Aside0.mk ((by rw [hg]; exact (below_size (by repeat (first | (with_reducible first | exact HB.out | apply below_alloc | apply pw_below_drewN | apply below_drew1 | refine below_set ?_ GE588.out) | exact HB.out))) : w.heap.size ≤ gb589)); have n4_ := Aside0.mk ((by rw [hg]; exact (below_size (by repeat (first | (with_reducible first | exact HB.out | apply below_alloc | apply pw_below_drewN | apply below_drew1 | refine below_set ?_ GE588.out) | exact HB.out))) : w.heap.size ≤ gb589)); have n5_ := Aside0.mk ((by rw [hg]; exact Nat.ne_of_lt (blk_lt (g := gb588) (o := .cells #[.int .i64 a0_0, .int .i64 a0_1, .string a0_2] 42 (0, 0)) (by (with_reducible repeat (first | refine blk_drewN ?_ _ | refine blk_drew ?_ | refine blk_alloc ?_ _)); exact BK588.out)) : gb588 ≠ gb589)); have n6_ := Aside0.mk ((by rw [hg]; exact Nat.ne_of_gt (blk_lt (g := gb588) (o := .cells #[.int .i64 a0_0, .int .i64 a0_1, .string a0_2] 42 (0, 0)) (by (with_reducible repeat (first | refine blk_drewN ?_ _ | refine blk_drew ?_ | refine blk_alloc ?_ _)); exact BK588.out)) : gb589 ≠ gb588)); clear BK588; clear HB; have BK588 := n0_; have HB := n1_; have BK589 := n2_; have GW589 := n3_; have GE589 := n4_; have NB588_589 := n5_; have NB589_588 := n6_; clear n0_ n1_ n2_ n3_ n4_ n5_ n6_; clear hb hbox hg; have hnb17 := eq_false NB588_589.out; have hnc17 := eq_false NB589_588.out; have hcz18_0 : w16.cell? ⟨gb588, 0, none⟩ = some (.int .i64 a0_0) := (blk_cell BK588.out 0).trans rfl; have hcz18_1 : w16.cell? ⟨gb588, 1, none⟩ = some (.int .i64 a0_1) := (blk_cell BK588.out 1).trans rfl; have hcz18_2 : w16.cell? ⟨gb588, 2, none⟩ = some (.string a0_2) := (blk_cell BK588.out 2).trans rfl; have hfz18_0 := blk_frozen BK588.out 0; have hfz18_1 := blk_frozen BK588.out 1; have hfz18_2 := blk_frozen BK588.out 2; have hcz19_0 : w16.cell? ⟨gb589, 0, none⟩ = some (.int .i64 a1_0) := (blk_cell BK589.out 0).trans rfl; have hcz19_1 : w16.cell? ⟨gb589, 1, none⟩ = some (.int .i64 a1_1) := (blk_cell BK589.out 1).trans rfl; have hcz19_2 : w16.cell? ⟨gb589, 2, none⟩ = some (.string a1_2) := (blk_cell BK589.out 2).trans rfl; have hfz19_0 := blk_frozen BK589.out 0; have hfz19_1 := blk_frozen BK589.out 1; have hfz19_2 := blk_frozen BK589.out 2))
  go_ret
  exact ⟨by first | rfl | (simp [errW_none, errW_some] <;> rfl) | (simp [*, errW_none, errW_some] <;> rfl), by repeat (first | (with_reducible first | exact HB.out | apply below_alloc | apply pw_below_drewN | apply below_drew1 | refine below_set ?_ GE588.out | refine below_set ?_ GE589.out) | exact HB.out)⟩
end Go.Proofs.YthghcpeedmconaaDoor.X
end
section
namespace Go.Proofs.YthghcpeedmconaaDoor.X
set_option linter.unusedVariables false
set_option linter.unusedSimpArgs false
open Go.RowKit Go.Proofs.YthghcpeedmconaaDoorW.PrintWords Go.Proofs.YthghcpeedmconaaDoorW.PrintLast Go.Proofs.YthghcpeedmconaaDoorW.PrintMore
open Num
theorem times_eq (u : Nat) (hu : u < 18446744073709551616) : lockstepref02_times.f (u : Int) = some (((u * 10000 / 18446744073709551616 : Nat) : Int), ((u * 10000 % 18446744073709551616 : Nat) : Int)) := by
  unfold lockstepref02_times.f
  have t1 : Int.tmod (u : Int) 4294967296 = ((u % 4294967296 : Nat) : Int) := by rw [Int.tmod_eq_emod_of_nonneg (by omega)]; omega
  rw [t1]
  have e1 : (u : Int) / 4294967296 * 10000 = ((u / 4294967296 * 10000 : Nat) : Int) := by omega
  have e2 : ((u % 4294967296 : Nat) : Int) * 10000 = ((u % 4294967296 * 10000 : Nat) : Int) := by omega
  rw [e1, e2, wrapN _ (by omega), wrapN _ (by omega), divN, addN, wrapN _ (by omega), divN, show ((u / 4294967296 * 10000 + u % 4294967296 * 10000 / 4294967296 : Nat) : Int) * 4294967296 = (((u / 4294967296 * 10000 + u % 4294967296 * 10000 / 4294967296) * 4294967296 : Nat) : Int) by omega]
  have t2 : Int.tmod ((u % 4294967296 * 10000 : Nat) : Int) 4294967296 = ((u % 4294967296 * 10000 % 4294967296 : Nat) : Int) := by rw [Int.tmod_eq_emod_of_nonneg (by omega)]; omega
  rw [t2, wrapM]
  have e3 : ((u / 4294967296 * 10000 + u % 4294967296 * 10000 / 4294967296) * 4294967296) % 18446744073709551616 = ((u / 4294967296 * 10000 + u % 4294967296 * 10000 / 4294967296) % 4294967296) * 4294967296 := by omega
  rw [e3, bits_or_u64_nat _ _ (by omega) (by omega)]
  have h := Nat.two_pow_add_eq_or_of_lt (i := 32) (show u % 4294967296 * 10000 % 4294967296 < 2 ^ 32 by omega) ((u / 4294967296 * 10000 + u % 4294967296 * 10000 / 4294967296) % 4294967296)
  rw [show (2 : Nat) ^ 32 = 4294967296 from rfl, Nat.mul_comm 4294967296] at h
  have f1 : (u / 4294967296 * 10000 + u % 4294967296 * 10000 / 4294967296) / 4294967296 = u * 10000 / 18446744073709551616 := by omega
  have f2 : (u / 4294967296 * 10000 + u % 4294967296 * 10000 / 4294967296) % 4294967296 * 4294967296 + u % 4294967296 * 10000 % 4294967296 = u * 10000 % 18446744073709551616 := by omega
  rw [← h, f1, f2]
theorem rnum_loop (lo : Int) (h0 : 0 ≤ lo) : ∀ (j : Nat), j ≤ 8 → ∀ (x : List Int), x.length + j < 140737488355328 → ∀ k,
    lockstepref02_number.l0 (k + j + 1) lo x ((j : Int) - 1) = some (x ++ be j lo)
  | 0, _, x, hl, k => by
    rw [lockstepref02_number.l0, if_neg (by omega)]
    show _ = some (x ++ [])
    rw [List.append_nil]
  | j + 1, hj, x, hl, k => by
    have e : (((j + 1 : Nat) : Int) - 1) = (j : Int) := by omega
    have ew : IntKind.u64.wrap (wrap64 (8 * (j : Int))) = 8 * (j : Int) := by rw [IntKind.wrap_u64]; unfold wrap64; omega
    rw [show k + (j + 1) + 1 = (k + j + 1) + 1 by omega, e, lockstepref02_number.l0, ew, if_pos (by omega), if_pos (by omega), if_pos (by omega), shr_be lo j (by omega),
      show wrap64 ((j : Int) - 1) = (j : Int) - 1 by unfold wrap64; omega, rnum_loop lo h0 j (by omega) _ (by rw [List.length_append, List.length_singleton]; omega) k, List.append_assoc]
    rfl
theorem rnum_j2 (hi lo : Int) (h0 : 0 ≤ hi) (h1 : hi < 65536) (h2 : 0 ≤ lo) (h3 : lo < 18446744073709551616) (k : Nat) (hk : 12 ≤ k) (N : Int) (hN : N + 604462909807314587353088 = ((hi + 32768) % 65536) * 18446744073709551616 + lo) :
    lockstepref02_number.j2 k hi lo = some (be 10 (N + 604462909807314587353088)) := by
  obtain ⟨k, rfl⟩ : ∃ m, k = m + 10 := ⟨k - 10, by omega⟩
  rw [show k + 10 = (k + 8 + 1) + 1 by omega, lockstepref02_number.j2]
  have hl := rnum_loop lo h2 8 (Nat.le_refl _) [(IntKind.u64.wrap (Int.tdiv (Int.tmod (IntKind.u64.wrap (hi + 32768)) 65536) 256)) % 256, (Int.tmod (IntKind.u64.wrap (hi + 32768)) 65536) % 256] (by simp) k
  rw [show (((8 : Nat) : Int) - 1) = 7 by decide] at hl
  rw [hl, hN]
  have ew : IntKind.u64.wrap (hi + 32768) = hi + 32768 := by rw [IntKind.wrap_u64]; omega
  have et : Int.tmod (hi + 32768) 65536 = (hi + 32768) % 65536 := Int.tmod_eq_emod_of_nonneg (by omega)
  have ed : Int.tdiv ((hi + 32768) % 65536) 256 = (hi + 32768) % 65536 / 256 := Int.tdiv_eq_ediv_of_nonneg (by omega)
  have ew2 : IntKind.u64.wrap ((hi + 32768) % 65536 / 256) = (hi + 32768) % 65536 / 256 := by rw [IntKind.wrap_u64]; omega
  rw [ew, et, ed, ew2]
  rw [be_ten _ lo (by omega) (by omega) h2 h3]
  rfl
theorem rnumber_eq (t n : Int) (s : ByteArray) (ht : t = 1 ∨ t = 2) (hn : I64 n) (k : Nat) (hk : 20 ≤ k) : lockstepref02_number.f k t n s = some (be 10 (sv t n + 604462909807314587353088)) := by
  obtain ⟨hn0, hn1⟩ := hn
  obtain ⟨k, rfl⟩ : ∃ m, k = m + 2 := ⟨k - 2, by omega⟩
  have main : ∀ (neg : Bool) (u : Nat), u < 18446744073709551616 → (n = if neg then -(u : Int) else (u : Int)) → (neg = true → 0 < u ∧ u ≤ 9223372036854775808) → (neg = false → u < 9223372036854775808) → lockstepref02_number.j0 (k + 2) neg (u : Int) t n s = some (be 10 (sv t n + 604462909807314587353088)) := by
    intro neg u hu hnu hneg hpos
    have inner : ∀ (H L : Nat), H < 10000 → L < 18446744073709551616 → (sv t n = if neg then -((H * 18446744073709551616 + L : Nat) : Int) else ((H * 18446744073709551616 + L : Nat) : Int)) → lockstepref02_number.j1 (k + 1) neg (H : Int) (L : Int) = some (be 10 (sv t n + 604462909807314587353088)) := by
      intro H L hH hL hs
      rw [lockstepref02_number.j1]
      cases neg
      · rw [if_neg (by decide)]
        rw [if_neg (by decide)] at hs
        exact rnum_j2 _ _ (by omega) (by omega) (by omega) (by omega) k (by omega) _ (by rw [hs]; omega)
      · rw [if_pos rfl]
        rw [if_pos rfl] at hs
        have eL : IntKind.u64.wrap (-(L : Int)) = (((18446744073709551616 - L) % 18446744073709551616 : Nat) : Int) := by rw [IntKind.wrap_u64]; omega
        rw [eL]
        have eH : IntKind.u64.wrap (65535 - (H : Int)) = 65535 - (H : Int) := by rw [IntKind.wrap_u64]; omega
        rw [eH]
        by_cases h0 : L = 0
        · rw [if_pos (by omega)]
          have eH1 : IntKind.u64.wrap (65535 - (H : Int) + 1) = 65535 - (H : Int) + 1 := by rw [IntKind.wrap_u64]; omega
          rw [eH1]
          have et : Int.tmod (65535 - (H : Int) + 1) 65536 = (65535 - (H : Int) + 1) % 65536 := Int.tmod_eq_emod_of_nonneg (by omega)
          rw [et]
          exact rnum_j2 _ _ (by omega) (by omega) (by omega) (by omega) k (by omega) _ (by rw [hs]; omega)
        · rw [if_neg (by omega)]
          have et : Int.tmod (65535 - (H : Int)) 65536 = (65535 - (H : Int)) % 65536 := Int.tmod_eq_emod_of_nonneg (by omega)
          rw [et]
          exact rnum_j2 _ _ (by omega) (by omega) (by omega) (by omega) k (by omega) _ (by rw [hs]; omega)
    rw [lockstepref02_number.j0]
    by_cases t1 : t = 1
    · rw [if_pos t1, times_eq u hu, Option.bind_some]
      refine inner _ _ (by omega) (by omega) ?_
      unfold sv
      rw [if_neg (by omega), hnu]
      cases neg
      · rw [if_neg (by decide), if_neg (by decide)]; omega
      · rw [if_pos rfl, if_pos rfl]; omega
    · rw [if_neg t1]
      refine inner 0 u (by decide) hu ?_
      unfold sv
      rw [if_pos (by omega), hnu]
      cases neg
      · rw [if_neg (by decide), if_neg (by decide)]; omega
      · rw [if_pos rfl, if_pos rfl]; omega
  unfold lockstepref02_number.f
  by_cases hneg : n < 0
  · rw [if_pos hneg, decide_eq_true hneg]
    have e : IntKind.u64.wrap (-(IntKind.u64.wrap n)) = ((n.natAbs : Nat) : Int) := by rw [IntKind.wrap_u64, IntKind.wrap_u64]; omega
    rw [e]
    exact main true n.natAbs (by omega) (by rw [if_pos rfl]; omega) (fun _ => by omega) (fun h => by cases h)
  · rw [if_neg hneg, decide_eq_false hneg]
    have e : IntKind.u64.wrap n = ((n.natAbs : Nat) : Int) := by rw [IntKind.wrap_u64]; omega
    rw [e]
    exact main false n.natAbs (by omega) (by rw [if_neg (by decide)]; omega) (fun h => by cases h) (fun _ => by omega)
theorem bt_drop (s : ByteArray) (i : Nat) (hi : i < s.size) : ∃ b, s.data.toList.drop i = b :: s.data.toList.drop (i + 1) ∧ bt s (i : Int) = (b.toNat : Int) := by
  have hl : s.data.toList.length = s.size := by simp
  refine ⟨s.data.toList[i], List.drop_eq_getElem_cons (by omega), ?_⟩
  unfold bt
  rw [Int.toNat_natCast]
  simp only [Array.getElem_toList]
  first
    | rw [getElem!_pos s i hi]; rfl
    | (simp [hi]; rfl)
theorem rtext_loop (s : ByteArray) (hs : s.size ≤ 4096) (t n : Int) : ∀ (d i : Nat), i + d = s.size → ∀ (x : List Int) (k : Nat), x.length + 2 * d + 10 < 140737488355328 → d + 5 ≤ k →
    lockstepref02_bytes.l0 k x (i : Int) t n s = some (x ++ (escB (s.data.toList.drop i) ++ [0, 0]))
  | 0, i, h, x, k, hx, hk => by
    obtain ⟨k, rfl⟩ : ∃ m, k = m + 1 := ⟨k - 1, by omega⟩
    have hl : s.data.toList.length = s.size := by simp
    rw [lockstepref02_bytes.l0, if_neg (by omega), Option.bind_some, if_pos (by simp; omega), List.drop_eq_nil_of_le (by omega)]; rfl
  | d + 1, i, h, x, k, hx, hk => by
    obtain ⟨k, rfl⟩ : ∃ m, k = m + 1 := ⟨k - 1, by omega⟩
    obtain ⟨b, e1, e2⟩ := bt_drop s i (by omega)
    rw [lockstepref02_bytes.l0, if_pos (by omega), if_pos (by omega), Option.bind_some, if_pos (by simp; omega), Option.bind_some, e1, e2, show wrap64 ((i : Int) + 1) = ((i + 1 : Nat) : Int) by unfold wrap64; omega]
    by_cases hb : b = 0
    · subst hb
      rw [if_pos (by rfl), Option.bind_some, if_pos (by simp; omega), rtext_loop s hs t n d (i + 1) (by omega) _ k (by simp; omega) (by omega), escB_z]
      simp
    · rw [if_neg (by have := u8_pos hb; omega), rtext_loop s hs t n d (i + 1) (by omega) _ k (by simp; omega) (by omega), escB_n hb]
      simp
theorem rbytes_eq {v : S42} (h : Can v) (k : Nat) (hk : 4200 ≤ k) : lockstepref02_bytes.f k v.f0 v.f1 v.f2 = some (code v) := by
  obtain ⟨k, rfl⟩ : ∃ m, k = m + 1 := ⟨k - 1, by omega⟩
  unfold lockstepref02_bytes.f
  have hj : ¬ v.f0 = 0 → (if v.f0 = 1 then (lockstepref02_bytes.j0 (k + 1) v.f0 (v.f0 == 1) v.f0 v.f1 v.f2) else (lockstepref02_bytes.j0 (k + 1) v.f0 (v.f0 == 2) v.f0 v.f1 v.f2)) = lockstepref02_bytes.j0 (k + 1) v.f0 (decide (v.f0 = 1 ∨ v.f0 = 2)) v.f0 v.f1 v.f2 := by
    intro _
    by_cases h1 : v.f0 = 1
    · rw [if_pos h1, h1]; rfl
    · rw [if_neg h1]
      congr 1
      rw [Bool.eq_iff_iff]
      simp [h1]
  rcases h.typ with e | e | e | e
  · rw [if_pos e, code_null e]
  · rw [if_neg (by omega), hj (by omega), lockstepref02_bytes.j0, decide_eq_true e, if_pos rfl, Option.bind_some, rnumber_eq v.f0 v.f1 v.f2 e h.num k (by omega), Option.bind_some,
      if_pos (by rw [be_len]; decide), Option.bind_some, Option.bind_some, if_pos (by rw [List.length_append, be_len]; simp), code_num e]
    simp
  · rw [if_neg (by omega), hj (by omega), lockstepref02_bytes.j0, decide_eq_false (by omega), if_neg (by decide), if_neg (by omega)]
    have := rtext_loop v.f2 e.2 v.f0 v.f1 v.f2.size 0 (by omega) [3] k (by simp; omega) (by omega)
    rw [show ((0 : Nat) : Int) = 0 from rfl, List.drop_zero] at this
    rw [this, code_text e.1]; rfl
  · rw [if_neg (by omega), hj (by omega), lockstepref02_bytes.j0, decide_eq_false (by omega), if_neg (by decide), if_pos e.1, code_bool e.1]
theorem rval_eq (v : S42) (hn : I64 v.f1) (k : Nat) (hk : 4300 ≤ k) : lockstepref02_Value.f k v.f0 v.f1 v.f2 = some (if chk v.f0 v.f1 v.f2 = 0 then (code v, 0) else ([], chk v.f0 v.f1 v.f2)) := by
  obtain ⟨k, rfl⟩ : ∃ m, k = m + 2 := ⟨k - 2, by omega⟩
  unfold lockstepref02_Value.f
  rw [lockstepref01_Check.eq, Option.bind_some]
  by_cases hc : chk v.f0 v.f1 v.f2 = 0
  · rw [if_pos hc, if_pos hc, rbytes_eq ⟨hc, hn⟩ (k + 2) (by omega), Option.bind_some]
  · rw [if_neg hc, if_neg hc]
theorem hash_eq (l : List Int) (hm : l.length ≤ 9223372036854775807) : ∀ (d i : Nat), i + d = l.length → ∀ (a : Int) (k : Nat), d + 1 ≤ k →
    ∃ r, rowcode_hash.l0 k a l (l.length : Int) (i : Int) = some r ∧ lockstepref02_Hash.l0 k l a (i : Int) = some r
  | 0, i, h, a, k, hk => by
    obtain ⟨k, rfl⟩ : ∃ m, k = m + 1 := ⟨k - 1, by omega⟩
    rw [rowcode_hash.l0, lockstepref02_Hash.l0, if_neg (by omega), if_neg (by omega)]
    exact ⟨a, rfl, rfl⟩
  | d + 1, i, h, a, k, hk => by
    obtain ⟨k, rfl⟩ : ∃ m, k = m + 1 := ⟨k - 1, by omega⟩
    rw [rowcode_hash.l0, lockstepref02_Hash.l0, if_pos (by omega), if_pos (by omega), if_pos (by omega), if_pos (by omega), if_pos (by omega), show wrap64 ((i : Int) + 1) = ((i + 1 : Nat) : Int) by unfold wrap64; omega]
    exact hash_eq l hm d (i + 1) (by omega) _ k (by omega)
theorem Hash_eq (l : List Int) (hm : l.length ≤ 9223372036854775807) (k : Nat) (hk : l.length + 1 ≤ k) : ∃ r, rowcode_Hash.f k l = some r ∧ lockstepref02_Hash.f k l = some r := by
  obtain ⟨r, h1, h2⟩ := hash_eq l hm l.length 0 (by omega) 14695981039346656037 k hk
  refine ⟨r, ?_, h2⟩
  unfold rowcode_Hash.f rowcode_hash.f
  rw [show ((0 : Int)) = ((0 : Nat) : Int) from rfl, h1, Option.bind_some]
theorem told_loop (b : Bool) : ∀ (d : Nat) (l : List Int) (i : Nat), i + d = l.length → l.length < 140737488355328 → ∀ k, d + 1 ≤ k → locksteplaw02_told.l0 k l b (i : Int) = some b
  | 0, l, i, h, hm, k, hk => by
    obtain ⟨k, rfl⟩ : ∃ m, k = m + 1 := ⟨k - 1, by omega⟩
    rw [locksteplaw02_told.l0, if_neg (by omega), if_pos hm]
  | d + 1, l, i, h, hm, k, hk => by
    obtain ⟨k, rfl⟩ : ∃ m, k = m + 1 := ⟨k - 1, by omega⟩
    rw [locksteplaw02_told.l0, if_pos (by omega), if_pos (by omega), show wrap64 ((i : Int) + 1) = ((i + 1 : Nat) : Int) by unfold wrap64; omega]
    exact told_loop b d _ (i + 1) (by rw [List.length_set]; omega) (by rw [List.length_set]; exact hm) k (by omega)
theorem told_eq (l m : List Int) (hl : l.length < 140737488355328) (k : Nat) (hk : l.length + 1 ≤ k) : locksteplaw02_told.f k l m = some ((strOfNums l).toList == (strOfNums m).toList) := by
  have := told_loop ((strOfNums l).toList == (strOfNums m).toList) l.length l 0 (by omega) hl k hk
  exact this
def took (l : List Int) (x : Rd) : Int × Int × ByteArray × Int × Int := if x.2.2.2.2 = 0 then (x.1, x.2.1, x.2.2.1, (l.length : Int) - (x.2.2.2.1.length : Int), 0) else (0, 0, (⟨#[]⟩ : ByteArray), 0, x.2.2.2.2)
theorem took_bad (l : List Int) {e : Int} (he : e ≠ 0) : took l (bad e) = (0, 0, (⟨#[]⟩ : ByteArray), 0, e) := by unfold took bad; rw [if_neg he]
theorem signed_eq (t : Int) (neg : Bool) (Q : Nat) (hq : Q < 18446744073709551616) (hneg : neg = true → 0 < Q ∨ True) (k : Nat) (hk : 1 ≤ k) :
    lockstepref02_signed.f k t neg (Q : Int) = some (if inI (if neg then -(Q : Int) else (Q : Int)) then (t, (if neg then -(Q : Int) else (Q : Int)), (⟨#[]⟩ : ByteArray), 12, 0) else (0, 0, (⟨#[]⟩ : ByteArray), 0, 20)) := by
  obtain ⟨k, rfl⟩ : ∃ m, k = m + 1 := ⟨k - 1, by omega⟩
  unfold lockstepref02_signed.f inI
  have et : Int.tmod (Q : Int) 9223372036854775808 = (Q : Int) % 9223372036854775808 := Int.tmod_eq_emod_of_nonneg (by omega)
  by_cases h1 : 9223372036854775808 < Q
  · rw [if_pos (by omega), lockstepref02_signed.j0, if_pos rfl, if_neg]
    intro h
    have := of_decide_eq_true h
    cases neg
    · rw [if_neg (by decide)] at this; omega
    · rw [if_pos rfl] at this; omega
  · rw [if_neg (by omega)]
    by_cases h2 : Q = 9223372036854775808
    · subst h2
      rw [if_pos (show (((9223372036854775808 : Nat) : Int)) = 9223372036854775808 by omega), lockstepref02_signed.j0]
      cases neg
      · rw [if_pos (by rfl), if_neg]
        intro h
        have := of_decide_eq_true h
        rw [if_neg (by decide)] at this
        omega
      · rw [if_neg (by decide), if_pos (show (((9223372036854775808 : Nat) : Int)) = 9223372036854775808 by omega), if_pos]
        · simp only [if_true]
          rw [show -((9223372036854775808 : Nat) : Int) = -9223372036854775808 by omega]
        · simp only [if_true]
          exact decide_eq_true (by omega)
    · rw [if_neg (by omega), lockstepref02_signed.j0, if_neg (by decide), if_neg (by omega), et]
      cases neg
      · rw [if_neg (by decide), if_pos]
        · simp only [Bool.false_eq_true, if_false]
          rw [show wrap64 ((Q : Int) % 9223372036854775808) = (Q : Int) by unfold wrap64; omega]
        · simp only [Bool.false_eq_true, if_false]
          exact decide_eq_true (by omega)
      · rw [if_pos rfl, if_pos]
        · simp only [if_true]
          rw [show wrap64 (-(wrap64 ((Q : Int) % 9223372036854775808))) = -(Q : Int) by unfold wrap64; omega]
        · simp only [if_true]
          exact decide_eq_true (by omega)
theorem div_loop (H L : Nat) (hH : H < 10000) (hL : L < 18446744073709551616) : ∀ (j : Nat), j ≤ 64 → ∀ k,
    lockstepref02_divided.l0 (k + j + 1) (L : Int) (((H * 2 ^ (64 - j) + L / 2 ^ j) / 10000 : Nat) : Int) (((H * 2 ^ (64 - j) + L / 2 ^ j) % 10000 : Nat) : Int) ((j : Int) - 1) = some ((((H * 18446744073709551616 + L) / 10000 : Nat) : Int), (((H * 18446744073709551616 + L) % 10000 : Nat) : Int))
  | 0, _, k => by
    rw [lockstepref02_divided.l0, if_neg (by omega)]
    rw [show 64 - 0 = 64 from rfl, show (2 : Nat) ^ 64 = 18446744073709551616 from rfl, Nat.pow_zero, Nat.div_one]
  | j + 1, hj, k => by
    have ih := div_loop H L hH hL j (by omega) k
    have e : (((j + 1 : Nat) : Int) - 1) = (j : Int) := by omega
    have p1 : 64 - j = (64 - (j + 1)) + 1 := by omega
    have hX : H * 2 ^ (64 - j) + L / 2 ^ j = 2 * (H * 2 ^ (64 - (j + 1)) + L / 2 ^ (j + 1)) + L / 2 ^ j % 2 := by
      rw [p1, Nat.pow_succ, Nat.pow_succ, ← Nat.div_div_eq_div_mul, ← Nat.mul_assoc]
      omega
    have hb : H * 2 ^ (64 - (j + 1)) + L / 2 ^ (j + 1) < 10000 * 2 ^ (64 - (j + 1)) := by
      have h1 : L / 2 ^ (j + 1) < 2 ^ (64 - (j + 1)) := by
        refine (Nat.div_lt_iff_lt_mul (Nat.pow_pos (by decide))).mpr ?_
        rw [← Nat.pow_add, show 64 - (j + 1) + (j + 1) = 64 by omega]
        exact hL
      have h2 := Nat.mul_le_mul_right (2 ^ (64 - (j + 1))) (show H + 1 ≤ 10000 by omega)
      rw [Nat.add_mul, Nat.one_mul] at h2
      omega
    have hp : 2 ^ (64 - (j + 1)) ≤ 9223372036854775808 := by
      have := Nat.pow_le_pow_right (n := 2) (by decide) (show 64 - (j + 1) ≤ 63 by omega)
      exact this
    rw [hX] at ih
    generalize hx : H * 2 ^ (64 - (j + 1)) + L / 2 ^ (j + 1) = x at *
    have hs : Int.tmod (shr .u64 (L : Int) (IntKind.u64.wrap (j : Int))) 2 = ((L / 2 ^ j % 2 : Nat) : Int) := by
      have e1 : IntKind.u64.wrap (j : Int) = (j : Int) := by rw [IntKind.wrap_u64]; omega
      have e2 : shr .u64 (L : Int) (j : Int) = ((L / 2 ^ j : Nat) : Int) := by
        unfold shr
        rw [show min ((j : Int).toNat) IntKind.u64.bits = j by rw [Int.toNat_natCast, show IntKind.u64.bits = 64 from rfl]; omega, show ((2 : Int) ^ j) = ((2 ^ j : Nat) : Int) by simp]
        rfl
      have e3 : Int.tmod ((L / 2 ^ j : Nat) : Int) 2 = ((L / 2 ^ j % 2 : Nat) : Int) := by rw [Int.tmod_eq_emod_of_nonneg (Int.natCast_nonneg _)]; rfl
      rw [e1, e2, e3]
    have hbit : L / 2 ^ j % 2 < 2 := Nat.mod_lt _ (by decide)
    have ew : IntKind.u64.wrap (j : Int) = (j : Int) := by rw [IntKind.wrap_u64]; omega
    rw [show k + (j + 1) + 1 = (k + j + 1) + 1 by omega, e, lockstepref02_divided.l0, if_pos (by omega), hs]
    generalize L / 2 ^ j % 2 = bit at *
    have hq : x / 10000 < 9223372036854775808 := by omega
    have hleft : IntKind.u64.wrap (IntKind.u64.wrap (2 * ((x % 10000 : Nat) : Int)) + (bit : Int)) = ((2 * (x % 10000) + bit : Nat) : Int) := by rw [IntKind.wrap_u64, IntKind.wrap_u64]; omega
    rw [ew, if_pos (by omega), hleft, show wrap64 ((j : Int) - 1) = (j : Int) - 1 by unfold wrap64; omega]
    by_cases hc : 10000 ≤ 2 * (x % 10000) + bit
    · rw [if_pos (by omega)]
      have a1 : IntKind.u64.wrap (IntKind.u64.wrap (2 * ((x / 10000 : Nat) : Int)) + 1) = (((2 * x + bit) / 10000 : Nat) : Int) := by rw [IntKind.wrap_u64, IntKind.wrap_u64]; omega
      have a2 : IntKind.u64.wrap (((2 * (x % 10000) + bit : Nat) : Int) - 10000) = (((2 * x + bit) % 10000 : Nat) : Int) := by rw [IntKind.wrap_u64]; omega
      rw [a1, a2]
      exact ih
    · rw [if_neg (by omega)]
      have a1 : IntKind.u64.wrap (2 * ((x / 10000 : Nat) : Int)) = (((2 * x + bit) / 10000 : Nat) : Int) := by rw [IntKind.wrap_u64]; omega
      have a2 : 2 * (x % 10000) + bit = (2 * x + bit) % 10000 := by omega
      rw [a1, a2]
      exact ih
theorem divided_eq (H L : Nat) (hH : H < 10000) (hL : L < 18446744073709551616) (k : Nat) (hk : 70 ≤ k) :
    lockstepref02_divided.f k (H : Int) (L : Int) = some ((((H * 18446744073709551616 + L) / 10000 : Nat) : Int), (((H * 18446744073709551616 + L) % 10000 : Nat) : Int)) := by
  have h := div_loop H L hH hL 64 (Nat.le_refl _) (k - 65)
  rw [show k - 65 + 64 + 1 = k by omega, Nat.sub_self, Nat.pow_zero, Nat.mul_one, show L / 2 ^ 64 = 0 from Nat.div_eq_of_lt hL, Nat.add_zero, Nat.div_eq_of_lt hH, Nat.mod_eq_of_lt hH] at h
  exact h
end Go.Proofs.YthghcpeedmconaaDoor.X
end
section
namespace Go.Proofs.YthghcpeedmconaaDoor.X
open Go.RowKit Go.Proofs.YthghcpeedmconaaDoorW.PrintWords Go.Proofs.YthghcpeedmconaaDoorW.PrintLast Go.Proofs.YthghcpeedmconaaDoorW.PrintMore
attribute [local go_sem] max2_int min2_int max_two min_two max_three min_three max_four min_four
set_option linter.unusedVariables false
set_option linter.unusedSimpArgs false
def rowcode_Value.f (k : Nat) (a0_0 : Int) (a0_1 : Int) (a0_2 : ByteArray) : Option (List Int × Int) := (value_Check.f k a0_0 a0_1 a0_2).bind fun t293 => (if t293 = 0 then ((rowcode_appended.f k ([] : List Int) a0_0 a0_1 a0_2).bind fun t294 => (some (t294, 0))) else (some (([] : List Int), t293)))
set_option maxHeartbeats 8000000 in
set_option maxRecDepth 100000 in
theorem rowcode_Value.calls (k : Nat) (a0_0 : Int) (a0_1 : Int) (a0_2 : ByteArray) (r1 : List Int) (r2 : Int) (w : World) (hT : Tabs w) (h : rowcode_Value.f k a0_0 a0_1 a0_2 = some (r1, r2)) :
  Calls Tryd.prog 18 #[.agg #[.int .i64 a0_0, .int .i64 a0_1, .string a0_2]] w fun e w' => ∃ v0_ : Value, e = .returned (.tuple #[v0_, .int .i64 r2]) ∧ Kd.R (Kd.int .u8) 5 w' w.heap.size (fun _ => True) v0_ r1 ∧ Below w.heap.size w w' := by
 have hu42 := Tryd.underlying42
 have HT := Aside0.mk hT
 clear hT
 have HB := Aside0.mk (Below.refl w.heap.size w)
 have H : ((value_Check.f k a0_0 a0_1 a0_2).bind fun t293 => (if t293 = 0 then ((rowcode_appended.f k ([] : List Int) a0_0 a0_1 a0_2).bind fun t294 => (some (t294, 0))) else (some (([] : List Int), t293)))) = some (r1, r2) := h
 clear h
 replace H := Option.bind_eq_some_iff.mp H
 obtain ⟨t293, A20, H⟩ := H
 replace H : (if t293 = 0 then ((rowcode_appended.f k ([] : List Int) a0_0 a0_1 a0_2).bind fun t294 => (some (t294, 0))) else (some (([] : List Int), t293))) = some (r1, r2) := H
 have A2 := Aside0.mk A20
 clear A20
 by_cases c3 : t293 = 0
 ·
  rw [if_pos c3] at H
  have c3b0 : (t293 == 0) = true := beq_iff_eq.mpr c3
  have c3b1 : (t293 != 0) = false := bne_eq_false_iff_eq.mpr c3
  clear c3
  replace H := Option.bind_eq_some_iff.mp H
  obtain ⟨t294, A40, H⟩ := H
  replace H : (some (t294, 0)) = some (r1, r2) := H
  have A4 := Aside0.mk A40
  clear A40
  simp only [Option.some.injEq, Prod.mk.injEq] at H
  obtain ⟨rfl, rfl⟩ := H
  go_enter Tryd.func18, Tryd.ntmps18
  go_wp2_with (first | ((with_reducible refine gate_dst (N := 1) rfl ?_); refine box_event ?hg (N := 1) ?hd (cs := #[.int .i64 a0_0, .int .i64 a0_1, .string a0_2]) (t := 42) ?hr ?_; (case hd => rfl); (case hg => rfl); (case hr => first | (go_simp; done) | (go_simp; rfl)); intro gb292 hg w5 hbox hb; have n0_ := Aside0.mk (below_step (by repeat (first | (with_reducible first | exact HB.out | apply below_alloc | apply pw_below_drewN | apply below_drew1) | exact HB.out)) hb); have n1_ := Aside0.mk (hbox); have n2_ := Aside0.mk ((by rw [hg]; exact (below_size (by repeat (first | (with_reducible first | exact HB.out | apply below_alloc | apply pw_below_drewN | apply below_drew1) | exact HB.out))) : w.heap.size ≤ gb292)); have n3_ := Aside0.mk ((by rw [hg]; exact (below_size (by repeat (first | (with_reducible first | exact HB.out | apply below_alloc | apply pw_below_drewN | apply below_drew1) | exact HB.out))) : w.heap.size ≤ gb292)); clear HB; have HB := n0_; have BK292 := n1_; have GW292 := n2_; have GE292 := n3_; clear n0_ n1_ n2_ n3_; clear hb hbox hg; have hcz6_0 : w5.cell? ⟨gb292, 0, none⟩ = some (.int .i64 a0_0) := (blk_cell BK292.out 0).trans rfl; have hcz6_1 : w5.cell? ⟨gb292, 1, none⟩ = some (.int .i64 a0_1) := (blk_cell BK292.out 1).trans rfl; have hcz6_2 : w5.cell? ⟨gb292, 2, none⟩ = some (.string a0_2) := (blk_cell BK292.out 2).trans rfl; have hfz6_0 := blk_frozen BK292.out 0; have hfz6_1 := blk_frozen BK292.out 1; have hfz6_2 := blk_frozen BK292.out 2) | ((with_reducible refine gate_callee (f := 47) rfl ?_); refine goesL_ (some 6) rfl rfl Tryd.func47 (by kernel_rfl) rfl #[.agg #[.int .i64 a0_0, .int .i64 a0_1, .string a0_2]] rfl (by (try simp only [List.map_toArray, List.map_cons, List.map_nil]); first | done | rfl | (simp only [List.length_drop, List.length_take]; rfl)) ?_; (with_reducible refine (value_Check.calls k a0_0 a0_1 a0_2 t293 _ ?side1 A2.out).mono ?_); (case side1 => exact Tabs.below HT.out (by repeat (first | (with_reducible first | exact HB.out | apply below_alloc | apply pw_below_drewN | apply below_drew1 | refine below_set ?_ GE292.out) | exact HB.out))); rintro e w7 ⟨rfl, hb⟩; refine ⟨_, rfl, ?_⟩; have n0_ := Aside0.mk (blk_below (g := gb292) (o := .cells #[.int .i64 a0_0, .int .i64 a0_1, .string a0_2] 42 (0, 0)) (by (with_reducible repeat (first | refine blk_drewN ?_ _ | refine blk_drew ?_ | refine blk_alloc ?_ _)); exact BK292.out) hb); have n1_ := Aside0.mk (below_step (by repeat (first | (with_reducible first | exact HB.out | apply below_alloc | apply pw_below_drewN | apply below_drew1 | refine below_set ?_ GE292.out) | exact HB.out)) hb); clear BK292; clear HB; have BK292 := n0_; have HB := n1_; clear n0_ n1_; (try clear hb); (try clear hb2); (try clear hk); (try clear hi); have hcz8_0 : w7.cell? ⟨gb292, 0, none⟩ = some (.int .i64 a0_0) := (blk_cell BK292.out 0).trans rfl; have hcz8_1 : w7.cell? ⟨gb292, 1, none⟩ = some (.int .i64 a0_1) := (blk_cell BK292.out 1).trans rfl; have hcz8_2 : w7.cell? ⟨gb292, 2, none⟩ = some (.string a0_2) := (blk_cell BK292.out 2).trans rfl; have hfz8_0 := blk_frozen BK292.out 0; have hfz8_1 := blk_frozen BK292.out 1; have hfz8_2 := blk_frozen BK292.out 2) | ((with_reducible refine gate_callee (f := 48) rfl ?_); refine goesL_ (some 11) rfl rfl Tryd.func48 (by kernel_rfl) rfl #[.slice none 0 0, .agg #[.int .i64 a0_0, .int .i64 a0_1, .string a0_2]] rfl (by (try simp only [List.map_toArray, List.map_cons, List.map_nil]); first | done | rfl | (simp only [List.length_drop, List.length_take]; rfl)) ?_; (refine (rowcode_appended.calls k (fun k_ => some k_ = (.slice none 0 0 : Value).ownBlock) (.slice none 0 0) ([] : List Int) a0_0 a0_1 a0_2 t294 w _ ?side1 ?side2 ?side3 A4.out).mono ?_); (case side1 => exact HT.out); (case side2 => repeat (first | (with_reducible first | exact HB.out | apply below_alloc | apply pw_below_drewN | apply below_drew1 | refine below_set ?_ GE292.out) | exact HB.out)); (case side3 => exact Kd.R_nil _ _ _ _ _); rintro e w9 ⟨v295, rfl, ho0, hb, hkp⟩; refine ⟨_, rfl, ?_⟩; have n0_ := Aside0.mk (blk_kept (by (with_reducible repeat (first | refine blk_drewN ?_ _ | refine blk_drew ?_ | refine blk_alloc ?_ _)); exact BK292.out) hkp (fun hs_ => (fun e_ => by simp [Value.ownBlock] at e_) hs_)); have n1_ := Aside0.mk (Kd.R_mono (ok' := fun k_ => True) ho0 (fun k_ hk_ => trivial)); have n2_ := Aside0.mk (hb); clear BK292; clear HB; have BK292 := n0_; have HO296 := n1_; have HB := n2_; clear n0_ n1_ n2_; (try clear hb); (try clear hkp); (try clear ho0)))
  go_ret2
  exact ⟨_, by first | rfl | (simp [errW_none, errW_some] <;> rfl) | (simp [*, errW_none, errW_some] <;> rfl), by (with_reducible repeat (first | apply Kd.R_alloc | apply Kd.R_drewN | apply Kd.R_drew)); exact HO296.out, by repeat (first | (with_reducible first | exact HB.out | apply below_alloc | apply pw_below_drewN | apply below_drew1 | refine below_set ?_ GE292.out) | exact HB.out)⟩
 ·
  rw [if_neg c3] at H
  have c3b0 : (t293 == 0) = false := beq_eq_false_iff_ne.mpr c3
  have c3b1 : (t293 != 0) = true := bne_iff_ne.mpr c3
  simp only [Option.some.injEq, Prod.mk.injEq] at H
  obtain ⟨rfl, rfl⟩ := H
  go_enter Tryd.func18, Tryd.ntmps18
  go_wp2_with (first | ((with_reducible refine gate_dst (N := 1) rfl ?_); refine box_event ?hg (N := 1) ?hd (cs := #[.int .i64 a0_0, .int .i64 a0_1, .string a0_2]) (t := 42) ?hr ?_; (case hd => rfl); (case hg => rfl); (case hr => first | (go_simp; done) | (go_simp; rfl)); intro gb292 hg w10 hbox hb; have n0_ := Aside0.mk (below_step (by repeat (first | (with_reducible first | exact HB.out | apply below_alloc | apply pw_below_drewN | apply below_drew1) | exact HB.out)) hb); have n1_ := Aside0.mk (hbox); have n2_ := Aside0.mk ((by rw [hg]; exact (below_size (by repeat (first | (with_reducible first | exact HB.out | apply below_alloc | apply pw_below_drewN | apply below_drew1) | exact HB.out))) : w.heap.size ≤ gb292)); have n3_ := Aside0.mk ((by rw [hg]; exact (below_size (by repeat (first | (with_reducible first | exact HB.out | apply below_alloc | apply pw_below_drewN | apply below_drew1) | exact HB.out))) : w.heap.size ≤ gb292)); clear HB; have HB := n0_; have BK292 := n1_; have GW292 := n2_; have GE292 := n3_; clear n0_ n1_ n2_ n3_; clear hb hbox hg; have hcz11_0 : w10.cell? ⟨gb292, 0, none⟩ = some (.int .i64 a0_0) := (blk_cell BK292.out 0).trans rfl; have hcz11_1 : w10.cell? ⟨gb292, 1, none⟩ = some (.int .i64 a0_1) := (blk_cell BK292.out 1).trans rfl; have hcz11_2 : w10.cell? ⟨gb292, 2, none⟩ = some (.string a0_2) := (blk_cell BK292.out 2).trans rfl; have hfz11_0 := blk_frozen BK292.out 0; have hfz11_1 := blk_frozen BK292.out 1; have hfz11_2 := blk_frozen BK292.out 2) | ((with_reducible refine gate_callee (f := 47) rfl ?_); refine goesL_ (some 6) rfl rfl Tryd.func47 (by kernel_rfl) rfl #[.agg #[.int .i64 a0_0, .int .i64 a0_1, .string a0_2]] rfl (by (try simp only [List.map_toArray, List.map_cons, List.map_nil]); first | done | rfl | (simp only [List.length_drop, List.length_take]; rfl)) ?_; (with_reducible refine (value_Check.calls k a0_0 a0_1 a0_2 t293 _ ?side1 A2.out).mono ?_); (case side1 => exact Tabs.below HT.out (by repeat (first | (with_reducible first | exact HB.out | apply below_alloc | apply pw_below_drewN | apply below_drew1 | refine below_set ?_ GE292.out) | exact HB.out))); rintro e w12 ⟨rfl, hb⟩; refine ⟨_, rfl, ?_⟩; have n0_ := Aside0.mk (blk_below (g := gb292) (o := .cells #[.int .i64 a0_0, .int .i64 a0_1, .string a0_2] 42 (0, 0)) (by (with_reducible repeat (first | refine blk_drewN ?_ _ | refine blk_drew ?_ | refine blk_alloc ?_ _)); exact BK292.out) hb); have n1_ := Aside0.mk (below_step (by repeat (first | (with_reducible first | exact HB.out | apply below_alloc | apply pw_below_drewN | apply below_drew1 | refine below_set ?_ GE292.out) | exact HB.out)) hb); clear BK292; clear HB; have BK292 := n0_; have HB := n1_; clear n0_ n1_; (try clear hb); (try clear hb2); (try clear hk); (try clear hi)))
  go_ret2
  exact ⟨_, by first | rfl | (simp [errW_none, errW_some] <;> rfl) | (simp [*, errW_none, errW_some] <;> rfl), by first | exact Kd.R_nil _ _ _ _ _ | exact Kd.N_nil _ _ _ _ _ | exact Kd.V_nil _ _ _ _ _ | exact Kd.Q_nil _ _ _ _ _ | exact Kd.S_nil _ _ _ _ _, by repeat (first | (with_reducible first | exact HB.out | apply below_alloc | apply pw_below_drewN | apply below_drew1 | refine below_set ?_ GE292.out) | exact HB.out)⟩
end Go.Proofs.YthghcpeedmconaaDoor.X
end
section
namespace Go.Proofs.YthghcpeedmconaaDoor.X
open Go.RowKit Go.Proofs.YthghcpeedmconaaDoorW.PrintWords Go.Proofs.YthghcpeedmconaaDoorW.PrintLast Go.Proofs.YthghcpeedmconaaDoorW.PrintMore
attribute [local go_sem] max2_int min2_int max_two min_two max_three min_three max_four min_four
end Go.Proofs.YthghcpeedmconaaDoor.X
end
section
namespace Go.Proofs.YthghcpeedmconaaDoor.X
open Go.RowKit Go.Proofs.YthghcpeedmconaaDoorW.PrintWords Go.Proofs.YthghcpeedmconaaDoorW.PrintLast Go.Proofs.YthghcpeedmconaaDoorW.PrintMore
attribute [local go_sem] max2_int min2_int max_two min_two max_three min_three max_four min_four
end Go.Proofs.YthghcpeedmconaaDoor.X
end
section
namespace Go.Proofs.YthghcpeedmconaaDoor.X
open Go.RowKit Go.Proofs.YthghcpeedmconaaDoorW.PrintWords Go.Proofs.YthghcpeedmconaaDoorW.PrintLast Go.Proofs.YthghcpeedmconaaDoorW.PrintMore
attribute [local go_sem] max2_int min2_int max_two min_two max_three min_three max_four min_four
end Go.Proofs.YthghcpeedmconaaDoor.X
end
section
namespace Go.Proofs.YthghcpeedmconaaDoor.X
open Go.RowKit Go.Proofs.YthghcpeedmconaaDoorW.PrintWords Go.Proofs.YthghcpeedmconaaDoorW.PrintLast Go.Proofs.YthghcpeedmconaaDoorW.PrintMore
attribute [local go_sem] max2_int min2_int max_two min_two max_three min_three max_four min_four
end Go.Proofs.YthghcpeedmconaaDoor.X
end
section
namespace Go.Proofs.YthghcpeedmconaaDoor.X
open Go.RowKit Go.Proofs.YthghcpeedmconaaDoorW.PrintWords Go.Proofs.YthghcpeedmconaaDoorW.PrintLast Go.Proofs.YthghcpeedmconaaDoorW.PrintMore
attribute [local go_sem] max2_int min2_int max_two min_two max_three min_three max_four min_four
end Go.Proofs.YthghcpeedmconaaDoor.X
end
section
namespace Go.Proofs.YthghcpeedmconaaDoor.X
open Go.RowKit Go.Proofs.YthghcpeedmconaaDoorW.PrintWords Go.Proofs.YthghcpeedmconaaDoorW.PrintLast Go.Proofs.YthghcpeedmconaaDoorW.PrintMore
attribute [local go_sem] max2_int min2_int max_two min_two max_three min_three max_four min_four
end Go.Proofs.YthghcpeedmconaaDoor.X
end
section
namespace Go.Proofs.YthghcpeedmconaaDoor.X
set_option linter.unusedVariables false
set_option linter.unusedSimpArgs false
open Go.RowKit Go.Proofs.YthghcpeedmconaaDoorW.PrintWords Go.Proofs.YthghcpeedmconaaDoorW.PrintLast Go.Proofs.YthghcpeedmconaaDoorW.PrintMore
open Num
theorem mem_rd {r : List S42} {i : Nat} (hi : i < r.length) : rd_T42 r (i : Int) ∈ r := by
  unfold rd_T42
  rw [List.getD_eq_getElem?_getD, Int.toNat_natCast, List.getElem?_eq_getElem hi]
  exact List.getElem_mem hi
theorem rows_loop (r s : List S42) (hr : ∀ v ∈ r, I64 v.f1) (hs : ∀ v ∈ s, I64 v.f1) (m : Nat) (hm : m ≤ r.length) (hm2 : m ≤ s.length) (hm3 : m = r.length ∨ m = s.length) (hb : m ≤ 9223372036854775807) : ∀ (d i : Nat), i + d = m → ∀ (k : Nat), d + 6 ≤ k →
    value_Rows.l0 k r s (m : Int) (i : Int) = some (ords (r.drop i) (s.drop i))
  | 0, i, h, k, hk => by
    obtain ⟨k, rfl⟩ : ∃ m, k = m + 1 := ⟨k - 1, by omega⟩
    rw [value_Rows.l0, if_neg (by omega), cmpi_eq, Option.bind_some]
    congr 1
    by_cases e : r.length = s.length
    · rw [List.drop_eq_nil_of_le (show r.length ≤ i by omega), List.drop_eq_nil_of_le (show s.length ≤ i by omega), e, ci_self]; rfl
    · by_cases e2 : r.length < s.length
      · rw [List.drop_eq_nil_of_le (show r.length ≤ i by omega), getD_drop (show i < s.length by omega), ci_lt (by omega)]; rfl
      · rw [List.drop_eq_nil_of_le (show s.length ≤ i by omega), getD_drop (show i < r.length by omega), ci_gt (by omega)]; rfl
  | d + 1, i, h, k, hk => by
    obtain ⟨k, rfl⟩ : ∃ m, k = m + 5 := ⟨k - 5, by omega⟩
    have hi : i < r.length := by omega
    have hi2 : i < s.length := by omega
    rw [show k + 5 = (k + 4) + 1 by omega, value_Rows.l0, if_pos (by omega), if_pos (by omega), if_pos (by omega), if_pos (by omega), getD_drop hi, getD_drop hi2,
      value_Order.eq k _ _ _ _ _ _ (hr _ (mem_rd hi)) (hs _ (mem_rd hi2)), Option.bind_some, show wrap64 ((i : Int) + 1) = ((i + 1 : Nat) : Int) by unfold wrap64; omega,
      rows_loop r s hr hs m hm hm2 hm3 hb d (i + 1) (by omega) (k + 4) (by omega)]
    show _ = some (orI (ord (rd_T42 r i) (rd_T42 s i)) (ords (r.drop (i + 1)) (s.drop (i + 1))))
    unfold orI
    by_cases e : ord (rd_T42 r i) (rd_T42 s i) = 0
    · rw [if_pos e, if_pos e]
    · rw [if_neg e, if_neg e]
theorem value_Rows.eq (r s : List S42) (hr : ∀ v ∈ r, I64 v.f1) (hs : ∀ v ∈ s, I64 v.f1) (hl : r.length ≤ 9223372036854775807) (k : Nat) (hk : r.length + 6 ≤ k ∨ s.length + 6 ≤ k) : value_Rows.f k r s = some (ords r s) := by
  unfold value_Rows.f
  have e : mn (r.length : Int) (s.length : Int) = ((min r.length s.length : Nat) : Int) := by unfold mn; omega
  rw [e]
  have := rows_loop r s hr hs (min r.length s.length) (by omega) (by omega) (by omega) (by omega) (min r.length s.length) 0 (by omega) k (by omega)
  rw [List.drop_zero, List.drop_zero] at this
  exact this
def valOut (v : S42) : List Int × Int := if chk v.f0 v.f1 v.f2 = 0 then (code v, 0) else ([], chk v.f0 v.f1 v.f2)
theorem val_eq (v : S42) (hn : I64 v.f1) (k : Nat) (hk : 10 ≤ k) : rowcode_Value.f k v.f0 v.f1 v.f2 = some (valOut v) := by
  obtain ⟨k, rfl⟩ : ∃ m, k = m + 10 := ⟨k - 10, by omega⟩
  unfold rowcode_Value.f valOut
  rw [show k + 10 = (k + 9) + 1 by omega, value_Check.eq, Option.bind_some]
  by_cases hc : chk v.f0 v.f1 v.f2 = 0
  · rw [if_pos hc, if_pos hc, app_eq ⟨hc, hn⟩ k [] (by simp), Option.bind_some]; rfl
  · rw [if_neg hc, if_neg hc]
end Go.Proofs.YthghcpeedmconaaDoor.X
end
section
namespace Go.Proofs.YthghcpeedmconaaDoor.X
open Go.RowKit Go.Proofs.YthghcpeedmconaaDoorW.PrintWords Go.Proofs.YthghcpeedmconaaDoorW.PrintLast Go.Proofs.YthghcpeedmconaaDoorW.PrintMore
attribute [local go_sem] max2_int min2_int max_two min_two max_three min_three max_four min_four
set_option linter.unusedVariables false
set_option linter.unusedSimpArgs false
def locksteplaw02_own.f (l0 : List Int) : Option (List Int) := if 0 ≤ (wrap64 ((l0.length : Int) + 2)) then (if (wrap64 ((l0.length : Int) + 2) : Int).toNat ≤ 281474976710656 then ((some (([] : List Int) : List Int)).bind fun y447 => (if y447.length + l0.length < 140737488355328 then (some (y447 ++ l0)) else (none))) else (none)) else (none)
set_option maxHeartbeats 8000000 in
set_option maxRecDepth 100000 in
theorem locksteplaw02_own.calls (A0 : Option Addr) (c0 : Nat) (l0 : List Int) (r : List Int) (w : World) (hr0 : Kd.C (Kd.int .u8) w A0 l0.length l0) (hc0 : l0.length ≤ c0) (h : locksteplaw02_own.f l0 = some r) :
  Calls Tryd.prog 25 #[.slice A0 l0.length c0] w fun e w' => ∃ v0_ : Value, e = .returned (v0_) ∧ Kd.R (Kd.int .u8) 5 w' w.heap.size (fun _ => True) v0_ r ∧ Below w.heap.size w w' := by
 have HR0 := Aside0.mk hr0
 have HC0 := Aside0.mk hc0
 clear hr0 hc0
 have HB := Aside0.mk (Below.refl w.heap.size w)
 have H : (if 0 ≤ (wrap64 ((l0.length : Int) + 2)) then (if (wrap64 ((l0.length : Int) + 2) : Int).toNat ≤ 281474976710656 then ((some (([] : List Int) : List Int)).bind fun y447 => (if y447.length + l0.length < 140737488355328 then (some (y447 ++ l0)) else (none))) else (none)) else (none)) = some r := h
 clear h
 obtain ⟨ji2, hji2⟩ : ∃ j_ : Int, (wrap64 ((l0.length : Int) + 2)) = j_ := ⟨_, rfl⟩
 replace H : (if 0 ≤ (ji2) then (if (ji2 : Int).toNat ≤ 281474976710656 then ((some (([] : List Int) : List Int)).bind fun y447 => (if y447.length + l0.length < 140737488355328 then (some (y447 ++ l0)) else (none))) else (none)) else (none)) = some r := by first | (rw [hji2] at H; exact H) | (simp only [hji2] at H ⊢; exact H)
 have hji2w : (IntKind.i64.wrap ((l0.length : Int) + 2)) = ji2 := (i64_w _).trans hji2
 by_cases c3 : 0 ≤ (ji2)
 ·
  rw [if_pos c3] at H
  have c3b0 := eq_true c3
  have c3b1 : decide (0 ≤ (ji2)) = true := decide_eq_true c3
  clear c3
  by_cases c4 : (ji2 : Int).toNat ≤ 281474976710656
  ·
   rw [if_pos c4] at H
   have c4b0 := eq_true c4
   have c4b1 : decide ((ji2 : Int).toNat ≤ 281474976710656) = true := decide_eq_true c4
   clear c4
   obtain ⟨y447, hy447⟩ : ∃ y_ : List Int, y_ = (([] : List Int)) := ⟨_, rfl⟩
   replace H : (if y447.length + l0.length < 140737488355328 then (some (y447 ++ l0)) else (none)) = some r := by first | (rw [hy447]; with_reducible exact H) | (have H2_ := (Option.bind_some _ _).symm.trans H; rw [hy447]; with_reducible exact H2_) | (have H2_ := (Option.bind_some _ _).symm.trans H; with_reducible exact H2_) | with_reducible exact H | (rw [hy447]; exact H) | exact H
   have Ny447 := Aside0.mk hy447
   clear hy447
   by_cases c5 : y447.length + l0.length < 140737488355328
   ·
    rw [if_pos c5] at H
    have LMc5 := Aside0.mk c5
    clear c5
    obtain ⟨y450, hy450⟩ : ∃ y_ : List Int, y_ = (y447 ++ l0) := ⟨_, rfl⟩
    replace H : (some y450) = some r := by first | (rw [hy450]; with_reducible exact H) | (have H2_ := (Option.bind_some _ _).symm.trans H; rw [hy450]; with_reducible exact H2_) | (have H2_ := (Option.bind_some _ _).symm.trans H; with_reducible exact H2_) | with_reducible exact H | (rw [hy450]; exact H) | exact H
    have Ny450 := Aside0.mk hy450
    clear hy450
    obtain rfl := Option.some.inj H
    go_enter Tryd.func25, Tryd.ntmps25
    go_wp2_with (first | ((with_reducible refine gate_dst (N := 6) rfl ?_); refine Kd.R_make0 (Kd.int .u8) _ 5 rfl (N := 6) rfl 47 _ _ rfl ji2 rfl rfl Tryd.underlying47 (.int .u8 0) 1 info5 rfl (by decide) (by omega) 0 (ok := fun _ => True) (okp := fun _ => True) rfl (fun _ hk => hk) trivial (of_decide_eq_true (by first | (with_reducible assumption) | assumption)) (Nat.le_trans (Nat.mul_le_mul_right _ (of_decide_eq_true (by first | (with_reducible assumption) | assumption) : ji2.toNat ≤ 281474976710656)) (by omega)) (Below.refl _ _) (Nat.le_refl _) ?_; intro v448 w6 ho7 hb hg_ hnew_; clear hg_ hnew_; (first | rw [← Ny447.out] at ho7 | (simp only [Int.reduceToNat] at ho7; rw [← Ny447.out] at ho7)); have n0_ := Aside0.mk (Kd.R_lower ho7 (below_size (by repeat (first | (with_reducible first | exact HB.out | apply below_alloc | apply pw_below_drewN | apply below_drew1) | exact HB.out)))); have n1_ := Aside0.mk (below_step (by repeat (first | (with_reducible first | exact HB.out | apply below_alloc | apply pw_below_drewN | apply below_drew1) | exact HB.out)) hb); clear HB; have HO449 := n0_; have HB := n1_; clear n0_ n1_; clear hb ho7) | ((with_reducible refine gate_builtin (b := .append) (xs := #[.tmp 6, .tmp 7]) rfl ?_); at_builtin; refine Kd.R_append_rows (Kd.int .u8) (w0 := w) w.heap.size rfl (.tmp 6) (.tmp 7) 47 5 (.int .u8 0) 1 rfl Tryd.underlying47 info5 rfl (by decide) (by omega) v448 y447 l0 _ _ _ (fun _ => True) (fun _ => False) rfl rfl ?aO ?aR (fun _ _ h => h) (fun _ h => h.elim) ?aF ?aB ?aS ?aL ?_; (case aR => repeat (first | exact (Kd.C_below HR0.out HB.out) | (with_reducible refine Kd.C_alloc ?_ _) | (with_reducible refine Kd.C_drewN ?_ _) | (with_reducible refine Kd.C_drew ?_))); (case aB => exact (by repeat (first | (with_reducible first | exact HB.out | apply below_alloc | apply pw_below_drewN | apply below_drew1) | exact HB.out))); (case aF => exact (fun _ _ => trivial)); (case aO => exact (by (with_reducible repeat (first | apply Kd.R_alloc | apply Kd.R_drewN | apply Kd.R_drew)); exact HO449.out)); (case aS => exact (below_size (by repeat (first | (with_reducible first | exact HB.out | apply below_alloc | apply pw_below_drewN | apply below_drew1) | exact HB.out)))); (case aL => have := LMc5.out; omega); intro v451 w8 ho hb hg hat; rw [← Ny450.out] at ho; have n0_ := Aside0.mk (hb); have n1_ := Aside0.mk (ho); clear HB; clear HO449; have HB := n0_; have HO452 := n1_; clear n0_ n1_; clear ho hb hg hat))
    go_ret
    exact ⟨_, by first | rfl | (simp [errW_none, errW_some] <;> rfl) | (simp only [← hji2]; first | rfl | (simp [errW_none, errW_some] <;> rfl)) | (simp [*, errW_none, errW_some] <;> rfl), by (with_reducible repeat (first | apply Kd.R_alloc | apply Kd.R_drewN | apply Kd.R_drew)); exact HO452.out, by repeat (first | (with_reducible first | exact HB.out | apply below_alloc | apply pw_below_drewN | apply below_drew1) | exact HB.out)⟩
   ·
    rw [if_neg c5] at H
    exact absurd H (by simp)
  ·
   rw [if_neg c4] at H
   exact absurd H (by simp)
 ·
  rw [if_neg c3] at H
  exact absurd H (by simp)
end Go.Proofs.YthghcpeedmconaaDoor.X
end
section
namespace Go.Proofs.YthghcpeedmconaaDoor.X
open Go.RowKit Go.Proofs.YthghcpeedmconaaDoorW.PrintWords Go.Proofs.YthghcpeedmconaaDoorW.PrintLast Go.Proofs.YthghcpeedmconaaDoorW.PrintMore
attribute [local go_sem] max2_int min2_int max_two min_two max_three min_three max_four min_four
set_option linter.unusedVariables false
set_option linter.unusedSimpArgs false
def locksteplaw02_RowcodeValues.f (k : Nat) (a0_0 : Int) (a0_1 : Int) (a0_2 : ByteArray) (l1 : List Int) : Option (Bool) := (locksteplaw02_own.f l1).bind fun t591 => ((rowcode_Value.f k a0_0 a0_1 a0_2).bind fun bt594 => ((lockstepref02_Value.f k a0_0 a0_1 a0_2).bind fun bt598 => ((rowcode_Read.f k t591).bind fun bt602 => ((lockstepref02_Read.f k l1).bind fun bt608 => ((locksteplaw02_told.f k bt594.1 bt598.1).bind fun t614 => (if t614 = true then (if bt594.2 = bt598.2 then ((lockstepref02_Same.f bt602.1 bt602.2.1 bt602.2.2.1 bt608.1 bt608.2.1 bt608.2.2.1).bind fun t615 => (if t615 = true then (if bt602.2.2.2.1 = bt608.2.2.2.1 then (if bt602.2.2.2.2 = bt608.2.2.2.2 then ((rowcode_Hash.f k t591).bind fun t616 => ((lockstepref02_Hash.f k l1).bind fun t617 => (if t616 = t617 then (some ((strOfNums t591).toList == (strOfNums l1).toList)) else (some false)))) else (some false)) else (some false)) else (some false))) else (some false)) else (some false)))))))
set_option maxHeartbeats 8000000 in
set_option maxRecDepth 100000 in
theorem locksteplaw02_RowcodeValues.calls (k : Nat) (a0_0 : Int) (a0_1 : Int) (a0_2 : ByteArray) (A1 : Option Addr) (c1 : Nat) (l1 : List Int) (r : Bool) (w : World) (hT : Tabs w) (hr1 : Kd.C (Kd.int .u8) w A1 l1.length l1) (hc1 : l1.length ≤ c1) (h : locksteplaw02_RowcodeValues.f k a0_0 a0_1 a0_2 l1 = some r) (hr : r = true) :
  Calls Tryd.prog 6 #[.agg #[.int .i64 a0_0, .int .i64 a0_1, .string a0_2], .slice A1 l1.length c1] w fun e w' => e = .returned (.bool r) ∧ Below w.heap.size w w' := by
 have HR := Aside0.mk hr
 clear hr
 have hu42 := Tryd.underlying42
 have HT := Aside0.mk hT
 clear hT
 have HR1 := Aside0.mk hr1
 have HC1 := Aside0.mk hc1
 clear hr1 hc1
 have HB := Aside0.mk (Below.refl w.heap.size w)
 have H : ((locksteplaw02_own.f l1).bind fun t591 => ((rowcode_Value.f k a0_0 a0_1 a0_2).bind fun bt594 => ((lockstepref02_Value.f k a0_0 a0_1 a0_2).bind fun bt598 => ((rowcode_Read.f k t591).bind fun bt602 => ((lockstepref02_Read.f k l1).bind fun bt608 => ((locksteplaw02_told.f k bt594.1 bt598.1).bind fun t614 => (if t614 = true then (if bt594.2 = bt598.2 then ((lockstepref02_Same.f bt602.1 bt602.2.1 bt602.2.2.1 bt608.1 bt608.2.1 bt608.2.2.1).bind fun t615 => (if t615 = true then (if bt602.2.2.2.1 = bt608.2.2.2.1 then (if bt602.2.2.2.2 = bt608.2.2.2.2 then ((rowcode_Hash.f k t591).bind fun t616 => ((lockstepref02_Hash.f k l1).bind fun t617 => (if t616 = t617 then (some ((strOfNums t591).toList == (strOfNums l1).toList)) else (some false)))) else (some false)) else (some false)) else (some false))) else (some false)) else (some false)))))))) = some r := h
 clear h
 replace H := Option.bind_eq_some_iff.mp H
 obtain ⟨t591, A30, H⟩ := H
 replace H : ((rowcode_Value.f k a0_0 a0_1 a0_2).bind fun bt594 => ((lockstepref02_Value.f k a0_0 a0_1 a0_2).bind fun bt598 => ((rowcode_Read.f k t591).bind fun bt602 => ((lockstepref02_Read.f k l1).bind fun bt608 => ((locksteplaw02_told.f k bt594.1 bt598.1).bind fun t614 => (if t614 = true then (if bt594.2 = bt598.2 then ((lockstepref02_Same.f bt602.1 bt602.2.1 bt602.2.2.1 bt608.1 bt608.2.1 bt608.2.2.1).bind fun t615 => (if t615 = true then (if bt602.2.2.2.1 = bt608.2.2.2.1 then (if bt602.2.2.2.2 = bt608.2.2.2.2 then ((rowcode_Hash.f k t591).bind fun t616 => ((lockstepref02_Hash.f k l1).bind fun t617 => (if t616 = t617 then (some ((strOfNums t591).toList == (strOfNums l1).toList)) else (some false)))) else (some false)) else (some false)) else (some false))) else (some false)) else (some false))))))) = some r := H
 have A3 := Aside0.mk A30
 clear A30
 replace H := Option.bind_eq_some_iff.mp H
 obtain ⟨⟨t594, t597⟩, A40, H⟩ := H
 replace H : ((lockstepref02_Value.f k a0_0 a0_1 a0_2).bind fun bt598 => ((rowcode_Read.f k t591).bind fun bt602 => ((lockstepref02_Read.f k l1).bind fun bt608 => ((locksteplaw02_told.f k t594 bt598.1).bind fun t614 => (if t614 = true then (if t597 = bt598.2 then ((lockstepref02_Same.f bt602.1 bt602.2.1 bt602.2.2.1 bt608.1 bt608.2.1 bt608.2.2.1).bind fun t615 => (if t615 = true then (if bt602.2.2.2.1 = bt608.2.2.2.1 then (if bt602.2.2.2.2 = bt608.2.2.2.2 then ((rowcode_Hash.f k t591).bind fun t616 => ((lockstepref02_Hash.f k l1).bind fun t617 => (if t616 = t617 then (some ((strOfNums t591).toList == (strOfNums l1).toList)) else (some false)))) else (some false)) else (some false)) else (some false))) else (some false)) else (some false)))))) = some r := H
 have A4 := Aside0.mk A40
 clear A40
 replace H := Option.bind_eq_some_iff.mp H
 obtain ⟨⟨t598, t601⟩, A50, H⟩ := H
 replace H : ((rowcode_Read.f k t591).bind fun bt602 => ((lockstepref02_Read.f k l1).bind fun bt608 => ((locksteplaw02_told.f k t594 t598).bind fun t614 => (if t614 = true then (if t597 = t601 then ((lockstepref02_Same.f bt602.1 bt602.2.1 bt602.2.2.1 bt608.1 bt608.2.1 bt608.2.2.1).bind fun t615 => (if t615 = true then (if bt602.2.2.2.1 = bt608.2.2.2.1 then (if bt602.2.2.2.2 = bt608.2.2.2.2 then ((rowcode_Hash.f k t591).bind fun t616 => ((lockstepref02_Hash.f k l1).bind fun t617 => (if t616 = t617 then (some ((strOfNums t591).toList == (strOfNums l1).toList)) else (some false)))) else (some false)) else (some false)) else (some false))) else (some false)) else (some false))))) = some r := H
 have A5 := Aside0.mk A50
 clear A50
 replace H := Option.bind_eq_some_iff.mp H
 obtain ⟨⟨t602, t603, t604, t605, t606⟩, A60, H⟩ := H
 replace H : ((lockstepref02_Read.f k l1).bind fun bt608 => ((locksteplaw02_told.f k t594 t598).bind fun t614 => (if t614 = true then (if t597 = t601 then ((lockstepref02_Same.f t602 t603 t604 bt608.1 bt608.2.1 bt608.2.2.1).bind fun t615 => (if t615 = true then (if t605 = bt608.2.2.2.1 then (if t606 = bt608.2.2.2.2 then ((rowcode_Hash.f k t591).bind fun t616 => ((lockstepref02_Hash.f k l1).bind fun t617 => (if t616 = t617 then (some ((strOfNums t591).toList == (strOfNums l1).toList)) else (some false)))) else (some false)) else (some false)) else (some false))) else (some false)) else (some false)))) = some r := H
 have A6 := Aside0.mk A60
 clear A60
 replace H := Option.bind_eq_some_iff.mp H
 obtain ⟨⟨t608, t609, t610, t611, t612⟩, A70, H⟩ := H
 replace H : ((locksteplaw02_told.f k t594 t598).bind fun t614 => (if t614 = true then (if t597 = t601 then ((lockstepref02_Same.f t602 t603 t604 t608 t609 t610).bind fun t615 => (if t615 = true then (if t605 = t611 then (if t606 = t612 then ((rowcode_Hash.f k t591).bind fun t616 => ((lockstepref02_Hash.f k l1).bind fun t617 => (if t616 = t617 then (some ((strOfNums t591).toList == (strOfNums l1).toList)) else (some false)))) else (some false)) else (some false)) else (some false))) else (some false)) else (some false))) = some r := H
 have A7 := Aside0.mk A70
 clear A70
 replace H := Option.bind_eq_some_iff.mp H
 obtain ⟨t614, A80, H⟩ := H
 replace H : (if t614 = true then (if t597 = t601 then ((lockstepref02_Same.f t602 t603 t604 t608 t609 t610).bind fun t615 => (if t615 = true then (if t605 = t611 then (if t606 = t612 then ((rowcode_Hash.f k t591).bind fun t616 => ((lockstepref02_Hash.f k l1).bind fun t617 => (if t616 = t617 then (some ((strOfNums t591).toList == (strOfNums l1).toList)) else (some false)))) else (some false)) else (some false)) else (some false))) else (some false)) else (some false)) = some r := H
 have A8 := Aside0.mk A80
 clear A80
 by_cases c9 : t614 = true
 ·
  subst c9
  have H1 : (if t597 = t601 then ((lockstepref02_Same.f t602 t603 t604 t608 t609 t610).bind fun t615 => (if t615 = true then (if t605 = t611 then (if t606 = t612 then ((rowcode_Hash.f k t591).bind fun t616 => ((lockstepref02_Hash.f k l1).bind fun t617 => (if t616 = t617 then (some ((strOfNums t591).toList == (strOfNums l1).toList)) else (some false)))) else (some false)) else (some false)) else (some false))) else (some false)) = some r := by rw [if_pos rfl] at H; exact H
  clear H
  have H := H1
  clear H1
  by_cases c10 : t597 = t601
  ·
   rw [if_pos c10] at H
   have c10b0 : (t597 == t601) = true := beq_iff_eq.mpr c10
   have c10b1 : (t597 != t601) = false := bne_eq_false_iff_eq.mpr c10
   clear c10
   replace H := Option.bind_eq_some_iff.mp H
   obtain ⟨t615, A110, H⟩ := H
   replace H : (if t615 = true then (if t605 = t611 then (if t606 = t612 then ((rowcode_Hash.f k t591).bind fun t616 => ((lockstepref02_Hash.f k l1).bind fun t617 => (if t616 = t617 then (some ((strOfNums t591).toList == (strOfNums l1).toList)) else (some false)))) else (some false)) else (some false)) else (some false)) = some r := H
   have A11 := Aside0.mk A110
   clear A110
   by_cases c12 : t615 = true
   ·
    subst c12
    have H1 : (if t605 = t611 then (if t606 = t612 then ((rowcode_Hash.f k t591).bind fun t616 => ((lockstepref02_Hash.f k l1).bind fun t617 => (if t616 = t617 then (some ((strOfNums t591).toList == (strOfNums l1).toList)) else (some false)))) else (some false)) else (some false)) = some r := by rw [if_pos rfl] at H; exact H
    clear H
    have H := H1
    clear H1
    by_cases c13 : t605 = t611
    ·
     rw [if_pos c13] at H
     have c13b0 : (t605 == t611) = true := beq_iff_eq.mpr c13
     have c13b1 : (t605 != t611) = false := bne_eq_false_iff_eq.mpr c13
     clear c13
     by_cases c14 : t606 = t612
     ·
      rw [if_pos c14] at H
      have c14b0 : (t606 == t612) = true := beq_iff_eq.mpr c14
      have c14b1 : (t606 != t612) = false := bne_eq_false_iff_eq.mpr c14
      clear c14
      replace H := Option.bind_eq_some_iff.mp H
      obtain ⟨t616, A150, H⟩ := H
      replace H : ((lockstepref02_Hash.f k l1).bind fun t617 => (if t616 = t617 then (some ((strOfNums t591).toList == (strOfNums l1).toList)) else (some false))) = some r := H
      have A15 := Aside0.mk A150
      clear A150
      replace H := Option.bind_eq_some_iff.mp H
      obtain ⟨t617, A160, H⟩ := H
      replace H : (if t616 = t617 then (some ((strOfNums t591).toList == (strOfNums l1).toList)) else (some false)) = some r := H
      have A16 := Aside0.mk A160
      clear A160
      by_cases c17 : t616 = t617
      ·
       rw [if_pos c17] at H
       have c17b0 : (t616 == t617) = true := beq_iff_eq.mpr c17
       have c17b1 : (t616 != t617) = false := bne_eq_false_iff_eq.mpr c17
       clear c17
       obtain rfl := Option.some.inj H
       go_enter Tryd.func6, Tryd.ntmps6
       go_wp2_with (first | ((with_reducible refine gate_dst (N := 2) rfl ?_); refine box_event ?hg (N := 2) ?hd (cs := #[.int .i64 a0_0, .int .i64 a0_1, .string a0_2]) (t := 42) ?hr ?_; (case hd => rfl); (case hg => rfl); (case hr => first | (go_simp; done) | (go_simp; rfl)); intro gb590 hg w18 hbox hb; have n0_ := Aside0.mk (below_step (by repeat (first | (with_reducible first | exact HB.out | apply below_alloc | apply pw_below_drewN | apply below_drew1) | exact HB.out)) hb); have n1_ := Aside0.mk (hbox); have n2_ := Aside0.mk ((by rw [hg]; exact (below_size (by repeat (first | (with_reducible first | exact HB.out | apply below_alloc | apply pw_below_drewN | apply below_drew1) | exact HB.out))) : w.heap.size ≤ gb590)); have n3_ := Aside0.mk ((by rw [hg]; exact (below_size (by repeat (first | (with_reducible first | exact HB.out | apply below_alloc | apply pw_below_drewN | apply below_drew1) | exact HB.out))) : w.heap.size ≤ gb590)); clear HB; have HB := n0_; have BK590 := n1_; have GW590 := n2_; have GE590 := n3_; clear n0_ n1_ n2_ n3_; clear hb hbox hg) | ((with_reducible refine gate_callee (f := 25) rfl ?_); refine goesL_ (some 17) rfl rfl Tryd.func25 (by kernel_rfl) rfl #[.slice A1 l1.length c1] rfl (by (try simp only [List.map_toArray, List.map_cons, List.map_nil]); first | done | rfl | (simp only [List.length_drop, List.length_take]; rfl)) ?_; (with_reducible refine (locksteplaw02_own.calls _ _ l1 t591 _ ?side1 ?side2 A3.out).mono ?_); (case side1 => repeat (first | exact (Kd.C_below HR1.out HB.out) | (with_reducible refine Kd.C_alloc ?_ _) | (with_reducible refine Kd.C_drewN ?_ _) | (with_reducible refine Kd.C_drew ?_))); (case side2 => exact HC1.out); rintro e w19 ⟨v592, rfl, ho0, hb⟩; refine ⟨_, rfl, ?_⟩; have n0_ := Aside0.mk (Kd.R_lower ho0 (below_size (by repeat (first | (with_reducible first | exact HB.out | apply below_alloc | apply pw_below_drewN | apply below_drew1 | refine below_set ?_ GE590.out) | exact HB.out)))); have n1_ := Aside0.mk (blk_below (g := gb590) (o := .cells #[.int .i64 a0_0, .int .i64 a0_1, .string a0_2] 42 (0, 0)) (by (with_reducible repeat (first | refine blk_drewN ?_ _ | refine blk_drew ?_ | refine blk_alloc ?_ _)); exact BK590.out) hb); have n2_ := Aside0.mk (below_step (by repeat (first | (with_reducible first | exact HB.out | apply below_alloc | apply pw_below_drewN | apply below_drew1 | refine below_set ?_ GE590.out) | exact HB.out)) hb); clear BK590; clear HB; have HO593 := n0_; have BK590 := n1_; have HB := n2_; clear n0_ n1_ n2_; (try clear hb); (try clear hb2); (try clear hk); (try clear hi); (try clear ho0); have hcz20_0 : w19.cell? ⟨gb590, 0, none⟩ = some (.int .i64 a0_0) := (blk_cell BK590.out 0).trans rfl; have hcz20_1 : w19.cell? ⟨gb590, 1, none⟩ = some (.int .i64 a0_1) := (blk_cell BK590.out 1).trans rfl; have hcz20_2 : w19.cell? ⟨gb590, 2, none⟩ = some (.string a0_2) := (blk_cell BK590.out 2).trans rfl; have hfz20_0 := blk_frozen BK590.out 0; have hfz20_1 := blk_frozen BK590.out 1; have hfz20_2 := blk_frozen BK590.out 2) | ((with_reducible refine gate_callee (f := 18) rfl ?_); refine goesL_ (some 20) rfl rfl Tryd.func18 (by kernel_rfl) rfl #[.agg #[.int .i64 a0_0, .int .i64 a0_1, .string a0_2]] rfl (by (try simp only [List.map_toArray, List.map_cons, List.map_nil]); first | done | rfl | (simp only [List.length_drop, List.length_take]; rfl)) ?_; (with_reducible refine (rowcode_Value.calls k a0_0 a0_1 a0_2 t594 t597 _ ?side1 A4.out).mono ?_); (case side1 => exact Tabs.below HT.out (by repeat (first | (with_reducible first | exact HB.out | apply below_alloc | apply pw_below_drewN | apply below_drew1 | refine below_set ?_ GE590.out) | exact HB.out))); rintro e w21 ⟨v595, rfl, ho0, hb⟩; refine ⟨_, rfl, ?_⟩; have n0_ := Aside0.mk (Kd.R_elder' (by (with_reducible repeat (first | apply Kd.R_alloc | apply Kd.R_drewN | apply Kd.R_drew)); exact HO593.out) (Kd.R_base ho0) hb); have n1_ := Aside0.mk (Kd.R_lower (Kd.R_new' ho0 (Kd.R_lt (by (with_reducible repeat (first | apply Kd.R_alloc | apply Kd.R_drewN | apply Kd.R_drew)); exact HO593.out))) (below_size (by repeat (first | (with_reducible first | exact HB.out | apply below_alloc | apply pw_below_drewN | apply below_drew1 | refine below_set ?_ GE590.out) | exact HB.out)))); have n2_ := Aside0.mk (blk_below (g := gb590) (o := .cells #[.int .i64 a0_0, .int .i64 a0_1, .string a0_2] 42 (0, 0)) (by (with_reducible repeat (first | refine blk_drewN ?_ _ | refine blk_drew ?_ | refine blk_alloc ?_ _)); exact BK590.out) hb); have n3_ := Aside0.mk (below_step (by repeat (first | (with_reducible first | exact HB.out | apply below_alloc | apply pw_below_drewN | apply below_drew1 | refine below_set ?_ GE590.out) | exact HB.out)) hb); clear HO593; clear BK590; clear HB; have HO593 := n0_; have HO596 := n1_; have BK590 := n2_; have HB := n3_; clear n0_ n1_ n2_ n3_; (try clear hb); (try clear hb2); (try clear hk); (try clear hi); (try clear ho0); have hcz22_0 : w21.cell? ⟨gb590, 0, none⟩ = some (.int .i64 a0_0) := (blk_cell BK590.out 0).trans rfl; have hcz22_1 : w21.cell? ⟨gb590, 1, none⟩ = some (.int .i64 a0_1) := (blk_cell BK590.out 1).trans rfl; have hcz22_2 : w21.cell? ⟨gb590, 2, none⟩ = some (.string a0_2) := (blk_cell BK590.out 2).trans rfl; have hfz22_0 := blk_frozen BK590.out 0; have hfz22_1 := blk_frozen BK590.out 1; have hfz22_2 := blk_frozen BK590.out 2) | ((with_reducible refine gate_callee (f := 26) rfl ?_); refine goesL_ (some 25) rfl rfl Tryd.func26 (by kernel_rfl) rfl #[.agg #[.int .i64 a0_0, .int .i64 a0_1, .string a0_2]] rfl (by (try simp only [List.map_toArray, List.map_cons, List.map_nil]); first | done | rfl | (simp only [List.length_drop, List.length_take]; rfl)) ?_; (with_reducible refine (lockstepref02_Value.calls k a0_0 a0_1 a0_2 t598 t601 _ A5.out).mono ?_); rintro e w23 ⟨v599, rfl, ho0, hb⟩; refine ⟨_, rfl, ?_⟩; have n0_ := Aside0.mk (Kd.R_elder' (by (with_reducible repeat (first | apply Kd.R_alloc | apply Kd.R_drewN | apply Kd.R_drew)); exact HO593.out) (Kd.R_base ho0) hb); have n1_ := Aside0.mk (Kd.R_elder' (by (with_reducible repeat (first | apply Kd.R_alloc | apply Kd.R_drewN | apply Kd.R_drew)); exact HO596.out) (Kd.R_base ho0) hb); have n2_ := Aside0.mk (Kd.R_lower (Kd.R_new' (Kd.R_new' ho0 (Kd.R_lt (by (with_reducible repeat (first | apply Kd.R_alloc | apply Kd.R_drewN | apply Kd.R_drew)); exact HO593.out))) (Kd.R_lt (by (with_reducible repeat (first | apply Kd.R_alloc | apply Kd.R_drewN | apply Kd.R_drew)); exact HO596.out))) (below_size (by repeat (first | (with_reducible first | exact HB.out | apply below_alloc | apply pw_below_drewN | apply below_drew1 | refine below_set ?_ GE590.out) | exact HB.out)))); have n3_ := Aside0.mk (blk_below (g := gb590) (o := .cells #[.int .i64 a0_0, .int .i64 a0_1, .string a0_2] 42 (0, 0)) (by (with_reducible repeat (first | refine blk_drewN ?_ _ | refine blk_drew ?_ | refine blk_alloc ?_ _)); exact BK590.out) hb); have n4_ := Aside0.mk (below_step (by repeat (first | (with_reducible first | exact HB.out | apply below_alloc | apply pw_below_drewN | apply below_drew1 | refine below_set ?_ GE590.out) | exact HB.out)) hb); clear HO593; clear HO596; clear BK590; clear HB; have HO593 := n0_; have HO596 := n1_; have HO600 := n2_; have BK590 := n3_; have HB := n4_; clear n0_ n1_ n2_ n3_ n4_; (try clear hb); (try clear hb2); (try clear hk); (try clear hi); (try clear ho0); obtain ⟨Ao24, co24, eo24⟩ := Kd.R_slice HO593.out; subst eo24) | ((with_reducible refine gate_callee (f := 27) rfl ?_); refine goesL_ (some 30) rfl rfl Tryd.func27 (by kernel_rfl) rfl #[.slice Ao24 t591.length co24] rfl (by (try simp only [List.map_toArray, List.map_cons, List.map_nil]); first | done | rfl | (simp only [List.length_drop, List.length_take]; rfl)) ?_; (with_reducible refine (rowcode_Read.calls k _ _ t591 t602 t603 t604 t605 t606 _ ?side1 ?side2 ?side3 A6.out).mono ?_); (case side1 => exact Tabs.below HT.out (by repeat (first | (with_reducible first | exact HB.out | apply below_alloc | apply pw_below_drewN | apply below_drew1 | refine below_set ?_ GE590.out) | exact HB.out))); (case side2 => repeat (first | exact (Kd.R_reads' HO593.out).2.2 | (with_reducible refine Kd.C_alloc ?_ _) | (with_reducible refine Kd.C_drewN ?_ _) | (with_reducible refine Kd.C_drew ?_))); (case side3 => exact (Kd.R_reads' HO593.out).2.1); rintro e w25 ⟨rfl, hb⟩; refine ⟨_, rfl, ?_⟩; have n0_ := Aside0.mk (Kd.R_below (by (with_reducible repeat (first | apply Kd.R_alloc | apply Kd.R_drewN | apply Kd.R_drew)); exact HO593.out) hb); have n1_ := Aside0.mk (Kd.R_below (by (with_reducible repeat (first | apply Kd.R_alloc | apply Kd.R_drewN | apply Kd.R_drew)); exact HO596.out) hb); have n2_ := Aside0.mk (Kd.R_below (by (with_reducible repeat (first | apply Kd.R_alloc | apply Kd.R_drewN | apply Kd.R_drew)); exact HO600.out) hb); have n3_ := Aside0.mk (blk_below (g := gb590) (o := .cells #[.int .i64 a0_0, .int .i64 a0_1, .string a0_2] 42 (0, 0)) (by (with_reducible repeat (first | refine blk_drewN ?_ _ | refine blk_drew ?_ | refine blk_alloc ?_ _)); exact BK590.out) hb); have n4_ := Aside0.mk (below_step (by repeat (first | (with_reducible first | exact HB.out | apply below_alloc | apply pw_below_drewN | apply below_drew1 | refine below_set ?_ GE590.out) | exact HB.out)) hb); clear HO593; clear HO596; clear HO600; clear BK590; clear HB; have HO593 := n0_; have HO596 := n1_; have HO600 := n2_; have BK590 := n3_; have HB := n4_; clear n0_ n1_ n2_ n3_ n4_; (try clear hb); (try clear hb2); (try clear hk); (try clear hi)) | ((with_reducible refine gate_dst (N := 10) rfl ?_); refine box_event ?hg (N := 10) ?hd (cs := #[.int .i64 0, .int .i64 0, .string (⟨#[]⟩ : ByteArray)]) (t := 42) ?hr ?_; (case hd => rfl); (case hg => rfl); (case hr => first | (go_simp; done) | (go_simp; rfl)); intro gb607 hg w26 hbox hb; have n0_ := Aside0.mk (Kd.R_below (by (with_reducible repeat (first | apply Kd.R_alloc | apply Kd.R_drewN | apply Kd.R_drew)); exact HO593.out) hb); have n1_ := Aside0.mk (Kd.R_below (by (with_reducible repeat (first | apply Kd.R_alloc | apply Kd.R_drewN | apply Kd.R_drew)); exact HO596.out) hb); have n2_ := Aside0.mk (Kd.R_below (by (with_reducible repeat (first | apply Kd.R_alloc | apply Kd.R_drewN | apply Kd.R_drew)); exact HO600.out) hb); have n3_ := Aside0.mk (blk_below (g := gb590) (o := .cells #[.int .i64 a0_0, .int .i64 a0_1, .string a0_2] 42 (0, 0)) (by (with_reducible repeat (first | refine blk_drewN ?_ _ | refine blk_drew ?_ | refine blk_alloc ?_ _)); exact BK590.out) hb); have n4_ := Aside0.mk (below_step (by repeat (first | (with_reducible first | exact HB.out | apply below_alloc | apply pw_below_drewN | apply below_drew1 | refine below_set ?_ GE590.out) | exact HB.out)) hb); have n5_ := Aside0.mk (hbox); have n6_ := Aside0.mk ((by rw [hg]; exact (below_size (by repeat (first | (with_reducible first | exact HB.out | apply below_alloc | apply pw_below_drewN | apply below_drew1 | refine below_set ?_ GE590.out) | exact HB.out))) : w.heap.size ≤ gb607)); have n7_ := Aside0.mk ((by rw [hg]; exact (below_size (by repeat (first | (with_reducible first | exact HB.out | apply below_alloc | apply pw_below_drewN | apply below_drew1 | refine below_set ?_ GE590.out) | exact HB.out))) : w.heap.size ≤ gb607)); have n8_ := Aside0.mk ((by rw [hg]; exact Nat.ne_of_lt (blk_lt (g := gb590) (o := .cells #[.int .i64 a0_0, .int .i64 a0_1, .string a0_2] 42 (0, 0)) (by (with_reducible repeat (first | refine blk_drewN ?_ _ | refine blk_drew ?_ | refine blk_alloc ?_ _)); exact BK590.out)) : gb590 ≠ gb607)); have n9_ := Aside0.mk ((by rw [hg]; exact Nat.ne_of_gt (blk_lt (g := gb590) (o := .cells #[.int .i64 a0_0, .int .i64 a0_1, .string a0_2] 42 (0, 0)) (by (with_reducible repeat (first | refine blk_drewN ?_ _ | refine blk_drew ?_ | refine blk_alloc ?_ _)); exact BK590.out)) : gb607 ≠ gb590)); clear HO593; clear HO596; clear HO600; clear BK590; clear HB; have HO593 := n0_; have HO596 := n1_; have HO600 := n2_; have BK590 := n3_; have HB := n4_; have BK607 := n5_; have GW607 := n6_; have GE607 := n7_; have NB590_607 := n8_; have NB607_590 := n9_; clear n0_ n1_ n2_ n3_ n4_ n5_ n6_ n7_ n8_ n9_; clear hb hbox hg; have hnb27 := eq_false NB607_590.out; have hnc27 := eq_false NB590_607.out; have hcz28_0 : w26.cell? ⟨gb607, 0, none⟩ = some (.int .i64 0) := (blk_cell BK607.out 0).trans rfl; have hcz28_1 : w26.cell? ⟨gb607, 1, none⟩ = some (.int .i64 0) := (blk_cell BK607.out 1).trans rfl; have hcz28_2 : w26.cell? ⟨gb607, 2, none⟩ = some (.string (⟨#[]⟩ : ByteArray)) := (blk_cell BK607.out 2).trans rfl; have hfz28_0 := blk_frozen BK607.out 0; have hfz28_1 := blk_frozen BK607.out 1; have hfz28_2 := blk_frozen BK607.out 2) | ((with_reducible refine gate_callee (f := 28) rfl ?_); refine goesL_ (some 36) rfl rfl Tryd.func28 (by kernel_rfl) rfl #[.slice A1 l1.length c1] rfl (by (try simp only [List.map_toArray, List.map_cons, List.map_nil]); first | done | rfl | (simp only [List.length_drop, List.length_take]; rfl)) ?_; (with_reducible refine (lockstepref02_Read.calls k _ _ l1 t608 t609 t610 t611 t612 _ ?side1 ?side2 A7.out).mono ?_); (case side1 => exact Kd.C_below HR1.out (by repeat (first | (with_reducible first | exact HB.out | apply below_alloc | apply pw_below_drewN | apply below_drew1 | refine below_set ?_ GE590.out | refine below_set ?_ GE607.out) | exact HB.out))); (case side2 => exact HC1.out); rintro e w29 ⟨rfl, hb⟩; refine ⟨_, rfl, ?_⟩; have n0_ := Aside0.mk (Kd.R_below (by (with_reducible repeat (first | apply Kd.R_alloc | apply Kd.R_drewN | apply Kd.R_drew)); exact (Kd.R_mono (Kd.R_far (p := ⟨gb607, 2, none⟩) (Kd.R_far (p := ⟨gb607, 1, none⟩) (Kd.R_far (p := ⟨gb607, 0, none⟩) (Kd.R_types HO593.out BK607.out (by decide)) (fun _ hk => hk.2) (.int .i64 t602)) (fun _ hk => hk.2) (.int .i64 t603)) (fun _ hk => hk.2) (.string t604)) (fun _ h_ => h_.1))) hb); have n1_ := Aside0.mk (Kd.R_below (by (with_reducible repeat (first | apply Kd.R_alloc | apply Kd.R_drewN | apply Kd.R_drew)); exact (Kd.R_mono (Kd.R_far (p := ⟨gb607, 2, none⟩) (Kd.R_far (p := ⟨gb607, 1, none⟩) (Kd.R_far (p := ⟨gb607, 0, none⟩) (Kd.R_types HO596.out BK607.out (by decide)) (fun _ hk => hk.2) (.int .i64 t602)) (fun _ hk => hk.2) (.int .i64 t603)) (fun _ hk => hk.2) (.string t604)) (fun _ h_ => h_.1))) hb); have n2_ := Aside0.mk (Kd.R_below (by (with_reducible repeat (first | apply Kd.R_alloc | apply Kd.R_drewN | apply Kd.R_drew)); exact (Kd.R_mono (Kd.R_far (p := ⟨gb607, 2, none⟩) (Kd.R_far (p := ⟨gb607, 1, none⟩) (Kd.R_far (p := ⟨gb607, 0, none⟩) (Kd.R_types HO600.out BK607.out (by decide)) (fun _ hk => hk.2) (.int .i64 t602)) (fun _ hk => hk.2) (.int .i64 t603)) (fun _ hk => hk.2) (.string t604)) (fun _ h_ => h_.1))) hb); have n3_ := Aside0.mk (blk_below (g := gb590) (o := .cells #[.int .i64 a0_0, .int .i64 a0_1, .string a0_2] 42 (0, 0)) (by (with_reducible repeat (first | refine blk_drewN ?_ _ | refine blk_drew ?_ | refine blk_alloc ?_ _)); refine blk_far ?_ NB590_607.out _; (with_reducible repeat (first | refine blk_drewN ?_ _ | refine blk_drew ?_ | refine blk_alloc ?_ _)); refine blk_far ?_ NB590_607.out _; (with_reducible repeat (first | refine blk_drewN ?_ _ | refine blk_drew ?_ | refine blk_alloc ?_ _)); refine blk_far ?_ NB590_607.out _; (with_reducible repeat (first | refine blk_drewN ?_ _ | refine blk_drew ?_ | refine blk_alloc ?_ _)); exact BK590.out) hb); have n4_ := Aside0.mk (blk_below (g := gb607) (o := .cells #[.int .i64 t602, .int .i64 t603, .string t604] 42 (0, 0)) (by (with_reducible repeat (first | refine blk_drewN ?_ _ | refine blk_drew ?_ | refine blk_alloc ?_ _)); refine blk_put (cs := #[.int .i64 t602, .int .i64 t603, .string (⟨#[]⟩ : ByteArray)]) ?_ 2 _ rfl; (with_reducible repeat (first | refine blk_drewN ?_ _ | refine blk_drew ?_ | refine blk_alloc ?_ _)); refine blk_put (cs := #[.int .i64 t602, .int .i64 0, .string (⟨#[]⟩ : ByteArray)]) ?_ 1 _ rfl; (with_reducible repeat (first | refine blk_drewN ?_ _ | refine blk_drew ?_ | refine blk_alloc ?_ _)); refine blk_put (cs := #[.int .i64 0, .int .i64 0, .string (⟨#[]⟩ : ByteArray)]) ?_ 0 _ rfl; (with_reducible repeat (first | refine blk_drewN ?_ _ | refine blk_drew ?_ | refine blk_alloc ?_ _)); exact BK607.out) hb); have n5_ := Aside0.mk (below_step (by repeat (first | (with_reducible first | exact HB.out | apply below_alloc | apply pw_below_drewN | apply below_drew1 | refine below_set ?_ GE590.out | refine below_set ?_ GE607.out) | exact HB.out)) hb); clear HO593; clear HO596; clear HO600; clear BK590; clear BK607; clear HB; have HO593 := n0_; have HO596 := n1_; have HO600 := n2_; have BK590 := n3_; have BK607 := n4_; have HB := n5_; clear n0_ n1_ n2_ n3_ n4_ n5_; (try clear hb); (try clear hb2); (try clear hk); (try clear hi)) | ((with_reducible refine gate_dst (N := 13) rfl ?_); refine box_event ?hg (N := 13) ?hd (cs := #[.int .i64 0, .int .i64 0, .string (⟨#[]⟩ : ByteArray)]) (t := 42) ?hr ?_; (case hd => rfl); (case hg => rfl); (case hr => first | (go_simp; done) | (go_simp; rfl)); intro gb613 hg w30 hbox hb; have n0_ := Aside0.mk (Kd.R_below (by (with_reducible repeat (first | apply Kd.R_alloc | apply Kd.R_drewN | apply Kd.R_drew)); exact HO593.out) hb); have n1_ := Aside0.mk (Kd.R_below (by (with_reducible repeat (first | apply Kd.R_alloc | apply Kd.R_drewN | apply Kd.R_drew)); exact HO596.out) hb); have n2_ := Aside0.mk (Kd.R_below (by (with_reducible repeat (first | apply Kd.R_alloc | apply Kd.R_drewN | apply Kd.R_drew)); exact HO600.out) hb); have n3_ := Aside0.mk (blk_below (g := gb590) (o := .cells #[.int .i64 a0_0, .int .i64 a0_1, .string a0_2] 42 (0, 0)) (by (with_reducible repeat (first | refine blk_drewN ?_ _ | refine blk_drew ?_ | refine blk_alloc ?_ _)); exact BK590.out) hb); have n4_ := Aside0.mk (blk_below (g := gb607) (o := .cells #[.int .i64 t602, .int .i64 t603, .string t604] 42 (0, 0)) (by (with_reducible repeat (first | refine blk_drewN ?_ _ | refine blk_drew ?_ | refine blk_alloc ?_ _)); exact BK607.out) hb); have n5_ := Aside0.mk (below_step (by repeat (first | (with_reducible first | exact HB.out | apply below_alloc | apply pw_below_drewN | apply below_drew1 | refine below_set ?_ GE590.out | refine below_set ?_ GE607.out) | exact HB.out)) hb); have n6_ := Aside0.mk (hbox); have n7_ := Aside0.mk ((by rw [hg]; exact (below_size (by repeat (first | (with_reducible first | exact HB.out | apply below_alloc | apply pw_below_drewN | apply below_drew1 | refine below_set ?_ GE590.out | refine below_set ?_ GE607.out) | exact HB.out))) : w.heap.size ≤ gb613)); have n8_ := Aside0.mk ((by rw [hg]; exact (below_size (by repeat (first | (with_reducible first | exact HB.out | apply below_alloc | apply pw_below_drewN | apply below_drew1 | refine below_set ?_ GE590.out | refine below_set ?_ GE607.out) | exact HB.out))) : w.heap.size ≤ gb613)); have n9_ := Aside0.mk ((by rw [hg]; exact Nat.ne_of_lt (blk_lt (g := gb590) (o := .cells #[.int .i64 a0_0, .int .i64 a0_1, .string a0_2] 42 (0, 0)) (by (with_reducible repeat (first | refine blk_drewN ?_ _ | refine blk_drew ?_ | refine blk_alloc ?_ _)); exact BK590.out)) : gb590 ≠ gb613)); have n10_ := Aside0.mk ((by rw [hg]; exact Nat.ne_of_gt (blk_lt (g := gb590) (o := .cells #[.int .i64 a0_0, .int .i64 a0_1, .string a0_2] 42 (0, 0)) (by (with_reducible repeat (first | refine blk_drewN ?_ _ | refine blk_drew ?_ | refine blk_alloc ?_ _)); exact BK590.out)) : gb613 ≠ gb590)); have n11_ := Aside0.mk ((by rw [hg]; exact Nat.ne_of_lt (blk_lt (g := gb607) (o := .cells #[.int .i64 t602, .int .i64 t603, .string t604] 42 (0, 0)) (by (with_reducible repeat (first | refine blk_drewN ?_ _ | refine blk_drew ?_ | refine blk_alloc ?_ _)); exact BK607.out)) : gb607 ≠ gb613)); have n12_ := Aside0.mk ((by rw [hg]; exact Nat.ne_of_gt (blk_lt (g := gb607) (o := .cells #[.int .i64 t602, .int .i64 t603, .string t604] 42 (0, 0)) (by (with_reducible repeat (first | refine blk_drewN ?_ _ | refine blk_drew ?_ | refine blk_alloc ?_ _)); exact BK607.out)) : gb613 ≠ gb607)); clear HO593; clear HO596; clear HO600; clear BK590; clear BK607; clear HB; have HO593 := n0_; have HO596 := n1_; have HO600 := n2_; have BK590 := n3_; have BK607 := n4_; have HB := n5_; have BK613 := n6_; have GW613 := n7_; have GE613 := n8_; have NB590_613 := n9_; have NB613_590 := n10_; have NB607_613 := n11_; have NB613_607 := n12_; clear n0_ n1_ n2_ n3_ n4_ n5_ n6_ n7_ n8_ n9_ n10_ n11_ n12_; clear hb hbox hg; have hnb31 := eq_false NB613_590.out; have hnc31 := eq_false NB590_613.out; have hnb32 := eq_false NB613_607.out; have hnc32 := eq_false NB607_613.out; have hcz33_0 : w30.cell? ⟨gb613, 0, none⟩ = some (.int .i64 0) := (blk_cell BK613.out 0).trans rfl; have hcz33_1 : w30.cell? ⟨gb613, 1, none⟩ = some (.int .i64 0) := (blk_cell BK613.out 1).trans rfl; have hcz33_2 : w30.cell? ⟨gb613, 2, none⟩ = some (.string (⟨#[]⟩ : ByteArray)) := (blk_cell BK613.out 2).trans rfl; have hfz33_0 := blk_frozen BK613.out 0; have hfz33_1 := blk_frozen BK613.out 1; have hfz33_2 := blk_frozen BK613.out 2) | ((with_reducible refine gate_store (t := 42) (p := 13) rfl ?_); refine store_event (t := 42) (p := 13) (v := ?vo_w34) (w1 := (((w30.setCell ⟨gb613, 0, none⟩ (.int .i64 t608)).setCell ⟨gb613, 1, none⟩ (.int .i64 t609)).setCell ⟨gb613, 2, none⟩ (.string t610))) ?hg ?ho ?hn ?hr ?_; (case ho => rfl); (case hg => rfl); (case hn => rfl); (case hr => first | (go_simp; done) | (go_simp; rfl)); intro w34 hw; have n0_ : Aside0 (Kd.R (Kd.int .u8) 5 w34 w.heap.size (fun k_ => some k_ ≠ (v595 : Value).ownBlock ∧ some k_ ≠ (v599 : Value).ownBlock) (.slice Ao24 t591.length co24) t591) := ⟨(by rw [hw]; exact (by (with_reducible repeat (first | apply Kd.R_alloc | apply Kd.R_drewN | apply Kd.R_drew)); exact Kd.R_mono (Kd.R_far (p := ⟨gb613, 2, none⟩) (Kd.R_far (p := ⟨gb613, 1, none⟩) (Kd.R_far (p := ⟨gb613, 0, none⟩) (Kd.R_types HO593.out BK613.out (by decide)) (fun _ hk => hk.2) (.int .i64 t608)) (fun _ hk => hk.2) (.int .i64 t609)) (fun _ hk => hk.2) (.string t610)) (fun _ hk => ⟨hk.1.1.2, hk.1.2⟩)))⟩; have n1_ : Aside0 (Kd.R (Kd.int .u8) 5 w34 w.heap.size (fun k_ => some k_ ≠ (.slice Ao24 t591.length co24 : Value).ownBlock ∧ some k_ ≠ (v599 : Value).ownBlock) v595 t594) := ⟨(by rw [hw]; exact (by (with_reducible repeat (first | apply Kd.R_alloc | apply Kd.R_drewN | apply Kd.R_drew)); exact Kd.R_mono (Kd.R_far (p := ⟨gb613, 2, none⟩) (Kd.R_far (p := ⟨gb613, 1, none⟩) (Kd.R_far (p := ⟨gb613, 0, none⟩) (Kd.R_types HO596.out BK613.out (by decide)) (fun _ hk => hk.2) (.int .i64 t608)) (fun _ hk => hk.2) (.int .i64 t609)) (fun _ hk => hk.2) (.string t610)) (fun _ hk => ⟨hk.1.1.2, hk.1.2⟩)))⟩; have n2_ : Aside0 (Kd.R (Kd.int .u8) 5 w34 w.heap.size (fun k_ => some k_ ≠ (.slice Ao24 t591.length co24 : Value).ownBlock ∧ some k_ ≠ (v595 : Value).ownBlock) v599 t598) := ⟨(by rw [hw]; exact (by (with_reducible repeat (first | apply Kd.R_alloc | apply Kd.R_drewN | apply Kd.R_drew)); exact Kd.R_mono (Kd.R_far (p := ⟨gb613, 2, none⟩) (Kd.R_far (p := ⟨gb613, 1, none⟩) (Kd.R_far (p := ⟨gb613, 0, none⟩) (Kd.R_types HO600.out BK613.out (by decide)) (fun _ hk => hk.2) (.int .i64 t608)) (fun _ hk => hk.2) (.int .i64 t609)) (fun _ hk => hk.2) (.string t610)) (fun _ hk => ⟨hk.1.1.2, hk.1.2⟩)))⟩; have n3_ : Aside0 (w34.heap[gb590]? = some (.cells #[.int .i64 a0_0, .int .i64 a0_1, .string a0_2] 42 (0, 0))) := ⟨(by rw [hw]; exact (by (with_reducible repeat (first | refine blk_drewN ?_ _ | refine blk_drew ?_ | refine blk_alloc ?_ _)); refine blk_far ?_ NB590_613.out _; (with_reducible repeat (first | refine blk_drewN ?_ _ | refine blk_drew ?_ | refine blk_alloc ?_ _)); refine blk_far ?_ NB590_613.out _; (with_reducible repeat (first | refine blk_drewN ?_ _ | refine blk_drew ?_ | refine blk_alloc ?_ _)); refine blk_far ?_ NB590_613.out _; (with_reducible repeat (first | refine blk_drewN ?_ _ | refine blk_drew ?_ | refine blk_alloc ?_ _)); exact BK590.out))⟩; have n4_ : Aside0 (w34.heap[gb607]? = some (.cells #[.int .i64 t602, .int .i64 t603, .string t604] 42 (0, 0))) := ⟨(by rw [hw]; exact (by (with_reducible repeat (first | refine blk_drewN ?_ _ | refine blk_drew ?_ | refine blk_alloc ?_ _)); refine blk_far ?_ NB607_613.out _; (with_reducible repeat (first | refine blk_drewN ?_ _ | refine blk_drew ?_ | refine blk_alloc ?_ _)); refine blk_far ?_ NB607_613.out _; (with_reducible repeat (first | refine blk_drewN ?_ _ | refine blk_drew ?_ | refine blk_alloc ?_ _)); refine blk_far ?_ NB607_613.out _; (with_reducible repeat (first | refine blk_drewN ?_ _ | refine blk_drew ?_ | refine blk_alloc ?_ _)); exact BK607.out))⟩; have n5_ : Aside0 (w34.heap[gb613]? = some (.cells #[.int .i64 t608, .int .i64 t609, .string t610] 42 (0, 0))) := ⟨(by rw [hw]; exact (by (with_reducible repeat (first | refine blk_drewN ?_ _ | refine blk_drew ?_ | refine blk_alloc ?_ _)); refine blk_put (cs := #[.int .i64 t608, .int .i64 t609, .string (⟨#[]⟩ : ByteArray)]) ?_ 2 _ rfl; (with_reducible repeat (first | refine blk_drewN ?_ _ | refine blk_drew ?_ | refine blk_alloc ?_ _)); refine blk_put (cs := #[.int .i64 t608, .int .i64 0, .string (⟨#[]⟩ : ByteArray)]) ?_ 1 _ rfl; (with_reducible repeat (first | refine blk_drewN ?_ _ | refine blk_drew ?_ | refine blk_alloc ?_ _)); refine blk_put (cs := #[.int .i64 0, .int .i64 0, .string (⟨#[]⟩ : ByteArray)]) ?_ 0 _ rfl; (with_reducible repeat (first | refine blk_drewN ?_ _ | refine blk_drew ?_ | refine blk_alloc ?_ _)); exact BK613.out))⟩; have n6_ : Aside0 (Below w.heap.size w w34) := ⟨(by rw [hw]; exact (by repeat (first | (with_reducible first | exact HB.out | apply below_alloc | apply pw_below_drewN | apply below_drew1 | refine below_set ?_ GE590.out | refine below_set ?_ GE607.out | refine below_set ?_ GE613.out) | exact HB.out)))⟩; clear hw; clear HO593; clear HO596; clear HO600; clear BK590; clear BK607; clear BK613; clear HB; have HO593 := n0_; have HO596 := n1_; have HO600 := n2_; have BK590 := n3_; have BK607 := n4_; have BK613 := n5_; have HB := n6_; clear n0_ n1_ n2_ n3_ n4_ n5_ n6_; obtain ⟨Ao35, co35, eo35⟩ := Kd.R_slice HO596.out; subst eo35; obtain ⟨Ao36, co36, eo36⟩ := Kd.R_slice HO600.out; subst eo36) | ((with_reducible refine gate_callee (f := 29) rfl ?_); refine goesL_ (some 42) rfl rfl Tryd.func29 (by kernel_rfl) rfl #[.slice Ao35 t594.length co35, .slice Ao36 t598.length co36] rfl (by (try simp only [List.map_toArray, List.map_cons, List.map_nil]); first | done | rfl | (simp only [List.length_drop, List.length_take]; rfl)) ?_; (with_reducible refine (locksteplaw02_told.calls k (fun k_ => some k_ = (.slice Ao35 t594.length co35 : Value).ownBlock) (.slice Ao35 t594.length co35) t594 _ _ t598 true w _ ?side1 ?side2 ?side3 ?side4 A8.out).mono ?_); (case side1 => repeat (first | (with_reducible first | exact HB.out | apply below_alloc | apply pw_below_drewN | apply below_drew1 | refine below_set ?_ GE590.out | refine below_set ?_ GE607.out | refine below_set ?_ GE613.out) | exact HB.out)); (case side2 => exact Kd.R_tight rfl HO596.out); (case side3 => exact Kd.C_kept_own (HO600.out) (fun k_ hk_ hs_ => (hk_.2) hs_)); (case side4 => exact (Kd.R_reads' HO600.out).2.1); rintro e w37 ⟨rfl, hb, hkp⟩; refine ⟨_, rfl, ?_⟩; have n0_ := Aside0.mk (blk_kept (by (with_reducible repeat (first | refine blk_drewN ?_ _ | refine blk_drew ?_ | refine blk_alloc ?_ _)); exact BK590.out) hkp (fun hs_ => (fun e_ => (Kd.R_ne HO596.out BK590.out (by decide)) e_) hs_)); have n1_ := Aside0.mk (Kd.R_mono (ok' := fun k_ => some k_ ≠ (.slice Ao36 t598.length co36 : Value).ownBlock) (Kd.R_keptB (HO593.out) hkp (fun k_ hk_ hs_ => (hk_.1) hs_)) (fun k_ hk_ => hk_.1.2)); have n2_ := Aside0.mk (Kd.R_mono (ok' := fun k_ => some k_ ≠ (.slice Ao24 t591.length co24 : Value).ownBlock) (Kd.R_keptB (HO600.out) hkp (fun k_ hk_ hs_ => (hk_.2) hs_)) (fun k_ hk_ => hk_.1.1)); have n3_ := Aside0.mk (blk_kept (by (with_reducible repeat (first | refine blk_drewN ?_ _ | refine blk_drew ?_ | refine blk_alloc ?_ _)); exact BK607.out) hkp (fun hs_ => (fun e_ => (Kd.R_ne HO596.out BK607.out (by decide)) e_) hs_)); have n4_ := Aside0.mk (blk_kept (by (with_reducible repeat (first | refine blk_drewN ?_ _ | refine blk_drew ?_ | refine blk_alloc ?_ _)); exact BK613.out) hkp (fun hs_ => (fun e_ => (Kd.R_ne HO596.out BK613.out (by decide)) e_) hs_)); have n5_ := Aside0.mk (hb); clear BK590; clear HO593; clear HO600; clear BK607; clear BK613; clear HB; clear HO596; have BK590 := n0_; have HO593 := n1_; have HO600 := n2_; have BK607 := n3_; have BK613 := n4_; have HB := n5_; clear n0_ n1_ n2_ n3_ n4_ n5_; (try clear hb); (try clear hkp); have hcz38_0 : w37.cell? ⟨gb607, 0, none⟩ = some (.int .i64 t602) := (blk_cell BK607.out 0).trans rfl; have hcz38_1 : w37.cell? ⟨gb607, 1, none⟩ = some (.int .i64 t603) := (blk_cell BK607.out 1).trans rfl; have hcz38_2 : w37.cell? ⟨gb607, 2, none⟩ = some (.string t604) := (blk_cell BK607.out 2).trans rfl; have hfz38_0 := blk_frozen BK607.out 0; have hfz38_1 := blk_frozen BK607.out 1; have hfz38_2 := blk_frozen BK607.out 2; have hcz39_0 : w37.cell? ⟨gb613, 0, none⟩ = some (.int .i64 t608) := (blk_cell BK613.out 0).trans rfl; have hcz39_1 : w37.cell? ⟨gb613, 1, none⟩ = some (.int .i64 t609) := (blk_cell BK613.out 1).trans rfl; have hcz39_2 : w37.cell? ⟨gb613, 2, none⟩ = some (.string t610) := (blk_cell BK613.out 2).trans rfl; have hfz39_0 := blk_frozen BK613.out 0; have hfz39_1 := blk_frozen BK613.out 1; have hfz39_2 := blk_frozen BK613.out 2) | (go_at_call 30; (with_reducible refine (lockstepref02_Same.calls t602 t603 t604 t608 t609 t610 true _ A11.out).mono ?_); rintro e w40 ⟨rfl, hb⟩; have n0_ := Aside0.mk (Kd.R_below (by (with_reducible repeat (first | apply Kd.R_alloc | apply Kd.R_drewN | apply Kd.R_drew)); exact HO593.out) hb); have n1_ := Aside0.mk (Kd.R_below (by (with_reducible repeat (first | apply Kd.R_alloc | apply Kd.R_drewN | apply Kd.R_drew)); exact HO600.out) hb); have n2_ := Aside0.mk (blk_below (g := gb590) (o := .cells #[.int .i64 a0_0, .int .i64 a0_1, .string a0_2] 42 (0, 0)) (by (with_reducible repeat (first | refine blk_drewN ?_ _ | refine blk_drew ?_ | refine blk_alloc ?_ _)); exact BK590.out) hb); have n3_ := Aside0.mk (blk_below (g := gb607) (o := .cells #[.int .i64 t602, .int .i64 t603, .string t604] 42 (0, 0)) (by (with_reducible repeat (first | refine blk_drewN ?_ _ | refine blk_drew ?_ | refine blk_alloc ?_ _)); exact BK607.out) hb); have n4_ := Aside0.mk (blk_below (g := gb613) (o := .cells #[.int .i64 t608, .int .i64 t609, .string t610] 42 (0, 0)) (by (with_reducible repeat (first | refine blk_drewN ?_ _ | refine blk_drew ?_ | refine blk_alloc ?_ _)); exact BK613.out) hb); have n5_ := Aside0.mk (below_step (by repeat (first | (with_reducible first | exact HB.out | apply below_alloc | apply pw_below_drewN | apply below_drew1 | refine below_set ?_ GE590.out | refine below_set ?_ GE607.out | refine below_set ?_ GE613.out) | exact HB.out)) hb); clear HO593; clear HO600; clear BK590; clear BK607; clear BK613; clear HB; have HO593 := n0_; have HO600 := n1_; have BK590 := n2_; have BK607 := n3_; have BK613 := n4_; have HB := n5_; clear n0_ n1_ n2_ n3_ n4_ n5_; (try clear hb); (try clear hb2); (try clear hk); (try clear hi)) | (go_at_call 31; (with_reducible refine (rowcode_Hash.calls k _ _ t591 t616 _ ?side1 ?side2 A15.out).mono ?_); (case side1 => repeat (first | exact (Kd.R_reads' HO593.out).2.2 | (with_reducible refine Kd.C_alloc ?_ _) | (with_reducible refine Kd.C_drewN ?_ _) | (with_reducible refine Kd.C_drew ?_))); (case side2 => exact (Kd.R_reads' HO593.out).2.1); rintro e w' ⟨rfl, ⟨nd, rfl⟩⟩) | (go_at_call 32; (with_reducible refine (lockstepref02_Hash.calls k _ _ l1 t617 _ ?side1 ?side2 A16.out).mono ?_); (case side1 => repeat (first | exact (Kd.C_below HR1.out (by repeat (first | (with_reducible first | exact HB.out | apply below_alloc | apply pw_below_drewN | apply below_drew1 | refine below_set ?_ GE590.out | refine below_set ?_ GE607.out | refine below_set ?_ GE613.out) | exact HB.out))) | (with_reducible refine Kd.C_alloc ?_ _) | (with_reducible refine Kd.C_drewN ?_ _) | (with_reducible refine Kd.C_drew ?_))); (case side2 => exact HC1.out); rintro e w' ⟨rfl, ⟨nd, rfl⟩⟩; have hcv41 := own_string (P := Tryd.prog) Tryd.underlying47 Tryd.underlying5 Tryd.underlying9 (Kd.own_of_R HO593.out); have hcv41q := fun nq_ : Nat => own_string (P := Tryd.prog) Tryd.underlying47 Tryd.underlying5 Tryd.underlying9 (Kd.own_of_R (Kd.R_drewN (HO593.out) nq_)); have hcv42 := Kd.C_string (P := Tryd.prog) (A := A1) (c := c1) Tryd.underlying47 Tryd.underlying5 Tryd.underlying9 (Kd.C_below HR1.out HB.out); have hcv42q := fun nq_ : Nat => Kd.C_string (P := Tryd.prog) (A := A1) (c := c1) Tryd.underlying47 Tryd.underlying5 Tryd.underlying9 (Kd.C_drewN ((Kd.C_below HR1.out HB.out)) nq_)))
       go_ret
       exact ⟨by first | rfl | (simp [errW_none, errW_some] <;> rfl) | (simp [*, errW_none, errW_some] <;> rfl), by repeat (first | (with_reducible first | exact HB.out | apply below_alloc | apply pw_below_drewN | apply below_drew1 | refine below_set ?_ GE590.out | refine below_set ?_ GE607.out | refine below_set ?_ GE613.out) | exact HB.out)⟩
      ·
       rw [if_neg c17] at H
       have c17b0 : (t616 == t617) = false := beq_eq_false_iff_ne.mpr c17
       have c17b1 : (t616 != t617) = true := bne_iff_ne.mpr c17
       exact absurd (Option.some.inj H) (by rw [HR.out]; simp)
     ·
      rw [if_neg c14] at H
      have c14b0 : (t606 == t612) = false := beq_eq_false_iff_ne.mpr c14
      have c14b1 : (t606 != t612) = true := bne_iff_ne.mpr c14
      exact absurd (Option.some.inj H) (by rw [HR.out]; simp)
    ·
     rw [if_neg c13] at H
     have c13b0 : (t605 == t611) = false := beq_eq_false_iff_ne.mpr c13
     have c13b1 : (t605 != t611) = true := bne_iff_ne.mpr c13
     exact absurd (Option.some.inj H) (by rw [HR.out]; simp)
   ·
    replace c12 := Bool.eq_false_iff.mpr c12
    subst c12
    have H1 : (some false) = some r := by rw [if_neg (show ¬ (false = true) by decide)] at H; exact H
    clear H
    have H := H1
    clear H1
    exact absurd (Option.some.inj H) (by rw [HR.out]; simp)
  ·
   rw [if_neg c10] at H
   have c10b0 : (t597 == t601) = false := beq_eq_false_iff_ne.mpr c10
   have c10b1 : (t597 != t601) = true := bne_iff_ne.mpr c10
   exact absurd (Option.some.inj H) (by rw [HR.out]; simp)
 ·
  replace c9 := Bool.eq_false_iff.mpr c9
  subst c9
  have H1 : (some false) = some r := by rw [if_neg (show ¬ (false = true) by decide)] at H; exact H
  clear H
  have H := H1
  clear H1
  exact absurd (Option.some.inj H) (by rw [HR.out]; simp)
end Go.Proofs.YthghcpeedmconaaDoor.X
end
section
namespace Go.Proofs.YthghcpeedmconaaDoor.X
set_option linter.unusedVariables false
set_option linter.unusedSimpArgs false
open Go.RowKit Go.Proofs.YthghcpeedmconaaDoorW.PrintWords Go.Proofs.YthghcpeedmconaaDoorW.PrintLast Go.Proofs.YthghcpeedmconaaDoorW.PrintMore
open Num
theorem rd_succ (tag : Int) (y : List Int) (i : Nat) : rd (tag :: y) ((i + 1 : Nat) : Int) = rd y (i : Int) := by
  rw [rd_getD, rd_getD]; rfl
theorem rlow_loop (l : List Int) (hB : isB l) (hl : 12 ≤ l.length) (hm : l.length ≤ 9223372036854775807) (x : Int) : ∀ (d i : Nat), i + d = 8 → ∀ (a : Int) (k : Nat), 0 ≤ a → a < 256 ^ i → d + 90 ≤ k →
    ∃ k', 90 ≤ k' + 1 ∧ lockstepref02_readNumber.l0 k l x a ((i + 3 : Nat) : Int) = lockstepref02_readNumber.l0 (k' + 1) l x (valF a (((l.take 11).drop 3).drop i)) 11
  | 0, i, h, a, k, h0, h1, hk => by
    have : i = 8 := by omega
    subst this
    rw [List.drop_eq_nil_of_le (by rw [List.length_drop, List.length_take]; omega)]
    exact ⟨k - 1, by omega, by rw [show k - 1 + 1 = k by omega]; rfl⟩
  | d + 1, i, h, a, k, h0, h1, hk => by
    obtain ⟨k, rfl⟩ : ∃ m, k = m + 1 := ⟨k - 1, by omega⟩
    have hz : isB ((l.take 11).drop 3) := isB_drop (isB_take hB _) _
    have hzl : ((l.take 11).drop 3).length = 8 := by rw [List.length_drop, List.length_take]; omega
    have hb := rd_isB hB (i := i + 3) (by omega)
    have he : rd ((l.take 11).drop 3) (i : Int) = rd l ((i + 3 : Nat) : Int) := by
      rw [rd_getD, rd_getD, List.getD_eq_getElem?_getD, List.getD_eq_getElem?_getD, List.getElem?_drop, List.getElem?_take, if_pos (by omega), Nat.add_comm 3 i]
    have hp : (256 : Int) ^ i ≤ 72057594037927936 := by
      have h7 : i = 0 ∨ i = 1 ∨ i = 2 ∨ i = 3 ∨ i = 4 ∨ i = 5 ∨ i = 6 ∨ i = 7 := by omega
      rcases h7 with rfl | rfl | rfl | rfl | rfl | rfl | rfl | rfl <;> decide
    rw [lockstepref02_readNumber.l0, if_pos (by omega), if_pos (by omega), if_pos (by omega), or_byte a _ h0 (by omega) hb, show wrap64 (((i + 3 : Nat) : Int) + 1) = ((i + 1 + 3 : Nat) : Int) by unfold wrap64; omega]
    have ih := rlow_loop l hB hl hm x d (i + 1) (by omega) (a * 256 + rd l ((i + 3 : Nat) : Int)) k (by omega) (by rw [Int.pow_succ]; omega) (by omega)
    rw [drop_rd (l := (l.take 11).drop 3) (i := i) (by omega), valF_cons, he]
    exact ih
theorem rnumRead_eq (tag : Int) (y : List Int) (hB : isB (tag :: y)) (hm : (tag :: y).length ≤ 140737488355328) (k : Nat) (hk : 110 ≤ k) : lockstepref02_readNumber.f k (tag :: y) = some (took (tag :: y) (numRead y)) := by
  unfold lockstepref02_readNumber.f numRead
  have hBy := isB_tail hB
  have hlen : (tag :: y).length = y.length + 1 := rfl
  by_cases hl : y.length < 11
  · rw [if_pos (by omega), if_pos hl, took_bad _ (by decide)]
  · rw [if_neg (by omega), if_neg hl, if_pos (by omega), if_pos (by omega)]
    have r1 : rd (tag :: y) 1 = rd y 0 := rd_succ tag y 0
    have r2 : rd (tag :: y) 2 = rd y 1 := rd_succ tag y 1
    have r11 : rd (tag :: y) 11 = rd y 10 := rd_succ tag y 10
    have b0 := rd_isB hBy (i := 0) (by omega)
    have b1 := rd_isB hBy (i := 1) (by omega)
    have b10 := rd_isB hBy (i := 10) (by omega)
    rw [show ((0 : Nat) : Int) = 0 from rfl] at b0
    rw [show ((1 : Nat) : Int) = 1 from rfl] at b1
    rw [show ((10 : Nat) : Int) = 10 from rfl] at b10
    have hv := val10 y (by omega)
    have hz : isB ((y.take 10).drop 2) := isB_drop (isB_take hBy _) _
    have hzl : ((y.take 10).drop 2).length = 8 := by rw [List.length_drop, List.length_take]; omega
    obtain ⟨v0, v1⟩ := valB_bound _ hz
    rw [hzl, show (256 : Int) ^ 8 = 18446744073709551616 by decide] at v1
    have q0 : rd y 0 = y.getD 0 0 := rd_getD y 0
    have q1 : rd y 1 = y.getD 1 0 := rd_getD y 1
    have q10 : rd y 10 = y.getD 10 0 := rd_getD y 10
    rw [r1, r2, show IntKind.u64.wrap (rd y 0) = rd y 0 by rw [IntKind.wrap_u64]; omega, or_byte _ _ b0.1 (by omega) b1]
    obtain ⟨k', hk', hloop⟩ := rlow_loop (tag :: y) hB (by omega) (by omega) (rd y 0 * 256 + rd y 1) 8 0 (by omega) 0 k (by omega) (by decide) (by omega)
    rw [show (((0 + 3 : Nat)) : Int) = 3 from rfl, List.drop_zero] at hloop
    have hts : ((tag :: y).take 11).drop 3 = (y.take 10).drop 2 := rfl
    rw [hloop, hts, lockstepref02_readNumber.l0, if_neg (by decide), if_pos (by omega), r11, hv, ← q0, ← q1, ← q10]
    have hlow : valF 0 ((y.take 10).drop 2) = valB ((y.take 10).drop 2) := rfl
    rw [hlow]
    generalize valB ((y.take 10).drop 2) = lo at *
    generalize rd y 0 = p0 at *
    generalize rd y 1 = p1 at *
    generalize rd y 10 = t at *
    rw [show wrap64 t = t by unfold wrap64; omega]
    clear hloop hlow hts hv
    have hN : (p0 * 256 + p1) * 18446744073709551616 + lo - 604462909807314587353088 = (p0 * 256 + p1 - 32768) * 18446744073709551616 + lo := by omega
    rw [hN]
    have hhi : 0 ≤ p0 * 256 + p1 ∧ p0 * 256 + p1 < 65536 := by omega
    generalize p0 * 256 + p1 = hi at *
    obtain ⟨k', rfl⟩ : ∃ m, k' = m + 2 := ⟨k' - 2, by omega⟩
    have hlen2 : ((tag :: y).length : Int) - ((y.drop 11).length : Int) = 12 := by rw [List.length_drop, hlen]; omega
    have goodT : ∀ (T n : Int), took (tag :: y) (T, n, (⟨#[]⟩ : ByteArray), y.drop 11, 0) = (T, n, (⟨#[]⟩ : ByteArray), 12, 0) := by
      intro T n
      unfold took
      rw [if_pos rfl]
      show (T, n, (⟨#[]⟩ : ByteArray), ((tag :: y).length : Int) - ((y.drop 11).length : Int), (0 : Int)) = _
      rw [hlen2]
    have last : ∀ (neg : Bool) (H L A : Nat), A = H * 18446744073709551616 + L → L < 18446744073709551616 → H < 65536 → ((hi - 32768) * 18446744073709551616 + lo = if neg then -(A : Int) else (A : Int)) → (t = 1 ∨ t = 2) →
        lockstepref02_readNumber.j2 (k' + 1) (H : Int) (L : Int) t neg = some (took (tag :: y) (numOf t ((hi - 32768) * 18446744073709551616 + lo) (y.drop 11))) := by
      intro neg H L A hA hL hH hN2 ht
      rw [lockstepref02_readNumber.j2, hN2]
      unfold numOf
      by_cases t2 : t = 2
      · rw [if_pos t2, if_pos t2]
        by_cases hH0 : 0 < H
        · rw [if_pos (by omega), if_neg, took_bad _ (by decide)]
          unfold inI
          intro h
          have := of_decide_eq_true h
          cases neg
          · rw [if_neg (by decide)] at this; omega
          · rw [if_pos rfl] at this; omega
        · have : A = L := by omega
          subst this
          rw [if_neg (by omega), signed_eq t neg A hL (fun _ => Or.inr trivial) k' (by omega), Option.bind_some]
          by_cases hi2 : inI (if neg then -(A : Int) else (A : Int))
          · rw [if_pos hi2, if_pos hi2, goodT, t2]
          · rw [if_neg hi2, if_neg hi2, took_bad _ (by decide)]
      · have t1 : t = 1 := by omega
        rw [if_neg t2, if_neg t2, if_pos t1]
        by_cases hc : 10000 ≤ H
        · rw [if_pos (by omega), if_neg, took_bad _ (by decide)]
          unfold inI
          intro h
          have hb := of_decide_eq_true h.2
          have ha := h.1
          cases neg
          · rw [if_neg (by decide)] at ha hb; omega
          · rw [if_pos rfl] at ha hb; omega
        · rw [if_neg (by omega), divided_eq H L (by omega) hL k' (by omega), Option.bind_some, ← hA]
          have hq : A / 10000 < 18446744073709551616 := by omega
          have hdm := Nat.div_add_mod A 10000
          generalize hQ : A / 10000 = Q at *
          generalize hR : A % 10000 = R at *
          have hRl : R < 10000 := by rw [← hR]; exact Nat.mod_lt _ (by decide)
          by_cases hr : R = 0
          · rw [if_pos (by rw [hr]; rfl), signed_eq t neg Q hq (fun _ => Or.inr trivial) k' (by omega), Option.bind_some]
            have e1 : (if neg then -(A : Int) else (A : Int)) / 10000 = (if neg then -(Q : Int) else (Q : Int)) := by
              cases neg
              · simp only [Bool.false_eq_true, if_false]; omega
              · simp only [if_true]; omega
            have e2 : (if neg then -(A : Int) else (A : Int)) % 10000 = 0 := by
              cases neg
              · simp only [Bool.false_eq_true, if_false]; omega
              · simp only [if_true]; omega
            rw [e1]
            by_cases hi2 : inI (if neg then -(Q : Int) else (Q : Int))
            · rw [if_pos hi2, if_pos (And.intro e2 hi2), goodT, t1]
            · rw [if_neg hi2, if_neg (fun h => hi2 h.2), took_bad _ (by decide)]
          · rw [if_neg (by simp only []; omega), if_neg, took_bad _ (by decide)]
            intro h
            have ha := h.1
            cases neg
            · rw [if_neg (by decide)] at ha; omega
            · rw [if_pos rfl] at ha; omega
    have hj : (if t = 1 then lockstepref02_readNumber.j1 (k' + 2) hi lo t false else lockstepref02_readNumber.j1 (k' + 2) hi lo t (t != 2)) = lockstepref02_readNumber.j1 (k' + 2) hi lo t (decide (¬ (t = 1 ∨ t = 2))) := by
      by_cases t1 : t = 1
      · rw [if_pos t1, decide_eq_false (by omega)]
      · rw [if_neg t1]
        congr 1
        by_cases t2 : t = 2
        · rw [decide_eq_false (by omega), t2]; rfl
        · rw [decide_eq_true (by omega)]
          exact bne_iff_ne.mpr t2
    rw [hj, lockstepref02_readNumber.j1]
    by_cases ht : t = 1 ∨ t = 2
    · rw [decide_eq_false (fun h => h ht), if_neg (by decide)]
      obtain ⟨L, rfl⟩ := Int.eq_ofNat_of_zero_le v0
      have ew : IntKind.u64.wrap (hi + 32768) = hi + 32768 := by rw [IntKind.wrap_u64]; omega
      have et : Int.tmod (hi + 32768) 65536 = (hi + 32768) % 65536 := Int.tmod_eq_emod_of_nonneg (by omega)
      rw [ew, et]
      by_cases hneg : hi < 32768
      · have eL : IntKind.u64.wrap (-(L : Int)) = (((18446744073709551616 - L) % 18446744073709551616 : Nat) : Int) := by rw [IntKind.wrap_u64]; omega
        rw [if_pos hneg, eL, decide_eq_true hneg]
        by_cases hL0 : L = 0
        · have eH : IntKind.u64.wrap (IntKind.u64.wrap (65535 - (hi + 32768) % 65536) + 1) = (((32768 - hi).toNat : Nat) : Int) := by rw [IntKind.wrap_u64, IntKind.wrap_u64]; omega
          rw [if_pos (by omega), eH]
          exact last true _ _ _ rfl (by omega) (by omega) (by rw [if_pos rfl]; omega) ht
        · have eH : IntKind.u64.wrap (65535 - (hi + 32768) % 65536) = (((32767 - hi).toNat : Nat) : Int) := by rw [IntKind.wrap_u64]; omega
          rw [if_neg (by omega), eH]
          exact last true _ _ _ rfl (by omega) (by omega) (by rw [if_pos rfl]; omega) ht
      · have eH : (hi + 32768) % 65536 = (((hi - 32768).toNat : Nat) : Int) := by omega
        rw [if_neg hneg, decide_eq_false hneg, eH]
        exact last false _ _ _ rfl (by omega) (by omega) (by rw [if_neg (by decide)]; omega) ht
    · rw [decide_eq_true ht, if_pos rfl]
      unfold numOf
      rw [if_neg (by omega), if_neg (by omega), took_bad _ (by decide)]
theorem drop_two {l : List Int} {i : Nat} (hi : i + 1 < l.length) : l.drop i = rd l (i : Int) :: rd l ((i + 1 : Nat) : Int) :: l.drop (i + 2) := by
  rw [drop_rd (show i < l.length by omega), drop_rd hi]
theorem rtxt_loop (l : List Int) (hB : isB l) (hm : l.length < 140737488355328) : ∀ (n i : Nat), l.length ≤ i + n → ∀ (acc : List Int) (k : Nat), acc.length ≤ i → n + 10 ≤ k →
    lockstepref02_readText.l0 k l acc (i : Int) = some (took l (txtRead acc (l.drop i)))
  | n, i, hn, acc, k, ha, hk => by
    obtain ⟨k, rfl⟩ : ∃ m, k = m + 2 := ⟨k - 2, by omega⟩
    rw [lockstepref02_readText.l0]
    by_cases hi : i < l.length
    · rw [if_pos (by omega), if_pos (by omega)]
      have w1 : wrap64 ((i : Int) + 1) = ((i + 1 : Nat) : Int) := by unfold wrap64; omega
      have w2 : wrap64 ((i : Int) + 2) = ((i + 2 : Nat) : Int) := by unfold wrap64; omega
      rw [w1, w2]
      by_cases h0 : rd l (i : Int) = 0
      · rw [if_pos h0]
        by_cases he : i + 1 = l.length
        · rw [if_pos (by omega), drop_rd hi, List.drop_eq_nil_of_le (by omega), h0, txt_one, took_bad _ (by decide)]
        · rw [if_neg (by omega), if_pos (by omega), if_pos (by omega), drop_two (show i + 1 < l.length by omega), h0, txt_two]
          by_cases y255 : rd l ((i + 1 : Nat) : Int) = 255
          · rw [if_pos y255, if_pos y255, if_pos (by omega)]
            cases n with
            | zero => omega
            | succ n =>
              exact rtxt_loop l hB hm n (i + 2) (by omega) _ (k + 1) (by rw [List.length_append]; simp; omega) (by omega)
          · rw [if_neg y255, if_neg y255]
            by_cases y0 : rd l ((i + 1 : Nat) : Int) = 0
            · rw [if_pos y0, if_pos y0]
              obtain ⟨k, rfl⟩ : ∃ m, k = m + 1 := ⟨k - 1, by omega⟩
              rw [lockstepref01_Check.eq, Option.bind_some]
              by_cases hc : chk 3 0 (strOfNums acc) = 0
              · rw [if_pos hc, if_pos hc]
                unfold took
                rw [if_pos (by rfl)]
                have hT : (l.length : Int) - ((l.drop (i + 2)).length : Int) = ((i + 2 : Nat) : Int) := by rw [List.length_drop]; omega
                show _ = some (_, _, _, (l.length : Int) - ((l.drop (i + 2)).length : Int), (0 : Int))
                rw [hT]
              · rw [if_neg hc, if_neg hc, took_bad _ (by decide)]
            · rw [if_neg y0, if_neg y0, took_bad _ (by decide)]
      · rw [if_neg h0, if_pos (by omega), drop_rd hi, txt_ne _ h0]
        cases n with
        | zero => omega
        | succ n => exact rtxt_loop l hB hm n (i + 1) (by omega) _ (k + 1) (by rw [List.length_append]; simp; omega) (by omega)
    · rw [if_neg (by omega), List.drop_eq_nil_of_le (by omega), txt_nil, took_bad _ (by decide)]
theorem rRead_eq (l : List Int) (hB : isB l) (hm : l.length < 140737488355328) (k : Nat) (hk : l.length + 120 ≤ k) : lockstepref02_Read.f k l = some (took l (valRead l)) := by
  unfold lockstepref02_Read.f
  cases l with
  | nil => rfl
  | cons tag y =>
    have hlen : (tag :: y).length = y.length + 1 := rfl
    rw [if_neg (by omega), if_pos (by omega), show rd (tag :: y) 0 = tag from rfl, valRead_cons]
    by_cases t1 : tag = 1
    · rw [if_pos t1, if_pos t1]
      unfold took
      rw [if_pos (by rfl)]
      have hT : ((tag :: y).length : Int) - (y.length : Int) = 1 := by omega
      show _ = some (_, _, _, ((tag :: y).length : Int) - (y.length : Int), (0 : Int))
      rw [hT]
    rw [if_neg t1, if_neg t1]
    by_cases t2 : tag = 2
    · rw [if_pos t2, if_pos t2, rnumRead_eq tag y hB (by omega) k (by omega), Option.bind_some]
    rw [if_neg t2, if_neg t2]
    by_cases t3 : tag = 3
    · rw [if_pos t3, if_pos t3]
      unfold lockstepref02_readText.f
      have := rtxt_loop (tag :: y) hB hm (tag :: y).length 1 (by omega) [] k (by simp) (by omega)
      rw [show ((1 : Nat) : Int) = 1 from rfl] at this
      rw [this, Option.bind_some]
      rfl
    rw [if_neg t3, if_neg t3]
    by_cases t4 : tag = 4
    · rw [if_pos t4, if_pos t4]
      cases y with
      | nil => rfl
      | cons b m =>
        have hb := isB_head (isB_tail hB)
        have hlen2 : (b :: m).length = m.length + 1 := rfl
        rw [if_neg (by omega), if_pos (by omega), show rd (tag :: b :: m) 1 = b from rfl, show boolRead (b :: m) = if b > 1 then bad 20 else (4, b, (⟨#[]⟩ : ByteArray), m, 0) from rfl]
        by_cases b1 : b > 1
        · rw [if_pos b1, if_pos b1, took_bad _ (by decide)]
        · rw [if_neg b1, if_neg b1]
          unfold took
          rw [if_pos (by rfl), show wrap64 b = b by unfold wrap64; omega]
          have hT : ((tag :: b :: m).length : Int) - (m.length : Int) = 2 := by omega
          show _ = some (_, _, _, ((tag :: b :: m).length : Int) - (m.length : Int), (0 : Int))
          rw [hT]
    · rw [if_neg t4, if_neg t4, took_bad _ (by decide)]
theorem Read_eq (l : List Int) (hB : isB l) (hm : l.length < 140737488355328) (hrl : (valRead l).2.2.2.1.length ≤ 9223372036854775807) (k : Nat) (hk : 2 * l.length + 60 ≤ k) : rowcode_Read.f k l = some (took l (valRead l)) := by
  unfold rowcode_Read.f
  rw [read_eq l hB hm k hk, Option.bind_some]
  unfold took
  generalize valRead l = x at *
  obtain ⟨t, n, s, r, e⟩ := x
  simp only [] at hrl ⊢
  by_cases he : e = 0
  · rw [if_pos he, if_pos he, show wrap64 ((l.length : Int) - (r.length : Int)) = (l.length : Int) - (r.length : Int) by unfold wrap64; omega]
  · rw [if_neg he, if_neg he]
theorem txt_rest : ∀ (n : Nat) (l : List Int), l.length ≤ n → ∀ acc, (txtRead acc l).2.2.2.1.length ≤ l.length
  | n, [], _, acc => by rw [txt_nil]; exact Nat.zero_le _
  | n, x :: l, hn, acc => by
    simp only [List.length_cons] at hn ⊢
    cases n with
    | zero => omega
    | succ n =>
      by_cases h : x = 0
      · subst h
        cases l with
        | nil => rw [txt_one]; exact Nat.zero_le _
        | cons y m =>
          simp only [List.length_cons] at hn ⊢
          rw [txt_two]
          split
          · exact Nat.le_trans (txt_rest n m (by omega) _) (by omega)
          · split
            · split
              · show m.length ≤ _; omega
              · exact Nat.zero_le _
            · exact Nat.zero_le _
      · rw [txt_ne _ h]
        exact Nat.le_trans (txt_rest n l (by omega) _) (by omega)
theorem val_rest (l : List Int) : (valRead l).2.2.2.1.length ≤ l.length := by
  cases l with
  | nil => exact Nat.zero_le _
  | cons tag y =>
    rw [valRead_cons, List.length_cons]
    split
    · show y.length ≤ _; omega
    split
    · unfold numRead numOf
      have hd : (y.drop 11).length ≤ y.length + 1 := by rw [List.length_drop]; omega
      split
      · exact Nat.zero_le _
      split
      · split
        · exact hd
        · exact Nat.zero_le _
      · split
        · split
          · exact hd
          · exact Nat.zero_le _
        · exact Nat.zero_le _
    split
    · exact Nat.le_trans (txt_rest y.length y (Nat.le_refl _) []) (by omega)
    split
    · cases y with
      | nil => exact Nat.zero_le _
      | cons b m =>
        rw [show boolRead (b :: m) = if b > 1 then bad 20 else (4, b, (⟨#[]⟩ : ByteArray), m, 0) from rfl]
        split
        · exact Nat.zero_le _
        · show m.length ≤ _; simp; omega
    · exact Nat.zero_le _
theorem own_eq (l : List Int) (hl : l.length < 140737488355328) : locksteplaw02_own.f l = some l := by
  unfold locksteplaw02_own.f
  have hw : wrap64 ((l.length : Int) + 2) = (l.length : Int) + 2 := by unfold wrap64; omega
  rw [hw, if_pos (by omega), if_pos (by omega), Option.bind_some, if_pos (by simpa using hl), List.nil_append]
theorem RowcodeValues_true (t n : Int) (s : ByteArray) (l : List Int) (hn : I64 n) (hB : isB l) (hl : l.length ≤ 140737488351232) : ∃ k, locksteplaw02_RowcodeValues.f k t n s l = some true := by
  refine ⟨2 * l.length + 10000, ?_⟩
  generalize hk : 2 * l.length + 10000 = k
  have e1 := val_eq ⟨t, n, s⟩ hn k (by omega)
  have e2 := rval_eq ⟨t, n, s⟩ hn k (by omega)
  have hrest := val_rest l
  have e3 := Read_eq l hB (by omega) (by omega) k (by omega)
  have e4 := rRead_eq l hB (by omega) k (by omega)
  unfold valOut at e1
  obtain ⟨h, e5, e6⟩ := Hash_eq l (by omega) k (by omega)
  unfold locksteplaw02_RowcodeValues.f
  rw [own_eq l (by omega), Option.bind_some, e1, Option.bind_some, e2, Option.bind_some, e3, Option.bind_some, e4, Option.bind_some]
  have e7 : locksteplaw02_told.f k (if chk t n s = 0 then (code ⟨t, n, s⟩, (0 : Int)) else ([], chk t n s)).1 (if chk t n s = 0 then (code ⟨t, n, s⟩, (0 : Int)) else ([], chk t n s)).1 = some true := by
    rw [told_eq _ _ ?_ k ?_, beq_self_eq_true]
    · by_cases hc : chk t n s = 0
      · rw [if_pos hc]
        have := code_len (v := ⟨t, n, s⟩) ⟨hc, hn⟩
        show (code ⟨t, n, s⟩).length < _
        omega
      · rw [if_neg hc]
        show 0 < 140737488355328
        decide
    · by_cases hc : chk t n s = 0
      · rw [if_pos hc]
        have := code_len (v := ⟨t, n, s⟩) ⟨hc, hn⟩
        show (code ⟨t, n, s⟩).length + 1 ≤ _
        omega
      · rw [if_neg hc]
        show 0 + 1 ≤ k
        omega
  have e8 : lockstepref02_Same.f (took l (valRead l)).1 (took l (valRead l)).2.1 (took l (valRead l)).2.2.1 (took l (valRead l)).1 (took l (valRead l)).2.1 (took l (valRead l)).2.2.1 = some true := by
    unfold lockstepref02_Same.f
    rw [if_pos rfl, if_pos rfl, beq_self_eq_true]
  rw [e7, Option.bind_some, if_pos rfl, if_pos rfl, e8, Option.bind_some, if_pos rfl, if_pos rfl, if_pos rfl, e5, Option.bind_some, e6, Option.bind_some, if_pos rfl, beq_self_eq_true]
end Go.Proofs.YthghcpeedmconaaDoor.X
end
section
namespace Go.Proofs.YthghcpeedmconaaDoorW.PrintWords
open Go Go.RowKit Go.ChangeShapes Go.WideShapes Go.Deep
set_option linter.unusedVariables false
set_option linter.unusedSimpArgs false
def Opens {α : Type} (P : Program) (d : Kd α) (t : TypeId) (g : α → Prop) : Prop :=
  ∀ {H : Type} (enc : TypeId × Value → H) (W : World) (base : Nat) (spare : Nat → Bool) (held : Bool) (fuel : Nat) (cs : List Value) (x : DataW H × List MemPlace),
    DataW.trod enc P W base spare held fuel t cs = some x → ∃ a, d.K W a cs ∧ g a
def inKind (k : IntKind) (n : Int) : Prop := k.min ≤ n ∧ n ≤ k.max
section
variable {P : Program} {α β : Type}
theorem opens_int {t : TypeId} {k : IntKind} (ht : P.underlying t = some (.int k)) : Opens P (Kd.int k) t (inKind k) := by
  intro H enc W base spare held fuel cs x h
  obtain ⟨n, rfl, _, hw⟩ := DataW.trod_int ht h
  refine ⟨n, rfl, ?_⟩
  simpa [Lit.wf, inKind] using hw
theorem opens_string {t : TypeId} (ht : P.underlying t = some .string) : Opens P Kd.string t (fun s => s.size ≤ 9223372036854775807) := by
  intro H enc W base spare held fuel cs x h
  obtain ⟨n, rfl, _, hw⟩ := DataW.trod_string ht h
  exact ⟨n, rfl, by simpa [maxLen] using hw⟩
theorem Opens.imp {d : Kd α} {t : TypeId} {g g' : α → Prop} (h : Opens P d t g) (hg : ∀ a, g a → g' a) : Opens P d t g' := by
  intro H enc W base spare held fuel cs x hx
  obtain ⟨a, h1, h2⟩ := h enc W base spare held fuel cs x hx
  exact ⟨a, h1, hg a h2⟩
theorem opens_iso {d : Kd α} {t : TypeId} {g : α → Prop} (h : Opens P d t g) (f : β → α) (b : α → β) (hf : ∀ a, f (b a) = a) : Opens P (Kd.iso d f) t (fun x => g (f x)) := by
  intro H enc W base spare held fuel cs x hx
  obtain ⟨a, h1, h2⟩ := h enc W base spare held fuel cs x hx
  exact ⟨b a, by show d.K W (f (b a)) cs; rw [hf]; exact h1, by show g (f (b a)); rw [hf]; exact h2⟩
theorem elems_of {γ : Type} {n : Nat} {p : Nat → γ → Prop} (h : ∀ i, i < n → ∃ a, p i a) : ∃ xs : List γ, xs.length = n ∧ ∀ i a, xs[i]? = some a → p i a := by
  induction n with
  | zero => exact ⟨[], rfl, fun i a h => by simp at h⟩
  | succ n ih =>
    obtain ⟨xs, hl, hx⟩ := ih (fun i hi => h i (by omega))
    obtain ⟨a, ha⟩ := h n (by omega)
    refine ⟨xs ++ [a], by simp [hl], fun i b hb => ?_⟩
    by_cases hi : i < xs.length
    · rw [List.getElem?_append_left hi] at hb
      exact hx i b hb
    · rw [List.getElem?_append_right (by omega)] at hb
      have : i = n := by
        have := (List.getElem?_eq_some_iff.1 hb).1
        simp at this
        omega
      subst this
      rw [hl, Nat.sub_self] at hb
      injection hb with hb
      exact hb ▸ ha
theorem opens_slice {d : Kd α} {t e : TypeId} {g : α → Prop} (ht : P.underlying t = some (.slice e)) (hs : P.cellsOf e = d.sz) (h : Opens P d e g) :
    Opens P (Kd.slice e d) t (fun xs => ∀ x ∈ xs, g x) := by
  intro H enc W base spare held fuel cs x hx
  rcases open_slice ht hx with ⟨rfl, rfl⟩ | ⟨a, len, cap, m, n, D, Pl, rfl, hb, hl, hm, hmm, rfl, hel⟩
  · exact ⟨[], ⟨none, 0, rfl, Nat.le_refl _, ⟨rfl, by simp, fun h => absurd h (by simp)⟩⟩, fun x hx => by simp at hx⟩
  · obtain ⟨xs, hlen, hxs⟩ := elems_of (n := len) (p := fun i y => ∃ cs', W.cells? base (a.add (i * P.cellsOf e)) (P.cellsOf e) = some cs' ∧ d.K W y cs' ∧ g y) (fun i hi => by
      obtain ⟨cs', h1, h2⟩ := hel i (by rw [hmm]; split <;> omega)
      obtain ⟨y, h3, h4⟩ := h enc W base spare held n cs' _ h2
      exact ⟨y, cs', h1, h3, h4⟩)
    refine ⟨xs, ⟨some a, cap, by rw [hlen], by rw [hlen]; exact hl, ⟨rfl, by rw [hlen]; simp only [maxLen] at hm; omega, fun hp => ⟨a, rfl, fun j p hj => ?_⟩⟩⟩, fun x hx => ?_⟩
    · obtain ⟨cs', h1, h2, _⟩ := hxs j p hj
      refine ⟨cs', d.K_len h2, h2, fun i u hu => ?_⟩
      obtain ⟨_, hcl, hcc⟩ := World.cells?_some h1
      have hi : i < cs'.length := (List.getElem?_eq_some_iff.1 hu).1
      have h5 := hcc i (by rw [← hcl]; exact hi)
      rw [hu, Addr.add_add, hs] at h5
      exact h5
    · obtain ⟨i, hi⟩ := List.getElem?_of_mem hx
      obtain ⟨_, _, _, h4⟩ := hxs i x hi
      exact h4
theorem open_arg_slice {d : Kd α} {t e : TypeId} {g : α → Prop} (ht : P.underlying t = some (.slice e)) (hs : P.cellsOf e = d.sz) (h : Opens P d e g) {H : Type} {enc : TypeId × Value → H} {W : World} {base b0 : Nat} {spare : Nat → Bool} {held : Bool} {r : Reach} {v : Value} {D : DataW H} {p : List MemPlace}
    (hv : Value.okWide P W r b0 t v) (hd : DataW.Trod enc P W base spare held t v D p) : ∃ A c xs, v = .slice A xs.length c ∧ xs.length ≤ c ∧ d.C W A xs.length xs ∧ ∀ x ∈ xs, g x := by
  obtain ⟨A, n, c, rfl⟩ := okWide_slice ht hv
  obtain ⟨fuel, hf⟩ := hd
  obtain ⟨xs, ⟨A', c', he, hl, hC⟩, hg⟩ := opens_slice ht hs h enc W base spare held fuel _ _ hf
  have he' : Value.slice A n c = .slice A' xs.length c' := by simpa [Value.cells] using he
  injection he' with h1 h2 h3
  subst h1 h2 h3
  exact ⟨A, c, xs, rfl, hl, hC, hg⟩
theorem opens_three {α β γ : Type} {a : Kd α} {b : Kd β} {c : Kd γ} {t : TypeId} {f0 f1 f2 : Field} {g0 : α → Prop} {g1 : β → Prop} {g2 : γ → Prop} (ht : P.underlying t = some (.struct #[f0, f1, f2]))
    (ho : f0.offset = 0 ∧ f1.offset = a.sz ∧ f2.offset = a.sz + b.sz) (hc : P.cellsOf t = a.sz + (b.sz + c.sz)) (h0 : P.cellsOf f0.type = a.sz) (h1 : P.cellsOf f1.type = b.sz) (h2 : P.cellsOf f2.type = c.sz)
    (k0 : Opens P a f0.type g0) (k1 : Opens P b f1.type g1) (k2 : Opens P c f2.type g2) : Opens P (Kd.pair a (Kd.pair b c)) t (fun x => g0 x.1 ∧ g1 x.2.1 ∧ g2 x.2.2) := by
  intro H enc W base spare held fuel cs x hx
  obtain ⟨y0, y1, y2, n, _, hl, e0, e1, e2⟩ := trod_struct3 ht hx
  rw [ho.1, h0, List.drop_zero] at e0
  rw [ho.2.1, h1] at e1
  rw [ho.2.2, h2] at e2
  obtain ⟨p0, q0, r0⟩ := k0 enc W base spare held n _ _ e0
  obtain ⟨p1, q1, r1⟩ := k1 enc W base spare held n _ _ e1
  obtain ⟨p2, q2, r2⟩ := k2 enc W base spare held n _ _ e2
  refine ⟨(p0, p1, p2), ⟨_, _, ?_, q0, ⟨_, _, rfl, q1, q2⟩⟩, r0, r1, r2⟩
  rw [hc] at hl
  rw [List.take_of_length_le (l := cs.drop (a.sz + b.sz)) (by rw [List.length_drop]; omega)]
  conv => lhs; rw [← List.take_append_drop a.sz cs]
  congr 1
  conv => lhs; rw [← List.take_append_drop b.sz (cs.drop a.sz)]
  rw [List.drop_drop]
end
end Go.Proofs.YthghcpeedmconaaDoorW.PrintWords
end
section
namespace Go.Proofs.YthghcpeedmconaaDoor.X
set_option linter.unusedVariables false
set_option linter.unusedSimpArgs false
open Go.RowKit Go.Lib Go.ChangeShapes Go.WideShapes Go.ChangeAt Go.Joins Go.Proofs.YthghcpeedmconaaDoorW.PrintWords
open Go.ChangeMaps (open_string shut_string)
set_option maxRecDepth 100000
theorem own : ownKnob Tryd.prog.godebug = none := by kernel_rfl
theorem u8extra : U8Extra Tryd.prog Tryd.laysValid_ren := ⟨by kernel_rfl, by kernel_rfl, by kernel_rfl, by kernel_rfl, by kernel_rfl, by kernel_rfl, by kernel_rfl⟩
theorem most_of {w : World} (h : w.ShapedOpen Tryd.prog) : ∃ m : Int, w.cell? ⟨2, 0, none⟩ = some (.int .i64 m) :=
  cell_of_shapedOpen_int (zero := #[.int .i64 0]) (t := 3) h (of_decide_eq_true (by kernel_rfl)) (by kernel_rfl) rfl (by kernel_rfl) (by kernel_rfl) Tryd.underlying3
def two : List (String × DataW Unit) := [("unicode/utf8.acceptRanges", Rows.laid_unicode_utf8_acceptRanges), ("unicode/utf8.first", Rows.laid_unicode_utf8_first)]
theorem tabs_of {w : World} (h : laidMetH Tryd.prog two w) (hs : w.ShapedOpen Tryd.prog) : Tabs w := by
  have h' : laidMet Tryd.prog two w := h
  refine ⟨?_, most_of hs⟩
  have h3 := Go.Lib.laidMet.reads h' (n := "unicode/utf8.first") (d := Rows.laid_unicode_utf8_first) (by simp [two])
  have h4 := Go.Lib.laidMet.reads h' (n := "unicode/utf8.acceptRanges") (d := Rows.laid_unicode_utf8_acceptRanges) (by simp [two])
  rw [show (Rows.laid_unicode_utf8_first : DataW Unit) = firstData by kernel_rfl] at h3
  rw [show (Rows.laid_unicode_utf8_acceptRanges : DataW Unit) = acceptData by kernel_rfl] at h4
  exact utf8Tabs_of_readsT (U8Types.of196 Tryd.laysValid) u8extra h3 h4
theorem laidOut : laidOutB Tryd.prog = true := by kernel_rfl
theorem i64_of {n : Int} (h : inKind .i64 n) : I64 n := by
  unfold inKind at h
  simp only [IntKind.min, IntKind.max, IntKind.signed, IntKind.bits, if_true] at h
  exact ⟨by omega, by omega⟩
def okV (x : S42) : Prop := I64 x.f0 ∧ I64 x.f1 ∧ x.f2.size ≤ 9223372036854775807
theorem opens_value : Opens Tryd.prog k42 42 okV :=
  Opens.imp (opens_iso (opens_three Tryd.underlying42 ⟨rfl, rfl, rfl⟩ (by kernel_rfl) (by kernel_rfl) (by kernel_rfl) (by kernel_rfl) (opens_int Tryd.underlying3) (opens_int Tryd.underlying2) (opens_string Tryd.underlying9)) (fun x : S42 => (x.f0, (x.f1, x.f2))) (fun p => ⟨p.1, p.2.1, p.2.2⟩) (fun _ => rfl))
    (fun x h => ⟨i64_of h.1, i64_of h.2.1, h.2.2⟩)
section
variable {H : Type} {enc : TypeId × Value → H} {W : World} {base b0 : Nat} {spare : Nat → Bool} {held : Bool} {r : Reach} {v : Value} {D : DataW H} {p : List MemPlace}
theorem open_vvalue (hv : Value.okWide Tryd.prog W r b0 42 v) (hd : DataW.Trod enc Tryd.prog W base spare held 42 v D p) : ∃ x : S42, v = .agg #[.int .i64 x.f0, .int .i64 x.f1, .string x.f2] ∧ okV x := by
  obtain ⟨cs, rfl, hsz⟩ := okWide_struct Tryd.underlying42 hv
  obtain ⟨fuel, hf⟩ := hd
  obtain ⟨x, hK, hg⟩ := opens_value enc W base spare held fuel _ _ hf
  obtain ⟨_, _, e, rfl, _, _, rfl, rfl, rfl⟩ := hK
  refine ⟨x, ?_, hg⟩
  have e' : cs.toList = [.int .i64 x.f0, .int .i64 x.f1, .string x.f2] := e
  rw [← Array.toArray_toList (xs := cs), e']
theorem open_vbytes (hv : Value.okWide Tryd.prog W r b0 47 v) (hd : DataW.Trod enc Tryd.prog W base spare held 47 v D p) : ∃ A c xs, v = .slice A xs.length c ∧ xs.length ≤ c ∧ (Kd.int .u8).C W A xs.length xs ∧ ∀ x ∈ xs, 0 ≤ x ∧ x < 256 := by
  obtain ⟨A, c, xs, h1, h2, h3, h4⟩ := open_arg_slice Tryd.underlying47 (by kernel_rfl) (opens_int Tryd.underlying5) hv hd
  refine ⟨A, c, xs, h1, h2, h3, fun x hx => ?_⟩
  have := h4 x hx
  unfold inKind at this
  simp only [IntKind.min, IntKind.max, IntKind.signed, IntKind.bits, Bool.false_eq_true, if_false] at this
  omega
end
noncomputable def laidWorld (os : Os) : World :=
  { World.doorLaid Tryd.prog 200 os with heap := (World.doorLaid Tryd.prog 200 os).heap.modify 0 fun
      | .cells _ t frozen => .cells (Go.Pinned.utf8FirstZ.map fun (n : Nat) => Value.int .u8 (n : Int)).toArray t frozen
      | o => o }
theorem laid_met (os : Os) (args : Array Value) : laidMetH Tryd.prog two ((laidWorld os).forCall (fun _ _ => 0) ⟨#[], args, []⟩).memory :=
  laidMet_of_run' 8 (by kernel_rfl) (by kernel_rfl)
end Go.Proofs.YthghcpeedmconaaDoor.X
end
section
namespace Go.Proofs.YthghcpeedmconaaDoor.rowcodeValues
open Go.ChangeShapes Go.WideShapes Go.ChangeAt Go.RowKit Go.Proofs.YthghcpeedmconaaDoor.X Go.Proofs.YthghcpeedmconaaDoorW.PrintWords
open Go.ChangeMaps (open_string shut_string)
set_option linter.unusedVariables false
set_option linter.unusedSimpArgs false
set_option maxRecDepth 100000 in
theorem reads (os : Os) {H : Type} (enc : TypeId × Value → H) : ∃ places, DataW.whole enc Tryd.prog ((laidWorld os).forCall (fun _ _ => 0) ⟨#[], #[.agg #[.int .i64 0, .int .i64 0, .string ⟨#[]⟩], .slice none 0 0], []⟩).memory Tryd.f6.params.toList Rows.rowcodeValuesSpec.vars false
    #[Value.agg #[.int .i64 0, .int .i64 0, .string ⟨#[]⟩], .slice none 0 0].toList 8 =
    some ([.agg [.lit (.int .i64 0), .lit (.int .i64 0), .lit (.string [])], .nil], [], places) :=
  ⟨[], by kernel_rfl⟩
set_option maxRecDepth 100000 in
theorem lifted (os : Os) (started : os.Started) (H : Type) (enc : TypeId × Value → H) (F : Stop.Interp) :
    ReturnsInHanded {} Tryd.checked os 6 .any ((OpenSpec.ofChange Rows.rowcodeValuesSpec).preRow enc Tryd.prog Tryd.f6 Rows.rowcodeValuesRow.domain false Rows.rowcodeValuesRow.laid) (((OpenSpec.ofChange Rows.rowcodeValuesSpec).at F).post enc Tryd.prog Tryd.f6 false true false false) := by
  obtain ⟨places, hx⟩ := reads os enc
  refine returnsInHanded_of_row (C := Tryd.checked) (s := (OpenSpec.ofChange Rows.rowcodeValuesSpec)) own started (by kernel_rfl) Tryd.func6
    (witness_row_at (enc := enc) (C := Tryd.checked) false (laidWorld os) #[.agg #[.int .i64 0, .int .i64 0, .string ⟨#[]⟩], .slice none 0 0] rfl (by kernel_rfl) (by kernel_rfl) (by kernel_rfl)
      (OpenSpec.preRow_of_cond 8 hx (by kernel_rfl) (fun k hk => by cases hk) (by kernel_rfl) (laid_met os _))) ?_
  intro W base args ds gs before hval0 hW _ hcond hsz0 hL hsh _
  have hT : Tabs W := tabs_of hL hsh
  have hval : ∀ (j : Nat) t v, Tryd.f6.params[j]? = some t → args[j]? = some v → Value.okWide Tryd.prog W .any base t v := hval0
  have hW' := hW
  have hlt0 := fun x hx => hW'.lt x hx
  obtain ⟨p, q, hA0, hV, rfl, hfz, hnd⟩ := hW
  have hA : DataW.TrodAll enc Tryd.prog W 0 (fun _ => true) true Tryd.f6.params.toList args.toList ds p := hA0
  rw [Tryd.params6] at hA hval
  obtain ⟨v0, vs0, d0, ds0, p0, q0, hargs, rfl, rfl, h0, r0⟩ := trodAll_cons hA
  obtain ⟨v1, vs1, d1, ds1, p1, q1, rfl, rfl, rfl, h1, r1⟩ := trodAll_cons r0
  obtain ⟨rfl, rfl, rfl⟩ := trodAll_nil r1
  obtain rfl : args = #[v0, v1] := by cases args; simp_all
  obtain ⟨rfl, rfl⟩ := trodVars_none hV
  have k0 := h0
  have lt0 : ∀ x ∈ p0, x.block < W.heap.size := fun x hx => by have := hlt0 x (by simp [hx]); simpa using this
  obtain ⟨a0, rfl, g0⟩ := open_vvalue (hval 0 42 v0 rfl rfl) h0
  have k1 := h1
  have lt1 : ∀ x ∈ p1, x.block < W.heap.size := fun x hx => by have := hlt0 x (by simp [hx]); simpa using this
  obtain ⟨A1, c1, a1, rfl, hc1, hr1, g1⟩ := open_vbytes (hval 1 47 v1 rfl rfl) h1
  have z1 : a1.length * 1 ≤ 140737488351232 := sized_ints (j := 1) hsz0 rfl rfl Tryd.underlying47 Tryd.underlying5 (by kernel_rfl) (by kernel_rfl) k1
  have hE := RowcodeValues_true a0.f0 a0.f1 a0.f2 a1 g0.2.1 g1 (by omega)
  obtain ⟨kk, hP⟩ := hE
  refine (locksteplaw02_RowcodeValues.calls kk a0.f0 a0.f1 a0.f2 A1 c1 a1 true W hT hr1 hc1 (hP) rfl).mono fun e W' ⟨he, bel⟩ => ?_
  subst he
  exact ⟨_, rfl, _, _, _, [], _, [], hW', trodAll_mk1 (shut_bool Tryd.underlying4 _), (trodAll_cons_mk (Below.trod laidOut (by kernel_rfl) (of_decide_eq_true (by kernel_rfl)) k0 bel lt0) (trodAll_cons_mk (Below.trod laidOut (by kernel_rfl) (of_decide_eq_true (by kernel_rfl)) k1 bel lt1) trodAll_mk0)), rfl, bel.frame _, fun h => by cases h⟩
theorem said : Rows.RowcodeValuesSaid :=
  OpenClaim.holds_of_cond 6 Tryd.f6 rfl rfl rfl rfl rfl rfl rfl ⟨rfl, rfl, rfl, rfl, rfl⟩ rfl rfl rfl rfl rfl (by kernel_rfl) Tryd.func6 (by kernel_rfl)
    (of_decide_eq_true (by kernel_rfl)) (by unfold Func.isWrapper; first | (rw [if_pos (by decide +kernel)]; kernel_rfl) | (rw [if_neg (by decide +kernel)]; exact ⟨rfl, rfl⟩))
    (fun os started H enc _ F => by rw [OpenClaim.pre_eq_preRow]; exact lifted os started H enc F)
theorem plain (f : FuncId) (fn : Func) (hf : Tryd.pinned.checked.prog.funcNamed "lockstep/locksteplaw02.RowcodeValues" = some f) (hfn : Tryd.pinned.checked.prog.funcs[f]? = some fn) :
    false = Tryd.pinned.checked.prog.looks [] ∧ ∀ (j : Nat) t, fn.params[j]? = some t → Tryd.pinned.checked.prog.wantsStandIn t = false := by
  obtain rfl : f = 6 := Option.some.inj ((show Tryd.prog.funcNamed "lockstep/locksteplaw02.RowcodeValues" = some 6 by kernel_rfl).symm.trans hf) |>.symm
  obtain rfl : fn = Tryd.f6 := (Option.some.inj (Tryd.func6.symm.trans hfn)).symm
  refine ⟨by kernel_rfl, fun j t ht => ?_⟩
  rw [Tryd.params6] at ht
  have hm := Array.mem_of_getElem? ht
  have ht' : t = 42 ∨ t = 47 := by simpa using hm
  rcases ht' with rfl | rfl
  · exact (show Tryd.prog.wantsStandIn 42 = false by kernel_rfl)
  · exact (show Tryd.prog.wantsStandIn 47 = false by kernel_rfl)
theorem card : Rows.RowcodeValuesCardSaid :=
  Claim7.holds_tied_plain_at .later [] _ _ _ _ said (fun _ h => by cases h) (by kernel_rfl) (fun _ h => by cases h) rowcodeValues_row_tie rfl ⟨rfl, rfl⟩ (by kernel_rfl) rfl plain (by kernel_rfl)
end Go.Proofs.YthghcpeedmconaaDoor.rowcodeValues
end

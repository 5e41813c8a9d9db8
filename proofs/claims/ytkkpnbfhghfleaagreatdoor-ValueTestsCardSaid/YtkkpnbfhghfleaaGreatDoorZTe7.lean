/- The given row ValueTestsCardSaid is proved: for every text and at every two values the law lockstep/locksteplaw01.ValueTests returns true and leaves its arguments as they were. Conditions: none beyond the given row's own (the listed tables hold what the program's text lays there). -/
import Derived.Test.YtkkpnbfhghfleaaGreatDoorZTe1
import Derived.Test.YtkkpnbfhghfleaaGreatDoorZTe2
import Derived.Test.YtkkpnbfhghfleaaGreatDoorZTe3
import Derived.Test.YtkkpnbfhghfleaaGreatDoorZTe4
import Derived.Test.YtkkpnbfhghfleaaGreatDoorZTe5
import Derived.Test.YtkkpnbfhghfleaaGreatDoorZTe6
import Derived.Lib.Mul64
import Derived.Laws.Bits64b
import Derived.Test.YtkkpnbfhghfleaaGreatDoorCards
import Derived.Test.YtkkpnbfhghfleaaGreatDoorTie
import Derived.Lib.LaidU8T
import Derived.Lib.LaidTab
import Derived.Lib.SmallJoins
import Derived.Shelf.Vars
import Derived.LaidMore
import Derived.OpenShut
import Derived.ShutString
import Derived.SizedLaws
import Derived.ProofKit
import Derived.Deep.DeepHandedRow
import Derived.SevenTiedAt
section
namespace Go.Proofs.YtkkpnbfhghfleaaGreatDoor.X
open Go.RowKit Go.Proofs.YtkkpnbfhghfleaaGreatDoorW.PrintWords Go.Proofs.YtkkpnbfhghfleaaGreatDoorW.PrintLast Go.Proofs.YtkkpnbfhghfleaaGreatDoorW.PrintMore
attribute [local go_sem] max2_int min2_int max_two min_two max_three min_three max_four min_four
set_option linter.unusedVariables false
set_option linter.unusedSimpArgs false
def value_Print.f (k : Nat) (a0_0 : Int) (a0_1 : Int) (a0_2 : ByteArray) : Option (ByteArray × Int) := (value_Check.f k a0_0 a0_1 a0_2).bind fun t716 => (if t716 = 0 then (if a0_0 = 0 then (some ((⟨#[78, 85, 76, 76]⟩ : ByteArray), 0)) else (if a0_0 = 1 then ((sc_FormatInt.f a0_1 10).bind fun t717 => (some (t717, 0))) else (if a0_0 = 2 then ((value_decimal.f a0_1).bind fun t718 => (some (t718, 0))) else (if a0_0 = 3 then ((strings_ReplaceAll.f a0_2 (⟨#[39]⟩ : ByteArray) (⟨#[39, 39]⟩ : ByteArray)).bind fun t719 => (if 1 + t719.size ≤ 9223372036854775807 then (if ((⟨#[39]⟩ : ByteArray) ++ t719).size + 1 ≤ 9223372036854775807 then (some (((⟨#[39]⟩ : ByteArray) ++ t719) ++ (⟨#[39]⟩ : ByteArray), 0)) else (none)) else (none))) else (if a0_1 = 1 then (some ((⟨#[84, 82, 85, 69]⟩ : ByteArray), 0)) else (some ((⟨#[70, 65, 76, 83, 69]⟩ : ByteArray), 0))))))) else (some ((⟨#[]⟩ : ByteArray), t716)))
set_option maxHeartbeats 8000000 in
set_option maxRecDepth 100000 in
theorem value_Print.calls (k : Nat) (a0_0 : Int) (a0_1 : Int) (a0_2 : ByteArray) (r1 : ByteArray) (r2 : Int) (w : World) (hT : Tabs w) (h : value_Print.f k a0_0 a0_1 a0_2 = some (r1, r2)) :
  Calls Tryz.prog 8 #[.agg #[.int .i64 a0_0, .int .i64 a0_1, .string a0_2]] w fun e w' => e = .returned (.tuple #[.string r1, .int .i64 r2]) ∧ Below w.heap.size w w' := by
 have hu23 := Tryz.underlying23
 have HT := Aside0.mk hT
 clear hT
 have HB := Aside0.mk (Below.refl w.heap.size w)
 have H : ((value_Check.f k a0_0 a0_1 a0_2).bind fun t716 => (if t716 = 0 then (if a0_0 = 0 then (some ((⟨#[78, 85, 76, 76]⟩ : ByteArray), 0)) else (if a0_0 = 1 then ((sc_FormatInt.f a0_1 10).bind fun t717 => (some (t717, 0))) else (if a0_0 = 2 then ((value_decimal.f a0_1).bind fun t718 => (some (t718, 0))) else (if a0_0 = 3 then ((strings_ReplaceAll.f a0_2 (⟨#[39]⟩ : ByteArray) (⟨#[39, 39]⟩ : ByteArray)).bind fun t719 => (if 1 + t719.size ≤ 9223372036854775807 then (if ((⟨#[39]⟩ : ByteArray) ++ t719).size + 1 ≤ 9223372036854775807 then (some (((⟨#[39]⟩ : ByteArray) ++ t719) ++ (⟨#[39]⟩ : ByteArray), 0)) else (none)) else (none))) else (if a0_1 = 1 then (some ((⟨#[84, 82, 85, 69]⟩ : ByteArray), 0)) else (some ((⟨#[70, 65, 76, 83, 69]⟩ : ByteArray), 0))))))) else (some ((⟨#[]⟩ : ByteArray), t716)))) = some (r1, r2) := h
 clear h
 replace H := Option.bind_eq_some_iff.mp H
 obtain ⟨t716, A20, H⟩ := H
 replace H : (if t716 = 0 then (if a0_0 = 0 then (some ((⟨#[78, 85, 76, 76]⟩ : ByteArray), 0)) else (if a0_0 = 1 then ((sc_FormatInt.f a0_1 10).bind fun t717 => (some (t717, 0))) else (if a0_0 = 2 then ((value_decimal.f a0_1).bind fun t718 => (some (t718, 0))) else (if a0_0 = 3 then ((strings_ReplaceAll.f a0_2 (⟨#[39]⟩ : ByteArray) (⟨#[39, 39]⟩ : ByteArray)).bind fun t719 => (if 1 + t719.size ≤ 9223372036854775807 then (if ((⟨#[39]⟩ : ByteArray) ++ t719).size + 1 ≤ 9223372036854775807 then (some (((⟨#[39]⟩ : ByteArray) ++ t719) ++ (⟨#[39]⟩ : ByteArray), 0)) else (none)) else (none))) else (if a0_1 = 1 then (some ((⟨#[84, 82, 85, 69]⟩ : ByteArray), 0)) else (some ((⟨#[70, 65, 76, 83, 69]⟩ : ByteArray), 0))))))) else (some ((⟨#[]⟩ : ByteArray), t716))) = some (r1, r2) := H
 have A2 := Aside0.mk A20
 clear A20
 by_cases c3 : t716 = 0
 ·
  rw [if_pos c3] at H
  have c3b0 : (t716 == 0) = true := beq_iff_eq.mpr c3
  have c3b1 : (t716 != 0) = false := bne_eq_false_iff_eq.mpr c3
  clear c3
  by_cases c4 : a0_0 = 0
  ·
   rw [if_pos c4] at H
   have c4b0 : (a0_0 == 0) = true := beq_iff_eq.mpr c4
   have c4b1 : (a0_0 != 0) = false := bne_eq_false_iff_eq.mpr c4
   clear c4
   simp only [Option.some.injEq, Prod.mk.injEq] at H
   obtain ⟨rfl, rfl⟩ := H
   go_enter Tryz.func8, Tryz.ntmps8
   go_wp2_with (first | ((with_reducible refine gate_dst (N := 1) rfl ?_); refine box_event ?hg (N := 1) ?hd (cs := #[.int .i64 a0_0, .int .i64 a0_1, .string a0_2]) (t := 23) ?hr ?_; (case hd => rfl); (case hg => rfl); (case hr => first | (go_simp; done) | (go_simp; rfl)); intro gb715 hg w5 hbox hb; have n0_ := Aside0.mk (below_step (by repeat (first | (with_reducible first | exact HB.out | apply below_alloc | apply pw_below_drewN | apply below_drew1) | exact HB.out)) hb); have n1_ := Aside0.mk (hbox); have n2_ := Aside0.mk ((by rw [hg]; exact (below_size (by repeat (first | (with_reducible first | exact HB.out | apply below_alloc | apply pw_below_drewN | apply below_drew1) | exact HB.out))) : w.heap.size ≤ gb715)); have n3_ := Aside0.mk ((by rw [hg]; exact (below_size (by repeat (first | (with_reducible first | exact HB.out | apply below_alloc | apply pw_below_drewN | apply below_drew1) | exact HB.out))) : w.heap.size ≤ gb715)); clear HB; have HB := n0_; have BK715 := n1_; have GW715 := n2_; have GE715 := n3_; clear n0_ n1_ n2_ n3_; clear hb hbox hg; have hcz6_0 : w5.cell? ⟨gb715, 0, none⟩ = some (.int .i64 a0_0) := (blk_cell BK715.out 0).trans rfl; have hcz6_1 : w5.cell? ⟨gb715, 1, none⟩ = some (.int .i64 a0_1) := (blk_cell BK715.out 1).trans rfl; have hcz6_2 : w5.cell? ⟨gb715, 2, none⟩ = some (.string a0_2) := (blk_cell BK715.out 2).trans rfl; have hfz6_0 := blk_frozen BK715.out 0; have hfz6_1 := blk_frozen BK715.out 1; have hfz6_2 := blk_frozen BK715.out 2) | ((with_reducible refine gate_callee (f := 30) rfl ?_); refine goesL_ (some 6) rfl rfl Tryz.func30 (by kernel_rfl) rfl #[.agg #[.int .i64 a0_0, .int .i64 a0_1, .string a0_2]] rfl (by (try simp only [List.map_toArray, List.map_cons, List.map_nil]); first | done | rfl | (simp only [List.length_drop, List.length_take]; rfl)) ?_; (with_reducible refine (value_Check.calls k a0_0 a0_1 a0_2 t716 _ ?side1 A2.out).mono ?_); (case side1 => exact Tabs.below HT.out (by repeat (first | (with_reducible first | exact HB.out | apply below_alloc | apply pw_below_drewN | apply below_drew1 | refine below_set ?_ GE715.out) | exact HB.out))); rintro e w7 ⟨rfl, hb⟩; refine ⟨_, rfl, ?_⟩; have n0_ := Aside0.mk (blk_below (g := gb715) (o := .cells #[.int .i64 a0_0, .int .i64 a0_1, .string a0_2] 23 (0, 0)) (by (with_reducible repeat (first | refine blk_drewN ?_ _ | refine blk_drew ?_ | refine blk_alloc ?_ _)); exact BK715.out) hb); have n1_ := Aside0.mk (below_step (by repeat (first | (with_reducible first | exact HB.out | apply below_alloc | apply pw_below_drewN | apply below_drew1 | refine below_set ?_ GE715.out) | exact HB.out)) hb); clear BK715; clear HB; have BK715 := n0_; have HB := n1_; clear n0_ n1_; (try clear hb); (try clear hb2); (try clear hk); (try clear hi); have hcz8_0 : w7.cell? ⟨gb715, 0, none⟩ = some (.int .i64 a0_0) := (blk_cell BK715.out 0).trans rfl; have hcz8_1 : w7.cell? ⟨gb715, 1, none⟩ = some (.int .i64 a0_1) := (blk_cell BK715.out 1).trans rfl; have hcz8_2 : w7.cell? ⟨gb715, 2, none⟩ = some (.string a0_2) := (blk_cell BK715.out 2).trans rfl; have hfz8_0 := blk_frozen BK715.out 0; have hfz8_1 := blk_frozen BK715.out 1; have hfz8_2 := blk_frozen BK715.out 2))
   go_ret2
   exact ⟨by first | rfl | (simp [errW_none, errW_some] <;> rfl) | (simp [*, errW_none, errW_some] <;> rfl), by repeat (first | (with_reducible first | exact HB.out | apply below_alloc | apply pw_below_drewN | apply below_drew1 | refine below_set ?_ GE715.out) | exact HB.out)⟩
  ·
   rw [if_neg c4] at H
   have c4b0 : (a0_0 == 0) = false := beq_eq_false_iff_ne.mpr c4
   have c4b1 : (a0_0 != 0) = true := bne_iff_ne.mpr c4
   by_cases c9 : a0_0 = 1
   ·
    rw [if_pos c9] at H
    have c9b0 : (a0_0 == 1) = true := beq_iff_eq.mpr c9
    have c9b1 : (a0_0 != 1) = false := bne_eq_false_iff_eq.mpr c9
    clear c9
    replace H := Option.bind_eq_some_iff.mp H
    obtain ⟨t717, A100, H⟩ := H
    replace H : (some (t717, 0)) = some (r1, r2) := H
    have A10 := Aside0.mk A100
    clear A100
    simp only [Option.some.injEq, Prod.mk.injEq] at H
    obtain ⟨rfl, rfl⟩ := H
    go_enter Tryz.func8, Tryz.ntmps8
    go_wp2_with (first | ((with_reducible refine gate_dst (N := 1) rfl ?_); refine box_event ?hg (N := 1) ?hd (cs := #[.int .i64 a0_0, .int .i64 a0_1, .string a0_2]) (t := 23) ?hr ?_; (case hd => rfl); (case hg => rfl); (case hr => first | (go_simp; done) | (go_simp; rfl)); intro gb715 hg w11 hbox hb; have n0_ := Aside0.mk (below_step (by repeat (first | (with_reducible first | exact HB.out | apply below_alloc | apply pw_below_drewN | apply below_drew1) | exact HB.out)) hb); have n1_ := Aside0.mk (hbox); have n2_ := Aside0.mk ((by rw [hg]; exact (below_size (by repeat (first | (with_reducible first | exact HB.out | apply below_alloc | apply pw_below_drewN | apply below_drew1) | exact HB.out))) : w.heap.size ≤ gb715)); have n3_ := Aside0.mk ((by rw [hg]; exact (below_size (by repeat (first | (with_reducible first | exact HB.out | apply below_alloc | apply pw_below_drewN | apply below_drew1) | exact HB.out))) : w.heap.size ≤ gb715)); clear HB; have HB := n0_; have BK715 := n1_; have GW715 := n2_; have GE715 := n3_; clear n0_ n1_ n2_ n3_; clear hb hbox hg; have hcz12_0 : w11.cell? ⟨gb715, 0, none⟩ = some (.int .i64 a0_0) := (blk_cell BK715.out 0).trans rfl; have hcz12_1 : w11.cell? ⟨gb715, 1, none⟩ = some (.int .i64 a0_1) := (blk_cell BK715.out 1).trans rfl; have hcz12_2 : w11.cell? ⟨gb715, 2, none⟩ = some (.string a0_2) := (blk_cell BK715.out 2).trans rfl; have hfz12_0 := blk_frozen BK715.out 0; have hfz12_1 := blk_frozen BK715.out 1; have hfz12_2 := blk_frozen BK715.out 2) | ((with_reducible refine gate_callee (f := 30) rfl ?_); refine goesL_ (some 6) rfl rfl Tryz.func30 (by kernel_rfl) rfl #[.agg #[.int .i64 a0_0, .int .i64 a0_1, .string a0_2]] rfl (by (try simp only [List.map_toArray, List.map_cons, List.map_nil]); first | done | rfl | (simp only [List.length_drop, List.length_take]; rfl)) ?_; (with_reducible refine (value_Check.calls k a0_0 a0_1 a0_2 t716 _ ?side1 A2.out).mono ?_); (case side1 => exact Tabs.below HT.out (by repeat (first | (with_reducible first | exact HB.out | apply below_alloc | apply pw_below_drewN | apply below_drew1 | refine below_set ?_ GE715.out) | exact HB.out))); rintro e w13 ⟨rfl, hb⟩; refine ⟨_, rfl, ?_⟩; have n0_ := Aside0.mk (blk_below (g := gb715) (o := .cells #[.int .i64 a0_0, .int .i64 a0_1, .string a0_2] 23 (0, 0)) (by (with_reducible repeat (first | refine blk_drewN ?_ _ | refine blk_drew ?_ | refine blk_alloc ?_ _)); exact BK715.out) hb); have n1_ := Aside0.mk (below_step (by repeat (first | (with_reducible first | exact HB.out | apply below_alloc | apply pw_below_drewN | apply below_drew1 | refine below_set ?_ GE715.out) | exact HB.out)) hb); clear BK715; clear HB; have BK715 := n0_; have HB := n1_; clear n0_ n1_; (try clear hb); (try clear hb2); (try clear hk); (try clear hi); have hcz14_0 : w13.cell? ⟨gb715, 0, none⟩ = some (.int .i64 a0_0) := (blk_cell BK715.out 0).trans rfl; have hcz14_1 : w13.cell? ⟨gb715, 1, none⟩ = some (.int .i64 a0_1) := (blk_cell BK715.out 1).trans rfl; have hcz14_2 : w13.cell? ⟨gb715, 2, none⟩ = some (.string a0_2) := (blk_cell BK715.out 2).trans rfl; have hfz14_0 := blk_frozen BK715.out 0; have hfz14_1 := blk_frozen BK715.out 1; have hfz14_2 := blk_frozen BK715.out 2) | ((with_reducible refine gate_callee (f := 31) rfl ?_); refine goesL_ (some 18) rfl rfl Tryz.func31 (by kernel_rfl) rfl #[.int .i64 a0_1, .int .i64 10] rfl (by (try simp only [List.map_toArray, List.map_cons, List.map_nil]); first | done | rfl | (simp only [List.length_drop, List.length_take]; rfl)) ?_; (with_reducible refine (sc_FormatInt.calls a0_1 10 t717 _ ?side1 A10.out).mono ?_); (case side1 => exact Tabs.below HT.out (by repeat (first | (with_reducible first | exact HB.out | apply below_alloc | apply pw_below_drewN | apply below_drew1 | refine below_set ?_ GE715.out) | exact HB.out))); rintro e w15 ⟨rfl, hb⟩; refine ⟨_, rfl, ?_⟩; have n0_ := Aside0.mk (blk_below (g := gb715) (o := .cells #[.int .i64 a0_0, .int .i64 a0_1, .string a0_2] 23 (0, 0)) (by (with_reducible repeat (first | refine blk_drewN ?_ _ | refine blk_drew ?_ | refine blk_alloc ?_ _)); exact BK715.out) hb); have n1_ := Aside0.mk (below_step (by repeat (first | (with_reducible first | exact HB.out | apply below_alloc | apply pw_below_drewN | apply below_drew1 | refine below_set ?_ GE715.out) | exact HB.out)) hb); clear BK715; clear HB; have BK715 := n0_; have HB := n1_; clear n0_ n1_; (try clear hb); (try clear hb2); (try clear hk); (try clear hi)))
    go_ret2
    exact ⟨by first | rfl | (simp [errW_none, errW_some] <;> rfl) | (simp [*, errW_none, errW_some] <;> rfl), by repeat (first | (with_reducible first | exact HB.out | apply below_alloc | apply pw_below_drewN | apply below_drew1 | refine below_set ?_ GE715.out) | exact HB.out)⟩
   ·
    rw [if_neg c9] at H
    have c9b0 : (a0_0 == 1) = false := beq_eq_false_iff_ne.mpr c9
    have c9b1 : (a0_0 != 1) = true := bne_iff_ne.mpr c9
    by_cases c16 : a0_0 = 2
    ·
     rw [if_pos c16] at H
     have c16b0 : (a0_0 == 2) = true := beq_iff_eq.mpr c16
     have c16b1 : (a0_0 != 2) = false := bne_eq_false_iff_eq.mpr c16
     clear c16
     replace H := Option.bind_eq_some_iff.mp H
     obtain ⟨t718, A170, H⟩ := H
     replace H : (some (t718, 0)) = some (r1, r2) := H
     have A17 := Aside0.mk A170
     clear A170
     simp only [Option.some.injEq, Prod.mk.injEq] at H
     obtain ⟨rfl, rfl⟩ := H
     go_enter Tryz.func8, Tryz.ntmps8
     go_wp2_with (first | ((with_reducible refine gate_dst (N := 1) rfl ?_); refine box_event ?hg (N := 1) ?hd (cs := #[.int .i64 a0_0, .int .i64 a0_1, .string a0_2]) (t := 23) ?hr ?_; (case hd => rfl); (case hg => rfl); (case hr => first | (go_simp; done) | (go_simp; rfl)); intro gb715 hg w18 hbox hb; have n0_ := Aside0.mk (below_step (by repeat (first | (with_reducible first | exact HB.out | apply below_alloc | apply pw_below_drewN | apply below_drew1) | exact HB.out)) hb); have n1_ := Aside0.mk (hbox); have n2_ := Aside0.mk ((by rw [hg]; exact (below_size (by repeat (first | (with_reducible first | exact HB.out | apply below_alloc | apply pw_below_drewN | apply below_drew1) | exact HB.out))) : w.heap.size ≤ gb715)); have n3_ := Aside0.mk ((by rw [hg]; exact (below_size (by repeat (first | (with_reducible first | exact HB.out | apply below_alloc | apply pw_below_drewN | apply below_drew1) | exact HB.out))) : w.heap.size ≤ gb715)); clear HB; have HB := n0_; have BK715 := n1_; have GW715 := n2_; have GE715 := n3_; clear n0_ n1_ n2_ n3_; clear hb hbox hg; have hcz19_0 : w18.cell? ⟨gb715, 0, none⟩ = some (.int .i64 a0_0) := (blk_cell BK715.out 0).trans rfl; have hcz19_1 : w18.cell? ⟨gb715, 1, none⟩ = some (.int .i64 a0_1) := (blk_cell BK715.out 1).trans rfl; have hcz19_2 : w18.cell? ⟨gb715, 2, none⟩ = some (.string a0_2) := (blk_cell BK715.out 2).trans rfl; have hfz19_0 := blk_frozen BK715.out 0; have hfz19_1 := blk_frozen BK715.out 1; have hfz19_2 := blk_frozen BK715.out 2) | ((with_reducible refine gate_callee (f := 30) rfl ?_); refine goesL_ (some 6) rfl rfl Tryz.func30 (by kernel_rfl) rfl #[.agg #[.int .i64 a0_0, .int .i64 a0_1, .string a0_2]] rfl (by (try simp only [List.map_toArray, List.map_cons, List.map_nil]); first | done | rfl | (simp only [List.length_drop, List.length_take]; rfl)) ?_; (with_reducible refine (value_Check.calls k a0_0 a0_1 a0_2 t716 _ ?side1 A2.out).mono ?_); (case side1 => exact Tabs.below HT.out (by repeat (first | (with_reducible first | exact HB.out | apply below_alloc | apply pw_below_drewN | apply below_drew1 | refine below_set ?_ GE715.out) | exact HB.out))); rintro e w20 ⟨rfl, hb⟩; refine ⟨_, rfl, ?_⟩; have n0_ := Aside0.mk (blk_below (g := gb715) (o := .cells #[.int .i64 a0_0, .int .i64 a0_1, .string a0_2] 23 (0, 0)) (by (with_reducible repeat (first | refine blk_drewN ?_ _ | refine blk_drew ?_ | refine blk_alloc ?_ _)); exact BK715.out) hb); have n1_ := Aside0.mk (below_step (by repeat (first | (with_reducible first | exact HB.out | apply below_alloc | apply pw_below_drewN | apply below_drew1 | refine below_set ?_ GE715.out) | exact HB.out)) hb); clear BK715; clear HB; have BK715 := n0_; have HB := n1_; clear n0_ n1_; (try clear hb); (try clear hb2); (try clear hk); (try clear hi); have hcz21_0 : w20.cell? ⟨gb715, 0, none⟩ = some (.int .i64 a0_0) := (blk_cell BK715.out 0).trans rfl; have hcz21_1 : w20.cell? ⟨gb715, 1, none⟩ = some (.int .i64 a0_1) := (blk_cell BK715.out 1).trans rfl; have hcz21_2 : w20.cell? ⟨gb715, 2, none⟩ = some (.string a0_2) := (blk_cell BK715.out 2).trans rfl; have hfz21_0 := blk_frozen BK715.out 0; have hfz21_1 := blk_frozen BK715.out 1; have hfz21_2 := blk_frozen BK715.out 2) | ((with_reducible refine gate_callee (f := 32) rfl ?_); refine goesL_ (some 23) rfl rfl Tryz.func32 (by kernel_rfl) rfl #[.int .i64 a0_1] rfl (by (try simp only [List.map_toArray, List.map_cons, List.map_nil]); first | done | rfl | (simp only [List.length_drop, List.length_take]; rfl)) ?_; (with_reducible refine (value_decimal.calls a0_1 t718 _ ?side1 A17.out).mono ?_); (case side1 => exact Tabs.below HT.out (by repeat (first | (with_reducible first | exact HB.out | apply below_alloc | apply pw_below_drewN | apply below_drew1 | refine below_set ?_ GE715.out) | exact HB.out))); rintro e w22 ⟨rfl, hb⟩; refine ⟨_, rfl, ?_⟩; have n0_ := Aside0.mk (blk_below (g := gb715) (o := .cells #[.int .i64 a0_0, .int .i64 a0_1, .string a0_2] 23 (0, 0)) (by (with_reducible repeat (first | refine blk_drewN ?_ _ | refine blk_drew ?_ | refine blk_alloc ?_ _)); exact BK715.out) hb); have n1_ := Aside0.mk (below_step (by repeat (first | (with_reducible first | exact HB.out | apply below_alloc | apply pw_below_drewN | apply below_drew1 | refine below_set ?_ GE715.out) | exact HB.out)) hb); clear BK715; clear HB; have BK715 := n0_; have HB := n1_; clear n0_ n1_; (try clear hb); (try clear hb2); (try clear hk); (try clear hi)))
     go_ret2
     exact ⟨by first | rfl | (simp [errW_none, errW_some] <;> rfl) | (simp [*, errW_none, errW_some] <;> rfl), by repeat (first | (with_reducible first | exact HB.out | apply below_alloc | apply pw_below_drewN | apply below_drew1 | refine below_set ?_ GE715.out) | exact HB.out)⟩
    ·
     rw [if_neg c16] at H
     have c16b0 : (a0_0 == 2) = false := beq_eq_false_iff_ne.mpr c16
     have c16b1 : (a0_0 != 2) = true := bne_iff_ne.mpr c16
     by_cases c23 : a0_0 = 3
     ·
      rw [if_pos c23] at H
      have c23b0 : (a0_0 == 3) = true := beq_iff_eq.mpr c23
      have c23b1 : (a0_0 != 3) = false := bne_eq_false_iff_eq.mpr c23
      clear c23
      replace H := Option.bind_eq_some_iff.mp H
      obtain ⟨t719, A240, H⟩ := H
      replace H : (if 1 + t719.size ≤ 9223372036854775807 then (if ((⟨#[39]⟩ : ByteArray) ++ t719).size + 1 ≤ 9223372036854775807 then (some (((⟨#[39]⟩ : ByteArray) ++ t719) ++ (⟨#[39]⟩ : ByteArray), 0)) else (none)) else (none)) = some (r1, r2) := H
      have A24 := Aside0.mk A240
      clear A240
      by_cases c25 : 1 + t719.size ≤ 9223372036854775807
      ·
       rw [if_pos c25] at H
       have c25b0 := eq_true c25
       have c25b1 : decide (1 + t719.size ≤ 9223372036854775807) = true := decide_eq_true c25
       try have c25b2 : (9223372036854775807 < 1 + t719.size) = False := eq_false (Nat.not_lt.2 c25)
       by_cases c26 : ((⟨#[39]⟩ : ByteArray) ++ t719).size + 1 ≤ 9223372036854775807
       ·
        rw [if_pos c26] at H
        have c26b0 := eq_true c26
        have c26b1 : decide (((⟨#[39]⟩ : ByteArray) ++ t719).size + 1 ≤ 9223372036854775807) = true := decide_eq_true c26
        try have c26b2 : (9223372036854775807 < ((⟨#[39]⟩ : ByteArray) ++ t719).size + 1) = False := eq_false (Nat.not_lt.2 c26)
        have c26m : 1 + t719.size + 1 ≤ 9223372036854775807 := by have h_ := c26; simp only [ByteArray.size_append, (show (⟨#[39]⟩ : ByteArray).size = 1 from rfl)] at h_; omega
        have c26m1 := eq_true c26m
        have c26m2 : decide (1 + t719.size + 1 ≤ 9223372036854775807) = true := decide_eq_true c26m
        have c26m3 : (9223372036854775807 < 1 + t719.size + 1) = False := eq_false (Nat.not_lt.2 c26m)
        clear c26m
        simp only [Option.some.injEq, Prod.mk.injEq] at H
        obtain ⟨rfl, rfl⟩ := H
        go_enter Tryz.func8, Tryz.ntmps8
        go_wp2_with (first | ((with_reducible refine gate_dst (N := 1) rfl ?_); refine box_event ?hg (N := 1) ?hd (cs := #[.int .i64 a0_0, .int .i64 a0_1, .string a0_2]) (t := 23) ?hr ?_; (case hd => rfl); (case hg => rfl); (case hr => first | (go_simp; done) | (go_simp; rfl)); intro gb715 hg w27 hbox hb; have n0_ := Aside0.mk (below_step (by repeat (first | (with_reducible first | exact HB.out | apply below_alloc | apply pw_below_drewN | apply below_drew1) | exact HB.out)) hb); have n1_ := Aside0.mk (hbox); have n2_ := Aside0.mk ((by rw [hg]; exact (below_size (by repeat (first | (with_reducible first | exact HB.out | apply below_alloc | apply pw_below_drewN | apply below_drew1) | exact HB.out))) : w.heap.size ≤ gb715)); have n3_ := Aside0.mk ((by rw [hg]; exact (below_size (by repeat (first | (with_reducible first | exact HB.out | apply below_alloc | apply pw_below_drewN | apply below_drew1) | exact HB.out))) : w.heap.size ≤ gb715)); clear HB; have HB := n0_; have BK715 := n1_; have GW715 := n2_; have GE715 := n3_; clear n0_ n1_ n2_ n3_; clear hb hbox hg; have hcz28_0 : w27.cell? ⟨gb715, 0, none⟩ = some (.int .i64 a0_0) := (blk_cell BK715.out 0).trans rfl; have hcz28_1 : w27.cell? ⟨gb715, 1, none⟩ = some (.int .i64 a0_1) := (blk_cell BK715.out 1).trans rfl; have hcz28_2 : w27.cell? ⟨gb715, 2, none⟩ = some (.string a0_2) := (blk_cell BK715.out 2).trans rfl; have hfz28_0 := blk_frozen BK715.out 0; have hfz28_1 := blk_frozen BK715.out 1; have hfz28_2 := blk_frozen BK715.out 2) | ((with_reducible refine gate_callee (f := 30) rfl ?_); refine goesL_ (some 6) rfl rfl Tryz.func30 (by kernel_rfl) rfl #[.agg #[.int .i64 a0_0, .int .i64 a0_1, .string a0_2]] rfl (by (try simp only [List.map_toArray, List.map_cons, List.map_nil]); first | done | rfl | (simp only [List.length_drop, List.length_take]; rfl)) ?_; (with_reducible refine (value_Check.calls k a0_0 a0_1 a0_2 t716 _ ?side1 A2.out).mono ?_); (case side1 => exact Tabs.below HT.out (by repeat (first | (with_reducible first | exact HB.out | apply below_alloc | apply pw_below_drewN | apply below_drew1 | refine below_set ?_ GE715.out) | exact HB.out))); rintro e w29 ⟨rfl, hb⟩; refine ⟨_, rfl, ?_⟩; have n0_ := Aside0.mk (blk_below (g := gb715) (o := .cells #[.int .i64 a0_0, .int .i64 a0_1, .string a0_2] 23 (0, 0)) (by (with_reducible repeat (first | refine blk_drewN ?_ _ | refine blk_drew ?_ | refine blk_alloc ?_ _)); exact BK715.out) hb); have n1_ := Aside0.mk (below_step (by repeat (first | (with_reducible first | exact HB.out | apply below_alloc | apply pw_below_drewN | apply below_drew1 | refine below_set ?_ GE715.out) | exact HB.out)) hb); clear BK715; clear HB; have BK715 := n0_; have HB := n1_; clear n0_ n1_; (try clear hb); (try clear hb2); (try clear hk); (try clear hi); have hcz30_0 : w29.cell? ⟨gb715, 0, none⟩ = some (.int .i64 a0_0) := (blk_cell BK715.out 0).trans rfl; have hcz30_1 : w29.cell? ⟨gb715, 1, none⟩ = some (.int .i64 a0_1) := (blk_cell BK715.out 1).trans rfl; have hcz30_2 : w29.cell? ⟨gb715, 2, none⟩ = some (.string a0_2) := (blk_cell BK715.out 2).trans rfl; have hfz30_0 := blk_frozen BK715.out 0; have hfz30_1 := blk_frozen BK715.out 1; have hfz30_2 := blk_frozen BK715.out 2) | ((with_reducible refine gate_callee (f := 33) rfl ?_); refine goesL_ (some 28) rfl rfl Tryz.func33 (by kernel_rfl) rfl #[.string a0_2, .string (⟨#[39]⟩ : ByteArray), .string (⟨#[39, 39]⟩ : ByteArray)] rfl (by (try simp only [List.map_toArray, List.map_cons, List.map_nil]); first | done | rfl | (simp only [List.length_drop, List.length_take]; rfl)) ?_; (with_reducible refine (strings_ReplaceAll.calls a0_2 (⟨#[39]⟩ : ByteArray) (⟨#[39, 39]⟩ : ByteArray) t719 _ ?side1 A24.out).mono ?_); (case side1 => exact Tabs.below HT.out (by repeat (first | (with_reducible first | exact HB.out | apply below_alloc | apply pw_below_drewN | apply below_drew1 | refine below_set ?_ GE715.out) | exact HB.out))); rintro e w31 ⟨rfl, hb⟩; refine ⟨_, rfl, ?_⟩; have n0_ := Aside0.mk (blk_below (g := gb715) (o := .cells #[.int .i64 a0_0, .int .i64 a0_1, .string a0_2] 23 (0, 0)) (by (with_reducible repeat (first | refine blk_drewN ?_ _ | refine blk_drew ?_ | refine blk_alloc ?_ _)); exact BK715.out) hb); have n1_ := Aside0.mk (below_step (by repeat (first | (with_reducible first | exact HB.out | apply below_alloc | apply pw_below_drewN | apply below_drew1 | refine below_set ?_ GE715.out) | exact HB.out)) hb); clear BK715; clear HB; have BK715 := n0_; have HB := n1_; clear n0_ n1_; (try clear hb); (try clear hb2); (try clear hk); (try clear hi)))
        go_ret2
        exact ⟨by first | rfl | (simp [errW_none, errW_some] <;> rfl) | (simp [*, errW_none, errW_some] <;> rfl), by repeat (first | (with_reducible first | exact HB.out | apply below_alloc | apply pw_below_drewN | apply below_drew1 | refine below_set ?_ GE715.out) | exact HB.out)⟩
       ·
        rw [if_neg c26] at H
        exact absurd H (by simp)
      ·
       rw [if_neg c25] at H
       exact absurd H (by simp)
     ·
      rw [if_neg c23] at H
      have c23b0 : (a0_0 == 3) = false := beq_eq_false_iff_ne.mpr c23
      have c23b1 : (a0_0 != 3) = true := bne_iff_ne.mpr c23
      by_cases c32 : a0_1 = 1
      ·
       rw [if_pos c32] at H
       have c32b0 : (a0_1 == 1) = true := beq_iff_eq.mpr c32
       have c32b1 : (a0_1 != 1) = false := bne_eq_false_iff_eq.mpr c32
       clear c32
       simp only [Option.some.injEq, Prod.mk.injEq] at H
       obtain ⟨rfl, rfl⟩ := H
       go_enter Tryz.func8, Tryz.ntmps8
       go_wp2_with (first | ((with_reducible refine gate_dst (N := 1) rfl ?_); refine box_event ?hg (N := 1) ?hd (cs := #[.int .i64 a0_0, .int .i64 a0_1, .string a0_2]) (t := 23) ?hr ?_; (case hd => rfl); (case hg => rfl); (case hr => first | (go_simp; done) | (go_simp; rfl)); intro gb715 hg w33 hbox hb; have n0_ := Aside0.mk (below_step (by repeat (first | (with_reducible first | exact HB.out | apply below_alloc | apply pw_below_drewN | apply below_drew1) | exact HB.out)) hb); have n1_ := Aside0.mk (hbox); have n2_ := Aside0.mk ((by rw [hg]; exact (below_size (by repeat (first | (with_reducible first | exact HB.out | apply below_alloc | apply pw_below_drewN | apply below_drew1) | exact HB.out))) : w.heap.size ≤ gb715)); have n3_ := Aside0.mk ((by rw [hg]; exact (below_size (by repeat (first | (with_reducible first | exact HB.out | apply below_alloc | apply pw_below_drewN | apply below_drew1) | exact HB.out))) : w.heap.size ≤ gb715)); clear HB; have HB := n0_; have BK715 := n1_; have GW715 := n2_; have GE715 := n3_; clear n0_ n1_ n2_ n3_; clear hb hbox hg; have hcz34_0 : w33.cell? ⟨gb715, 0, none⟩ = some (.int .i64 a0_0) := (blk_cell BK715.out 0).trans rfl; have hcz34_1 : w33.cell? ⟨gb715, 1, none⟩ = some (.int .i64 a0_1) := (blk_cell BK715.out 1).trans rfl; have hcz34_2 : w33.cell? ⟨gb715, 2, none⟩ = some (.string a0_2) := (blk_cell BK715.out 2).trans rfl; have hfz34_0 := blk_frozen BK715.out 0; have hfz34_1 := blk_frozen BK715.out 1; have hfz34_2 := blk_frozen BK715.out 2) | ((with_reducible refine gate_callee (f := 30) rfl ?_); refine goesL_ (some 6) rfl rfl Tryz.func30 (by kernel_rfl) rfl #[.agg #[.int .i64 a0_0, .int .i64 a0_1, .string a0_2]] rfl (by (try simp only [List.map_toArray, List.map_cons, List.map_nil]); first | done | rfl | (simp only [List.length_drop, List.length_take]; rfl)) ?_; (with_reducible refine (value_Check.calls k a0_0 a0_1 a0_2 t716 _ ?side1 A2.out).mono ?_); (case side1 => exact Tabs.below HT.out (by repeat (first | (with_reducible first | exact HB.out | apply below_alloc | apply pw_below_drewN | apply below_drew1 | refine below_set ?_ GE715.out) | exact HB.out))); rintro e w35 ⟨rfl, hb⟩; refine ⟨_, rfl, ?_⟩; have n0_ := Aside0.mk (blk_below (g := gb715) (o := .cells #[.int .i64 a0_0, .int .i64 a0_1, .string a0_2] 23 (0, 0)) (by (with_reducible repeat (first | refine blk_drewN ?_ _ | refine blk_drew ?_ | refine blk_alloc ?_ _)); exact BK715.out) hb); have n1_ := Aside0.mk (below_step (by repeat (first | (with_reducible first | exact HB.out | apply below_alloc | apply pw_below_drewN | apply below_drew1 | refine below_set ?_ GE715.out) | exact HB.out)) hb); clear BK715; clear HB; have BK715 := n0_; have HB := n1_; clear n0_ n1_; (try clear hb); (try clear hb2); (try clear hk); (try clear hi); have hcz36_0 : w35.cell? ⟨gb715, 0, none⟩ = some (.int .i64 a0_0) := (blk_cell BK715.out 0).trans rfl; have hcz36_1 : w35.cell? ⟨gb715, 1, none⟩ = some (.int .i64 a0_1) := (blk_cell BK715.out 1).trans rfl; have hcz36_2 : w35.cell? ⟨gb715, 2, none⟩ = some (.string a0_2) := (blk_cell BK715.out 2).trans rfl; have hfz36_0 := blk_frozen BK715.out 0; have hfz36_1 := blk_frozen BK715.out 1; have hfz36_2 := blk_frozen BK715.out 2))
       go_ret2
       exact ⟨by first | rfl | (simp [errW_none, errW_some] <;> rfl) | (simp [*, errW_none, errW_some] <;> rfl), by repeat (first | (with_reducible first | exact HB.out | apply below_alloc | apply pw_below_drewN | apply below_drew1 | refine below_set ?_ GE715.out) | exact HB.out)⟩
      ·
       rw [if_neg c32] at H
       have c32b0 : (a0_1 == 1) = false := beq_eq_false_iff_ne.mpr c32
       have c32b1 : (a0_1 != 1) = true := bne_iff_ne.mpr c32
       simp only [Option.some.injEq, Prod.mk.injEq] at H
       obtain ⟨rfl, rfl⟩ := H
       go_enter Tryz.func8, Tryz.ntmps8
       go_wp2_with (first | ((with_reducible refine gate_dst (N := 1) rfl ?_); refine box_event ?hg (N := 1) ?hd (cs := #[.int .i64 a0_0, .int .i64 a0_1, .string a0_2]) (t := 23) ?hr ?_; (case hd => rfl); (case hg => rfl); (case hr => first | (go_simp; done) | (go_simp; rfl)); intro gb715 hg w37 hbox hb; have n0_ := Aside0.mk (below_step (by repeat (first | (with_reducible first | exact HB.out | apply below_alloc | apply pw_below_drewN | apply below_drew1) | exact HB.out)) hb); have n1_ := Aside0.mk (hbox); have n2_ := Aside0.mk ((by rw [hg]; exact (below_size (by repeat (first | (with_reducible first | exact HB.out | apply below_alloc | apply pw_below_drewN | apply below_drew1) | exact HB.out))) : w.heap.size ≤ gb715)); have n3_ := Aside0.mk ((by rw [hg]; exact (below_size (by repeat (first | (with_reducible first | exact HB.out | apply below_alloc | apply pw_below_drewN | apply below_drew1) | exact HB.out))) : w.heap.size ≤ gb715)); clear HB; have HB := n0_; have BK715 := n1_; have GW715 := n2_; have GE715 := n3_; clear n0_ n1_ n2_ n3_; clear hb hbox hg; have hcz38_0 : w37.cell? ⟨gb715, 0, none⟩ = some (.int .i64 a0_0) := (blk_cell BK715.out 0).trans rfl; have hcz38_1 : w37.cell? ⟨gb715, 1, none⟩ = some (.int .i64 a0_1) := (blk_cell BK715.out 1).trans rfl; have hcz38_2 : w37.cell? ⟨gb715, 2, none⟩ = some (.string a0_2) := (blk_cell BK715.out 2).trans rfl; have hfz38_0 := blk_frozen BK715.out 0; have hfz38_1 := blk_frozen BK715.out 1; have hfz38_2 := blk_frozen BK715.out 2) | ((with_reducible refine gate_callee (f := 30) rfl ?_); refine goesL_ (some 6) rfl rfl Tryz.func30 (by kernel_rfl) rfl #[.agg #[.int .i64 a0_0, .int .i64 a0_1, .string a0_2]] rfl (by (try simp only [List.map_toArray, List.map_cons, List.map_nil]); first | done | rfl | (simp only [List.length_drop, List.length_take]; rfl)) ?_; (with_reducible refine (value_Check.calls k a0_0 a0_1 a0_2 t716 _ ?side1 A2.out).mono ?_); (case side1 => exact Tabs.below HT.out (by repeat (first | (with_reducible first | exact HB.out | apply below_alloc | apply pw_below_drewN | apply below_drew1 | refine below_set ?_ GE715.out) | exact HB.out))); rintro e w39 ⟨rfl, hb⟩; refine ⟨_, rfl, ?_⟩; have n0_ := Aside0.mk (blk_below (g := gb715) (o := .cells #[.int .i64 a0_0, .int .i64 a0_1, .string a0_2] 23 (0, 0)) (by (with_reducible repeat (first | refine blk_drewN ?_ _ | refine blk_drew ?_ | refine blk_alloc ?_ _)); exact BK715.out) hb); have n1_ := Aside0.mk (below_step (by repeat (first | (with_reducible first | exact HB.out | apply below_alloc | apply pw_below_drewN | apply below_drew1 | refine below_set ?_ GE715.out) | exact HB.out)) hb); clear BK715; clear HB; have BK715 := n0_; have HB := n1_; clear n0_ n1_; (try clear hb); (try clear hb2); (try clear hk); (try clear hi); have hcz40_0 : w39.cell? ⟨gb715, 0, none⟩ = some (.int .i64 a0_0) := (blk_cell BK715.out 0).trans rfl; have hcz40_1 : w39.cell? ⟨gb715, 1, none⟩ = some (.int .i64 a0_1) := (blk_cell BK715.out 1).trans rfl; have hcz40_2 : w39.cell? ⟨gb715, 2, none⟩ = some (.string a0_2) := (blk_cell BK715.out 2).trans rfl; have hfz40_0 := blk_frozen BK715.out 0; have hfz40_1 := blk_frozen BK715.out 1; have hfz40_2 := blk_frozen BK715.out 2))
       go_ret2
       exact ⟨by first | rfl | (simp [errW_none, errW_some] <;> rfl) | (simp [*, errW_none, errW_some] <;> rfl), by repeat (first | (with_reducible first | exact HB.out | apply below_alloc | apply pw_below_drewN | apply below_drew1 | refine below_set ?_ GE715.out) | exact HB.out)⟩
 ·
  rw [if_neg c3] at H
  have c3b0 : (t716 == 0) = false := beq_eq_false_iff_ne.mpr c3
  have c3b1 : (t716 != 0) = true := bne_iff_ne.mpr c3
  simp only [Option.some.injEq, Prod.mk.injEq] at H
  obtain ⟨rfl, rfl⟩ := H
  go_enter Tryz.func8, Tryz.ntmps8
  go_wp2_with (first | ((with_reducible refine gate_dst (N := 1) rfl ?_); refine box_event ?hg (N := 1) ?hd (cs := #[.int .i64 a0_0, .int .i64 a0_1, .string a0_2]) (t := 23) ?hr ?_; (case hd => rfl); (case hg => rfl); (case hr => first | (go_simp; done) | (go_simp; rfl)); intro gb715 hg w41 hbox hb; have n0_ := Aside0.mk (below_step (by repeat (first | (with_reducible first | exact HB.out | apply below_alloc | apply pw_below_drewN | apply below_drew1) | exact HB.out)) hb); have n1_ := Aside0.mk (hbox); have n2_ := Aside0.mk ((by rw [hg]; exact (below_size (by repeat (first | (with_reducible first | exact HB.out | apply below_alloc | apply pw_below_drewN | apply below_drew1) | exact HB.out))) : w.heap.size ≤ gb715)); have n3_ := Aside0.mk ((by rw [hg]; exact (below_size (by repeat (first | (with_reducible first | exact HB.out | apply below_alloc | apply pw_below_drewN | apply below_drew1) | exact HB.out))) : w.heap.size ≤ gb715)); clear HB; have HB := n0_; have BK715 := n1_; have GW715 := n2_; have GE715 := n3_; clear n0_ n1_ n2_ n3_; clear hb hbox hg; have hcz42_0 : w41.cell? ⟨gb715, 0, none⟩ = some (.int .i64 a0_0) := (blk_cell BK715.out 0).trans rfl; have hcz42_1 : w41.cell? ⟨gb715, 1, none⟩ = some (.int .i64 a0_1) := (blk_cell BK715.out 1).trans rfl; have hcz42_2 : w41.cell? ⟨gb715, 2, none⟩ = some (.string a0_2) := (blk_cell BK715.out 2).trans rfl; have hfz42_0 := blk_frozen BK715.out 0; have hfz42_1 := blk_frozen BK715.out 1; have hfz42_2 := blk_frozen BK715.out 2) | ((with_reducible refine gate_callee (f := 30) rfl ?_); refine goesL_ (some 6) rfl rfl Tryz.func30 (by kernel_rfl) rfl #[.agg #[.int .i64 a0_0, .int .i64 a0_1, .string a0_2]] rfl (by (try simp only [List.map_toArray, List.map_cons, List.map_nil]); first | done | rfl | (simp only [List.length_drop, List.length_take]; rfl)) ?_; (with_reducible refine (value_Check.calls k a0_0 a0_1 a0_2 t716 _ ?side1 A2.out).mono ?_); (case side1 => exact Tabs.below HT.out (by repeat (first | (with_reducible first | exact HB.out | apply below_alloc | apply pw_below_drewN | apply below_drew1 | refine below_set ?_ GE715.out) | exact HB.out))); rintro e w43 ⟨rfl, hb⟩; refine ⟨_, rfl, ?_⟩; have n0_ := Aside0.mk (blk_below (g := gb715) (o := .cells #[.int .i64 a0_0, .int .i64 a0_1, .string a0_2] 23 (0, 0)) (by (with_reducible repeat (first | refine blk_drewN ?_ _ | refine blk_drew ?_ | refine blk_alloc ?_ _)); exact BK715.out) hb); have n1_ := Aside0.mk (below_step (by repeat (first | (with_reducible first | exact HB.out | apply below_alloc | apply pw_below_drewN | apply below_drew1 | refine below_set ?_ GE715.out) | exact HB.out)) hb); clear BK715; clear HB; have BK715 := n0_; have HB := n1_; clear n0_ n1_; (try clear hb); (try clear hb2); (try clear hk); (try clear hi)))
  go_ret2
  exact ⟨by first | rfl | (simp [errW_none, errW_some] <;> rfl) | (simp [*, errW_none, errW_some] <;> rfl), by repeat (first | (with_reducible first | exact HB.out | apply below_alloc | apply pw_below_drewN | apply below_drew1 | refine below_set ?_ GE715.out) | exact HB.out)⟩
end Go.Proofs.YtkkpnbfhghfleaaGreatDoor.X
end
section
namespace Go.Proofs.YtkkpnbfhghfleaaGreatDoor.X
open Go.RowKit Go.Proofs.YtkkpnbfhghfleaaGreatDoorW.PrintWords Go.Proofs.YtkkpnbfhghfleaaGreatDoorW.PrintLast Go.Proofs.YtkkpnbfhghfleaaGreatDoorW.PrintMore
attribute [local go_sem] max2_int min2_int max_two min_two max_three min_three max_four min_four
set_option linter.unusedVariables false
set_option linter.unusedSimpArgs false
attribute [local go_sem high] eqA23
def locksteplaw01_lives.f (k : Nat)  : Option (Bool) := (locksteplaw01_one.f 7).bind fun bt720 => ((value_Reckon.f k (⟨#[47]⟩ : ByteArray) bt720.1 bt720.2.1 bt720.2.2 2 20000 (⟨#[]⟩ : ByteArray)).bind fun bt723 => ((value_Print.f k bt723.1 bt723.2.1 bt723.2.2.1).bind fun bt728 => (if bt723.2.2.2 = 0 then (if bt728.2 = 0 then (if bt728.1.toList = ([51, 46, 53] : List UInt8) then (some (bt723.1 == 2 && (bt723.2.1 == 35000 && (bt723.2.2.1.toList == ([] : List UInt8))))) else (some false)) else (some false)) else (some false))))
set_option maxHeartbeats 8000000 in
set_option maxRecDepth 100000 in
theorem locksteplaw01_lives.calls (k : Nat)  (r : Bool) (w : World) (hT : Tabs w) (h : locksteplaw01_lives.f k  = some r) :
  Calls Tryz.prog 7 #[] w fun e w' => e = .returned (.bool r) ∧ Below w.heap.size w w' := by
 have hu23 := Tryz.underlying23
 have HT := Aside0.mk hT
 clear hT
 have HB := Aside0.mk (Below.refl w.heap.size w)
 have H : ((locksteplaw01_one.f 7).bind fun bt720 => ((value_Reckon.f k (⟨#[47]⟩ : ByteArray) bt720.1 bt720.2.1 bt720.2.2 2 20000 (⟨#[]⟩ : ByteArray)).bind fun bt723 => ((value_Print.f k bt723.1 bt723.2.1 bt723.2.2.1).bind fun bt728 => (if bt723.2.2.2 = 0 then (if bt728.2 = 0 then (if bt728.1.toList = ([51, 46, 53] : List UInt8) then (some (bt723.1 == 2 && (bt723.2.1 == 35000 && (bt723.2.2.1.toList == ([] : List UInt8))))) else (some false)) else (some false)) else (some false))))) = some r := h
 clear h
 replace H := Option.bind_eq_some_iff.mp H
 obtain ⟨⟨t720, t721, t722⟩, A10, H⟩ := H
 replace H : ((value_Reckon.f k (⟨#[47]⟩ : ByteArray) t720 t721 t722 2 20000 (⟨#[]⟩ : ByteArray)).bind fun bt723 => ((value_Print.f k bt723.1 bt723.2.1 bt723.2.2.1).bind fun bt728 => (if bt723.2.2.2 = 0 then (if bt728.2 = 0 then (if bt728.1.toList = ([51, 46, 53] : List UInt8) then (some (bt723.1 == 2 && (bt723.2.1 == 35000 && (bt723.2.2.1.toList == ([] : List UInt8))))) else (some false)) else (some false)) else (some false)))) = some r := H
 have A1 := Aside0.mk A10
 clear A10
 replace H := Option.bind_eq_some_iff.mp H
 obtain ⟨⟨t723, t724, t725, t726⟩, A20, H⟩ := H
 replace H : ((value_Print.f k t723 t724 t725).bind fun bt728 => (if t726 = 0 then (if bt728.2 = 0 then (if bt728.1.toList = ([51, 46, 53] : List UInt8) then (some (t723 == 2 && (t724 == 35000 && (t725.toList == ([] : List UInt8))))) else (some false)) else (some false)) else (some false))) = some r := H
 have A2 := Aside0.mk A20
 clear A20
 replace H := Option.bind_eq_some_iff.mp H
 obtain ⟨⟨t728, t729⟩, A30, H⟩ := H
 replace H : (if t726 = 0 then (if t729 = 0 then (if t728.toList = ([51, 46, 53] : List UInt8) then (some (t723 == 2 && (t724 == 35000 && (t725.toList == ([] : List UInt8))))) else (some false)) else (some false)) else (some false)) = some r := H
 have A3 := Aside0.mk A30
 clear A30
 by_cases c4 : t726 = 0
 ·
  rw [if_pos c4] at H
  have c4b0 : (t726 == 0) = true := beq_iff_eq.mpr c4
  have c4b1 : (t726 != 0) = false := bne_eq_false_iff_eq.mpr c4
  clear c4
  by_cases c5 : t729 = 0
  ·
   rw [if_pos c5] at H
   have c5b0 : (t729 == 0) = true := beq_iff_eq.mpr c5
   have c5b1 : (t729 != 0) = false := bne_eq_false_iff_eq.mpr c5
   clear c5
   by_cases c6 : t728.toList = ([51, 46, 53] : List UInt8)
   ·
    rw [if_pos c6] at H
    have c6b0 : (t728.toList == ([51, 46, 53] : List UInt8)) = true := beq_iff_eq.mpr c6
    have c6b1 : (t728.toList != ([51, 46, 53] : List UInt8)) = false := bne_eq_false_iff_eq.mpr c6
    clear c6
    obtain rfl := Option.some.inj H
    go_enter Tryz.func7, Tryz.ntmps7
    go_wp2_with (first | ((with_reducible refine gate_callee (f := 29) rfl ?_); refine goesL_ (some 6) rfl rfl Tryz.func29 (by kernel_rfl) rfl #[.int .i64 7] rfl (by (try simp only [List.map_toArray, List.map_cons, List.map_nil]); first | done | rfl | (simp only [List.length_drop, List.length_take]; rfl)) ?_; (with_reducible refine (locksteplaw01_one.calls 7 t720 t721 t722 _ A1.out).mono ?_); rintro e w7 ⟨rfl, hb⟩; refine ⟨_, rfl, ?_⟩; have n0_ := Aside0.mk (below_step (by repeat (first | (with_reducible first | exact HB.out | apply below_alloc | apply pw_below_drewN | apply below_drew1) | exact HB.out)) hb); clear HB; have HB := n0_; clear n0_; (try clear hb); (try clear hb2); (try clear hk); (try clear hi)) | ((with_reducible refine gate_callee (f := 28) rfl ?_); refine goesL_ (some 8) rfl rfl Tryz.func28 (by kernel_rfl) rfl #[.string (⟨#[47]⟩ : ByteArray), .agg #[.int .i64 t720, .int .i64 t721, .string t722], .agg #[.int .i64 2, .int .i64 20000, .string (⟨#[]⟩ : ByteArray)]] rfl (by (try simp only [List.map_toArray, List.map_cons, List.map_nil]); first | done | rfl | (simp only [List.length_drop, List.length_take]; rfl)) ?_; (with_reducible refine (value_Reckon.calls k (⟨#[47]⟩ : ByteArray) t720 t721 t722 2 20000 (⟨#[]⟩ : ByteArray) t723 t724 t725 t726 _ ?side1 A2.out).mono ?_); (case side1 => exact Tabs.below HT.out (by repeat (first | (with_reducible first | exact HB.out | apply below_alloc | apply pw_below_drewN | apply below_drew1) | exact HB.out))); rintro e w8 ⟨rfl, hb⟩; refine ⟨_, rfl, ?_⟩; have n0_ := Aside0.mk (below_step (by repeat (first | (with_reducible first | exact HB.out | apply below_alloc | apply pw_below_drewN | apply below_drew1) | exact HB.out)) hb); clear HB; have HB := n0_; clear n0_; (try clear hb); (try clear hb2); (try clear hk); (try clear hi)) | ((with_reducible refine gate_dst (N := 1) rfl ?_); refine box_event ?hg (N := 1) ?hd (cs := #[.int .i64 0, .int .i64 0, .string (⟨#[]⟩ : ByteArray)]) (t := 23) ?hr ?_; (case hd => rfl); (case hg => rfl); (case hr => first | (go_simp; done) | (go_simp; rfl)); intro gb727 hg w9 hbox hb; have n0_ := Aside0.mk (below_step (by repeat (first | (with_reducible first | exact HB.out | apply below_alloc | apply pw_below_drewN | apply below_drew1) | exact HB.out)) hb); have n1_ := Aside0.mk (hbox); have n2_ := Aside0.mk ((by rw [hg]; exact (below_size (by repeat (first | (with_reducible first | exact HB.out | apply below_alloc | apply pw_below_drewN | apply below_drew1) | exact HB.out))) : w.heap.size ≤ gb727)); have n3_ := Aside0.mk ((by rw [hg]; exact (below_size (by repeat (first | (with_reducible first | exact HB.out | apply below_alloc | apply pw_below_drewN | apply below_drew1) | exact HB.out))) : w.heap.size ≤ gb727)); clear HB; have HB := n0_; have BK727 := n1_; have GW727 := n2_; have GE727 := n3_; clear n0_ n1_ n2_ n3_; clear hb hbox hg; have hcz10_0 : w9.cell? ⟨gb727, 0, none⟩ = some (.int .i64 0) := (blk_cell BK727.out 0).trans rfl; have hcz10_1 : w9.cell? ⟨gb727, 1, none⟩ = some (.int .i64 0) := (blk_cell BK727.out 1).trans rfl; have hcz10_2 : w9.cell? ⟨gb727, 2, none⟩ = some (.string (⟨#[]⟩ : ByteArray)) := (blk_cell BK727.out 2).trans rfl; have hfz10_0 := blk_frozen BK727.out 0; have hfz10_1 := blk_frozen BK727.out 1; have hfz10_2 := blk_frozen BK727.out 2) | ((with_reducible refine gate_callee (f := 8) rfl ?_); refine goesL_ (some 13) rfl rfl Tryz.func8 (by kernel_rfl) rfl #[.agg #[.int .i64 t723, .int .i64 t724, .string t725]] rfl (by (try simp only [List.map_toArray, List.map_cons, List.map_nil]); first | done | rfl | (simp only [List.length_drop, List.length_take]; rfl)) ?_; (with_reducible refine (value_Print.calls k t723 t724 t725 t728 t729 _ ?side1 A3.out).mono ?_); (case side1 => exact Tabs.below HT.out (by repeat (first | (with_reducible first | exact HB.out | apply below_alloc | apply pw_below_drewN | apply below_drew1 | refine below_set ?_ GE727.out) | exact HB.out))); rintro e w11 ⟨rfl, hb⟩; refine ⟨_, rfl, ?_⟩; have n0_ := Aside0.mk (blk_below (g := gb727) (o := .cells #[.int .i64 t723, .int .i64 t724, .string t725] 23 (0, 0)) (by (with_reducible repeat (first | refine blk_drewN ?_ _ | refine blk_drew ?_ | refine blk_alloc ?_ _)); refine blk_put (cs := #[.int .i64 t723, .int .i64 t724, .string (⟨#[]⟩ : ByteArray)]) ?_ 2 _ rfl; (with_reducible repeat (first | refine blk_drewN ?_ _ | refine blk_drew ?_ | refine blk_alloc ?_ _)); refine blk_put (cs := #[.int .i64 t723, .int .i64 0, .string (⟨#[]⟩ : ByteArray)]) ?_ 1 _ rfl; (with_reducible repeat (first | refine blk_drewN ?_ _ | refine blk_drew ?_ | refine blk_alloc ?_ _)); refine blk_put (cs := #[.int .i64 0, .int .i64 0, .string (⟨#[]⟩ : ByteArray)]) ?_ 0 _ rfl; (with_reducible repeat (first | refine blk_drewN ?_ _ | refine blk_drew ?_ | refine blk_alloc ?_ _)); exact BK727.out) hb); have n1_ := Aside0.mk (below_step (by repeat (first | (with_reducible first | exact HB.out | apply below_alloc | apply pw_below_drewN | apply below_drew1 | refine below_set ?_ GE727.out) | exact HB.out)) hb); clear BK727; clear HB; have BK727 := n0_; have HB := n1_; clear n0_ n1_; (try clear hb); (try clear hb2); (try clear hk); (try clear hi); have hcz12_0 : w11.cell? ⟨gb727, 0, none⟩ = some (.int .i64 t723) := (blk_cell BK727.out 0).trans rfl; have hcz12_1 : w11.cell? ⟨gb727, 1, none⟩ = some (.int .i64 t724) := (blk_cell BK727.out 1).trans rfl; have hcz12_2 : w11.cell? ⟨gb727, 2, none⟩ = some (.string t725) := (blk_cell BK727.out 2).trans rfl; have hfz12_0 := blk_frozen BK727.out 0; have hfz12_1 := blk_frozen BK727.out 1; have hfz12_2 := blk_frozen BK727.out 2))
    go_ret
    exact ⟨by first | rfl | (simp [errW_none, errW_some] <;> rfl) | (simp [*, errW_none, errW_some] <;> rfl), by repeat (first | (with_reducible first | exact HB.out | apply below_alloc | apply pw_below_drewN | apply below_drew1 | refine below_set ?_ GE727.out) | exact HB.out)⟩
   ·
    rw [if_neg c6] at H
    have c6b0 : (t728.toList == ([51, 46, 53] : List UInt8)) = false := beq_eq_false_iff_ne.mpr c6
    have c6b1 : (t728.toList != ([51, 46, 53] : List UInt8)) = true := bne_iff_ne.mpr c6
    obtain rfl := Option.some.inj H
    go_enter Tryz.func7, Tryz.ntmps7
    go_wp2_with (first | ((with_reducible refine gate_callee (f := 29) rfl ?_); refine goesL_ (some 6) rfl rfl Tryz.func29 (by kernel_rfl) rfl #[.int .i64 7] rfl (by (try simp only [List.map_toArray, List.map_cons, List.map_nil]); first | done | rfl | (simp only [List.length_drop, List.length_take]; rfl)) ?_; (with_reducible refine (locksteplaw01_one.calls 7 t720 t721 t722 _ A1.out).mono ?_); rintro e w13 ⟨rfl, hb⟩; refine ⟨_, rfl, ?_⟩; have n0_ := Aside0.mk (below_step (by repeat (first | (with_reducible first | exact HB.out | apply below_alloc | apply pw_below_drewN | apply below_drew1) | exact HB.out)) hb); clear HB; have HB := n0_; clear n0_; (try clear hb); (try clear hb2); (try clear hk); (try clear hi)) | ((with_reducible refine gate_callee (f := 28) rfl ?_); refine goesL_ (some 8) rfl rfl Tryz.func28 (by kernel_rfl) rfl #[.string (⟨#[47]⟩ : ByteArray), .agg #[.int .i64 t720, .int .i64 t721, .string t722], .agg #[.int .i64 2, .int .i64 20000, .string (⟨#[]⟩ : ByteArray)]] rfl (by (try simp only [List.map_toArray, List.map_cons, List.map_nil]); first | done | rfl | (simp only [List.length_drop, List.length_take]; rfl)) ?_; (with_reducible refine (value_Reckon.calls k (⟨#[47]⟩ : ByteArray) t720 t721 t722 2 20000 (⟨#[]⟩ : ByteArray) t723 t724 t725 t726 _ ?side1 A2.out).mono ?_); (case side1 => exact Tabs.below HT.out (by repeat (first | (with_reducible first | exact HB.out | apply below_alloc | apply pw_below_drewN | apply below_drew1) | exact HB.out))); rintro e w14 ⟨rfl, hb⟩; refine ⟨_, rfl, ?_⟩; have n0_ := Aside0.mk (below_step (by repeat (first | (with_reducible first | exact HB.out | apply below_alloc | apply pw_below_drewN | apply below_drew1) | exact HB.out)) hb); clear HB; have HB := n0_; clear n0_; (try clear hb); (try clear hb2); (try clear hk); (try clear hi)) | ((with_reducible refine gate_dst (N := 1) rfl ?_); refine box_event ?hg (N := 1) ?hd (cs := #[.int .i64 0, .int .i64 0, .string (⟨#[]⟩ : ByteArray)]) (t := 23) ?hr ?_; (case hd => rfl); (case hg => rfl); (case hr => first | (go_simp; done) | (go_simp; rfl)); intro gb727 hg w15 hbox hb; have n0_ := Aside0.mk (below_step (by repeat (first | (with_reducible first | exact HB.out | apply below_alloc | apply pw_below_drewN | apply below_drew1) | exact HB.out)) hb); have n1_ := Aside0.mk (hbox); have n2_ := Aside0.mk ((by rw [hg]; exact (below_size (by repeat (first | (with_reducible first | exact HB.out | apply below_alloc | apply pw_below_drewN | apply below_drew1) | exact HB.out))) : w.heap.size ≤ gb727)); have n3_ := Aside0.mk ((by rw [hg]; exact (below_size (by repeat (first | (with_reducible first | exact HB.out | apply below_alloc | apply pw_below_drewN | apply below_drew1) | exact HB.out))) : w.heap.size ≤ gb727)); clear HB; have HB := n0_; have BK727 := n1_; have GW727 := n2_; have GE727 := n3_; clear n0_ n1_ n2_ n3_; clear hb hbox hg; have hcz16_0 : w15.cell? ⟨gb727, 0, none⟩ = some (.int .i64 0) := (blk_cell BK727.out 0).trans rfl; have hcz16_1 : w15.cell? ⟨gb727, 1, none⟩ = some (.int .i64 0) := (blk_cell BK727.out 1).trans rfl; have hcz16_2 : w15.cell? ⟨gb727, 2, none⟩ = some (.string (⟨#[]⟩ : ByteArray)) := (blk_cell BK727.out 2).trans rfl; have hfz16_0 := blk_frozen BK727.out 0; have hfz16_1 := blk_frozen BK727.out 1; have hfz16_2 := blk_frozen BK727.out 2) | ((with_reducible refine gate_callee (f := 8) rfl ?_); refine goesL_ (some 13) rfl rfl Tryz.func8 (by kernel_rfl) rfl #[.agg #[.int .i64 t723, .int .i64 t724, .string t725]] rfl (by (try simp only [List.map_toArray, List.map_cons, List.map_nil]); first | done | rfl | (simp only [List.length_drop, List.length_take]; rfl)) ?_; (with_reducible refine (value_Print.calls k t723 t724 t725 t728 t729 _ ?side1 A3.out).mono ?_); (case side1 => exact Tabs.below HT.out (by repeat (first | (with_reducible first | exact HB.out | apply below_alloc | apply pw_below_drewN | apply below_drew1 | refine below_set ?_ GE727.out) | exact HB.out))); rintro e w17 ⟨rfl, hb⟩; refine ⟨_, rfl, ?_⟩; have n0_ := Aside0.mk (blk_below (g := gb727) (o := .cells #[.int .i64 t723, .int .i64 t724, .string t725] 23 (0, 0)) (by (with_reducible repeat (first | refine blk_drewN ?_ _ | refine blk_drew ?_ | refine blk_alloc ?_ _)); refine blk_put (cs := #[.int .i64 t723, .int .i64 t724, .string (⟨#[]⟩ : ByteArray)]) ?_ 2 _ rfl; (with_reducible repeat (first | refine blk_drewN ?_ _ | refine blk_drew ?_ | refine blk_alloc ?_ _)); refine blk_put (cs := #[.int .i64 t723, .int .i64 0, .string (⟨#[]⟩ : ByteArray)]) ?_ 1 _ rfl; (with_reducible repeat (first | refine blk_drewN ?_ _ | refine blk_drew ?_ | refine blk_alloc ?_ _)); refine blk_put (cs := #[.int .i64 0, .int .i64 0, .string (⟨#[]⟩ : ByteArray)]) ?_ 0 _ rfl; (with_reducible repeat (first | refine blk_drewN ?_ _ | refine blk_drew ?_ | refine blk_alloc ?_ _)); exact BK727.out) hb); have n1_ := Aside0.mk (below_step (by repeat (first | (with_reducible first | exact HB.out | apply below_alloc | apply pw_below_drewN | apply below_drew1 | refine below_set ?_ GE727.out) | exact HB.out)) hb); clear BK727; clear HB; have BK727 := n0_; have HB := n1_; clear n0_ n1_; (try clear hb); (try clear hb2); (try clear hk); (try clear hi)))
    go_ret
    exact ⟨by first | rfl | (simp [errW_none, errW_some] <;> rfl) | (simp [*, errW_none, errW_some] <;> rfl), by repeat (first | (with_reducible first | exact HB.out | apply below_alloc | apply pw_below_drewN | apply below_drew1 | refine below_set ?_ GE727.out) | exact HB.out)⟩
  ·
   rw [if_neg c5] at H
   have c5b0 : (t729 == 0) = false := beq_eq_false_iff_ne.mpr c5
   have c5b1 : (t729 != 0) = true := bne_iff_ne.mpr c5
   obtain rfl := Option.some.inj H
   go_enter Tryz.func7, Tryz.ntmps7
   go_wp2_with (first | ((with_reducible refine gate_callee (f := 29) rfl ?_); refine goesL_ (some 6) rfl rfl Tryz.func29 (by kernel_rfl) rfl #[.int .i64 7] rfl (by (try simp only [List.map_toArray, List.map_cons, List.map_nil]); first | done | rfl | (simp only [List.length_drop, List.length_take]; rfl)) ?_; (with_reducible refine (locksteplaw01_one.calls 7 t720 t721 t722 _ A1.out).mono ?_); rintro e w18 ⟨rfl, hb⟩; refine ⟨_, rfl, ?_⟩; have n0_ := Aside0.mk (below_step (by repeat (first | (with_reducible first | exact HB.out | apply below_alloc | apply pw_below_drewN | apply below_drew1) | exact HB.out)) hb); clear HB; have HB := n0_; clear n0_; (try clear hb); (try clear hb2); (try clear hk); (try clear hi)) | ((with_reducible refine gate_callee (f := 28) rfl ?_); refine goesL_ (some 8) rfl rfl Tryz.func28 (by kernel_rfl) rfl #[.string (⟨#[47]⟩ : ByteArray), .agg #[.int .i64 t720, .int .i64 t721, .string t722], .agg #[.int .i64 2, .int .i64 20000, .string (⟨#[]⟩ : ByteArray)]] rfl (by (try simp only [List.map_toArray, List.map_cons, List.map_nil]); first | done | rfl | (simp only [List.length_drop, List.length_take]; rfl)) ?_; (with_reducible refine (value_Reckon.calls k (⟨#[47]⟩ : ByteArray) t720 t721 t722 2 20000 (⟨#[]⟩ : ByteArray) t723 t724 t725 t726 _ ?side1 A2.out).mono ?_); (case side1 => exact Tabs.below HT.out (by repeat (first | (with_reducible first | exact HB.out | apply below_alloc | apply pw_below_drewN | apply below_drew1) | exact HB.out))); rintro e w19 ⟨rfl, hb⟩; refine ⟨_, rfl, ?_⟩; have n0_ := Aside0.mk (below_step (by repeat (first | (with_reducible first | exact HB.out | apply below_alloc | apply pw_below_drewN | apply below_drew1) | exact HB.out)) hb); clear HB; have HB := n0_; clear n0_; (try clear hb); (try clear hb2); (try clear hk); (try clear hi)) | ((with_reducible refine gate_dst (N := 1) rfl ?_); refine box_event ?hg (N := 1) ?hd (cs := #[.int .i64 0, .int .i64 0, .string (⟨#[]⟩ : ByteArray)]) (t := 23) ?hr ?_; (case hd => rfl); (case hg => rfl); (case hr => first | (go_simp; done) | (go_simp; rfl)); intro gb727 hg w20 hbox hb; have n0_ := Aside0.mk (below_step (by repeat (first | (with_reducible first | exact HB.out | apply below_alloc | apply pw_below_drewN | apply below_drew1) | exact HB.out)) hb); have n1_ := Aside0.mk (hbox); have n2_ := Aside0.mk ((by rw [hg]; exact (below_size (by repeat (first | (with_reducible first | exact HB.out | apply below_alloc | apply pw_below_drewN | apply below_drew1) | exact HB.out))) : w.heap.size ≤ gb727)); have n3_ := Aside0.mk ((by rw [hg]; exact (below_size (by repeat (first | (with_reducible first | exact HB.out | apply below_alloc | apply pw_below_drewN | apply below_drew1) | exact HB.out))) : w.heap.size ≤ gb727)); clear HB; have HB := n0_; have BK727 := n1_; have GW727 := n2_; have GE727 := n3_; clear n0_ n1_ n2_ n3_; clear hb hbox hg; have hcz21_0 : w20.cell? ⟨gb727, 0, none⟩ = some (.int .i64 0) := (blk_cell BK727.out 0).trans rfl; have hcz21_1 : w20.cell? ⟨gb727, 1, none⟩ = some (.int .i64 0) := (blk_cell BK727.out 1).trans rfl; have hcz21_2 : w20.cell? ⟨gb727, 2, none⟩ = some (.string (⟨#[]⟩ : ByteArray)) := (blk_cell BK727.out 2).trans rfl; have hfz21_0 := blk_frozen BK727.out 0; have hfz21_1 := blk_frozen BK727.out 1; have hfz21_2 := blk_frozen BK727.out 2) | ((with_reducible refine gate_callee (f := 8) rfl ?_); refine goesL_ (some 13) rfl rfl Tryz.func8 (by kernel_rfl) rfl #[.agg #[.int .i64 t723, .int .i64 t724, .string t725]] rfl (by (try simp only [List.map_toArray, List.map_cons, List.map_nil]); first | done | rfl | (simp only [List.length_drop, List.length_take]; rfl)) ?_; (with_reducible refine (value_Print.calls k t723 t724 t725 t728 t729 _ ?side1 A3.out).mono ?_); (case side1 => exact Tabs.below HT.out (by repeat (first | (with_reducible first | exact HB.out | apply below_alloc | apply pw_below_drewN | apply below_drew1 | refine below_set ?_ GE727.out) | exact HB.out))); rintro e w22 ⟨rfl, hb⟩; refine ⟨_, rfl, ?_⟩; have n0_ := Aside0.mk (blk_below (g := gb727) (o := .cells #[.int .i64 t723, .int .i64 t724, .string t725] 23 (0, 0)) (by (with_reducible repeat (first | refine blk_drewN ?_ _ | refine blk_drew ?_ | refine blk_alloc ?_ _)); refine blk_put (cs := #[.int .i64 t723, .int .i64 t724, .string (⟨#[]⟩ : ByteArray)]) ?_ 2 _ rfl; (with_reducible repeat (first | refine blk_drewN ?_ _ | refine blk_drew ?_ | refine blk_alloc ?_ _)); refine blk_put (cs := #[.int .i64 t723, .int .i64 0, .string (⟨#[]⟩ : ByteArray)]) ?_ 1 _ rfl; (with_reducible repeat (first | refine blk_drewN ?_ _ | refine blk_drew ?_ | refine blk_alloc ?_ _)); refine blk_put (cs := #[.int .i64 0, .int .i64 0, .string (⟨#[]⟩ : ByteArray)]) ?_ 0 _ rfl; (with_reducible repeat (first | refine blk_drewN ?_ _ | refine blk_drew ?_ | refine blk_alloc ?_ _)); exact BK727.out) hb); have n1_ := Aside0.mk (below_step (by repeat (first | (with_reducible first | exact HB.out | apply below_alloc | apply pw_below_drewN | apply below_drew1 | refine below_set ?_ GE727.out) | exact HB.out)) hb); clear BK727; clear HB; have BK727 := n0_; have HB := n1_; clear n0_ n1_; (try clear hb); (try clear hb2); (try clear hk); (try clear hi)))
   go_ret
   exact ⟨by first | rfl | (simp [errW_none, errW_some] <;> rfl) | (simp [*, errW_none, errW_some] <;> rfl), by repeat (first | (with_reducible first | exact HB.out | apply below_alloc | apply pw_below_drewN | apply below_drew1 | refine below_set ?_ GE727.out) | exact HB.out)⟩
 ·
  rw [if_neg c4] at H
  have c4b0 : (t726 == 0) = false := beq_eq_false_iff_ne.mpr c4
  have c4b1 : (t726 != 0) = true := bne_iff_ne.mpr c4
  obtain rfl := Option.some.inj H
  go_enter Tryz.func7, Tryz.ntmps7
  go_wp2_with (first | ((with_reducible refine gate_callee (f := 29) rfl ?_); refine goesL_ (some 6) rfl rfl Tryz.func29 (by kernel_rfl) rfl #[.int .i64 7] rfl (by (try simp only [List.map_toArray, List.map_cons, List.map_nil]); first | done | rfl | (simp only [List.length_drop, List.length_take]; rfl)) ?_; (with_reducible refine (locksteplaw01_one.calls 7 t720 t721 t722 _ A1.out).mono ?_); rintro e w23 ⟨rfl, hb⟩; refine ⟨_, rfl, ?_⟩; have n0_ := Aside0.mk (below_step (by repeat (first | (with_reducible first | exact HB.out | apply below_alloc | apply pw_below_drewN | apply below_drew1) | exact HB.out)) hb); clear HB; have HB := n0_; clear n0_; (try clear hb); (try clear hb2); (try clear hk); (try clear hi)) | ((with_reducible refine gate_callee (f := 28) rfl ?_); refine goesL_ (some 8) rfl rfl Tryz.func28 (by kernel_rfl) rfl #[.string (⟨#[47]⟩ : ByteArray), .agg #[.int .i64 t720, .int .i64 t721, .string t722], .agg #[.int .i64 2, .int .i64 20000, .string (⟨#[]⟩ : ByteArray)]] rfl (by (try simp only [List.map_toArray, List.map_cons, List.map_nil]); first | done | rfl | (simp only [List.length_drop, List.length_take]; rfl)) ?_; (with_reducible refine (value_Reckon.calls k (⟨#[47]⟩ : ByteArray) t720 t721 t722 2 20000 (⟨#[]⟩ : ByteArray) t723 t724 t725 t726 _ ?side1 A2.out).mono ?_); (case side1 => exact Tabs.below HT.out (by repeat (first | (with_reducible first | exact HB.out | apply below_alloc | apply pw_below_drewN | apply below_drew1) | exact HB.out))); rintro e w24 ⟨rfl, hb⟩; refine ⟨_, rfl, ?_⟩; have n0_ := Aside0.mk (below_step (by repeat (first | (with_reducible first | exact HB.out | apply below_alloc | apply pw_below_drewN | apply below_drew1) | exact HB.out)) hb); clear HB; have HB := n0_; clear n0_; (try clear hb); (try clear hb2); (try clear hk); (try clear hi)) | ((with_reducible refine gate_dst (N := 1) rfl ?_); refine box_event ?hg (N := 1) ?hd (cs := #[.int .i64 0, .int .i64 0, .string (⟨#[]⟩ : ByteArray)]) (t := 23) ?hr ?_; (case hd => rfl); (case hg => rfl); (case hr => first | (go_simp; done) | (go_simp; rfl)); intro gb727 hg w25 hbox hb; have n0_ := Aside0.mk (below_step (by repeat (first | (with_reducible first | exact HB.out | apply below_alloc | apply pw_below_drewN | apply below_drew1) | exact HB.out)) hb); have n1_ := Aside0.mk (hbox); have n2_ := Aside0.mk ((by rw [hg]; exact (below_size (by repeat (first | (with_reducible first | exact HB.out | apply below_alloc | apply pw_below_drewN | apply below_drew1) | exact HB.out))) : w.heap.size ≤ gb727)); have n3_ := Aside0.mk ((by rw [hg]; exact (below_size (by repeat (first | (with_reducible first | exact HB.out | apply below_alloc | apply pw_below_drewN | apply below_drew1) | exact HB.out))) : w.heap.size ≤ gb727)); clear HB; have HB := n0_; have BK727 := n1_; have GW727 := n2_; have GE727 := n3_; clear n0_ n1_ n2_ n3_; clear hb hbox hg; have hcz26_0 : w25.cell? ⟨gb727, 0, none⟩ = some (.int .i64 0) := (blk_cell BK727.out 0).trans rfl; have hcz26_1 : w25.cell? ⟨gb727, 1, none⟩ = some (.int .i64 0) := (blk_cell BK727.out 1).trans rfl; have hcz26_2 : w25.cell? ⟨gb727, 2, none⟩ = some (.string (⟨#[]⟩ : ByteArray)) := (blk_cell BK727.out 2).trans rfl; have hfz26_0 := blk_frozen BK727.out 0; have hfz26_1 := blk_frozen BK727.out 1; have hfz26_2 := blk_frozen BK727.out 2) | ((with_reducible refine gate_callee (f := 8) rfl ?_); refine goesL_ (some 13) rfl rfl Tryz.func8 (by kernel_rfl) rfl #[.agg #[.int .i64 t723, .int .i64 t724, .string t725]] rfl (by (try simp only [List.map_toArray, List.map_cons, List.map_nil]); first | done | rfl | (simp only [List.length_drop, List.length_take]; rfl)) ?_; (with_reducible refine (value_Print.calls k t723 t724 t725 t728 t729 _ ?side1 A3.out).mono ?_); (case side1 => exact Tabs.below HT.out (by repeat (first | (with_reducible first | exact HB.out | apply below_alloc | apply pw_below_drewN | apply below_drew1 | refine below_set ?_ GE727.out) | exact HB.out))); rintro e w27 ⟨rfl, hb⟩; refine ⟨_, rfl, ?_⟩; have n0_ := Aside0.mk (blk_below (g := gb727) (o := .cells #[.int .i64 t723, .int .i64 t724, .string t725] 23 (0, 0)) (by (with_reducible repeat (first | refine blk_drewN ?_ _ | refine blk_drew ?_ | refine blk_alloc ?_ _)); refine blk_put (cs := #[.int .i64 t723, .int .i64 t724, .string (⟨#[]⟩ : ByteArray)]) ?_ 2 _ rfl; (with_reducible repeat (first | refine blk_drewN ?_ _ | refine blk_drew ?_ | refine blk_alloc ?_ _)); refine blk_put (cs := #[.int .i64 t723, .int .i64 0, .string (⟨#[]⟩ : ByteArray)]) ?_ 1 _ rfl; (with_reducible repeat (first | refine blk_drewN ?_ _ | refine blk_drew ?_ | refine blk_alloc ?_ _)); refine blk_put (cs := #[.int .i64 0, .int .i64 0, .string (⟨#[]⟩ : ByteArray)]) ?_ 0 _ rfl; (with_reducible repeat (first | refine blk_drewN ?_ _ | refine blk_drew ?_ | refine blk_alloc ?_ _)); exact BK727.out) hb); have n1_ := Aside0.mk (below_step (by repeat (first | (with_reducible first | exact HB.out | apply below_alloc | apply pw_below_drewN | apply below_drew1 | refine below_set ?_ GE727.out) | exact HB.out)) hb); clear BK727; clear HB; have BK727 := n0_; have HB := n1_; clear n0_ n1_; (try clear hb); (try clear hb2); (try clear hk); (try clear hi)))
  go_ret
  exact ⟨by first | rfl | (simp [errW_none, errW_some] <;> rfl) | (simp [*, errW_none, errW_some] <;> rfl), by repeat (first | (with_reducible first | exact HB.out | apply below_alloc | apply pw_below_drewN | apply below_drew1 | refine below_set ?_ GE727.out) | exact HB.out)⟩
end Go.Proofs.YtkkpnbfhghfleaaGreatDoor.X
end
section
namespace Go.Proofs.YtkkpnbfhghfleaaGreatDoor.X
open Go.RowKit Go.Proofs.YtkkpnbfhghfleaaGreatDoorW.PrintWords Go.Proofs.YtkkpnbfhghfleaaGreatDoorW.PrintLast Go.Proofs.YtkkpnbfhghfleaaGreatDoorW.PrintMore
attribute [local go_sem] max2_int min2_int max_two min_two max_three min_three max_four min_four
set_option linter.unusedVariables false
set_option linter.unusedSimpArgs false
attribute [local go_sem high] eqA23
def locksteplaw01_ValueTests.j0 : Nat → Bool → Int → Int → ByteArray → Int → Int → ByteArray → Option (Bool)
 | 0, _, _, _, _, _, _, _ => none
 | k + 1, x36, x731000, x731001, x731002, x732000, x732001, x732002 => if x36 = true then (some false) else ((value_Test.f k (⟨#[60]⟩ : ByteArray) x731000 x731001 x731002 x732000 x732001 x732002).bind fun bt742 => ((value_Test.f k (⟨#[62]⟩ : ByteArray) x732000 x732001 x732002 x731000 x731001 x731002).bind fun bt747 => (if (bt742.1 == bt747.1 && (bt742.2.1 == bt747.2.1 && (bt742.2.2.1.toList == bt747.2.2.1.toList))) = true then (if ((bt742.2.2.2 == 0) == (bt747.2.2.2 == 0)) = true then ((locksteplaw01_lives.f k).bind fun t752 => (some t752)) else (some false)) else (some false))))
def locksteplaw01_ValueTests.f (k : Nat) (a0 : ByteArray) (a1_0 : Int) (a1_1 : Int) (a1_2 : ByteArray) (a2_0 : Int) (a2_1 : Int) (a2_2 : ByteArray) : Option (Bool) := (value_Test.f k a0 a1_0 a1_1 a1_2 a2_0 a2_1 a2_2).bind fun bt732 => ((lockstepref01_Test.f k a0 a1_0 a1_1 a1_2 a2_0 a2_1 a2_2).bind fun bt737 => (if (!(bt732.1 == bt737.1) || (!(bt732.2.1 == bt737.2.1) || (!(bt732.2.2.1.toList == bt737.2.2.1.toList)))) = true then (locksteplaw01_ValueTests.j0 k true a1_0 a1_1 a1_2 a2_0 a2_1 a2_2) else (locksteplaw01_ValueTests.j0 k (bt732.2.2.2 != bt737.2.2.2) a1_0 a1_1 a1_2 a2_0 a2_1 a2_2)))
set_option maxHeartbeats 8000000 in
set_option maxRecDepth 100000 in
theorem locksteplaw01_ValueTests.calls (k : Nat) (a0 : ByteArray) (a1_0 : Int) (a1_1 : Int) (a1_2 : ByteArray) (a2_0 : Int) (a2_1 : Int) (a2_2 : ByteArray) (r : Bool) (w : World) (hT : Tabs w) (h : locksteplaw01_ValueTests.f k a0 a1_0 a1_1 a1_2 a2_0 a2_1 a2_2 = some r) (hr : r = true) :
  Calls Tryz.prog 3 #[.string a0, .agg #[.int .i64 a1_0, .int .i64 a1_1, .string a1_2], .agg #[.int .i64 a2_0, .int .i64 a2_1, .string a2_2]] w fun e w' => e = .returned (.bool r) ∧ Below w.heap.size w w' := by
 have HR := Aside0.mk hr
 clear hr
 have hu23 := Tryz.underlying23
 have HT := Aside0.mk hT
 clear hT
 have HB := Aside0.mk (Below.refl w.heap.size w)
 have H : ((value_Test.f k a0 a1_0 a1_1 a1_2 a2_0 a2_1 a2_2).bind fun bt732 => ((lockstepref01_Test.f k a0 a1_0 a1_1 a1_2 a2_0 a2_1 a2_2).bind fun bt737 => (if (!(bt732.1 == bt737.1) || (!(bt732.2.1 == bt737.2.1) || (!(bt732.2.2.1.toList == bt737.2.2.1.toList)))) = true then (locksteplaw01_ValueTests.j0 k true a1_0 a1_1 a1_2 a2_0 a2_1 a2_2) else (locksteplaw01_ValueTests.j0 k (bt732.2.2.2 != bt737.2.2.2) a1_0 a1_1 a1_2 a2_0 a2_1 a2_2)))) = some r := h
 clear h
 replace H := Option.bind_eq_some_iff.mp H
 obtain ⟨⟨t732, t733, t734, t735⟩, A40, H⟩ := H
 replace H : ((lockstepref01_Test.f k a0 a1_0 a1_1 a1_2 a2_0 a2_1 a2_2).bind fun bt737 => (if (!(t732 == bt737.1) || (!(t733 == bt737.2.1) || (!(t734.toList == bt737.2.2.1.toList)))) = true then (locksteplaw01_ValueTests.j0 k true a1_0 a1_1 a1_2 a2_0 a2_1 a2_2) else (locksteplaw01_ValueTests.j0 k (t735 != bt737.2.2.2) a1_0 a1_1 a1_2 a2_0 a2_1 a2_2))) = some r := H
 have A4 := Aside0.mk A40
 clear A40
 replace H := Option.bind_eq_some_iff.mp H
 obtain ⟨⟨t737, t738, t739, t740⟩, A50, H⟩ := H
 replace H : (if (!(t732 == t737) || (!(t733 == t738) || (!(t734.toList == t739.toList)))) = true then (locksteplaw01_ValueTests.j0 k true a1_0 a1_1 a1_2 a2_0 a2_1 a2_2) else (locksteplaw01_ValueTests.j0 k (t735 != t740) a1_0 a1_1 a1_2 a2_0 a2_1 a2_2)) = some r := H
 have A5 := Aside0.mk A50
 clear A50
 have HC6 := Aside0.mk H
 clear H
 go_enter Tryz.func3, Tryz.ntmps3
 go_upto_region 3 with (first | ((with_reducible refine gate_dst (N := 4) rfl ?_); refine box_event ?hg (N := 4) ?hd (cs := #[.int .i64 a1_0, .int .i64 a1_1, .string a1_2]) (t := 23) ?hr ?_; (case hd => rfl); (case hg => rfl); (case hr => first | (go_simp; done) | (go_simp; rfl)); intro gb730 hg w7 hbox hb; have n0_ := Aside0.mk (below_step (by repeat (first | (with_reducible first | exact HB.out | apply below_alloc | apply pw_below_drewN | apply below_drew1) | exact HB.out)) hb); have n1_ := Aside0.mk (hbox); have n2_ := Aside0.mk ((by rw [hg]; exact (below_size (by repeat (first | (with_reducible first | exact HB.out | apply below_alloc | apply pw_below_drewN | apply below_drew1) | exact HB.out))) : w.heap.size ≤ gb730)); have n3_ := Aside0.mk ((by rw [hg]; exact (below_size (by repeat (first | (with_reducible first | exact HB.out | apply below_alloc | apply pw_below_drewN | apply below_drew1) | exact HB.out))) : w.heap.size ≤ gb730)); clear HB; have HB := n0_; have BK730 := n1_; have GW730 := n2_; have GE730 := n3_; clear n0_ n1_ n2_ n3_; clear hb hbox hg) | ((with_reducible refine gate_dst (N := 5) rfl ?_); refine box_event ?hg (N := 5) ?hd (cs := #[.int .i64 a2_0, .int .i64 a2_1, .string a2_2]) (t := 23) ?hr ?_; (case hd => rfl); (case hg => rfl); (case hr => first | (go_simp; done) | (go_simp; rfl)); intro gb731 hg w8 hbox hb; have n0_ := Aside0.mk (blk_below (g := gb730) (o := .cells #[.int .i64 a1_0, .int .i64 a1_1, .string a1_2] 23 (0, 0)) (by (with_reducible repeat (first | refine blk_drewN ?_ _ | refine blk_drew ?_ | refine blk_alloc ?_ _)); exact BK730.out) hb); have n1_ := Aside0.mk (below_step (by repeat (first | (with_reducible first | exact HB.out | apply below_alloc | apply pw_below_drewN | apply below_drew1 | refine below_set ?_ GE730.out) | exact HB.out)) hb); have n2_ := Aside0.mk (hbox); have n3_ := Aside0.mk ((by rw [hg]; exact (below_size (by repeat (first | (with_reducible first | exact HB.out | apply below_alloc | apply pw_below_drewN | apply below_drew1 | refine below_set ?_ GE730.out) | exact HB.out))) : w.heap.size ≤ gb731)); have n4_ := Aside0.mk ((by rw [hg]; exact (below_size (by repeat (first | (with_reducible first | exact HB.out | apply below_alloc | apply pw_below_drewN | apply below_drew1 | refine below_set ?_ GE730.out) | exact HB.out))) : w.heap.size ≤ gb731)); have n5_ := Aside0.mk ((by rw [hg]; exact Nat.ne_of_lt (blk_lt (g := gb730) (o := .cells #[.int .i64 a1_0, .int .i64 a1_1, .string a1_2] 23 (0, 0)) (by (with_reducible repeat (first | refine blk_drewN ?_ _ | refine blk_drew ?_ | refine blk_alloc ?_ _)); exact BK730.out)) : gb730 ≠ gb731)); have n6_ := Aside0.mk ((by rw [hg]; exact Nat.ne_of_gt (blk_lt (g := gb730) (o := .cells #[.int .i64 a1_0, .int .i64 a1_1, .string a1_2] 23 (0, 0)) (by (with_reducible repeat (first | refine blk_drewN ?_ _ | refine blk_drew ?_ | refine blk_alloc ?_ _)); exact BK730.out)) : gb731 ≠ gb730)); clear BK730; clear HB; have BK730 := n0_; have HB := n1_; have BK731 := n2_; have GW731 := n3_; have GE731 := n4_; have NB730_731 := n5_; have NB731_730 := n6_; clear n0_ n1_ n2_ n3_ n4_ n5_ n6_; clear hb hbox hg; have hnb9 := NB730_731.out; have hnc9 := NB731_730.out; have hcz10_0 : w8.cell? ⟨gb730, 0, none⟩ = some (.int .i64 a1_0) := (blk_cell BK730.out 0).trans rfl; have hcz10_1 : w8.cell? ⟨gb730, 1, none⟩ = some (.int .i64 a1_1) := (blk_cell BK730.out 1).trans rfl; have hcz10_2 : w8.cell? ⟨gb730, 2, none⟩ = some (.string a1_2) := (blk_cell BK730.out 2).trans rfl; have hfz10_0 := blk_frozen BK730.out 0; have hfz10_1 := blk_frozen BK730.out 1; have hfz10_2 := blk_frozen BK730.out 2; have hcz11_0 : w8.cell? ⟨gb731, 0, none⟩ = some (.int .i64 a2_0) := (blk_cell BK731.out 0).trans rfl; have hcz11_1 : w8.cell? ⟨gb731, 1, none⟩ = some (.int .i64 a2_1) := (blk_cell BK731.out 1).trans rfl; have hcz11_2 : w8.cell? ⟨gb731, 2, none⟩ = some (.string a2_2) := (blk_cell BK731.out 2).trans rfl; have hfz11_0 := blk_frozen BK731.out 0; have hfz11_1 := blk_frozen BK731.out 1; have hfz11_2 := blk_frozen BK731.out 2) | ((with_reducible refine gate_callee (f := 5) rfl ?_); refine goesL_ (some 19) rfl rfl Tryz.func5 (by kernel_rfl) rfl #[.string a0, .agg #[.int .i64 a1_0, .int .i64 a1_1, .string a1_2], .agg #[.int .i64 a2_0, .int .i64 a2_1, .string a2_2]] rfl (by (try simp only [List.map_toArray, List.map_cons, List.map_nil]); first | done | rfl | (simp only [List.length_drop, List.length_take]; rfl)) ?_; (with_reducible refine (value_Test.calls k a0 a1_0 a1_1 a1_2 a2_0 a2_1 a2_2 t732 t733 t734 t735 _ ?side1 A4.out).mono ?_); (case side1 => exact Tabs.below HT.out (by repeat (first | (with_reducible first | exact HB.out | apply below_alloc | apply pw_below_drewN | apply below_drew1 | refine below_set ?_ GE730.out | refine below_set ?_ GE731.out) | exact HB.out))); rintro e w12 ⟨rfl, hb⟩; refine ⟨_, rfl, ?_⟩; have n0_ := Aside0.mk (blk_below (g := gb730) (o := .cells #[.int .i64 a1_0, .int .i64 a1_1, .string a1_2] 23 (0, 0)) (by (with_reducible repeat (first | refine blk_drewN ?_ _ | refine blk_drew ?_ | refine blk_alloc ?_ _)); exact BK730.out) hb); have n1_ := Aside0.mk (blk_below (g := gb731) (o := .cells #[.int .i64 a2_0, .int .i64 a2_1, .string a2_2] 23 (0, 0)) (by (with_reducible repeat (first | refine blk_drewN ?_ _ | refine blk_drew ?_ | refine blk_alloc ?_ _)); exact BK731.out) hb); have n2_ := Aside0.mk (below_step (by repeat (first | (with_reducible first | exact HB.out | apply below_alloc | apply pw_below_drewN | apply below_drew1 | refine below_set ?_ GE730.out | refine below_set ?_ GE731.out) | exact HB.out)) hb); clear BK730; clear BK731; clear HB; have BK730 := n0_; have BK731 := n1_; have HB := n2_; clear n0_ n1_ n2_; (try clear hb); (try clear hb2); (try clear hk); (try clear hi)) | ((with_reducible refine gate_dst (N := 7) rfl ?_); refine box_event ?hg (N := 7) ?hd (cs := #[.int .i64 0, .int .i64 0, .string (⟨#[]⟩ : ByteArray)]) (t := 23) ?hr ?_; (case hd => rfl); (case hg => rfl); (case hr => first | (go_simp; done) | (go_simp; rfl)); intro gb736 hg w13 hbox hb; have n0_ := Aside0.mk (blk_below (g := gb730) (o := .cells #[.int .i64 a1_0, .int .i64 a1_1, .string a1_2] 23 (0, 0)) (by (with_reducible repeat (first | refine blk_drewN ?_ _ | refine blk_drew ?_ | refine blk_alloc ?_ _)); exact BK730.out) hb); have n1_ := Aside0.mk (blk_below (g := gb731) (o := .cells #[.int .i64 a2_0, .int .i64 a2_1, .string a2_2] 23 (0, 0)) (by (with_reducible repeat (first | refine blk_drewN ?_ _ | refine blk_drew ?_ | refine blk_alloc ?_ _)); exact BK731.out) hb); have n2_ := Aside0.mk (below_step (by repeat (first | (with_reducible first | exact HB.out | apply below_alloc | apply pw_below_drewN | apply below_drew1 | refine below_set ?_ GE730.out | refine below_set ?_ GE731.out) | exact HB.out)) hb); have n3_ := Aside0.mk (hbox); have n4_ := Aside0.mk ((by rw [hg]; exact (below_size (by repeat (first | (with_reducible first | exact HB.out | apply below_alloc | apply pw_below_drewN | apply below_drew1 | refine below_set ?_ GE730.out | refine below_set ?_ GE731.out) | exact HB.out))) : w.heap.size ≤ gb736)); have n5_ := Aside0.mk ((by rw [hg]; exact (below_size (by repeat (first | (with_reducible first | exact HB.out | apply below_alloc | apply pw_below_drewN | apply below_drew1 | refine below_set ?_ GE730.out | refine below_set ?_ GE731.out) | exact HB.out))) : w.heap.size ≤ gb736)); have n6_ := Aside0.mk ((by rw [hg]; exact Nat.ne_of_lt (blk_lt (g := gb730) (o := .cells #[.int .i64 a1_0, .int .i64 a1_1, .string a1_2] 23 (0, 0)) (by (with_reducible repeat (first | refine blk_drewN ?_ _ | refine blk_drew ?_ | refine blk_alloc ?_ _)); exact BK730.out)) : gb730 ≠ gb736)); have n7_ := Aside0.mk ((by rw [hg]; exact Nat.ne_of_gt (blk_lt (g := gb730) (o := .cells #[.int .i64 a1_0, .int .i64 a1_1, .string a1_2] 23 (0, 0)) (by (with_reducible repeat (first | refine blk_drewN ?_ _ | refine blk_drew ?_ | refine blk_alloc ?_ _)); exact BK730.out)) : gb736 ≠ gb730)); have n8_ := Aside0.mk ((by rw [hg]; exact Nat.ne_of_lt (blk_lt (g := gb731) (o := .cells #[.int .i64 a2_0, .int .i64 a2_1, .string a2_2] 23 (0, 0)) (by (with_reducible repeat (first | refine blk_drewN ?_ _ | refine blk_drew ?_ | refine blk_alloc ?_ _)); exact BK731.out)) : gb731 ≠ gb736)); have n9_ := Aside0.mk ((by rw [hg]; exact Nat.ne_of_gt (blk_lt (g := gb731) (o := .cells #[.int .i64 a2_0, .int .i64 a2_1, .string a2_2] 23 (0, 0)) (by (with_reducible repeat (first | refine blk_drewN ?_ _ | refine blk_drew ?_ | refine blk_alloc ?_ _)); exact BK731.out)) : gb736 ≠ gb731)); clear BK730; clear BK731; clear HB; have BK730 := n0_; have BK731 := n1_; have HB := n2_; have BK736 := n3_; have GW736 := n4_; have GE736 := n5_; have NB730_736 := n6_; have NB736_730 := n7_; have NB731_736 := n8_; have NB736_731 := n9_; clear n0_ n1_ n2_ n3_ n4_ n5_ n6_ n7_ n8_ n9_; clear hb hbox hg; have hnb14 := NB736_730.out; have hnc14 := NB730_736.out; have hnb15 := NB736_731.out; have hnc15 := NB731_736.out; have hcz16_0 : w13.cell? ⟨gb736, 0, none⟩ = some (.int .i64 0) := (blk_cell BK736.out 0).trans rfl; have hcz16_1 : w13.cell? ⟨gb736, 1, none⟩ = some (.int .i64 0) := (blk_cell BK736.out 1).trans rfl; have hcz16_2 : w13.cell? ⟨gb736, 2, none⟩ = some (.string (⟨#[]⟩ : ByteArray)) := (blk_cell BK736.out 2).trans rfl; have hfz16_0 := blk_frozen BK736.out 0; have hfz16_1 := blk_frozen BK736.out 1; have hfz16_2 := blk_frozen BK736.out 2; have hcz17_0 : w13.cell? ⟨gb730, 0, none⟩ = some (.int .i64 a1_0) := (blk_cell BK730.out 0).trans rfl; have hcz17_1 : w13.cell? ⟨gb730, 1, none⟩ = some (.int .i64 a1_1) := (blk_cell BK730.out 1).trans rfl; have hcz17_2 : w13.cell? ⟨gb730, 2, none⟩ = some (.string a1_2) := (blk_cell BK730.out 2).trans rfl; have hfz17_0 := blk_frozen BK730.out 0; have hfz17_1 := blk_frozen BK730.out 1; have hfz17_2 := blk_frozen BK730.out 2; have hcz18_0 : w13.cell? ⟨gb731, 0, none⟩ = some (.int .i64 a2_0) := (blk_cell BK731.out 0).trans rfl; have hcz18_1 : w13.cell? ⟨gb731, 1, none⟩ = some (.int .i64 a2_1) := (blk_cell BK731.out 1).trans rfl; have hcz18_2 : w13.cell? ⟨gb731, 2, none⟩ = some (.string a2_2) := (blk_cell BK731.out 2).trans rfl; have hfz18_0 := blk_frozen BK731.out 0; have hfz18_1 := blk_frozen BK731.out 1; have hfz18_2 := blk_frozen BK731.out 2) | ((with_reducible refine gate_callee (f := 6) rfl ?_); refine goesL_ (some 26) rfl rfl Tryz.func6 (by kernel_rfl) rfl #[.string a0, .agg #[.int .i64 a1_0, .int .i64 a1_1, .string a1_2], .agg #[.int .i64 a2_0, .int .i64 a2_1, .string a2_2]] rfl (by (try simp only [List.map_toArray, List.map_cons, List.map_nil]); first | done | rfl | (simp only [List.length_drop, List.length_take]; rfl)) ?_; (with_reducible refine (lockstepref01_Test.calls k a0 a1_0 a1_1 a1_2 a2_0 a2_1 a2_2 t737 t738 t739 t740 _ A5.out).mono ?_); rintro e w19 ⟨rfl, hb⟩; refine ⟨_, rfl, ?_⟩; have n0_ := Aside0.mk (blk_below (g := gb730) (o := .cells #[.int .i64 a1_0, .int .i64 a1_1, .string a1_2] 23 (0, 0)) (by (with_reducible repeat (first | refine blk_drewN ?_ _ | refine blk_drew ?_ | refine blk_alloc ?_ _)); refine blk_far ?_ NB730_736.out _; (with_reducible repeat (first | refine blk_drewN ?_ _ | refine blk_drew ?_ | refine blk_alloc ?_ _)); refine blk_far ?_ NB730_736.out _; (with_reducible repeat (first | refine blk_drewN ?_ _ | refine blk_drew ?_ | refine blk_alloc ?_ _)); refine blk_far ?_ NB730_736.out _; (with_reducible repeat (first | refine blk_drewN ?_ _ | refine blk_drew ?_ | refine blk_alloc ?_ _)); exact BK730.out) hb); have n1_ := Aside0.mk (blk_below (g := gb731) (o := .cells #[.int .i64 a2_0, .int .i64 a2_1, .string a2_2] 23 (0, 0)) (by (with_reducible repeat (first | refine blk_drewN ?_ _ | refine blk_drew ?_ | refine blk_alloc ?_ _)); refine blk_far ?_ NB731_736.out _; (with_reducible repeat (first | refine blk_drewN ?_ _ | refine blk_drew ?_ | refine blk_alloc ?_ _)); refine blk_far ?_ NB731_736.out _; (with_reducible repeat (first | refine blk_drewN ?_ _ | refine blk_drew ?_ | refine blk_alloc ?_ _)); refine blk_far ?_ NB731_736.out _; (with_reducible repeat (first | refine blk_drewN ?_ _ | refine blk_drew ?_ | refine blk_alloc ?_ _)); exact BK731.out) hb); have n2_ := Aside0.mk (blk_below (g := gb736) (o := .cells #[.int .i64 t732, .int .i64 t733, .string t734] 23 (0, 0)) (by (with_reducible repeat (first | refine blk_drewN ?_ _ | refine blk_drew ?_ | refine blk_alloc ?_ _)); refine blk_put (cs := #[.int .i64 t732, .int .i64 t733, .string (⟨#[]⟩ : ByteArray)]) ?_ 2 _ rfl; (with_reducible repeat (first | refine blk_drewN ?_ _ | refine blk_drew ?_ | refine blk_alloc ?_ _)); refine blk_put (cs := #[.int .i64 t732, .int .i64 0, .string (⟨#[]⟩ : ByteArray)]) ?_ 1 _ rfl; (with_reducible repeat (first | refine blk_drewN ?_ _ | refine blk_drew ?_ | refine blk_alloc ?_ _)); refine blk_put (cs := #[.int .i64 0, .int .i64 0, .string (⟨#[]⟩ : ByteArray)]) ?_ 0 _ rfl; (with_reducible repeat (first | refine blk_drewN ?_ _ | refine blk_drew ?_ | refine blk_alloc ?_ _)); exact BK736.out) hb); have n3_ := Aside0.mk (below_step (by repeat (first | (with_reducible first | exact HB.out | apply below_alloc | apply pw_below_drewN | apply below_drew1 | refine below_set ?_ GE730.out | refine below_set ?_ GE731.out | refine below_set ?_ GE736.out) | exact HB.out)) hb); clear BK730; clear BK731; clear BK736; clear HB; have BK730 := n0_; have BK731 := n1_; have BK736 := n2_; have HB := n3_; clear n0_ n1_ n2_ n3_; (try clear hb); (try clear hb2); (try clear hk); (try clear hi)) | ((with_reducible refine gate_dst (N := 9) rfl ?_); refine box_event ?hg (N := 9) ?hd (cs := #[.int .i64 0, .int .i64 0, .string (⟨#[]⟩ : ByteArray)]) (t := 23) ?hr ?_; (case hd => rfl); (case hg => rfl); (case hr => first | (go_simp; done) | (go_simp; rfl)); intro gb741 hg w20 hbox hb; have n0_ := Aside0.mk (blk_below (g := gb730) (o := .cells #[.int .i64 a1_0, .int .i64 a1_1, .string a1_2] 23 (0, 0)) (by (with_reducible repeat (first | refine blk_drewN ?_ _ | refine blk_drew ?_ | refine blk_alloc ?_ _)); exact BK730.out) hb); have n1_ := Aside0.mk (blk_below (g := gb731) (o := .cells #[.int .i64 a2_0, .int .i64 a2_1, .string a2_2] 23 (0, 0)) (by (with_reducible repeat (first | refine blk_drewN ?_ _ | refine blk_drew ?_ | refine blk_alloc ?_ _)); exact BK731.out) hb); have n2_ := Aside0.mk (blk_below (g := gb736) (o := .cells #[.int .i64 t732, .int .i64 t733, .string t734] 23 (0, 0)) (by (with_reducible repeat (first | refine blk_drewN ?_ _ | refine blk_drew ?_ | refine blk_alloc ?_ _)); exact BK736.out) hb); have n3_ := Aside0.mk (below_step (by repeat (first | (with_reducible first | exact HB.out | apply below_alloc | apply pw_below_drewN | apply below_drew1 | refine below_set ?_ GE730.out | refine below_set ?_ GE731.out | refine below_set ?_ GE736.out) | exact HB.out)) hb); have n4_ := Aside0.mk (hbox); have n5_ := Aside0.mk ((by rw [hg]; exact (below_size (by repeat (first | (with_reducible first | exact HB.out | apply below_alloc | apply pw_below_drewN | apply below_drew1 | refine below_set ?_ GE730.out | refine below_set ?_ GE731.out | refine below_set ?_ GE736.out) | exact HB.out))) : w.heap.size ≤ gb741)); have n6_ := Aside0.mk ((by rw [hg]; exact (below_size (by repeat (first | (with_reducible first | exact HB.out | apply below_alloc | apply pw_below_drewN | apply below_drew1 | refine below_set ?_ GE730.out | refine below_set ?_ GE731.out | refine below_set ?_ GE736.out) | exact HB.out))) : w.heap.size ≤ gb741)); have n7_ := Aside0.mk ((by rw [hg]; exact Nat.ne_of_lt (blk_lt (g := gb730) (o := .cells #[.int .i64 a1_0, .int .i64 a1_1, .string a1_2] 23 (0, 0)) (by (with_reducible repeat (first | refine blk_drewN ?_ _ | refine blk_drew ?_ | refine blk_alloc ?_ _)); exact BK730.out)) : gb730 ≠ gb741)); have n8_ := Aside0.mk ((by rw [hg]; exact Nat.ne_of_gt (blk_lt (g := gb730) (o := .cells #[.int .i64 a1_0, .int .i64 a1_1, .string a1_2] 23 (0, 0)) (by (with_reducible repeat (first | refine blk_drewN ?_ _ | refine blk_drew ?_ | refine blk_alloc ?_ _)); exact BK730.out)) : gb741 ≠ gb730)); have n9_ := Aside0.mk ((by rw [hg]; exact Nat.ne_of_lt (blk_lt (g := gb731) (o := .cells #[.int .i64 a2_0, .int .i64 a2_1, .string a2_2] 23 (0, 0)) (by (with_reducible repeat (first | refine blk_drewN ?_ _ | refine blk_drew ?_ | refine blk_alloc ?_ _)); exact BK731.out)) : gb731 ≠ gb741)); have n10_ := Aside0.mk ((by rw [hg]; exact Nat.ne_of_gt (blk_lt (g := gb731) (o := .cells #[.int .i64 a2_0, .int .i64 a2_1, .string a2_2] 23 (0, 0)) (by (with_reducible repeat (first | refine blk_drewN ?_ _ | refine blk_drew ?_ | refine blk_alloc ?_ _)); exact BK731.out)) : gb741 ≠ gb731)); have n11_ := Aside0.mk ((by rw [hg]; exact Nat.ne_of_lt (blk_lt (g := gb736) (o := .cells #[.int .i64 t732, .int .i64 t733, .string t734] 23 (0, 0)) (by (with_reducible repeat (first | refine blk_drewN ?_ _ | refine blk_drew ?_ | refine blk_alloc ?_ _)); exact BK736.out)) : gb736 ≠ gb741)); have n12_ := Aside0.mk ((by rw [hg]; exact Nat.ne_of_gt (blk_lt (g := gb736) (o := .cells #[.int .i64 t732, .int .i64 t733, .string t734] 23 (0, 0)) (by (with_reducible repeat (first | refine blk_drewN ?_ _ | refine blk_drew ?_ | refine blk_alloc ?_ _)); exact BK736.out)) : gb741 ≠ gb736)); clear BK730; clear BK731; clear BK736; clear HB; have BK730 := n0_; have BK731 := n1_; have BK736 := n2_; have HB := n3_; have BK741 := n4_; have GW741 := n5_; have GE741 := n6_; have NB730_741 := n7_; have NB741_730 := n8_; have NB731_741 := n9_; have NB741_731 := n10_; have NB736_741 := n11_; have NB741_736 := n12_; clear n0_ n1_ n2_ n3_ n4_ n5_ n6_ n7_ n8_ n9_ n10_ n11_ n12_; clear hb hbox hg; have hnb21 := NB741_730.out; have hnc21 := NB730_741.out; have hnb22 := NB741_731.out; have hnc22 := NB731_741.out; have hnb23 := NB741_736.out; have hnc23 := NB736_741.out; have hcz24_0 : w20.cell? ⟨gb741, 0, none⟩ = some (.int .i64 0) := (blk_cell BK741.out 0).trans rfl; have hcz24_1 : w20.cell? ⟨gb741, 1, none⟩ = some (.int .i64 0) := (blk_cell BK741.out 1).trans rfl; have hcz24_2 : w20.cell? ⟨gb741, 2, none⟩ = some (.string (⟨#[]⟩ : ByteArray)) := (blk_cell BK741.out 2).trans rfl; have hfz24_0 := blk_frozen BK741.out 0; have hfz24_1 := blk_frozen BK741.out 1; have hfz24_2 := blk_frozen BK741.out 2))
 (try simp only [Act.put, List.setIfInBounds_toArray, List.set_cons_zero, List.set_cons_succ])
 go_cut [36] (fun v36 wc => ∃ (kq : Nat) (x36_5 : Bool), v36 = .bool x36_5 ∧ Aside0 (locksteplaw01_ValueTests.j0 kq x36_5 a1_0 a1_1 a1_2 a2_0 a2_1 a2_2 = some r) ∧ Aside0 (kq ≤ k) ∧ Aside0 (wc.heap[gb730]? = some (.cells #[.int .i64 a1_0, .int .i64 a1_1, .string a1_2] 23 (0, 0))) ∧ Aside0 (wc.heap[gb731]? = some (.cells #[.int .i64 a2_0, .int .i64 a2_1, .string a2_2] 23 (0, 0))) ∧ Aside0 (wc.heap[gb736]? = some (.cells #[.int .i64 t732, .int .i64 t733, .string t734] 23 (0, 0))) ∧ Aside0 (wc.heap[gb741]? = some (.cells #[.int .i64 t737, .int .i64 t738, .string t739] 23 (0, 0))) ∧ Aside0 (Below w.heap.size w wc))
 case first =>
  have H := HC6.out
  clear HC6
  by_cases c25 : (!(t732 == t737) || (!(t733 == t738) || (!(t734.toList == t739.toList)))) = true
  ·
   rw [if_pos c25] at H
   have c25b0 : (!(t732 == t737) || (!(t733 == t738) || (!(t734.toList == t739.toList)))) = true := c25
   clear c25
   (first | rw [c25b0] | (simp only [i64_w, i32_w]; rw [c25b0]) | skip)
   have H' := Aside0.mk H
   clear H
   have hnb26 := NB736_730.out
   have hnc26 := NB730_736.out
   have hnb27 := NB736_731.out
   have hnc27 := NB731_736.out
   have hnb28 := NB736_741.out
   have hnc28 := NB741_736.out
   have hcz29_0 : w20.cell? ⟨gb736, 0, none⟩ = some (.int .i64 t732) := (blk_cell BK736.out 0).trans rfl
   have hcz29_1 : w20.cell? ⟨gb736, 1, none⟩ = some (.int .i64 t733) := (blk_cell BK736.out 1).trans rfl
   have hcz29_2 : w20.cell? ⟨gb736, 2, none⟩ = some (.string t734) := (blk_cell BK736.out 2).trans rfl
   have hfz29_0 := blk_frozen BK736.out 0
   have hfz29_1 := blk_frozen BK736.out 1
   have hfz29_2 := blk_frozen BK736.out 2
   have hnb30 := NB741_730.out
   have hnc30 := NB730_741.out
   have hnb31 := NB741_731.out
   have hnc31 := NB731_741.out
   have hcz32_0 : w20.cell? ⟨gb741, 0, none⟩ = some (.int .i64 0) := (blk_cell BK741.out 0).trans rfl
   have hcz32_1 : w20.cell? ⟨gb741, 1, none⟩ = some (.int .i64 0) := (blk_cell BK741.out 1).trans rfl
   have hcz32_2 : w20.cell? ⟨gb741, 2, none⟩ = some (.string (⟨#[]⟩ : ByteArray)) := (blk_cell BK741.out 2).trans rfl
   have hfz32_0 := blk_frozen BK741.out 0
   have hfz32_1 := blk_frozen BK741.out 1
   have hfz32_2 := blk_frozen BK741.out 2
   go_wp2
   go_meet
   case rel => exact ⟨_, (true), (by first | rfl | (simp; done) | (simp [*]; done)), H', ⟨by first | omega | exact Nat.le_refl _⟩, ⟨by (with_reducible repeat (first | refine blk_drewN ?_ _ | refine blk_drew ?_ | refine blk_alloc ?_ _)); refine blk_far ?_ NB730_741.out _; (with_reducible repeat (first | refine blk_drewN ?_ _ | refine blk_drew ?_ | refine blk_alloc ?_ _)); refine blk_far ?_ NB730_741.out _; (with_reducible repeat (first | refine blk_drewN ?_ _ | refine blk_drew ?_ | refine blk_alloc ?_ _)); refine blk_far ?_ NB730_741.out _; (with_reducible repeat (first | refine blk_drewN ?_ _ | refine blk_drew ?_ | refine blk_alloc ?_ _)); exact BK730.out⟩, ⟨by (with_reducible repeat (first | refine blk_drewN ?_ _ | refine blk_drew ?_ | refine blk_alloc ?_ _)); refine blk_far ?_ NB731_741.out _; (with_reducible repeat (first | refine blk_drewN ?_ _ | refine blk_drew ?_ | refine blk_alloc ?_ _)); refine blk_far ?_ NB731_741.out _; (with_reducible repeat (first | refine blk_drewN ?_ _ | refine blk_drew ?_ | refine blk_alloc ?_ _)); refine blk_far ?_ NB731_741.out _; (with_reducible repeat (first | refine blk_drewN ?_ _ | refine blk_drew ?_ | refine blk_alloc ?_ _)); exact BK731.out⟩, ⟨by (with_reducible repeat (first | refine blk_drewN ?_ _ | refine blk_drew ?_ | refine blk_alloc ?_ _)); refine blk_far ?_ NB736_741.out _; (with_reducible repeat (first | refine blk_drewN ?_ _ | refine blk_drew ?_ | refine blk_alloc ?_ _)); refine blk_far ?_ NB736_741.out _; (with_reducible repeat (first | refine blk_drewN ?_ _ | refine blk_drew ?_ | refine blk_alloc ?_ _)); refine blk_far ?_ NB736_741.out _; (with_reducible repeat (first | refine blk_drewN ?_ _ | refine blk_drew ?_ | refine blk_alloc ?_ _)); exact BK736.out⟩, ⟨by (with_reducible repeat (first | refine blk_drewN ?_ _ | refine blk_drew ?_ | refine blk_alloc ?_ _)); refine blk_put (cs := #[.int .i64 t737, .int .i64 t738, .string (⟨#[]⟩ : ByteArray)]) ?_ 2 _ rfl; (with_reducible repeat (first | refine blk_drewN ?_ _ | refine blk_drew ?_ | refine blk_alloc ?_ _)); refine blk_put (cs := #[.int .i64 t737, .int .i64 0, .string (⟨#[]⟩ : ByteArray)]) ?_ 1 _ rfl; (with_reducible repeat (first | refine blk_drewN ?_ _ | refine blk_drew ?_ | refine blk_alloc ?_ _)); refine blk_put (cs := #[.int .i64 0, .int .i64 0, .string (⟨#[]⟩ : ByteArray)]) ?_ 0 _ rfl; (with_reducible repeat (first | refine blk_drewN ?_ _ | refine blk_drew ?_ | refine blk_alloc ?_ _)); exact BK741.out⟩, ⟨by repeat (first | (with_reducible first | exact HB.out | apply below_alloc | apply pw_below_drewN | apply below_drew1 | refine below_set ?_ GE730.out | refine below_set ?_ GE731.out | refine below_set ?_ GE736.out | refine below_set ?_ GE741.out) | exact HB.out)⟩⟩
  ·
   rw [if_neg c25] at H
   have c25b0 : (!(t732 == t737) || (!(t733 == t738) || (!(t734.toList == t739.toList)))) = false := by simpa using c25
   clear c25
   (first | rw [c25b0] | (simp only [i64_w, i32_w]; rw [c25b0]) | skip)
   have H' := Aside0.mk H
   clear H
   have hnb33 := NB736_730.out
   have hnc33 := NB730_736.out
   have hnb34 := NB736_731.out
   have hnc34 := NB731_736.out
   have hnb35 := NB736_741.out
   have hnc35 := NB741_736.out
   have hcz36_0 : w20.cell? ⟨gb736, 0, none⟩ = some (.int .i64 t732) := (blk_cell BK736.out 0).trans rfl
   have hcz36_1 : w20.cell? ⟨gb736, 1, none⟩ = some (.int .i64 t733) := (blk_cell BK736.out 1).trans rfl
   have hcz36_2 : w20.cell? ⟨gb736, 2, none⟩ = some (.string t734) := (blk_cell BK736.out 2).trans rfl
   have hfz36_0 := blk_frozen BK736.out 0
   have hfz36_1 := blk_frozen BK736.out 1
   have hfz36_2 := blk_frozen BK736.out 2
   have hnb37 := NB741_730.out
   have hnc37 := NB730_741.out
   have hnb38 := NB741_731.out
   have hnc38 := NB731_741.out
   have hcz39_0 : w20.cell? ⟨gb741, 0, none⟩ = some (.int .i64 0) := (blk_cell BK741.out 0).trans rfl
   have hcz39_1 : w20.cell? ⟨gb741, 1, none⟩ = some (.int .i64 0) := (blk_cell BK741.out 1).trans rfl
   have hcz39_2 : w20.cell? ⟨gb741, 2, none⟩ = some (.string (⟨#[]⟩ : ByteArray)) := (blk_cell BK741.out 2).trans rfl
   have hfz39_0 := blk_frozen BK741.out 0
   have hfz39_1 := blk_frozen BK741.out 1
   have hfz39_2 := blk_frozen BK741.out 2
   go_wp2
   go_meet
   case rel => exact ⟨_, ((t735 != t740)), (by first | rfl | (simp; done) | (simp [*]; done)), H', ⟨by first | omega | exact Nat.le_refl _⟩, ⟨by (with_reducible repeat (first | refine blk_drewN ?_ _ | refine blk_drew ?_ | refine blk_alloc ?_ _)); refine blk_far ?_ NB730_741.out _; (with_reducible repeat (first | refine blk_drewN ?_ _ | refine blk_drew ?_ | refine blk_alloc ?_ _)); refine blk_far ?_ NB730_741.out _; (with_reducible repeat (first | refine blk_drewN ?_ _ | refine blk_drew ?_ | refine blk_alloc ?_ _)); refine blk_far ?_ NB730_741.out _; (with_reducible repeat (first | refine blk_drewN ?_ _ | refine blk_drew ?_ | refine blk_alloc ?_ _)); exact BK730.out⟩, ⟨by (with_reducible repeat (first | refine blk_drewN ?_ _ | refine blk_drew ?_ | refine blk_alloc ?_ _)); refine blk_far ?_ NB731_741.out _; (with_reducible repeat (first | refine blk_drewN ?_ _ | refine blk_drew ?_ | refine blk_alloc ?_ _)); refine blk_far ?_ NB731_741.out _; (with_reducible repeat (first | refine blk_drewN ?_ _ | refine blk_drew ?_ | refine blk_alloc ?_ _)); refine blk_far ?_ NB731_741.out _; (with_reducible repeat (first | refine blk_drewN ?_ _ | refine blk_drew ?_ | refine blk_alloc ?_ _)); exact BK731.out⟩, ⟨by (with_reducible repeat (first | refine blk_drewN ?_ _ | refine blk_drew ?_ | refine blk_alloc ?_ _)); refine blk_far ?_ NB736_741.out _; (with_reducible repeat (first | refine blk_drewN ?_ _ | refine blk_drew ?_ | refine blk_alloc ?_ _)); refine blk_far ?_ NB736_741.out _; (with_reducible repeat (first | refine blk_drewN ?_ _ | refine blk_drew ?_ | refine blk_alloc ?_ _)); refine blk_far ?_ NB736_741.out _; (with_reducible repeat (first | refine blk_drewN ?_ _ | refine blk_drew ?_ | refine blk_alloc ?_ _)); exact BK736.out⟩, ⟨by (with_reducible repeat (first | refine blk_drewN ?_ _ | refine blk_drew ?_ | refine blk_alloc ?_ _)); refine blk_put (cs := #[.int .i64 t737, .int .i64 t738, .string (⟨#[]⟩ : ByteArray)]) ?_ 2 _ rfl; (with_reducible repeat (first | refine blk_drewN ?_ _ | refine blk_drew ?_ | refine blk_alloc ?_ _)); refine blk_put (cs := #[.int .i64 t737, .int .i64 0, .string (⟨#[]⟩ : ByteArray)]) ?_ 1 _ rfl; (with_reducible repeat (first | refine blk_drewN ?_ _ | refine blk_drew ?_ | refine blk_alloc ?_ _)); refine blk_put (cs := #[.int .i64 0, .int .i64 0, .string (⟨#[]⟩ : ByteArray)]) ?_ 0 _ rfl; (with_reducible repeat (first | refine blk_drewN ?_ _ | refine blk_drew ?_ | refine blk_alloc ?_ _)); exact BK741.out⟩, ⟨by repeat (first | (with_reducible first | exact HB.out | apply below_alloc | apply pw_below_drewN | apply below_drew1 | refine below_set ?_ GE730.out | refine below_set ?_ GE731.out | refine below_set ?_ GE736.out | refine below_set ?_ GE741.out) | exact HB.out)⟩⟩
 case rest =>
  clear HC6
  (try clear c1); (try clear c2); (try clear p2); (try clear c3); (try clear c5); (try clear c6); (try clear c9); (try clear c14); (try clear c15); (try clear c21); (try clear c22); (try clear c23); (try clear c25); (try clear c25b0); (try clear c26); (try clear c27); (try clear c28); (try clear c30); (try clear c31); (try clear c33); (try clear c34); (try clear c35); (try clear c37); (try clear c38)
  (try clear hcz10_0); (try clear hcz10_1); (try clear hcz10_2); (try clear hcz11_0); (try clear hcz11_1); (try clear hcz11_2); (try clear hcz16_0); (try clear hcz16_1); (try clear hcz16_2); (try clear hcz17_0); (try clear hcz17_1); (try clear hcz17_2); (try clear hcz18_0); (try clear hcz18_1); (try clear hcz18_2); (try clear hcz24_0); (try clear hcz24_1); (try clear hcz24_2); (try clear hcz29_0); (try clear hcz29_1)
  (try clear hcz29_2); (try clear hcz32_0); (try clear hcz32_1); (try clear hcz32_2); (try clear hcz36_0); (try clear hcz36_1); (try clear hcz36_2); (try clear hcz39_0); (try clear hcz39_1); (try clear hcz39_2); (try clear hfz10_0); (try clear hfz10_1); (try clear hfz10_2); (try clear hfz11_0); (try clear hfz11_1); (try clear hfz11_2); (try clear hfz16_0); (try clear hfz16_1); (try clear hfz16_2); (try clear hfz17_0)
  (try clear hfz17_1); (try clear hfz17_2); (try clear hfz18_0); (try clear hfz18_1); (try clear hfz18_2); (try clear hfz24_0); (try clear hfz24_1); (try clear hfz24_2); (try clear hfz29_0); (try clear hfz29_1); (try clear hfz29_2); (try clear hfz32_0); (try clear hfz32_1); (try clear hfz32_2); (try clear hfz36_0); (try clear hfz36_1); (try clear hfz36_2); (try clear hfz39_0); (try clear hfz39_1); (try clear hfz39_2)
  obtain ⟨kq, x36_5, rfl, HA, HJ5, BK730, BK731, BK736, BK741, HB⟩ := hcut
  cases kq with
  | zero => exact absurd HA.out (by simp [locksteplaw01_ValueTests.j0])
  | succ kj5 =>
   have H := HA.out
   clear HA
   simp only [locksteplaw01_ValueTests.j0] at H
   by_cases c40 : x36_5 = true
   ·
    subst c40
    have H1 : (some false) = some r := by rw [if_pos rfl] at H; exact H
    clear H
    have H := H1
    clear H1
    exact absurd (Option.some.inj H) (by rw [HR.out]; simp)
   ·
    replace c40 := Bool.eq_false_iff.mpr c40
    subst c40
    have H1 : ((value_Test.f kj5 (⟨#[60]⟩ : ByteArray) a1_0 a1_1 a1_2 a2_0 a2_1 a2_2).bind fun bt742 => ((value_Test.f kj5 (⟨#[62]⟩ : ByteArray) a2_0 a2_1 a2_2 a1_0 a1_1 a1_2).bind fun bt747 => (if (bt742.1 == bt747.1 && (bt742.2.1 == bt747.2.1 && (bt742.2.2.1.toList == bt747.2.2.1.toList))) = true then (if ((bt742.2.2.2 == 0) == (bt747.2.2.2 == 0)) = true then ((locksteplaw01_lives.f kj5).bind fun t752 => (some t752)) else (some false)) else (some false)))) = some r := by rw [if_neg (show ¬ (false = true) by decide)] at H; exact H
    clear H
    have H := H1
    clear H1
    replace H := Option.bind_eq_some_iff.mp H
    obtain ⟨⟨t742, t743, t744, t745⟩, A410, H⟩ := H
    replace H : ((value_Test.f kj5 (⟨#[62]⟩ : ByteArray) a2_0 a2_1 a2_2 a1_0 a1_1 a1_2).bind fun bt747 => (if (t742 == bt747.1 && (t743 == bt747.2.1 && (t744.toList == bt747.2.2.1.toList))) = true then (if ((t745 == 0) == (bt747.2.2.2 == 0)) = true then ((locksteplaw01_lives.f kj5).bind fun t752 => (some t752)) else (some false)) else (some false))) = some r := H
    have A41 := Aside0.mk A410
    clear A410
    replace H := Option.bind_eq_some_iff.mp H
    obtain ⟨⟨t747, t748, t749, t750⟩, A420, H⟩ := H
    replace H : (if (t742 == t747 && (t743 == t748 && (t744.toList == t749.toList))) = true then (if ((t745 == 0) == (t750 == 0)) = true then ((locksteplaw01_lives.f kj5).bind fun t752 => (some t752)) else (some false)) else (some false)) = some r := H
    have A42 := Aside0.mk A420
    clear A420
    by_cases c43 : (t742 == t747 && (t743 == t748 && (t744.toList == t749.toList))) = true
    ·
     rw [if_pos c43] at H
     have c43b0 : (t742 == t747 && (t743 == t748 && (t744.toList == t749.toList))) = true := c43
     (try (have c43b1 : decide (t742 = t747 && (t743 == t748 && (t744.toList == t749.toList))) = true := by simpa using c43))
     (try (have c43b2 : (t742 == t747 && (t743 == t748 && (t744.toList == t749.toList))) = true := by simpa using c43))
     clear c43
     by_cases c44 : ((t745 == 0) == (t750 == 0)) = true
     ·
      rw [if_pos c44] at H
      have c44b0 : ((t745 == 0) == (t750 == 0)) = true := c44
      (try (have c44b1 : decide ((t745 == 0) = (t750 == 0)) = true := by simpa using c44))
      (try (have c44b2 : ((t745 == 0) == (t750 == 0)) = true := by simpa using c44))
      clear c44
      replace H := Option.bind_eq_some_iff.mp H
      obtain ⟨t752, A450, H⟩ := H
      replace H : (some t752) = some r := H
      have A45 := Aside0.mk A450
      clear A450
      obtain rfl := Option.some.inj H
      have hnb46 := NB730_731.out
      have hnc46 := NB731_730.out
      have hnb47 := NB730_736.out
      have hnc47 := NB736_730.out
      have hnb48 := NB730_741.out
      have hnc48 := NB741_730.out
      have hcz49_0 : wc.cell? ⟨gb730, 0, none⟩ = some (.int .i64 a1_0) := (blk_cell BK730.out 0).trans rfl
      have hcz49_1 : wc.cell? ⟨gb730, 1, none⟩ = some (.int .i64 a1_1) := (blk_cell BK730.out 1).trans rfl
      have hcz49_2 : wc.cell? ⟨gb730, 2, none⟩ = some (.string a1_2) := (blk_cell BK730.out 2).trans rfl
      have hfz49_0 := blk_frozen BK730.out 0
      have hfz49_1 := blk_frozen BK730.out 1
      have hfz49_2 := blk_frozen BK730.out 2
      have hnb50 := NB731_736.out
      have hnc50 := NB736_731.out
      have hnb51 := NB731_741.out
      have hnc51 := NB741_731.out
      have hcz52_0 : wc.cell? ⟨gb731, 0, none⟩ = some (.int .i64 a2_0) := (blk_cell BK731.out 0).trans rfl
      have hcz52_1 : wc.cell? ⟨gb731, 1, none⟩ = some (.int .i64 a2_1) := (blk_cell BK731.out 1).trans rfl
      have hcz52_2 : wc.cell? ⟨gb731, 2, none⟩ = some (.string a2_2) := (blk_cell BK731.out 2).trans rfl
      have hfz52_0 := blk_frozen BK731.out 0
      have hfz52_1 := blk_frozen BK731.out 1
      have hfz52_2 := blk_frozen BK731.out 2
      go_wp2_with (first | ((with_reducible refine gate_callee (f := 5) rfl ?_); refine goesL_ (some 40) rfl rfl Tryz.func5 (by kernel_rfl) rfl #[.string (⟨#[60]⟩ : ByteArray), .agg #[.int .i64 a1_0, .int .i64 a1_1, .string a1_2], .agg #[.int .i64 a2_0, .int .i64 a2_1, .string a2_2]] rfl (by (try simp only [List.map_toArray, List.map_cons, List.map_nil]); first | done | rfl | (simp only [List.length_drop, List.length_take]; rfl)) ?_; (with_reducible refine (value_Test.calls kj5 (⟨#[60]⟩ : ByteArray) a1_0 a1_1 a1_2 a2_0 a2_1 a2_2 t742 t743 t744 t745 _ ?side1 A41.out).mono ?_); (case side1 => exact Tabs.below HT.out (by repeat (first | (with_reducible first | exact HB.out | apply below_alloc | apply pw_below_drewN | apply below_drew1 | refine below_set ?_ GE730.out | refine below_set ?_ GE731.out | refine below_set ?_ GE736.out | refine below_set ?_ GE741.out) | exact HB.out))); rintro e w53 ⟨rfl, hb⟩; refine ⟨_, rfl, ?_⟩; have n0_ := Aside0.mk (blk_below (g := gb730) (o := .cells #[.int .i64 a1_0, .int .i64 a1_1, .string a1_2] 23 (0, 0)) (by (with_reducible repeat (first | refine blk_drewN ?_ _ | refine blk_drew ?_ | refine blk_alloc ?_ _)); exact BK730.out) hb); have n1_ := Aside0.mk (blk_below (g := gb731) (o := .cells #[.int .i64 a2_0, .int .i64 a2_1, .string a2_2] 23 (0, 0)) (by (with_reducible repeat (first | refine blk_drewN ?_ _ | refine blk_drew ?_ | refine blk_alloc ?_ _)); exact BK731.out) hb); have n2_ := Aside0.mk (blk_below (g := gb736) (o := .cells #[.int .i64 t732, .int .i64 t733, .string t734] 23 (0, 0)) (by (with_reducible repeat (first | refine blk_drewN ?_ _ | refine blk_drew ?_ | refine blk_alloc ?_ _)); exact BK736.out) hb); have n3_ := Aside0.mk (blk_below (g := gb741) (o := .cells #[.int .i64 t737, .int .i64 t738, .string t739] 23 (0, 0)) (by (with_reducible repeat (first | refine blk_drewN ?_ _ | refine blk_drew ?_ | refine blk_alloc ?_ _)); exact BK741.out) hb); have n4_ := Aside0.mk (below_step (by repeat (first | (with_reducible first | exact HB.out | apply below_alloc | apply pw_below_drewN | apply below_drew1 | refine below_set ?_ GE730.out | refine below_set ?_ GE731.out | refine below_set ?_ GE736.out | refine below_set ?_ GE741.out) | exact HB.out)) hb); clear BK730; clear BK731; clear BK736; clear BK741; clear HB; have BK730 := n0_; have BK731 := n1_; have BK736 := n2_; have BK741 := n3_; have HB := n4_; clear n0_ n1_ n2_ n3_ n4_; (try clear hb); (try clear hb2); (try clear hk); (try clear hi)) | ((with_reducible refine gate_dst (N := 11) rfl ?_); refine box_event ?hg (N := 11) ?hd (cs := #[.int .i64 0, .int .i64 0, .string (⟨#[]⟩ : ByteArray)]) (t := 23) ?hr ?_; (case hd => rfl); (case hg => rfl); (case hr => first | (go_simp; done) | (go_simp; rfl)); intro gb746 hg w54 hbox hb; have n0_ := Aside0.mk (blk_below (g := gb730) (o := .cells #[.int .i64 a1_0, .int .i64 a1_1, .string a1_2] 23 (0, 0)) (by (with_reducible repeat (first | refine blk_drewN ?_ _ | refine blk_drew ?_ | refine blk_alloc ?_ _)); exact BK730.out) hb); have n1_ := Aside0.mk (blk_below (g := gb731) (o := .cells #[.int .i64 a2_0, .int .i64 a2_1, .string a2_2] 23 (0, 0)) (by (with_reducible repeat (first | refine blk_drewN ?_ _ | refine blk_drew ?_ | refine blk_alloc ?_ _)); exact BK731.out) hb); have n2_ := Aside0.mk (blk_below (g := gb736) (o := .cells #[.int .i64 t732, .int .i64 t733, .string t734] 23 (0, 0)) (by (with_reducible repeat (first | refine blk_drewN ?_ _ | refine blk_drew ?_ | refine blk_alloc ?_ _)); exact BK736.out) hb); have n3_ := Aside0.mk (blk_below (g := gb741) (o := .cells #[.int .i64 t737, .int .i64 t738, .string t739] 23 (0, 0)) (by (with_reducible repeat (first | refine blk_drewN ?_ _ | refine blk_drew ?_ | refine blk_alloc ?_ _)); exact BK741.out) hb); have n4_ := Aside0.mk (below_step (by repeat (first | (with_reducible first | exact HB.out | apply below_alloc | apply pw_below_drewN | apply below_drew1 | refine below_set ?_ GE730.out | refine below_set ?_ GE731.out | refine below_set ?_ GE736.out | refine below_set ?_ GE741.out) | exact HB.out)) hb); have n5_ := Aside0.mk (hbox); have n6_ := Aside0.mk ((by rw [hg]; exact (below_size (by repeat (first | (with_reducible first | exact HB.out | apply below_alloc | apply pw_below_drewN | apply below_drew1 | refine below_set ?_ GE730.out | refine below_set ?_ GE731.out | refine below_set ?_ GE736.out | refine below_set ?_ GE741.out) | exact HB.out))) : w.heap.size ≤ gb746)); have n7_ := Aside0.mk ((by rw [hg]; exact (below_size (by repeat (first | (with_reducible first | exact HB.out | apply below_alloc | apply pw_below_drewN | apply below_drew1 | refine below_set ?_ GE730.out | refine below_set ?_ GE731.out | refine below_set ?_ GE736.out | refine below_set ?_ GE741.out) | exact HB.out))) : w.heap.size ≤ gb746)); have n8_ := Aside0.mk ((by rw [hg]; exact Nat.ne_of_lt (blk_lt (g := gb730) (o := .cells #[.int .i64 a1_0, .int .i64 a1_1, .string a1_2] 23 (0, 0)) (by (with_reducible repeat (first | refine blk_drewN ?_ _ | refine blk_drew ?_ | refine blk_alloc ?_ _)); exact BK730.out)) : gb730 ≠ gb746)); have n9_ := Aside0.mk ((by rw [hg]; exact Nat.ne_of_gt (blk_lt (g := gb730) (o := .cells #[.int .i64 a1_0, .int .i64 a1_1, .string a1_2] 23 (0, 0)) (by (with_reducible repeat (first | refine blk_drewN ?_ _ | refine blk_drew ?_ | refine blk_alloc ?_ _)); exact BK730.out)) : gb746 ≠ gb730)); have n10_ := Aside0.mk ((by rw [hg]; exact Nat.ne_of_lt (blk_lt (g := gb731) (o := .cells #[.int .i64 a2_0, .int .i64 a2_1, .string a2_2] 23 (0, 0)) (by (with_reducible repeat (first | refine blk_drewN ?_ _ | refine blk_drew ?_ | refine blk_alloc ?_ _)); exact BK731.out)) : gb731 ≠ gb746)); have n11_ := Aside0.mk ((by rw [hg]; exact Nat.ne_of_gt (blk_lt (g := gb731) (o := .cells #[.int .i64 a2_0, .int .i64 a2_1, .string a2_2] 23 (0, 0)) (by (with_reducible repeat (first | refine blk_drewN ?_ _ | refine blk_drew ?_ | refine blk_alloc ?_ _)); exact BK731.out)) : gb746 ≠ gb731)); have n12_ := Aside0.mk ((by rw [hg]; exact Nat.ne_of_lt (blk_lt (g := gb736) (o := .cells #[.int .i64 t732, .int .i64 t733, .string t734] 23 (0, 0)) (by (with_reducible repeat (first | refine blk_drewN ?_ _ | refine blk_drew ?_ | refine blk_alloc ?_ _)); exact BK736.out)) : gb736 ≠ gb746)); have n13_ := Aside0.mk ((by rw [hg]; exact Nat.ne_of_gt (blk_lt (g := gb736) (o := .cells #[.int .i64 t732, .int .i64 t733, .string t734] 23 (0, 0)) (by (with_reducible repeat (first | refine blk_drewN ?_ _ | refine blk_drew ?_ | refine blk_alloc ?_ _)); exact BK736.out)) : gb746 ≠ gb736)); have n14_ := Aside0.mk ((by rw [hg]; exact Nat.ne_of_lt (blk_lt (g := gb741) (o := .cells #[.int .i64 t737, .int .i64 t738, .string t739] 23 (0, 0)) (by (with_reducible repeat (first | refine blk_drewN ?_ _ | refine blk_drew ?_ | refine blk_alloc ?_ _)); exact BK741.out)) : gb741 ≠ gb746)); have n15_ := Aside0.mk ((by rw [hg]; exact Nat.ne_of_gt (blk_lt (g := gb741) (o := .cells #[.int .i64 t737, .int .i64 t738, .string t739] 23 (0, 0)) (by (with_reducible repeat (first | refine blk_drewN ?_ _ | refine blk_drew ?_ | refine blk_alloc ?_ _)); exact BK741.out)) : gb746 ≠ gb741)); clear BK730; clear BK731; clear BK736; clear BK741; clear HB; have BK730 := n0_; have BK731 := n1_; have BK736 := n2_; have BK741 := n3_; have HB := n4_; have BK746 := n5_; have GW746 := n6_; have GE746 := n7_; have NB730_746 := n8_; have NB746_730 := n9_; have NB731_746 := n10_; have NB746_731 := n11_; have NB736_746 := n12_; have NB746_736 := n13_; have NB741_746 := n14_; have NB746_741 := n15_; clear n0_ n1_ n2_ n3_ n4_ n5_ n6_ n7_ n8_ n9_ n10_ n11_ n12_ n13_ n14_ n15_; clear hb hbox hg; have hnb55 := NB746_730.out; have hnc55 := NB730_746.out; have hnb56 := NB746_731.out; have hnc56 := NB731_746.out; have hnb57 := NB746_736.out; have hnc57 := NB736_746.out; have hnb58 := NB746_741.out; have hnc58 := NB741_746.out; have hcz59_0 : w54.cell? ⟨gb746, 0, none⟩ = some (.int .i64 0) := (blk_cell BK746.out 0).trans rfl; have hcz59_1 : w54.cell? ⟨gb746, 1, none⟩ = some (.int .i64 0) := (blk_cell BK746.out 1).trans rfl; have hcz59_2 : w54.cell? ⟨gb746, 2, none⟩ = some (.string (⟨#[]⟩ : ByteArray)) := (blk_cell BK746.out 2).trans rfl; have hfz59_0 := blk_frozen BK746.out 0; have hfz59_1 := blk_frozen BK746.out 1; have hfz59_2 := blk_frozen BK746.out 2; have hcz60_0 : w54.cell? ⟨gb731, 0, none⟩ = some (.int .i64 a2_0) := (blk_cell BK731.out 0).trans rfl; have hcz60_1 : w54.cell? ⟨gb731, 1, none⟩ = some (.int .i64 a2_1) := (blk_cell BK731.out 1).trans rfl; have hcz60_2 : w54.cell? ⟨gb731, 2, none⟩ = some (.string a2_2) := (blk_cell BK731.out 2).trans rfl; have hfz60_0 := blk_frozen BK731.out 0; have hfz60_1 := blk_frozen BK731.out 1; have hfz60_2 := blk_frozen BK731.out 2; have hcz61_0 : w54.cell? ⟨gb730, 0, none⟩ = some (.int .i64 a1_0) := (blk_cell BK730.out 0).trans rfl; have hcz61_1 : w54.cell? ⟨gb730, 1, none⟩ = some (.int .i64 a1_1) := (blk_cell BK730.out 1).trans rfl; have hcz61_2 : w54.cell? ⟨gb730, 2, none⟩ = some (.string a1_2) := (blk_cell BK730.out 2).trans rfl; have hfz61_0 := blk_frozen BK730.out 0; have hfz61_1 := blk_frozen BK730.out 1; have hfz61_2 := blk_frozen BK730.out 2) | ((with_reducible refine gate_callee (f := 5) rfl ?_); refine goesL_ (some 46) rfl rfl Tryz.func5 (by kernel_rfl) rfl #[.string (⟨#[62]⟩ : ByteArray), .agg #[.int .i64 a2_0, .int .i64 a2_1, .string a2_2], .agg #[.int .i64 a1_0, .int .i64 a1_1, .string a1_2]] rfl (by (try simp only [List.map_toArray, List.map_cons, List.map_nil]); first | done | rfl | (simp only [List.length_drop, List.length_take]; rfl)) ?_; (with_reducible refine (value_Test.calls kj5 (⟨#[62]⟩ : ByteArray) a2_0 a2_1 a2_2 a1_0 a1_1 a1_2 t747 t748 t749 t750 _ ?side1 A42.out).mono ?_); (case side1 => exact Tabs.below HT.out (by repeat (first | (with_reducible first | exact HB.out | apply below_alloc | apply pw_below_drewN | apply below_drew1 | refine below_set ?_ GE730.out | refine below_set ?_ GE731.out | refine below_set ?_ GE736.out | refine below_set ?_ GE741.out | refine below_set ?_ GE746.out) | exact HB.out))); rintro e w62 ⟨rfl, hb⟩; refine ⟨_, rfl, ?_⟩; have n0_ := Aside0.mk (blk_below (g := gb730) (o := .cells #[.int .i64 a1_0, .int .i64 a1_1, .string a1_2] 23 (0, 0)) (by (with_reducible repeat (first | refine blk_drewN ?_ _ | refine blk_drew ?_ | refine blk_alloc ?_ _)); refine blk_far ?_ NB730_746.out _; (with_reducible repeat (first | refine blk_drewN ?_ _ | refine blk_drew ?_ | refine blk_alloc ?_ _)); refine blk_far ?_ NB730_746.out _; (with_reducible repeat (first | refine blk_drewN ?_ _ | refine blk_drew ?_ | refine blk_alloc ?_ _)); refine blk_far ?_ NB730_746.out _; (with_reducible repeat (first | refine blk_drewN ?_ _ | refine blk_drew ?_ | refine blk_alloc ?_ _)); exact BK730.out) hb); have n1_ := Aside0.mk (blk_below (g := gb731) (o := .cells #[.int .i64 a2_0, .int .i64 a2_1, .string a2_2] 23 (0, 0)) (by (with_reducible repeat (first | refine blk_drewN ?_ _ | refine blk_drew ?_ | refine blk_alloc ?_ _)); refine blk_far ?_ NB731_746.out _; (with_reducible repeat (first | refine blk_drewN ?_ _ | refine blk_drew ?_ | refine blk_alloc ?_ _)); refine blk_far ?_ NB731_746.out _; (with_reducible repeat (first | refine blk_drewN ?_ _ | refine blk_drew ?_ | refine blk_alloc ?_ _)); refine blk_far ?_ NB731_746.out _; (with_reducible repeat (first | refine blk_drewN ?_ _ | refine blk_drew ?_ | refine blk_alloc ?_ _)); exact BK731.out) hb); have n2_ := Aside0.mk (blk_below (g := gb736) (o := .cells #[.int .i64 t732, .int .i64 t733, .string t734] 23 (0, 0)) (by (with_reducible repeat (first | refine blk_drewN ?_ _ | refine blk_drew ?_ | refine blk_alloc ?_ _)); refine blk_far ?_ NB736_746.out _; (with_reducible repeat (first | refine blk_drewN ?_ _ | refine blk_drew ?_ | refine blk_alloc ?_ _)); refine blk_far ?_ NB736_746.out _; (with_reducible repeat (first | refine blk_drewN ?_ _ | refine blk_drew ?_ | refine blk_alloc ?_ _)); refine blk_far ?_ NB736_746.out _; (with_reducible repeat (first | refine blk_drewN ?_ _ | refine blk_drew ?_ | refine blk_alloc ?_ _)); exact BK736.out) hb); have n3_ := Aside0.mk (blk_below (g := gb741) (o := .cells #[.int .i64 t737, .int .i64 t738, .string t739] 23 (0, 0)) (by (with_reducible repeat (first | refine blk_drewN ?_ _ | refine blk_drew ?_ | refine blk_alloc ?_ _)); refine blk_far ?_ NB741_746.out _; (with_reducible repeat (first | refine blk_drewN ?_ _ | refine blk_drew ?_ | refine blk_alloc ?_ _)); refine blk_far ?_ NB741_746.out _; (with_reducible repeat (first | refine blk_drewN ?_ _ | refine blk_drew ?_ | refine blk_alloc ?_ _)); refine blk_far ?_ NB741_746.out _; (with_reducible repeat (first | refine blk_drewN ?_ _ | refine blk_drew ?_ | refine blk_alloc ?_ _)); exact BK741.out) hb); have n4_ := Aside0.mk (blk_below (g := gb746) (o := .cells #[.int .i64 t742, .int .i64 t743, .string t744] 23 (0, 0)) (by (with_reducible repeat (first | refine blk_drewN ?_ _ | refine blk_drew ?_ | refine blk_alloc ?_ _)); refine blk_put (cs := #[.int .i64 t742, .int .i64 t743, .string (⟨#[]⟩ : ByteArray)]) ?_ 2 _ rfl; (with_reducible repeat (first | refine blk_drewN ?_ _ | refine blk_drew ?_ | refine blk_alloc ?_ _)); refine blk_put (cs := #[.int .i64 t742, .int .i64 0, .string (⟨#[]⟩ : ByteArray)]) ?_ 1 _ rfl; (with_reducible repeat (first | refine blk_drewN ?_ _ | refine blk_drew ?_ | refine blk_alloc ?_ _)); refine blk_put (cs := #[.int .i64 0, .int .i64 0, .string (⟨#[]⟩ : ByteArray)]) ?_ 0 _ rfl; (with_reducible repeat (first | refine blk_drewN ?_ _ | refine blk_drew ?_ | refine blk_alloc ?_ _)); exact BK746.out) hb); have n5_ := Aside0.mk (below_step (by repeat (first | (with_reducible first | exact HB.out | apply below_alloc | apply pw_below_drewN | apply below_drew1 | refine below_set ?_ GE730.out | refine below_set ?_ GE731.out | refine below_set ?_ GE736.out | refine below_set ?_ GE741.out | refine below_set ?_ GE746.out) | exact HB.out)) hb); clear BK730; clear BK731; clear BK736; clear BK741; clear BK746; clear HB; have BK730 := n0_; have BK731 := n1_; have BK736 := n2_; have BK741 := n3_; have BK746 := n4_; have HB := n5_; clear n0_ n1_ n2_ n3_ n4_ n5_; (try clear hb); (try clear hb2); (try clear hk); (try clear hi)) | ((with_reducible refine gate_dst (N := 13) rfl ?_); refine box_event ?hg (N := 13) ?hd (cs := #[.int .i64 0, .int .i64 0, .string (⟨#[]⟩ : ByteArray)]) (t := 23) ?hr ?_; (case hd => rfl); (case hg => rfl); (case hr => first | (go_simp; done) | (go_simp; rfl)); intro gb751 hg w63 hbox hb; have n0_ := Aside0.mk (blk_below (g := gb730) (o := .cells #[.int .i64 a1_0, .int .i64 a1_1, .string a1_2] 23 (0, 0)) (by (with_reducible repeat (first | refine blk_drewN ?_ _ | refine blk_drew ?_ | refine blk_alloc ?_ _)); exact BK730.out) hb); have n1_ := Aside0.mk (blk_below (g := gb731) (o := .cells #[.int .i64 a2_0, .int .i64 a2_1, .string a2_2] 23 (0, 0)) (by (with_reducible repeat (first | refine blk_drewN ?_ _ | refine blk_drew ?_ | refine blk_alloc ?_ _)); exact BK731.out) hb); have n2_ := Aside0.mk (blk_below (g := gb736) (o := .cells #[.int .i64 t732, .int .i64 t733, .string t734] 23 (0, 0)) (by (with_reducible repeat (first | refine blk_drewN ?_ _ | refine blk_drew ?_ | refine blk_alloc ?_ _)); exact BK736.out) hb); have n3_ := Aside0.mk (blk_below (g := gb741) (o := .cells #[.int .i64 t737, .int .i64 t738, .string t739] 23 (0, 0)) (by (with_reducible repeat (first | refine blk_drewN ?_ _ | refine blk_drew ?_ | refine blk_alloc ?_ _)); exact BK741.out) hb); have n4_ := Aside0.mk (blk_below (g := gb746) (o := .cells #[.int .i64 t742, .int .i64 t743, .string t744] 23 (0, 0)) (by (with_reducible repeat (first | refine blk_drewN ?_ _ | refine blk_drew ?_ | refine blk_alloc ?_ _)); exact BK746.out) hb); have n5_ := Aside0.mk (below_step (by repeat (first | (with_reducible first | exact HB.out | apply below_alloc | apply pw_below_drewN | apply below_drew1 | refine below_set ?_ GE730.out | refine below_set ?_ GE731.out | refine below_set ?_ GE736.out | refine below_set ?_ GE741.out | refine below_set ?_ GE746.out) | exact HB.out)) hb); have n6_ := Aside0.mk (hbox); have n7_ := Aside0.mk ((by rw [hg]; exact (below_size (by repeat (first | (with_reducible first | exact HB.out | apply below_alloc | apply pw_below_drewN | apply below_drew1 | refine below_set ?_ GE730.out | refine below_set ?_ GE731.out | refine below_set ?_ GE736.out | refine below_set ?_ GE741.out | refine below_set ?_ GE746.out) | exact HB.out))) : w.heap.size ≤ gb751)); have n8_ := Aside0.mk ((by rw [hg]; exact (below_size (by repeat (first | (with_reducible first | exact HB.out | apply below_alloc | apply pw_below_drewN | apply below_drew1 | refine below_set ?_ GE730.out | refine below_set ?_ GE731.out | refine below_set ?_ GE736.out | refine below_set ?_ GE741.out | refine below_set ?_ GE746.out) | exact HB.out))) : w.heap.size ≤ gb751)); have n9_ := Aside0.mk ((by rw [hg]; exact Nat.ne_of_lt (blk_lt (g := gb730) (o := .cells #[.int .i64 a1_0, .int .i64 a1_1, .string a1_2] 23 (0, 0)) (by (with_reducible repeat (first | refine blk_drewN ?_ _ | refine blk_drew ?_ | refine blk_alloc ?_ _)); exact BK730.out)) : gb730 ≠ gb751)); have n10_ := Aside0.mk ((by rw [hg]; exact Nat.ne_of_gt (blk_lt (g := gb730) (o := .cells #[.int .i64 a1_0, .int .i64 a1_1, .string a1_2] 23 (0, 0)) (by (with_reducible repeat (first | refine blk_drewN ?_ _ | refine blk_drew ?_ | refine blk_alloc ?_ _)); exact BK730.out)) : gb751 ≠ gb730)); have n11_ := Aside0.mk ((by rw [hg]; exact Nat.ne_of_lt (blk_lt (g := gb731) (o := .cells #[.int .i64 a2_0, .int .i64 a2_1, .string a2_2] 23 (0, 0)) (by (with_reducible repeat (first | refine blk_drewN ?_ _ | refine blk_drew ?_ | refine blk_alloc ?_ _)); exact BK731.out)) : gb731 ≠ gb751)); have n12_ := Aside0.mk ((by rw [hg]; exact Nat.ne_of_gt (blk_lt (g := gb731) (o := .cells #[.int .i64 a2_0, .int .i64 a2_1, .string a2_2] 23 (0, 0)) (by (with_reducible repeat (first | refine blk_drewN ?_ _ | refine blk_drew ?_ | refine blk_alloc ?_ _)); exact BK731.out)) : gb751 ≠ gb731)); have n13_ := Aside0.mk ((by rw [hg]; exact Nat.ne_of_lt (blk_lt (g := gb736) (o := .cells #[.int .i64 t732, .int .i64 t733, .string t734] 23 (0, 0)) (by (with_reducible repeat (first | refine blk_drewN ?_ _ | refine blk_drew ?_ | refine blk_alloc ?_ _)); exact BK736.out)) : gb736 ≠ gb751)); have n14_ := Aside0.mk ((by rw [hg]; exact Nat.ne_of_gt (blk_lt (g := gb736) (o := .cells #[.int .i64 t732, .int .i64 t733, .string t734] 23 (0, 0)) (by (with_reducible repeat (first | refine blk_drewN ?_ _ | refine blk_drew ?_ | refine blk_alloc ?_ _)); exact BK736.out)) : gb751 ≠ gb736)); have n15_ := Aside0.mk ((by rw [hg]; exact Nat.ne_of_lt (blk_lt (g := gb741) (o := .cells #[.int .i64 t737, .int .i64 t738, .string t739] 23 (0, 0)) (by (with_reducible repeat (first | refine blk_drewN ?_ _ | refine blk_drew ?_ | refine blk_alloc ?_ _)); exact BK741.out)) : gb741 ≠ gb751)); have n16_ := Aside0.mk ((by rw [hg]; exact Nat.ne_of_gt (blk_lt (g := gb741) (o := .cells #[.int .i64 t737, .int .i64 t738, .string t739] 23 (0, 0)) (by (with_reducible repeat (first | refine blk_drewN ?_ _ | refine blk_drew ?_ | refine blk_alloc ?_ _)); exact BK741.out)) : gb751 ≠ gb741)); have n17_ := Aside0.mk ((by rw [hg]; exact Nat.ne_of_lt (blk_lt (g := gb746) (o := .cells #[.int .i64 t742, .int .i64 t743, .string t744] 23 (0, 0)) (by (with_reducible repeat (first | refine blk_drewN ?_ _ | refine blk_drew ?_ | refine blk_alloc ?_ _)); exact BK746.out)) : gb746 ≠ gb751)); have n18_ := Aside0.mk ((by rw [hg]; exact Nat.ne_of_gt (blk_lt (g := gb746) (o := .cells #[.int .i64 t742, .int .i64 t743, .string t744] 23 (0, 0)) (by (with_reducible repeat (first | refine blk_drewN ?_ _ | refine blk_drew ?_ | refine blk_alloc ?_ _)); exact BK746.out)) : gb751 ≠ gb746)); clear BK730; clear BK731; clear BK736; clear BK741; clear BK746; clear HB; have BK730 := n0_; have BK731 := n1_; have BK736 := n2_; have BK741 := n3_; have BK746 := n4_; have HB := n5_; have BK751 := n6_; have GW751 := n7_; have GE751 := n8_; have NB730_751 := n9_; have NB751_730 := n10_; have NB731_751 := n11_; have NB751_731 := n12_; have NB736_751 := n13_; have NB751_736 := n14_; have NB741_751 := n15_; have NB751_741 := n16_; have NB746_751 := n17_; have NB751_746 := n18_; clear n0_ n1_ n2_ n3_ n4_ n5_ n6_ n7_ n8_ n9_ n10_ n11_ n12_ n13_ n14_ n15_ n16_ n17_ n18_; clear hb hbox hg; have hnb64 := NB751_730.out; have hnc64 := NB730_751.out; have hnb65 := NB751_731.out; have hnc65 := NB731_751.out; have hnb66 := NB751_736.out; have hnc66 := NB736_751.out; have hnb67 := NB751_741.out; have hnc67 := NB741_751.out; have hnb68 := NB751_746.out; have hnc68 := NB746_751.out; have hcz69_0 : w63.cell? ⟨gb751, 0, none⟩ = some (.int .i64 0) := (blk_cell BK751.out 0).trans rfl; have hcz69_1 : w63.cell? ⟨gb751, 1, none⟩ = some (.int .i64 0) := (blk_cell BK751.out 1).trans rfl; have hcz69_2 : w63.cell? ⟨gb751, 2, none⟩ = some (.string (⟨#[]⟩ : ByteArray)) := (blk_cell BK751.out 2).trans rfl; have hfz69_0 := blk_frozen BK751.out 0; have hfz69_1 := blk_frozen BK751.out 1; have hfz69_2 := blk_frozen BK751.out 2; have hcz70_0 : w63.cell? ⟨gb746, 0, none⟩ = some (.int .i64 t742) := (blk_cell BK746.out 0).trans rfl; have hcz70_1 : w63.cell? ⟨gb746, 1, none⟩ = some (.int .i64 t743) := (blk_cell BK746.out 1).trans rfl; have hcz70_2 : w63.cell? ⟨gb746, 2, none⟩ = some (.string t744) := (blk_cell BK746.out 2).trans rfl; have hfz70_0 := blk_frozen BK746.out 0; have hfz70_1 := blk_frozen BK746.out 1; have hfz70_2 := blk_frozen BK746.out 2) | (go_at_call 7; (with_reducible refine (locksteplaw01_lives.calls kj5  t752 _ ?side1 A45.out).mono ?_); (case side1 => exact Tabs.below HT.out (by repeat (first | (with_reducible first | exact HB.out | apply below_alloc | apply pw_below_drewN | apply below_drew1 | refine below_set ?_ GE730.out | refine below_set ?_ GE731.out | refine below_set ?_ GE736.out | refine below_set ?_ GE741.out | refine below_set ?_ GE746.out | refine below_set ?_ GE751.out) | exact HB.out))); rintro e w71 ⟨rfl, hb⟩; have n0_ := Aside0.mk (blk_below (g := gb730) (o := .cells #[.int .i64 a1_0, .int .i64 a1_1, .string a1_2] 23 (0, 0)) (by (with_reducible repeat (first | refine blk_drewN ?_ _ | refine blk_drew ?_ | refine blk_alloc ?_ _)); refine blk_far ?_ NB730_751.out _; (with_reducible repeat (first | refine blk_drewN ?_ _ | refine blk_drew ?_ | refine blk_alloc ?_ _)); refine blk_far ?_ NB730_751.out _; (with_reducible repeat (first | refine blk_drewN ?_ _ | refine blk_drew ?_ | refine blk_alloc ?_ _)); refine blk_far ?_ NB730_751.out _; (with_reducible repeat (first | refine blk_drewN ?_ _ | refine blk_drew ?_ | refine blk_alloc ?_ _)); exact BK730.out) hb); have n1_ := Aside0.mk (blk_below (g := gb731) (o := .cells #[.int .i64 a2_0, .int .i64 a2_1, .string a2_2] 23 (0, 0)) (by (with_reducible repeat (first | refine blk_drewN ?_ _ | refine blk_drew ?_ | refine blk_alloc ?_ _)); refine blk_far ?_ NB731_751.out _; (with_reducible repeat (first | refine blk_drewN ?_ _ | refine blk_drew ?_ | refine blk_alloc ?_ _)); refine blk_far ?_ NB731_751.out _; (with_reducible repeat (first | refine blk_drewN ?_ _ | refine blk_drew ?_ | refine blk_alloc ?_ _)); refine blk_far ?_ NB731_751.out _; (with_reducible repeat (first | refine blk_drewN ?_ _ | refine blk_drew ?_ | refine blk_alloc ?_ _)); exact BK731.out) hb); have n2_ := Aside0.mk (blk_below (g := gb736) (o := .cells #[.int .i64 t732, .int .i64 t733, .string t734] 23 (0, 0)) (by (with_reducible repeat (first | refine blk_drewN ?_ _ | refine blk_drew ?_ | refine blk_alloc ?_ _)); refine blk_far ?_ NB736_751.out _; (with_reducible repeat (first | refine blk_drewN ?_ _ | refine blk_drew ?_ | refine blk_alloc ?_ _)); refine blk_far ?_ NB736_751.out _; (with_reducible repeat (first | refine blk_drewN ?_ _ | refine blk_drew ?_ | refine blk_alloc ?_ _)); refine blk_far ?_ NB736_751.out _; (with_reducible repeat (first | refine blk_drewN ?_ _ | refine blk_drew ?_ | refine blk_alloc ?_ _)); exact BK736.out) hb); have n3_ := Aside0.mk (blk_below (g := gb741) (o := .cells #[.int .i64 t737, .int .i64 t738, .string t739] 23 (0, 0)) (by (with_reducible repeat (first | refine blk_drewN ?_ _ | refine blk_drew ?_ | refine blk_alloc ?_ _)); refine blk_far ?_ NB741_751.out _; (with_reducible repeat (first | refine blk_drewN ?_ _ | refine blk_drew ?_ | refine blk_alloc ?_ _)); refine blk_far ?_ NB741_751.out _; (with_reducible repeat (first | refine blk_drewN ?_ _ | refine blk_drew ?_ | refine blk_alloc ?_ _)); refine blk_far ?_ NB741_751.out _; (with_reducible repeat (first | refine blk_drewN ?_ _ | refine blk_drew ?_ | refine blk_alloc ?_ _)); exact BK741.out) hb); have n4_ := Aside0.mk (blk_below (g := gb746) (o := .cells #[.int .i64 t742, .int .i64 t743, .string t744] 23 (0, 0)) (by (with_reducible repeat (first | refine blk_drewN ?_ _ | refine blk_drew ?_ | refine blk_alloc ?_ _)); refine blk_far ?_ NB746_751.out _; (with_reducible repeat (first | refine blk_drewN ?_ _ | refine blk_drew ?_ | refine blk_alloc ?_ _)); refine blk_far ?_ NB746_751.out _; (with_reducible repeat (first | refine blk_drewN ?_ _ | refine blk_drew ?_ | refine blk_alloc ?_ _)); refine blk_far ?_ NB746_751.out _; (with_reducible repeat (first | refine blk_drewN ?_ _ | refine blk_drew ?_ | refine blk_alloc ?_ _)); exact BK746.out) hb); have n5_ := Aside0.mk (blk_below (g := gb751) (o := .cells #[.int .i64 t747, .int .i64 t748, .string t749] 23 (0, 0)) (by (with_reducible repeat (first | refine blk_drewN ?_ _ | refine blk_drew ?_ | refine blk_alloc ?_ _)); refine blk_put (cs := #[.int .i64 t747, .int .i64 t748, .string (⟨#[]⟩ : ByteArray)]) ?_ 2 _ rfl; (with_reducible repeat (first | refine blk_drewN ?_ _ | refine blk_drew ?_ | refine blk_alloc ?_ _)); refine blk_put (cs := #[.int .i64 t747, .int .i64 0, .string (⟨#[]⟩ : ByteArray)]) ?_ 1 _ rfl; (with_reducible repeat (first | refine blk_drewN ?_ _ | refine blk_drew ?_ | refine blk_alloc ?_ _)); refine blk_put (cs := #[.int .i64 0, .int .i64 0, .string (⟨#[]⟩ : ByteArray)]) ?_ 0 _ rfl; (with_reducible repeat (first | refine blk_drewN ?_ _ | refine blk_drew ?_ | refine blk_alloc ?_ _)); exact BK751.out) hb); have n6_ := Aside0.mk (below_step (by repeat (first | (with_reducible first | exact HB.out | apply below_alloc | apply pw_below_drewN | apply below_drew1 | refine below_set ?_ GE730.out | refine below_set ?_ GE731.out | refine below_set ?_ GE736.out | refine below_set ?_ GE741.out | refine below_set ?_ GE746.out | refine below_set ?_ GE751.out) | exact HB.out)) hb); clear BK730; clear BK731; clear BK736; clear BK741; clear BK746; clear BK751; clear HB; have BK730 := n0_; have BK731 := n1_; have BK736 := n2_; have BK741 := n3_; have BK746 := n4_; have BK751 := n5_; have HB := n6_; clear n0_ n1_ n2_ n3_ n4_ n5_ n6_; (try clear hb); (try clear hb2); (try clear hk); (try clear hi)))
      go_ret
      exact ⟨by first | rfl | (simp [errW_none, errW_some] <;> rfl) | (simp [*, errW_none, errW_some] <;> rfl), by repeat (first | (with_reducible first | exact HB.out | apply below_alloc | apply pw_below_drewN | apply below_drew1 | refine below_set ?_ GE730.out | refine below_set ?_ GE731.out | refine below_set ?_ GE736.out | refine below_set ?_ GE741.out | refine below_set ?_ GE746.out | refine below_set ?_ GE751.out) | exact HB.out)⟩
     ·
      rw [if_neg c44] at H
      have c44b0 : ((t745 == 0) == (t750 == 0)) = false := by simpa using c44
      (try (have c44b1 : decide ((t745 == 0) = (t750 == 0)) = false := by simpa using c44))
      (try (have c44b2 : ((t745 == 0) == (t750 == 0)) = false := by simpa using c44))
      (try (have c44b3 : ¬ ((t745 == 0) = (t750 == 0)) := by simpa using c44))
      clear c44
      exact absurd (Option.some.inj H) (by rw [HR.out]; simp)
    ·
     rw [if_neg c43] at H
     have c43b0 : (t742 == t747 && (t743 == t748 && (t744.toList == t749.toList))) = false := by simpa using c43
     (try (have c43b1 : decide (t742 = t747 && (t743 == t748 && (t744.toList == t749.toList))) = false := by simpa using c43))
     (try (have c43b2 : (t742 == t747 && (t743 == t748 && (t744.toList == t749.toList))) = false := by simpa using c43))
     (try (have c43b3 : ¬ (t742 = t747 && (t743 == t748 && (t744.toList == t749.toList))) := by simpa using c43))
     clear c43
     exact absurd (Option.some.inj H) (by rw [HR.out]; simp)
end Go.Proofs.YtkkpnbfhghfleaaGreatDoor.X
end
section
namespace Go.Proofs.YtkkpnbfhghfleaaGreatDoor.X
set_option linter.unusedVariables false
set_option linter.unusedSimpArgs false
open Go.RowKit Go.Proofs.YtkkpnbfhghfleaaGreatDoorW.PrintWords Go.Proofs.YtkkpnbfhghfleaaGreatDoorW.PrintLast Go.Proofs.YtkkpnbfhghfleaaGreatDoorW.PrintMore
def I64 (n : Int) : Prop := -9223372036854775808 ≤ n ∧ n ≤ 9223372036854775807
namespace Num
theorem maskN (a : Nat) (ha : a < 18446744073709551616) : bits .and .u64 (a : Int) 4294967295 = ((a % 4294967296 : Nat) : Int) := by
  have h := bits_and_u64_nat a 4294967295 ha (by omega)
  have e : a &&& 4294967295 = a % 4294967296 := Nat.and_two_pow_sub_one_eq_mod a 32
  rw [e] at h
  exact h
theorem divN (a : Nat) : (a : Int) / 4294967296 = ((a / 4294967296 : Nat) : Int) := by omega
theorem mulN (a b : Nat) : (a : Int) * (b : Int) = ((a * b : Nat) : Int) := (Int.natCast_mul a b).symm
theorem addN (a b : Nat) : (a : Int) + (b : Int) = ((a + b : Nat) : Int) := (Int.natCast_add a b).symm
theorem wrapN (a : Nat) (ha : a < 18446744073709551616) : IntKind.u64.wrap (a : Int) = (a : Int) := by rw [IntKind.wrap_u64]; omega
theorem wrapM (a : Nat) : IntKind.u64.wrap (a : Int) = ((a % 18446744073709551616 : Nat) : Int) := by rw [IntKind.wrap_u64]; omega
end Num
open Num
theorem bits_Mul64.eq (x y : Nat) (hx : x < 18446744073709551616) (hy : y < 18446744073709551616) :
    bits_Mul64.f x y = some (((x * y / 18446744073709551616 : Nat) : Int), ((x * y % 18446744073709551616 : Nat) : Int)) := by
  obtain ⟨bd, bt, bw, hhi⟩ := Lib.mul64_hi x y hx hy
  have ba := Lib.half_mul_le (a := x / 4294967296) (b := y / 4294967296) (by omega) (by omega)
  have bb := Lib.half_mul_le (a := x / 4294967296) (b := y % 4294967296) (by omega) (by omega)
  have bc := Lib.half_mul_le (a := x % 4294967296) (b := y / 4294967296) (by omega) (by omega)
  have ba' : x / 4294967296 * (y / 4294967296) < 18446744073709551616 := by omega
  have bb' : x / 4294967296 * (y % 4294967296) < 18446744073709551616 := by omega
  have bc' : x % 4294967296 * (y / 4294967296) < 18446744073709551616 := by omega
  have bh1 : x / 4294967296 * (y / 4294967296) + (x / 4294967296 * (y % 4294967296) + x % 4294967296 * (y % 4294967296) / 4294967296) / 4294967296 < 18446744073709551616 := by omega
  have bh : x / 4294967296 * (y / 4294967296) + (x / 4294967296 * (y % 4294967296) + x % 4294967296 * (y % 4294967296) / 4294967296) / 4294967296 + ((x / 4294967296 * (y % 4294967296) + x % 4294967296 * (y % 4294967296) / 4294967296) % 4294967296 + x % 4294967296 * (y / 4294967296)) / 4294967296 < 18446744073709551616 := by omega
  unfold bits_Mul64.f
  simp only [maskN x hx, maskN y hy, divN, mulN, addN, wrapN _ bd, wrapN _ bb', wrapN _ bt, maskN _ bt, wrapN _ bc', wrapN _ bw, wrapN _ ba', wrapN _ bh1, wrapN _ bh, wrapM (x * y)]
  rw [hhi]
def chk (t n : Int) (s : ByteArray) : Int :=
  if t = 0 ∨ t = 1 ∨ t = 2 then 0 else if t = 4 then (if n = 0 ∨ n = 1 then 0 else 1) else if t = 3 then (if (s.size : Int) > 4096 then 2 else if Lib.validD s.data.toList = true then 0 else 3) else 1
theorem value_Check.eq (k : Nat) (t n : Int) (s : ByteArray) : value_Check.f (k + 1) t n s = some (chk t n s) := by
  unfold value_Check.f chk
  simp only [value_Check.j0]
  by_cases h0 : t = 0
  · subst h0; simp
  by_cases h1 : t = 1
  · subst h1; simp
  by_cases h2 : t = 2
  · subst h2; simp
  simp only [h0, h1, h2, if_false, false_or, or_false, beq_eq_false_iff_ne.mpr h2, Bool.false_eq_true]
  by_cases h4 : t = 4
  · subst h4
    simp only [if_true]
    by_cases hn : n = 0
    · simp [hn]
    · by_cases hn1 : n = 1 <;> simp [hn, hn1]
  · simp only [h4, if_false]
    by_cases h3 : t = 3
    · subst h3
      simp only [if_true]
      by_cases hs : (s.size : Int) > 4096
      · simp only [hs, if_true]
      · simp only [hs, if_false]
        unfold utf8_ValidString.f
        rw [if_pos (by omega), Option.bind_some]
        by_cases hv : Lib.validD s.data.toList = true <;> simp only [hv, if_true, if_false, Bool.false_eq_true]
    · simp only [h3, if_false]
theorem lockstepref01_Check.eq (k : Nat) (t n : Int) (s : ByteArray) : lockstepref01_Check.f (k + 2) t n s = some (chk t n s) := by
  unfold lockstepref01_Check.f chk
  simp only [lockstepref01_Check.j0]
  by_cases hlo : t < 0
  · simp only [hlo, if_true]
    rw [if_neg (by omega), if_neg (by omega), if_neg (by omega)]
  by_cases hhi : t > 4
  · simp only [hlo, hhi, if_true, if_false]
    rw [if_neg (by omega), if_neg (by omega), if_neg (by omega)]
  simp only [hlo, hhi, if_false]
  by_cases h4 : t = 4
  · subst h4
    simp only [if_true, lockstepref01_Check.j1]
    by_cases hn : n = 0
    · simp [hn]
    · by_cases hn1 : n = 1 <;> simp [hn, hn1]
  · simp only [h4, if_false, Bool.false_eq_true]
    by_cases h3 : t = 3
    · subst h3
      simp only [if_true, lockstepref01_Check.j1]
      by_cases hs : (s.size : Int) > 4096
      · simp [hs]
      · simp only [hs, decide_false, if_false, Bool.false_eq_true]
        unfold lockstepref01_valid.f
        rw [if_pos (by omega), Option.bind_some]
        by_cases hv : Lib.validD s.data.toList = true <;> simp [hv]
    · simp only [h3, if_false, lockstepref01_Check.j1, Bool.false_eq_true]
      rw [if_pos (by omega)]
def both (t n : Int) (s : ByteArray) (t2 n2 : Int) (s2 : ByteArray) : Int := if chk t n s = 0 then chk t2 n2 s2 else chk t n s
theorem value_both.eq (k : Nat) (t n : Int) (s : ByteArray) (t2 n2 : Int) (s2 : ByteArray) : value_both.f (k + 1) t n s t2 n2 s2 = some (both t n s t2 n2 s2) := by
  unfold value_both.f both
  rw [value_Check.eq, value_Check.eq, Option.bind_some, Option.bind_some]
  split <;> rfl
theorem lockstepref01_both.eq (k : Nat) (t n : Int) (s : ByteArray) (t2 n2 : Int) (s2 : ByteArray) : lockstepref01_both.f (k + 2) t n s t2 n2 s2 = some (both t n s t2 n2 s2) := by
  unfold lockstepref01_both.f both
  rw [lockstepref01_Check.eq, lockstepref01_Check.eq, Option.bind_some, Option.bind_some]
  split <;> rfl
theorem chk_zero {t n : Int} {s : ByteArray} (h : chk t n s = 0) : 0 ≤ t ∧ t ≤ 4 := by
  unfold chk at h
  by_cases h0 : t = 0 ∨ t = 1 ∨ t = 2
  · omega
  · rw [if_neg h0] at h
    by_cases h4 : t = 4
    · omega
    · rw [if_neg h4] at h
      by_cases h3 : t = 3
      · omega
      · rw [if_neg h3] at h; omega
theorem both_zero {t n : Int} {s : ByteArray} {t2 n2 : Int} {s2 : ByteArray} (h : both t n s t2 n2 s2 = 0) : chk t n s = 0 ∧ chk t2 n2 s2 = 0 := by
  unfold both at h
  by_cases h1 : chk t n s = 0
  · rw [if_pos h1] at h; exact ⟨h1, h⟩
  · rw [if_neg h1] at h; exact absurd h h1
end Go.Proofs.YtkkpnbfhghfleaaGreatDoor.X
end
section
namespace Go.Proofs.YtkkpnbfhghfleaaGreatDoor.X
set_option linter.unusedVariables false
set_option linter.unusedSimpArgs false
open Go.RowKit Go.Proofs.YtkkpnbfhghfleaaGreatDoorW.PrintWords Go.Proofs.YtkkpnbfhghfleaaGreatDoorW.PrintLast Go.Proofs.YtkkpnbfhghfleaaGreatDoorW.PrintMore
open Num
def ci (a b : Int) : Int := if a < b then -1 else if a > b then 1 else 0
def orI (a b : Int) : Int := if a = 0 then b else a
structure Good {α : Type} (C : α → α → Int) : Prop where
  anti : ∀ a b, C b a = - C a b
  trans : ∀ a b c, C a b ≤ 0 → C b c ≤ 0 → C a c ≤ 0
theorem Good.lt {α : Type} {C : α → α → Int} (h : Good C) {a b c : α} (h1 : C a b < 0) (h2 : C b c ≤ 0) : C a c < 0 := by
  have h3 := h.trans a b c (by omega) h2
  by_cases hn : C a c < 0
  · exact hn
  · have e := h.anti a c
    have h5 := h.trans b c a h2 (by omega)
    have := h.anti a b
    omega
theorem Good.lt' {α : Type} {C : α → α → Int} (h : Good C) {a b c : α} (h1 : C a b ≤ 0) (h2 : C b c < 0) : C a c < 0 := by
  have h3 := h.trans a b c h1 (by omega)
  by_cases hn : C a c < 0
  · exact hn
  · have e := h.anti a c
    have h5 := h.trans c a b (by omega) h1
    have := h.anti b c
    omega
theorem Good.or {α : Type} {C D : α → α → Int} (h : Good C) (k : Good D) : Good (fun a b => orI (C a b) (D a b)) where
  anti a b := by
    have h1 := h.anti a b
    have h2 := k.anti a b
    show orI (C b a) (D b a) = - orI (C a b) (D a b)
    unfold orI
    by_cases hc : C a b = 0
    · rw [if_pos hc, if_pos (by omega)]; exact h2
    · rw [if_neg hc, if_neg (by omega)]; exact h1
  trans a b c := by
    show orI (C a b) (D a b) ≤ 0 → orI (C b c) (D b c) ≤ 0 → orI (C a c) (D a c) ≤ 0
    intro h1 h2
    unfold orI at *
    have a1 := h.anti a b
    have a2 := h.anti b c
    have a3 := h.anti a c
    by_cases e1 : C a b = 0
    · rw [if_pos e1] at h1
      by_cases e2 : C b c = 0
      · rw [if_pos e2] at h2
        have t1 := h.trans a b c (by omega) (by omega)
        have t2 := h.trans c b a (by omega) (by omega)
        rw [if_pos (by omega)]
        exact k.trans a b c h1 h2
      · rw [if_neg e2] at h2
        have := h.lt' (a := a) (b := b) (c := c) (by omega) (by omega)
        rw [if_neg (by omega)]; omega
    · rw [if_neg e1] at h1
      by_cases e2 : C b c = 0
      · have := h.lt (a := a) (b := b) (c := c) (by omega) (by omega)
        rw [if_neg (by omega)]; omega
      · rw [if_neg e2] at h2
        have := h.lt (a := a) (b := b) (c := c) (by omega) (by omega)
        rw [if_neg (by omega)]; omega
theorem Good.key {α β : Type} {C : α → α → Int} (h : Good C) (f : β → α) : Good (fun a b => C (f a) (f b)) := ⟨fun a b => h.anti (f a) (f b), fun a b c => h.trans (f a) (f b) (f c)⟩
theorem ci_good : Good ci := by
  refine ⟨fun a b => ?_, fun a b c => ?_⟩
  · unfold ci
    repeat' split
    all_goals omega
  · intro h1 h2
    have e1 : a ≤ b := by
      unfold ci at h1
      by_cases h : a ≤ b
      · exact h
      · rw [if_neg (by omega), if_pos (by omega)] at h1; omega
    have e2 : b ≤ c := by
      unfold ci at h2
      by_cases h : b ≤ c
      · exact h
      · rw [if_neg (by omega), if_pos (by omega)] at h2; omega
    unfold ci
    by_cases h : a < c
    · rw [if_pos h]; omega
    · rw [if_neg h, if_neg (by omega)]; omega
theorem ci_zero {a b : Int} : ci a b = 0 ↔ a = b := by
  unfold ci
  by_cases h1 : a < b
  · rw [if_pos h1]; constructor
    · intro h; omega
    · intro h; omega
  · by_cases h2 : a > b
    · rw [if_neg h1, if_pos h2]; constructor
      · intro h; omega
      · intro h; omega
    · rw [if_neg h1, if_neg h2]; constructor
      · intro _; omega
      · intro _; rfl
theorem ci_self (a : Int) : ci a a = 0 := ci_zero.mpr rfl
theorem orI_zero (a : Int) : orI a 0 = a := by unfold orI; split <;> omega
theorem zero_orI (a : Int) : orI 0 a = a := by unfold orI; exact if_pos rfl
def cl : List UInt8 → List UInt8 → Int
  | [], [] => 0
  | [], _ :: _ => -1
  | _ :: _, [] => 1
  | a :: x, b :: y => orI (ci a.toNat b.toNat) (cl x y)
theorem cl_anti : ∀ x y, cl y x = - cl x y
  | [], [] => rfl
  | [], _ :: _ => rfl
  | _ :: _, [] => rfl
  | a :: x, b :: y => by
    have h := ci_good.anti (a.toNat : Int) (b.toNat : Int)
    have ih := cl_anti x y
    show orI (ci b.toNat a.toNat) (cl y x) = - orI (ci a.toNat b.toNat) (cl x y)
    unfold orI
    by_cases hc : ci (a.toNat : Int) b.toNat = 0
    · rw [if_pos hc, if_pos (by omega)]; exact ih
    · rw [if_neg hc, if_neg (by omega)]; exact h
theorem cl_trans : ∀ x y z, cl x y ≤ 0 → cl y z ≤ 0 → cl x z ≤ 0
  | [], _, [] => fun _ _ => Int.le_refl 0
  | [], _, _ :: _ => fun _ _ => by show (-1 : Int) ≤ 0; decide
  | _ :: _, [], _ => fun h _ => absurd h (by show ¬ ((1 : Int) ≤ 0); decide)
  | _ :: _, _ :: _, [] => fun _ h => absurd h (by show ¬ ((1 : Int) ≤ 0); decide)
  | a :: x, b :: y, c :: z => by
    intro h1 h2
    have ih := cl_trans x y z
    change orI (ci a.toNat b.toNat) (cl x y) ≤ 0 at h1
    change orI (ci b.toNat c.toNat) (cl y z) ≤ 0 at h2
    show orI (ci a.toNat c.toNat) (cl x z) ≤ 0
    generalize (a.toNat : Int) = A at *
    generalize (b.toNat : Int) = B at *
    generalize (c.toNat : Int) = C at *
    unfold orI at *
    have a1 := ci_good.anti A B
    have a2 := ci_good.anti B C
    have a3 := ci_good.anti A C
    by_cases e1 : ci A B = 0
    · rw [if_pos e1] at h1
      by_cases e2 : ci B C = 0
      · rw [if_pos e2] at h2
        have t1 := ci_good.trans A B C (by omega) (by omega)
        have t2 := ci_good.trans C B A (by omega) (by omega)
        rw [if_pos (by omega)]
        exact ih h1 h2
      · rw [if_neg e2] at h2
        have := ci_good.lt' (a := A) (b := B) (c := C) (by omega) (by omega)
        rw [if_neg (by omega)]; omega
    · rw [if_neg e1] at h1
      by_cases e2 : ci B C = 0
      · have := ci_good.lt (a := A) (b := B) (c := C) (by omega) (by omega)
        rw [if_neg (by omega)]; omega
      · rw [if_neg e2] at h2
        have := ci_good.lt (a := A) (b := B) (c := C) (by omega) (by omega)
        rw [if_neg (by omega)]; omega
theorem cl_good : Good cl := ⟨cl_anti, cl_trans⟩
theorem cl_self : ∀ x, cl x x = 0
  | [] => rfl
  | a :: x => by show orI (ci a.toNat a.toNat) (cl x x) = 0; rw [ci_self, cl_self x]; rfl
theorem cl_eq : ∀ x y, cl x y = 0 → x = y
  | [], [] => fun _ => rfl
  | [], _ :: _ => fun h => absurd h (by show ¬ ((-1 : Int) = 0); decide)
  | _ :: _, [] => fun h => absurd h (by show ¬ ((1 : Int) = 0); decide)
  | a :: x, b :: y => by
    intro h
    change orI (ci a.toNat b.toNat) (cl x y) = 0 at h
    unfold orI at h
    by_cases hc : ci (a.toNat : Int) b.toNat = 0
    · rw [if_pos hc] at h
      have h1 := ci_zero.mp hc
      have e : a = b := UInt8.toNat_inj.mp (by omega)
      rw [e, cl_eq x y h]
    · rw [if_neg hc] at h; exact absurd h hc
theorem cl_less : ∀ x y, Op.bytesLess x y = decide (cl x y = -1) ∧ (cl x y = -1 ∨ cl x y = 0 ∨ cl x y = 1)
  | [], [] => ⟨rfl, Or.inr (Or.inl rfl)⟩
  | [], _ :: _ => ⟨rfl, Or.inl rfl⟩
  | _ :: _, [] => ⟨rfl, Or.inr (Or.inr rfl)⟩
  | a :: x, b :: y => by
    obtain ⟨ih, ir⟩ := cl_less x y
    have e1 : (a < b) ↔ (a.toNat : Int) < b.toNat := by rw [UInt8.lt_iff_toNat_lt]; omega
    have e2 : (a = b) ↔ (a.toNat : Int) = b.toNat := by rw [← UInt8.toNat_inj]; omega
    have hd : Op.bytesLess (a :: x) (b :: y) = (decide (a < b) || (a == b && Op.bytesLess x y)) := rfl
    have hc : cl (a :: x) (b :: y) = orI (ci a.toNat b.toNat) (cl x y) := rfl
    rw [hd, hc, ih]
    unfold orI ci
    by_cases h1 : (a.toNat : Int) < b.toNat
    · rw [if_pos h1, if_neg (by decide), decide_eq_true (e1.mpr h1)]
      exact ⟨rfl, Or.inl rfl⟩
    · rw [if_neg h1, decide_eq_false (fun h => h1 (e1.mp h))]
      by_cases h2 : (a.toNat : Int) > b.toNat
      · rw [if_pos h2, if_neg (by decide), beq_eq_false_iff_ne.mpr (fun h => by have := e2.mp h; omega)]
        exact ⟨rfl, Or.inr (Or.inr rfl)⟩
      · rw [if_neg h2, if_pos rfl, beq_iff_eq.mpr (e2.mpr (by omega))]
        exact ⟨by simp, ir⟩
def cs (a b : ByteArray) : Int := cl a.toList b.toList
theorem cs_good : Good cs := cl_good.key _
theorem cs_self (a : ByteArray) : cs a a = 0 := cl_self _
theorem texts_eq (a b : ByteArray) : lockstepref01_texts.f a b = some (cs a b) := by
  unfold lockstepref01_texts.f cs
  obtain ⟨h1, h2⟩ := cl_less a.toList b.toList
  rw [h1]
  rcases h2 with h2 | h2 | h2
  · rw [h2]; rfl
  · rw [if_neg (by rw [h2]; decide), if_neg (by rw [cl_eq _ _ h2]; simp), h2]
  · have hne : (a.toList == b.toList) = false := by
      rw [beq_eq_false_iff_ne]
      intro h; rw [h, cl_self] at h2; exact absurd h2 (by decide)
    rw [if_neg (by rw [h2]; decide), hne, if_pos (by rw [h2]; decide), h2]
theorem cmps_eq (a b : ByteArray) : cmp_Compare_string.f a b = some (cs a b) := by
  unfold cmp_Compare_string.f cmp_isNaN_string.f
  rw [Option.bind_some, Option.bind_some, bne_self_eq_false, bne_self_eq_false, if_neg (by decide), if_neg (by decide)]
  exact texts_eq a b
theorem ints_eq (a b : Int) : lockstepref01_ints.f a b = some (ci a b) := by
  unfold lockstepref01_ints.f ci
  by_cases h1 : a < b
  · rw [if_pos h1, if_pos h1]
  · rw [if_neg h1, if_neg h1]; split <;> rfl
theorem cmpi_eq (a b : Int) : cmp_Compare_int.f a b = some (ci a b) := by
  unfold cmp_Compare_int.f cmp_isNaN_int.f
  rw [Option.bind_some, Option.bind_some, bne_self_eq_false, bne_self_eq_false, if_neg (by decide), if_neg (by decide)]
  exact ints_eq a b
theorem cmpi64_eq (a b : Int) : cmp_Compare_int64.f a b = some (ci a b) := by
  unfold cmp_Compare_int64.f cmp_isNaN_int64.f
  rw [Option.bind_some, Option.bind_some, bne_self_eq_false, bne_self_eq_false, if_neg (by decide), if_neg (by decide)]
  exact ints_eq a b
theorem cmpu64_eq (a b : Int) : cmp_Compare_uint64.f a b = some (ci a b) := by
  unfold cmp_Compare_uint64.f cmp_isNaN_uint64.f
  rw [Option.bind_some, Option.bind_some, bne_self_eq_false, bne_self_eq_false, if_neg (by decide), if_neg (by decide)]
  exact ints_eq a b
theorem or_step (k : Nat) (l : List Int) (n i : Int) : cmp_Or_int.l0 (k + 1) 0 l n i = if i < n then (if 0 ≤ i then (if i < (l.length : Int) then (if (rd l i) = 0 then (cmp_Or_int.l0 k 0 l n (wrap64 (i + 1))) else (some (rd l i))) else (none)) else (none)) else (some 0) := by
  conv => lhs; unfold cmp_Or_int.l0
theorem w01 : wrap64 (0 + 1) = 1 := by unfold wrap64; omega
theorem w12 : wrap64 (1 + 1) = 2 := by unfold wrap64; omega
theorem w23 : wrap64 (2 + 1) = 3 := by unfold wrap64; omega
theorem or_two (k : Nat) (a b : Int) : cmp_Or_int.f (k + 3) [a, b] = some (orI a b) := by
  unfold cmp_Or_int.f orI
  rw [or_step, if_pos (by simp), if_pos (by decide), if_pos (by simp), show rd [a, b] 0 = a from rfl]
  by_cases h : a = 0
  · rw [if_pos h, if_pos h, w01, or_step, if_pos (by simp), if_pos (by decide), if_pos (by simp), show rd [a, b] 1 = b from rfl]
    by_cases h2 : b = 0
    · rw [if_pos h2, w12, or_step, if_neg (by simp), h2]
    · rw [if_neg h2]
  · rw [if_neg h, if_neg h]
theorem or_three (k : Nat) (a b c : Int) : cmp_Or_int.f (k + 4) [a, b, c] = some (orI a (orI b c)) := by
  unfold cmp_Or_int.f orI
  rw [or_step, if_pos (by simp), if_pos (by decide), if_pos (by simp), show rd [a, b, c] 0 = a from rfl]
  by_cases h : a = 0
  · rw [if_pos h, if_pos h, w01, or_step, if_pos (by simp), if_pos (by decide), if_pos (by simp), show rd [a, b, c] 1 = b from rfl]
    by_cases h2 : b = 0
    · rw [if_pos h2, if_pos h2, w12, or_step, if_pos (by simp), if_pos (by decide), if_pos (by simp), show rd [a, b, c] 2 = c from rfl]
      by_cases h3 : c = 0
      · rw [if_pos h3, w23, or_step, if_neg (by simp), h3]
      · rw [if_neg h3]
    · rw [if_neg h2, if_neg h2]
  · rw [if_neg h, if_neg h]
def cls (t : Int) : Int := if t = 0 then 0 else if t = 1 ∨ t = 2 then 1 else if t = 3 then 2 else if t = 4 then 3 else 4
def sv (t n : Int) : Int := if t = 2 then n else n * 10000
def ky1 (v : S23) : Int := if cls v.f0 = 1 then sv v.f0 v.f1 else if cls v.f0 = 3 then v.f1 else if cls v.f0 = 4 then v.f0 else 0
def ky2 (v : S23) : Int := if cls v.f0 = 1 then v.f0 else if cls v.f0 = 4 then v.f1 else 0
def ky3 (v : S23) : ByteArray := if cls v.f0 = 2 ∨ cls v.f0 = 4 then v.f2 else ⟨#[]⟩
def ord (a b : S23) : Int := orI (ci (cls a.f0) (cls b.f0)) (orI (ci (ky1 a) (ky1 b)) (orI (ci (ky2 a) (ky2 b)) (cs (ky3 a) (ky3 b))))
theorem ord_good : Good ord := (ci_good.key _).or ((ci_good.key _).or ((ci_good.key _).or (cs_good.key _)))
theorem class_eq (k : Nat) (t n : Int) (s : ByteArray) : value_class.f (k + 1) t n s = some (cls t) := by
  unfold value_class.f cls
  by_cases h0 : t = 0
  · rw [if_pos h0, if_pos h0]
  rw [if_neg h0, if_neg h0]
  by_cases h1 : t = 1
  · subst h1; rfl
  by_cases h2 : t = 2
  · subst h2; rfl
  rw [if_neg h1, if_neg (by omega), beq_eq_false_iff_ne.mpr h2]
  simp only [value_class.j0]
  rw [if_neg (by decide)]
  by_cases h3 : t = 3
  · rw [if_pos h3, if_pos h3]
  by_cases h4 : t = 4
  · rw [if_neg h3, if_neg h3, if_pos h4, if_pos h4]
  rw [if_neg h3, if_neg h3, if_neg h4, if_neg h4]
theorem rclass_eq (k : Nat) (t n : Int) (s : ByteArray) : lockstepref01_class.f (k + 1) t n s = some (cls t) := by
  unfold lockstepref01_class.f cls
  by_cases h0 : t = 0
  · rw [if_pos h0, if_pos h0]
  rw [if_neg h0, if_neg h0]
  by_cases h1 : t = 1
  · subst h1; rfl
  by_cases h2 : t = 2
  · subst h2; rfl
  rw [if_neg h1, if_neg (by omega), beq_eq_false_iff_ne.mpr h2]
  simp only [lockstepref01_class.j0]
  rw [if_neg (by decide)]
  by_cases h3 : t = 3
  · rw [if_pos h3, if_pos h3]
  by_cases h4 : t = 4
  · rw [if_neg h3, if_neg h3, if_pos h4, if_pos h4]
  rw [if_neg h3, if_neg h3, if_neg h4, if_neg h4]
theorem ci_pair {h l h2 l2 : Int} (hl : 0 ≤ l ∧ l < 18446744073709551616) (hl2 : 0 ≤ l2 ∧ l2 < 18446744073709551616) :
    orI (ci h h2) (ci l l2) = ci (h * 18446744073709551616 + l) (h2 * 18446744073709551616 + l2) := by
  by_cases e : h = h2
  · subst e
    rw [ci_self, zero_orI]
    unfold ci
    by_cases c1 : l < l2
    · rw [if_pos c1, if_pos (by omega)]
    by_cases c2 : l > l2
    · rw [if_neg c1, if_pos c2, if_neg (by omega), if_pos (by omega)]
    rw [if_neg c1, if_neg c2, if_neg (by omega), if_neg (by omega)]
  · have hc : ci h h2 ≠ 0 := fun h' => e (ci_zero.mp h')
    unfold orI
    rw [if_neg hc]
    unfold ci
    by_cases c1 : h < h2
    · rw [if_pos c1, if_pos (by omega)]
    rw [if_neg c1, if_pos (by omega), if_neg (by omega), if_pos (by omega)]
theorem wide_eq (t n : Int) (s : ByteArray) (hn : I64 n) : ∃ h l, value_wide.f t n s = some (h, l) ∧ h * 18446744073709551616 + l = sv t n ∧ 0 ≤ l ∧ l < 18446744073709551616 := by
  obtain ⟨hn0, hn1⟩ := hn
  unfold value_wide.f sv
  by_cases h2 : t = 2
  · rw [if_pos h2, if_pos h2]
    refine ⟨_, _, rfl, ?_⟩
    rw [IntKind.wrap_u64]
    omega
  · rw [if_neg h2, if_neg h2]
    have hN : IntKind.u64.wrap n = (((n % 18446744073709551616).toNat : Nat) : Int) := by rw [IntKind.wrap_u64]; omega
    have hm := bits_Mul64.eq (n % 18446744073709551616).toNat 10000 (by omega) (by decide)
    rw [show ((10000 : Nat) : Int) = 10000 from rfl] at hm
    rw [hN, hm, Option.bind_some]
    by_cases hneg : n < 0
    · rw [if_pos hneg]
      refine ⟨_, _, rfl, ?_⟩
      have hw : (n % 18446744073709551616).toNat = (n + 18446744073709551616).toNat := by omega
      rw [hw, IntKind.wrap_u64]
      unfold wrap64
      simp only []
      omega
    · rw [if_neg hneg]
      refine ⟨_, _, rfl, ?_⟩
      have hw : (n % 18446744073709551616).toNat = n.toNat := by omega
      rw [hw]
      unfold wrap64
      simp only []
      omega
theorem numbers_eq (k : Nat) (t n : Int) (s : ByteArray) (t2 n2 : Int) (s2 : ByteArray) (hn : I64 n) (hn2 : I64 n2) :
    value_numbers.f (k + 3) t n s t2 n2 s2 = some (ci (sv t n) (sv t2 n2)) := by
  obtain ⟨h, l, e, hv, hl⟩ := wide_eq t n s hn
  obtain ⟨h', l', e', hv', hl'⟩ := wide_eq t2 n2 s2 hn2
  unfold value_numbers.f
  rw [e, Option.bind_some, e', Option.bind_some, cmpi64_eq, Option.bind_some, cmpu64_eq, Option.bind_some, or_two, Option.bind_some, ci_pair hl hl', hv, hv']
theorem tdiv_cmp (a b : Int) (ha : I64 a) (hb : I64 b) : orI (ci a (wrap64 (Int.tdiv b 10000))) (ci 0 (Int.tmod b 10000)) = ci (a * 10000) b := by
  obtain ⟨ha0, ha1⟩ := ha
  obtain ⟨hb0, hb1⟩ := hb
  have hq : ∃ q r : Int, Int.tdiv b 10000 = q ∧ Int.tmod b 10000 = r ∧ b = q * 10000 + r ∧ -10000 < r ∧ r < 10000 ∧ (q > 0 → 0 ≤ r) ∧ (q < 0 → r ≤ 0) := by
    refine ⟨_, _, rfl, rfl, ?_⟩
    have h1 := Int.mul_tdiv_add_tmod b 10000
    by_cases hs : 0 ≤ b
    · have e1 : Int.tdiv b 10000 = b / 10000 := Int.tdiv_eq_ediv_of_nonneg hs
      omega
    · have e1 : Int.tdiv b 10000 = -((-b) / 10000) := by
        have h := Int.neg_tdiv (a := -b) (b := 10000)
        rw [Int.neg_neg] at h
        rw [h, Int.tdiv_eq_ediv_of_nonneg (by omega)]
      omega
  obtain ⟨q, r, eq, er, hb, h1, h2, h3, h4⟩ := hq
  rw [eq, er, show wrap64 q = q by unfold wrap64; omega]
  by_cases e : a = q
  · subst e
    rw [ci_self, zero_orI]
    unfold ci
    by_cases c1 : 0 < r
    · rw [if_pos c1, if_pos (by omega)]
    by_cases c2 : 0 > r
    · rw [if_neg c1, if_pos c2, if_neg (by omega), if_pos (by omega)]
    rw [if_neg c1, if_neg c2, if_neg (by omega), if_neg (by omega)]
  · have hc : ci a q ≠ 0 := fun h' => e (ci_zero.mp h')
    unfold orI
    rw [if_neg hc]
    unfold ci
    by_cases c1 : a < q
    · rw [if_pos c1, if_pos (by omega)]
    rw [if_neg c1, if_pos (by omega), if_neg (by omega), if_pos (by omega)]
theorem ci_scale (a b : Int) : ci (a * 10000) (b * 10000) = ci a b := by
  unfold ci
  by_cases c1 : a < b
  · rw [if_pos c1, if_pos (by omega)]
  by_cases c2 : a > b
  · rw [if_neg c1, if_pos c2, if_neg (by omega), if_pos (by omega)]
  rw [if_neg c1, if_neg c2, if_neg (by omega), if_neg (by omega)]
theorem rnum12 (k : Nat) (n : Int) (s : ByteArray) (n2 : Int) (s2 : ByteArray) (hn : I64 n) (hn2 : I64 n2) :
    lockstepref01_Numbers.f (k + 1) 1 n s 2 n2 s2 = some (ci (n * 10000) n2) := by
  rw [lockstepref01_Numbers.f, if_neg (by decide), if_neg (by decide), ← tdiv_cmp n n2 hn hn2]
  unfold orI
  by_cases e : n = wrap64 (Int.tdiv n2 10000)
  · rw [if_pos e, if_pos (ci_zero.mpr e), ints_eq, Option.bind_some]
  · rw [if_neg e, if_neg (fun h => e (ci_zero.mp h)), ints_eq, Option.bind_some]
theorem rnumbers_eq (k : Nat) (t n : Int) (s : ByteArray) (t2 n2 : Int) (s2 : ByteArray) (ht : t = 1 ∨ t = 2) (ht2 : t2 = 1 ∨ t2 = 2) (hn : I64 n) (hn2 : I64 n2) :
    lockstepref01_Numbers.f (k + 2) t n s t2 n2 s2 = some (ci (sv t n) (sv t2 n2)) := by
  rcases ht with rfl | rfl <;> rcases ht2 with rfl | rfl
  · rw [lockstepref01_Numbers.f, if_pos rfl, ints_eq, Option.bind_some]
    show _ = some (ci (n * 10000) (n2 * 10000))
    rw [ci_scale]
  · rw [rnum12 (k + 1) n s n2 s2 hn hn2]; rfl
  · rw [lockstepref01_Numbers.f, if_neg (by decide), if_pos rfl, rnum12 k n2 s2 n s hn2 hn, Option.bind_some]
    show _ = some (ci n (n2 * 10000))
    rw [ci_good.anti (n2 * 10000) n]
    have : ci (n2 * 10000) n = -1 ∨ ci (n2 * 10000) n = 0 ∨ ci (n2 * 10000) n = 1 := by
      unfold ci
      repeat' split
      all_goals omega
    rcases this with h | h | h <;> rw [h] <;> unfold wrap64 <;> congr 1
  · rw [lockstepref01_Numbers.f, if_pos rfl, ints_eq, Option.bind_some]; rfl
theorem cls_cases (t : Int) : (cls t = 0 ∧ t = 0) ∨ (cls t = 1 ∧ (t = 1 ∨ t = 2)) ∨ (cls t = 2 ∧ t = 3) ∨ (cls t = 3 ∧ t = 4) ∨ cls t = 4 := by
  unfold cls
  by_cases h0 : t = 0
  · left; simp [h0]
  by_cases h1 : t = 1 ∨ t = 2
  · right; left; simp [h0, h1]
  by_cases h3 : t = 3
  · right; right; left; simp [h3]
  by_cases h4 : t = 4
  · right; right; right; left; simp [h4]
  · right; right; right; right; simp [h0, h1, h3, h4]
theorem ord_ne {a b : S23} (h : cls a.f0 ≠ cls b.f0) : ord a b = ci (cls a.f0) (cls b.f0) := by
  unfold ord orI; rw [if_neg (fun e => h (ci_zero.mp e))]
theorem ord_same {a b : S23} (h : cls a.f0 = cls b.f0) : ord a b = orI (ci (ky1 a) (ky1 b)) (orI (ci (ky2 a) (ky2 b)) (cs (ky3 a) (ky3 b))) := by
  unfold ord; rw [h, ci_self, zero_orI]
theorem ord_c0 {a b : S23} (h : cls a.f0 = 0) (h2 : cls b.f0 = 0) : ord a b = 0 := by
  rw [ord_same (h.trans h2.symm)]; simp [ky1, ky2, ky3, h, h2, ci_self, cs_self, zero_orI]
theorem ord_c1 {a b : S23} (h : cls a.f0 = 1) (h2 : cls b.f0 = 1) : ord a b = orI (ci (sv a.f0 a.f1) (sv b.f0 b.f1)) (ci a.f0 b.f0) := by
  rw [ord_same (h.trans h2.symm)]; simp [ky1, ky2, ky3, h, h2, ci_self, cs_self, orI_zero]
theorem ord_c2 {a b : S23} (h : cls a.f0 = 2) (h2 : cls b.f0 = 2) : ord a b = cs a.f2 b.f2 := by
  rw [ord_same (h.trans h2.symm)]; simp [ky1, ky2, ky3, h, h2, ci_self, cs_self, zero_orI]
theorem ord_c3 {a b : S23} (h : cls a.f0 = 3) (h2 : cls b.f0 = 3) : ord a b = ci a.f1 b.f1 := by
  rw [ord_same (h.trans h2.symm)]; simp [ky1, ky2, ky3, h, h2, ci_self, cs_self, orI_zero]
theorem ord_c4 {a b : S23} (h : cls a.f0 = 4) (h2 : cls b.f0 = 4) : ord a b = orI (ci a.f0 b.f0) (orI (ci a.f1 b.f1) (cs a.f2 b.f2)) := by
  rw [ord_same (h.trans h2.symm)]; simp [ky1, ky2, ky3, h, h2]
theorem value_Order.eq (k : Nat) (t n : Int) (s : ByteArray) (t2 n2 : Int) (s2 : ByteArray) (hn : I64 n) (hn2 : I64 n2) :
    value_Order.f (k + 4) t n s t2 n2 s2 = some (ord ⟨t, n, s⟩ ⟨t2, n2, s2⟩) := by
  unfold value_Order.f
  rw [class_eq, Option.bind_some, class_eq, Option.bind_some, cmpi_eq, Option.bind_some]
  by_cases hc : cls t = cls t2
  · rw [if_pos (ci_zero.mpr hc), Option.bind_some]
    rcases cls_cases t with ⟨h, rfl⟩ | ⟨h, ht⟩ | ⟨h, rfl⟩ | ⟨h, rfl⟩ | h
    · rw [if_pos h, ord_c0 h (hc ▸ h)]
    · rw [if_neg (by rw [h]; decide), if_pos h, numbers_eq (k + 1) _ _ _ _ _ _ hn hn2, Option.bind_some, cmpi_eq, Option.bind_some, or_two, Option.bind_some, ord_c1 h (hc ▸ h)]
    · rw [if_neg (by rw [h]; decide), if_neg (by rw [h]; decide), if_pos h, cmps_eq, Option.bind_some, ord_c2 h (hc ▸ h)]
    · rw [if_neg (by rw [h]; decide), if_neg (by rw [h]; decide), if_neg (by rw [h]; decide), if_pos h, cmpi64_eq, Option.bind_some, ord_c3 h (hc ▸ h)]
    · rw [if_neg (by rw [h]; decide), if_neg (by rw [h]; decide), if_neg (by rw [h]; decide), if_neg (by rw [h]; decide), cmpi_eq, Option.bind_some, cmpi64_eq, Option.bind_some, cmps_eq, Option.bind_some, or_three, Option.bind_some, ord_c4 h (hc ▸ h)]
  · rw [if_neg (fun e => hc (ci_zero.mp e)), ord_ne hc]
theorem lockstepref01_Order.eq (k : Nat) (t n : Int) (s : ByteArray) (t2 n2 : Int) (s2 : ByteArray) (hn : I64 n) (hn2 : I64 n2) :
    lockstepref01_Order.f (k + 4) t n s t2 n2 s2 = some (ord ⟨t, n, s⟩ ⟨t2, n2, s2⟩) := by
  unfold lockstepref01_Order.f
  rw [rclass_eq, Option.bind_some, rclass_eq, Option.bind_some]
  by_cases hc : cls t = cls t2
  · rw [if_pos hc]
    rcases cls_cases t with ⟨h, rfl⟩ | ⟨h, ht⟩ | ⟨h, rfl⟩ | ⟨h, rfl⟩ | h
    · rw [if_neg (by rw [h]; decide), if_neg (by rw [h]; decide), if_neg (by rw [h]; decide), if_neg (by rw [h]; decide), ord_c0 h (hc ▸ h)]
    · have ht2 : t2 = 1 ∨ t2 = 2 := by
        rcases cls_cases t2 with ⟨h', _⟩ | ⟨_, h'⟩ | ⟨h', _⟩ | ⟨h', _⟩ | h'
        · rw [← hc, h] at h'; exact absurd h' (by decide)
        · exact h'
        · rw [← hc, h] at h'; exact absurd h' (by decide)
        · rw [← hc, h] at h'; exact absurd h' (by decide)
        · rw [← hc, h] at h'; exact absurd h' (by decide)
      rw [if_pos h, rnumbers_eq (k + 2) _ _ _ _ _ _ ht ht2 hn hn2, Option.bind_some, ord_c1 h (hc ▸ h)]
      unfold orI
      split
      · next e => rw [ints_eq, Option.bind_some]
      · rfl
    · rw [if_neg (by rw [h]; decide), if_pos h, texts_eq, Option.bind_some, ord_c2 h (hc ▸ h)]
    · rw [if_neg (by rw [h]; decide), if_neg (by rw [h]; decide), if_pos h, ints_eq, Option.bind_some, ord_c3 h (hc ▸ h)]
    · rw [if_neg (by rw [h]; decide), if_neg (by rw [h]; decide), if_neg (by rw [h]; decide), if_pos h, ord_c4 h (hc ▸ h)]
      simp only []
      unfold orI
      by_cases e1 : t = t2
      · rw [if_pos e1, if_pos (ci_zero.mpr e1)]
        by_cases e2 : n = n2
        · rw [if_pos e2, if_pos (ci_zero.mpr e2), texts_eq, Option.bind_some]
        · rw [if_neg e2, if_neg (fun e => e2 (ci_zero.mp e)), ints_eq, Option.bind_some]
      · rw [if_neg e1, if_neg (fun e => e1 (ci_zero.mp e)), ints_eq, Option.bind_some]
  · rw [if_neg hc, Option.bind_some, ints_eq, Option.bind_some, ord_ne hc]
end Go.Proofs.YtkkpnbfhghfleaaGreatDoor.X
end
section
namespace Go.Proofs.YtkkpnbfhghfleaaGreatDoor.X
set_option linter.unusedVariables false
set_option linter.unusedSimpArgs false
open Go.RowKit Go.Proofs.YtkkpnbfhghfleaaGreatDoorW.PrintWords Go.Proofs.YtkkpnbfhghfleaaGreatDoorW.PrintLast Go.Proofs.YtkkpnbfhghfleaaGreatDoorW.PrintMore
open Num
def isSign (op : ByteArray) : Prop := op.toList = [61] ∨ op.toList = [60, 62] ∨ op.toList = [60] ∨ op.toList = [60, 61] ∨ op.toList = [62] ∨ op.toList = [62, 61]
instance (op : ByteArray) : Decidable (isSign op) := by unfold isSign; infer_instance
theorem is_eq (op : ByteArray) (n : Int) (h : isSign op) : value_is.f op n = some (opIs op n) := by
  unfold value_is.f opIs
  by_cases h1 : op.toList = [61]
  · rw [if_pos h1, if_pos h1]
  by_cases h2 : op.toList = [60, 62]
  · rw [if_neg h1, if_neg h1, if_pos h2, if_pos h2]
  by_cases h3 : op.toList = [60]
  · rw [if_neg h1, if_neg h1, if_neg h2, if_neg h2, if_pos h3, if_pos h3]
  by_cases h4 : op.toList = [60, 61]
  · rw [if_neg h1, if_neg h1, if_neg h2, if_neg h2, if_neg h3, if_neg h3, if_pos h4, if_pos h4]
  by_cases h5 : op.toList = [62]
  · rw [if_neg h1, if_neg h1, if_neg h2, if_neg h2, if_neg h3, if_neg h3, if_neg h4, if_neg h4, if_pos h5, if_pos h5]
  have h6 : op.toList = [62, 61] := by
    rcases h with h | h | h | h | h | h
    · exact absurd h h1
    · exact absurd h h2
    · exact absurd h h3
    · exact absurd h h4
    · exact absurd h h5
    · exact h
  rw [if_neg h1, if_neg h1, if_neg h2, if_neg h2, if_neg h3, if_neg h3, if_neg h4, if_neg h4, if_neg h5, if_neg h5, if_pos h6]
def tr (b : Bool) : Int × Int × ByteArray × Int := (4, if b = true then 1 else 0, ⟨#[]⟩, 0)
theorem truth_eq (b : Bool) : value_truth.f b = some ((tr b).1, (tr b).2.1, (tr b).2.2.1) := by cases b <;> rfl
theorem Truth_eq (b : Bool) : lockstepref01_Truth.f b = some ((tr b).1, (tr b).2.1, (tr b).2.2.1) := rfl
def cmpV (a b : S23) : Int := if a.f0 = 1 ∨ a.f0 = 2 then ci (sv a.f0 a.f1) (sv b.f0 b.f1) else ord a b
def testS (op : ByteArray) (a b : S23) : Int × Int × ByteArray × Int :=
  if isSign op then (if both a.f0 a.f1 a.f2 b.f0 b.f1 b.f2 = 0 then (if a.f0 = 0 ∨ b.f0 = 0 then (0, 0, ⟨#[]⟩, 0) else if cls a.f0 = cls b.f0 then tr (opIs op (cmpV a b)) else (0, 0, ⟨#[]⟩, 7)) else (0, 0, ⟨#[]⟩, both a.f0 a.f1 a.f2 b.f0 b.f1 b.f2)) else (0, 0, ⟨#[]⟩, 1)
theorem number_eq (t n : Int) (s : ByteArray) : value_number.f t n s = some (decide (t = 1 ∨ t = 2)) ∧ lockstepref01_number.f t n s = some (decide (t = 1 ∨ t = 2)) := by
  unfold value_number.f lockstepref01_number.f
  by_cases h1 : t = 1
  · subst h1; exact ⟨rfl, rfl⟩
  by_cases h2 : t = 2
  · subst h2; exact ⟨rfl, rfl⟩
  rw [if_neg h1, beq_eq_false_iff_ne.mpr h2, decide_eq_false (by omega)]
  exact ⟨rfl, rfl⟩
theorem vj1 (k : Nat) (op : ByteArray) (h : isSign op) (t n : Int) (s : ByteArray) (t2 n2 : Int) (s2 : ByteArray) (hn : I64 n) (hn2 : I64 n2) (b : Bool) :
    value_Test.j1 (k + 5) op b t n s t2 n2 s2 = some (if b = true then (0, 0, ⟨#[]⟩, 0) else if cls t = cls t2 then tr (opIs op (cmpV ⟨t, n, s⟩ ⟨t2, n2, s2⟩)) else (0, 0, ⟨#[]⟩, 7)) := by
  rw [show k + 5 = (k + 4) + 1 from rfl, value_Test.j1]
  by_cases hb : b = true
  · rw [if_pos hb, if_pos hb]
  · rw [if_neg hb, if_neg hb, show k + 4 = (k + 3) + 1 from rfl, class_eq, Option.bind_some, class_eq, Option.bind_some]
    by_cases hc : cls t = cls t2
    · rw [if_pos hc, if_pos hc, (number_eq t n s).1, Option.bind_some]
      unfold cmpV
      by_cases ht : t = 1 ∨ t = 2
      · rw [decide_eq_true ht, if_pos rfl, show (k + 3) + 1 = (k + 1) + 3 from rfl, numbers_eq _ _ _ _ _ _ _ hn hn2, Option.bind_some, is_eq op _ h, Option.bind_some, truth_eq, Option.bind_some]
        simp only []
        rw [if_pos ht]; rfl
      · rw [decide_eq_false ht, if_neg (by decide), show (k + 3) + 1 = k + 4 from rfl, value_Order.eq _ _ _ _ _ _ _ hn hn2, Option.bind_some, is_eq op _ h, Option.bind_some, truth_eq, Option.bind_some]
        simp only []
        rw [if_neg ht]; rfl
    · rw [if_neg hc, if_neg hc]
theorem vj0 (k : Nat) (op : ByteArray) (h : isSign op) (t n : Int) (s : ByteArray) (t2 n2 : Int) (s2 : ByteArray) (hn : I64 n) (hn2 : I64 n2) :
    value_Test.j0 (k + 6) op t n s t2 n2 s2 = some (testS op ⟨t, n, s⟩ ⟨t2, n2, s2⟩) := by
  unfold testS
  rw [if_pos h, show k + 6 = (k + 5) + 1 from rfl, value_Test.j0, show k + 5 = (k + 4) + 1 from rfl, value_both.eq, Option.bind_some]
  by_cases hb : both t n s t2 n2 s2 = 0
  · rw [if_pos hb, if_pos hb, show (k + 4) + 1 = k + 5 from rfl, vj1 k op h t n s t2 n2 s2 hn hn2, vj1 k op h t n s t2 n2 s2 hn hn2]
    by_cases h0 : t = 0
    · rw [if_pos h0, if_pos rfl, if_pos (Or.inl h0)]
    · rw [if_neg h0]
      by_cases h2 : t2 = 0
      · rw [if_pos (beq_iff_eq.mpr h2), if_pos (Or.inr h2)]
      · rw [if_neg (by rw [beq_iff_eq]; exact h2), if_neg (show ¬ (t = 0 ∨ t2 = 0) by omega)]
  · rw [if_neg hb, if_neg hb]
theorem value_Test.eq (k : Nat) (op : ByteArray) (t n : Int) (s : ByteArray) (t2 n2 : Int) (s2 : ByteArray) (hn : I64 n) (hn2 : I64 n2) :
    value_Test.f (k + 6) op t n s t2 n2 s2 = some (testS op ⟨t, n, s⟩ ⟨t2, n2, s2⟩) := by
  unfold value_Test.f
  by_cases hs : isSign op
  · rw [vj0 k op hs t n s t2 n2 s2 hn hn2]
    repeat' split
    all_goals first | rfl | skip
    next h1 h2 h3 h4 h5 h6 => rcases hs with h | h | h | h | h | h <;> contradiction
  · unfold testS
    rw [if_neg hs]
    unfold isSign at hs
    rw [if_neg (fun h => hs (Or.inl h)), if_neg (fun h => hs (Or.inr (Or.inl h))), if_neg (fun h => hs (Or.inr (Or.inr (Or.inl h)))), if_neg (fun h => hs (Or.inr (Or.inr (Or.inr (Or.inl h))))), if_neg (fun h => hs (Or.inr (Or.inr (Or.inr (Or.inr (Or.inl h)))))), if_neg (fun h => hs (Or.inr (Or.inr (Or.inr (Or.inr (Or.inr h))))))]
theorem rin_step (k : Nat) (l : List ByteArray) (x : ByteArray) (i : Int) : lockstepref01_in.l0 (k + 1) l x i = if i < (l.length : Int) then (if 0 ≤ i then (if (rdOf ByteArray.empty l i).toList = x.toList then (some true) else (lockstepref01_in.l0 k l x (wrap64 (i + 1)))) else (none)) else (some false) := by
  conv => lhs; unfold lockstepref01_in.l0
def sgs : List ByteArray := [(⟨#[61]⟩ : ByteArray), (⟨#[60, 62]⟩ : ByteArray), (⟨#[60]⟩ : ByteArray), (⟨#[60, 61]⟩ : ByteArray), (⟨#[62]⟩ : ByteArray), (⟨#[62, 61]⟩ : ByteArray)]
theorem wsucc (a : Int) (h : 0 ≤ a) (h1 : a < 1000) : wrap64 (a + 1) = a + 1 := by unfold wrap64; omega
theorem rin_one (k : Nat) (op : ByteArray) (i : Int) (h0 : 0 ≤ i) (h1 : i < 6) : lockstepref01_in.l0 (k + 1) sgs op i = if (rdOf ByteArray.empty sgs i).toList = op.toList then some true else lockstepref01_in.l0 k sgs op (i + 1) := by
  rw [rin_step, show (sgs.length : Int) = 6 from rfl, if_pos h1, if_pos h0, wsucc i h0 (by omega)]
theorem rin_end (k : Nat) (op : ByteArray) : lockstepref01_in.l0 (k + 1) sgs op 6 = some false := by
  rw [rin_step, show (sgs.length : Int) = 6 from rfl, if_neg (by omega)]
theorem rin_eq (k : Nat) (op : ByteArray) : lockstepref01_in.f (k + 7) sgs op = some (decide (isSign op)) := by
  unfold lockstepref01_in.f
  have l : (sgs.length : Int) = 6 := rfl
  have g0 : (rdOf ByteArray.empty sgs 0).toList = [61] := by decide +kernel
  have g1 : (rdOf ByteArray.empty sgs 1).toList = [60, 62] := by decide +kernel
  have g2 : (rdOf ByteArray.empty sgs 2).toList = [60] := by decide +kernel
  have g3 : (rdOf ByteArray.empty sgs 3).toList = [60, 61] := by decide +kernel
  have g4 : (rdOf ByteArray.empty sgs 4).toList = [62] := by decide +kernel
  have g5 : (rdOf ByteArray.empty sgs 5).toList = [62, 61] := by decide +kernel
  rw [rin_one _ _ 0 (by omega) (by omega), g0, show (0 : Int) + 1 = 1 from rfl, rin_one _ _ 1 (by omega) (by omega), g1, show (1 : Int) + 1 = 2 from rfl, rin_one _ _ 2 (by omega) (by omega), g2, show (2 : Int) + 1 = 3 from rfl, rin_one _ _ 3 (by omega) (by omega), g3, show (3 : Int) + 1 = 4 from rfl, rin_one _ _ 4 (by omega) (by omega), g4, show (4 : Int) + 1 = 5 from rfl, rin_one _ _ 5 (by omega) (by omega), g5, show (5 : Int) + 1 = 6 from rfl, rin_end]
  by_cases h1 : op.toList = [61]
  · rw [if_pos h1.symm, decide_eq_true (show isSign op from Or.inl h1)]
  by_cases h2 : op.toList = [60, 62]
  · rw [if_neg (fun h => h1 h.symm), if_pos h2.symm, decide_eq_true (show isSign op from Or.inr (Or.inl h2))]
  by_cases h3 : op.toList = [60]
  · rw [if_neg (fun h => h1 h.symm), if_neg (fun h => h2 h.symm), if_pos h3.symm, decide_eq_true (show isSign op from Or.inr (Or.inr (Or.inl h3)))]
  by_cases h4 : op.toList = [60, 61]
  · rw [if_neg (fun h => h1 h.symm), if_neg (fun h => h2 h.symm), if_neg (fun h => h3 h.symm), if_pos h4.symm, decide_eq_true (show isSign op from Or.inr (Or.inr (Or.inr (Or.inl h4))))]
  by_cases h5 : op.toList = [62]
  · rw [if_neg (fun h => h1 h.symm), if_neg (fun h => h2 h.symm), if_neg (fun h => h3 h.symm), if_neg (fun h => h4 h.symm), if_pos h5.symm, decide_eq_true (show isSign op from Or.inr (Or.inr (Or.inr (Or.inr (Or.inl h5)))))]
  by_cases h6 : op.toList = [62, 61]
  · rw [if_neg (fun h => h1 h.symm), if_neg (fun h => h2 h.symm), if_neg (fun h => h3 h.symm), if_neg (fun h => h4 h.symm), if_neg (fun h => h5 h.symm), if_pos h6.symm, decide_eq_true (show isSign op from Or.inr (Or.inr (Or.inr (Or.inr (Or.inr h6)))))]
  rw [if_neg (fun h => h1 h.symm), if_neg (fun h => h2 h.symm), if_neg (fun h => h3 h.symm), if_neg (fun h => h4 h.symm), if_neg (fun h => h5 h.symm), if_neg (fun h => h6 h.symm), decide_eq_false]
  intro hs
  rcases hs with h | h | h | h | h | h
  · exact h1 h
  · exact h2 h
  · exact h3 h
  · exact h4 h
  · exact h5 h
  · exact h6 h
theorem Fits_eq (t t2 : Int) (h : 0 ≤ t ∧ t ≤ 4) (h2 : 0 ≤ t2 ∧ t2 ≤ 4) : lockstepref01_Fits.f t t2 = some (decide (t = 0 ∨ t2 = 0 ∨ cls t = cls t2)) := by
  obtain ⟨h, h'⟩ := h
  obtain ⟨h2, h2'⟩ := h2
  have e : t = 0 ∨ t = 1 ∨ t = 2 ∨ t = 3 ∨ t = 4 := by omega
  have e2 : t2 = 0 ∨ t2 = 1 ∨ t2 = 2 ∨ t2 = 3 ∨ t2 = 4 := by omega
  rcases e with rfl | rfl | rfl | rfl | rfl <;> rcases e2 with rfl | rfl | rfl | rfl | rfl <;> rfl
theorem rj0 (k : Nat) (op : ByteArray) (t n : Int) (s : ByteArray) (t2 n2 : Int) (s2 : ByteArray) (hn : I64 n) (hn2 : I64 n2) (b : Bool) (hc : b = false → cls t = cls t2) :
    lockstepref01_Test.j0 (k + 5) op b t n s t2 n2 s2 = some (if b = true then (0, 0, ⟨#[]⟩, 0) else tr (opIs op (cmpV ⟨t, n, s⟩ ⟨t2, n2, s2⟩))) := by
  rw [show k + 5 = (k + 4) + 1 from rfl, lockstepref01_Test.j0]
  by_cases hb : b = true
  · rw [if_pos hb, if_pos hb]
  · rw [if_neg hb, if_neg hb, (number_eq t n s).2, Option.bind_some]
    have hcl := hc (by simpa using hb)
    unfold cmpV
    by_cases ht : t = 1 ∨ t = 2
    · have ht2 : t2 = 1 ∨ t2 = 2 := by
        have c1 : cls t = 1 := by unfold cls; rw [if_neg (by omega), if_pos ht]
        rcases cls_cases t2 with ⟨h', _⟩ | ⟨_, h'⟩ | ⟨h', _⟩ | ⟨h', _⟩ | h'
        · rw [← hcl, c1] at h'; exact absurd h' (by decide)
        · exact h'
        · rw [← hcl, c1] at h'; exact absurd h' (by decide)
        · rw [← hcl, c1] at h'; exact absurd h' (by decide)
        · rw [← hcl, c1] at h'; exact absurd h' (by decide)
      rw [decide_eq_true ht, if_pos rfl, show k + 4 = (k + 2) + 2 from rfl, rnumbers_eq _ _ _ _ _ _ _ ht ht2 hn hn2, Option.bind_some, Truth_eq, Option.bind_some]
      simp only []
      rw [if_pos ht]; rfl
    · rw [decide_eq_false ht, if_neg (by decide), lockstepref01_Order.eq _ _ _ _ _ _ _ hn hn2, Option.bind_some, Truth_eq, Option.bind_some]
      simp only []
      rw [if_neg ht]; rfl
theorem lockstepref01_Test.eq (k : Nat) (op : ByteArray) (t n : Int) (s : ByteArray) (t2 n2 : Int) (s2 : ByteArray) (hn : I64 n) (hn2 : I64 n2) :
    lockstepref01_Test.f (k + 7) op t n s t2 n2 s2 = some (testS op ⟨t, n, s⟩ ⟨t2, n2, s2⟩) := by
  unfold lockstepref01_Test.f testS lockstepref01_signs.f
  rw [Option.bind_some]
  change ((lockstepref01_in.f (k + 7) sgs op).bind _) = _
  rw [rin_eq, Option.bind_some]
  by_cases hs : isSign op
  · rw [decide_eq_true hs, if_pos rfl, if_pos hs, show k + 7 = (k + 5) + 2 from rfl, lockstepref01_both.eq, Option.bind_some]
    simp only []
    by_cases hb : both t n s t2 n2 s2 = 0
    · obtain ⟨z1, z2⟩ := both_zero hb
      have c1 := chk_zero z1
      have c2 := chk_zero z2
      rw [if_pos hb, if_pos hb, Fits_eq t t2 c1 c2, Option.bind_some, show (k + 5) + 2 = (k + 2) + 5 from rfl]
      by_cases h0 : t = 0
      · rw [decide_eq_true (Or.inl h0), if_pos rfl, if_pos h0, if_pos (Or.inl h0), rj0 (k + 2) op t n s t2 n2 s2 hn hn2 true (fun h => by cases h), if_pos rfl]
      · by_cases h2 : t2 = 0
        · rw [decide_eq_true (Or.inr (Or.inl h2)), if_pos rfl, if_neg h0, if_pos (Or.inr h2), beq_iff_eq.mpr h2, rj0 (k + 2) op t n s t2 n2 s2 hn hn2 true (fun h => by cases h), if_pos rfl]
        · rw [if_neg (show ¬ (t = 0 ∨ t2 = 0) by omega)]
          by_cases hc : cls t = cls t2
          · rw [decide_eq_true (Or.inr (Or.inr hc)), if_pos rfl, if_neg h0, if_pos hc, beq_eq_false_iff_ne.mpr h2, rj0 (k + 2) op t n s t2 n2 s2 hn hn2 false (fun _ => hc), if_neg (by decide)]
          · rw [decide_eq_false (fun h => h.elim h0 (fun h => h.elim h2 hc)), if_neg (by decide), if_neg hc]
    · rw [if_neg hb, if_neg hb]
  · rw [decide_eq_false hs, if_neg (by decide), if_neg hs]
theorem cmpV_anti (a b : S23) (h : cls a.f0 = cls b.f0) : cmpV b a = - cmpV a b := by
  have hn : ∀ t : Int, (t = 1 ∨ t = 2) ↔ cls t = 1 := by
    intro t
    constructor
    · intro h; unfold cls; rw [if_neg (by omega), if_pos h]
    · intro h
      rcases cls_cases t with ⟨h', _⟩ | ⟨_, h'⟩ | ⟨h', _⟩ | ⟨h', _⟩ | h'
      · rw [h] at h'; exact absurd h' (by decide)
      · exact h'
      · rw [h] at h'; exact absurd h' (by decide)
      · rw [h] at h'; exact absurd h' (by decide)
      · rw [h] at h'; exact absurd h' (by decide)
  unfold cmpV
  by_cases ha : a.f0 = 1 ∨ a.f0 = 2
  · rw [if_pos ha, if_pos ((hn _).mpr (h ▸ (hn _).mp ha))]; exact ci_good.anti _ _
  · rw [if_neg ha, if_neg (fun hb => ha ((hn _).mpr (h.symm ▸ (hn _).mp hb)))]; exact ord_good.anti _ _
def slt : ByteArray := ⟨#[60]⟩
def sgt : ByteArray := ⟨#[62]⟩
theorem slt_s : isSign slt := by decide +kernel
theorem sgt_s : isSign sgt := by decide +kernel
theorem slt_is (n : Int) : opIs slt n = decide (n < 0) := by
  have h : slt.toList = [60] := by decide +kernel
  unfold opIs; rw [h, if_neg (by decide), if_neg (by decide), if_pos rfl]
theorem sgt_is (n : Int) : opIs sgt n = decide (n > 0) := by
  have h : sgt.toList = [62] := by decide +kernel
  unfold opIs; rw [h, if_neg (by decide), if_neg (by decide), if_neg (by decide), if_neg (by decide), if_pos rfl]
theorem both_swap {t n : Int} {s : ByteArray} {t2 n2 : Int} {s2 : ByteArray} : both t n s t2 n2 s2 = 0 ↔ both t2 n2 s2 t n s = 0 := by
  unfold both
  by_cases h1 : chk t n s = 0 <;> by_cases h2 : chk t2 n2 s2 = 0 <;> simp [h1, h2]
abbrev V4 := Int × Int × ByteArray × Int
def Tn (p q : V4) : Prop := p.1 = q.1 ∧ p.2.1 = q.2.1 ∧ p.2.2.1 = q.2.2.1 ∧ (p.2.2.2 = 0 ↔ q.2.2.2 = 0)
theorem Tn.refl (p : V4) : Tn p p := ⟨rfl, rfl, rfl, Iff.rfl⟩
theorem Tn.err {c d : Int} (h : c = 0 ↔ d = 0) : Tn (0, 0, ⟨#[]⟩, c) (0, 0, ⟨#[]⟩, d) := ⟨rfl, rfl, rfl, h⟩
theorem Tn.law {p q : V4} (h : Tn p q) : (if (p.1 == q.1 && (p.2.1 == q.2.1 && (p.2.2.1.toList == q.2.2.1.toList))) = true then (if ((p.2.2.2 == 0) == (q.2.2.2 == 0)) = true then some true else some false) else some false) = some true := by
  obtain ⟨h1, h2, h3, h4⟩ := h
  have e4 : (p.2.2.2 == 0) = (q.2.2.2 == 0) := by rw [Bool.eq_iff_iff, beq_iff_eq, beq_iff_eq]; exact h4
  rw [h1, h2, h3, e4]; simp
theorem turned (a b : S23) : Tn (testS slt a b) (testS sgt b a) := by
  unfold testS
  rw [if_pos slt_s, if_pos sgt_s]
  by_cases hb : both a.f0 a.f1 a.f2 b.f0 b.f1 b.f2 = 0
  · rw [if_pos hb, if_pos (both_swap.mp hb)]
    by_cases h0 : a.f0 = 0 ∨ b.f0 = 0
    · rw [if_pos h0, if_pos h0.symm]; exact Tn.refl _
    · rw [if_neg h0, if_neg (show ¬ (b.f0 = 0 ∨ a.f0 = 0) from fun h => h0 h.symm)]
      by_cases hc : cls a.f0 = cls b.f0
      · rw [if_pos hc, if_pos hc.symm, slt_is, sgt_is, cmpV_anti a b hc]
        have e : decide (- cmpV a b > 0) = decide (cmpV a b < 0) := by
          by_cases h : cmpV a b < 0
          · rw [decide_eq_true h, decide_eq_true (by omega)]
          · rw [decide_eq_false h, decide_eq_false (by omega)]
        rw [e]; exact Tn.refl _
      · rw [if_neg hc, if_neg (show ¬ cls b.f0 = cls a.f0 from fun h => hc h.symm)]; exact Tn.refl _
  · rw [if_neg hb, if_neg (fun h => hb (both_swap.mpr h))]
    exact Tn.err (Iff.intro (fun h => absurd h hb) (fun h => absurd (both_swap.mpr h) hb))
set_option maxRecDepth 100000 in
theorem lives60 : locksteplaw01_lives.f 60 = some true := by decide +kernel
theorem ValueTests_true (op : ByteArray) (t n : Int) (s : ByteArray) (t2 n2 : Int) (s2 : ByteArray) (hn : I64 n) (hn2 : I64 n2) : locksteplaw01_ValueTests.f 61 op t n s t2 n2 s2 = some true := by
  have tu := turned ⟨t, n, s⟩ ⟨t2, n2, s2⟩
  unfold locksteplaw01_ValueTests.f
  rw [show 61 = 55 + 6 from rfl, value_Test.eq _ _ _ _ _ _ _ _ hn hn2, Option.bind_some, show 55 + 6 = 54 + 7 from rfl, lockstepref01_Test.eq _ _ _ _ _ _ _ _ hn hn2, Option.bind_some]
  generalize testS op ⟨t, n, s⟩ ⟨t2, n2, s2⟩ = p
  rw [if_neg (by simp), bne_self_eq_false]
  rw [show 54 + 7 = 60 + 1 from rfl, locksteplaw01_ValueTests.j0, if_neg (by decide), show 60 = 54 + 6 from rfl]
  rw [value_Test.eq _ _ _ _ _ _ _ _ hn hn2, Option.bind_some, value_Test.eq _ _ _ _ _ _ _ _ hn2 hn, Option.bind_some, show 54 + 6 = 60 from rfl, lives60, Option.bind_some]
  exact Tn.law tu
end Go.Proofs.YtkkpnbfhghfleaaGreatDoor.X
end
section
namespace Go.Proofs.YtkkpnbfhghfleaaGreatDoor.X
set_option linter.unusedVariables false
set_option linter.unusedSimpArgs false
open Go.RowKit Go.Lib Go.ChangeShapes Go.WideShapes Go.ChangeAt Go.Joins
open Go.ChangeMaps (open_string shut_string)
set_option maxRecDepth 100000
theorem own : ownKnob Tryz.prog.godebug = none := by kernel_rfl
theorem u8extra : U8Extra Tryz.prog Tryz.laysValid_ren := ⟨by kernel_rfl, by kernel_rfl, by kernel_rfl, by kernel_rfl, by kernel_rfl, by kernel_rfl, by kernel_rfl⟩
theorem pow_of {w : World} {d : DataW Unit} (e : d = tabData .u64 pow10Tab) (h : VarReads Tryz.prog w "internal/strconv.uint64pow10" d) : TabIs Tryz.prog w "internal/strconv.uint64pow10" .u64 pow10Tab := by
  subst e
  obtain ⟨g', t', cs, fuel, p, hg', ht', hvar, hd⟩ := h
  obtain rfl := Option.some.inj ((show Tryz.prog.globalNamed "internal/strconv.uint64pow10" = some 2 by kernel_rfl).symm.trans hg')
  obtain rfl := Option.some.inj ((show (Tryz.prog.globals[2]?).map (·.type) = some 124 by kernel_rfl).symm.trans ht')
  unfold TabIs
  rw [hvar, ← cells_of_tab Tryz.underlying124 Tryz.underlying56 (by kernel_rfl) (by kernel_rfl) hd]
theorem most_of {w : World} (h : w.ShapedOpen Tryz.prog) : ∃ m : Int, w.cell? ⟨5, 0, none⟩ = some (.int .i64 m) :=
  cell_of_shapedOpen_int (zero := #[.int .i64 0]) (t := 3) h (of_decide_eq_true (by kernel_rfl)) (by kernel_rfl) rfl (by kernel_rfl) (by kernel_rfl) Tryz.underlying3
def five : List (String × DataW Unit) := [("math/bits.deBruijn32tab", Rows.laid_math_bits_deBruijn32tab), ("math/bits.deBruijn64tab", Rows.laid_math_bits_deBruijn64tab), ("internal/strconv.uint64pow10", Rows.laid_internal_strconv_uint64pow10), ("unicode/utf8.acceptRanges", Rows.laid_unicode_utf8_acceptRanges), ("unicode/utf8.first", Rows.laid_unicode_utf8_first)]
theorem tabs_of {w : World} (h : laidMetH Tryz.prog five w) (hs : w.ShapedOpen Tryz.prog) : Tabs w := by
  have h' : laidMet Tryz.prog five w := h
  refine ⟨?_, pow_of (by kernel_rfl) (Go.Lib.laidMet.reads h' (n := "internal/strconv.uint64pow10") (d := Rows.laid_internal_strconv_uint64pow10) (by simp [five])), most_of hs⟩
  have h3 := Go.Lib.laidMet.reads h' (n := "unicode/utf8.first") (d := Rows.laid_unicode_utf8_first) (by simp [five])
  have h4 := Go.Lib.laidMet.reads h' (n := "unicode/utf8.acceptRanges") (d := Rows.laid_unicode_utf8_acceptRanges) (by simp [five])
  rw [show (Rows.laid_unicode_utf8_first : DataW Unit) = firstData by kernel_rfl] at h3
  rw [show (Rows.laid_unicode_utf8_acceptRanges : DataW Unit) = acceptData by kernel_rfl] at h4
  exact utf8Tabs_of_readsT (U8Types.of196 Tryz.laysValid) u8extra h3 h4
section
variable {H : Type} {enc : TypeId × Value → H} {w : World} {base b0 : Nat} {spare : Nat → Bool} {held : Bool} {r : Reach}
theorem one23 : Go.Deep.oneCellFields Tryz.prog #[{ name := "Type", type := 3, offset := 0, embedded := false, tag := "", pkgPath := "", byteOffset := 0 }, { name := "Int", type := 2, offset := 1, embedded := false, tag := "", pkgPath := "", byteOffset := 8 }, { name := "Text", type := 9, offset := 2, embedded := false, tag := "", pkgPath := "", byteOffset := 16 }] = true := by kernel_rfl
theorem open_value {v : Value} {d : DataW H} {p : List MemPlace} (hv : Value.okWide Tryz.prog w r b0 23 v) (h : DataW.Trod enc Tryz.prog w base spare held 23 v d p) :
    ∃ (t n : Int) (s : ByteArray), v = .agg #[.int .i64 t, .int .i64 n, .string s] ∧ d = .agg [.lit (.int .i64 t), .lit (.int .i64 n), .lit (.string s.data.toList)] ∧ p = [] ∧
      (-9223372036854775808 ≤ t ∧ t ≤ 9223372036854775807) ∧ (-9223372036854775808 ≤ n ∧ n ≤ 9223372036854775807) ∧ s.size ≤ maxLen := by
  obtain ⟨c0, c1, c2, y0, y1, y2, m, rfl, rfl, rfl, hy0, hy1, hy2⟩ := open_agg3 Tryz.underlying23 one23 (by kernel_rfl) hv h
  obtain ⟨x, e0, rfl, wx⟩ := DataW.trod_int Tryz.underlying3 hy0
  obtain ⟨y, e1, rfl, wy⟩ := DataW.trod_int Tryz.underlying2 hy1
  obtain ⟨s, e2, rfl, ws⟩ := DataW.trod_string Tryz.underlying9 hy2
  simp at e0 e1 e2
  subst e0 e1 e2
  refine ⟨x, y, s, rfl, rfl, rfl, ?_, ?_, ws⟩
  · simp only [Lit.wf, IntKind.min, IntKind.max, IntKind.signed, IntKind.bits, Bool.and_eq_true, decide_eq_true_eq, if_true] at wx
    omega
  · simp only [Lit.wf, IntKind.min, IntKind.max, IntKind.signed, IntKind.bits, Bool.and_eq_true, decide_eq_true_eq, if_true] at wy
    omega
theorem wf64 {n : Int} (h : -9223372036854775808 ≤ n ∧ n ≤ 9223372036854775807) : (Lit.int .i64 n).wf = true := by
  simp only [Lit.wf, IntKind.min, IntKind.max, IntKind.signed, IntKind.bits, Bool.and_eq_true, decide_eq_true_eq, if_true]
  omega
theorem shut_value {t n : Int} {s : ByteArray} (ht : -9223372036854775808 ≤ t ∧ t ≤ 9223372036854775807) (hn : -9223372036854775808 ≤ n ∧ n ≤ 9223372036854775807) (hs : s.size ≤ maxLen) :
    DataW.Trod enc Tryz.prog w base spare held 23 (.agg #[.int .i64 t, .int .i64 n, .string s]) (.agg [.lit (.int .i64 t), .lit (.int .i64 n), .lit (.string s.data.toList)]) [] := by
  obtain ⟨m, hm⟩ := shut_string (enc := enc) (w := w) (base := base) (sp := spare) (held := held) Tryz.underlying9 hs
  exact shut_agg3 (y0 := (.lit (.int .i64 t), [])) (y1 := (.lit (.int .i64 n), [])) (y2 := (.lit (.string s.data.toList), [])) Tryz.underlying23 one23 (by kernel_rfl)
    ⟨1, trod_int_mk 0 Tryz.underlying3 (wf64 ht)⟩ ⟨1, trod_int_mk 0 Tryz.underlying2 (wf64 hn)⟩ ⟨m, hm⟩
end
noncomputable def laidWorld (os : Os) : World :=
  { World.doorLaid Tryz.prog 200 os with heap := (World.doorLaid Tryz.prog 200 os).heap.modify 0 fun
      | .cells _ t frozen => .cells (Go.Pinned.utf8FirstZ.map fun (n : Nat) => Value.int .u8 (n : Int)).toArray t frozen
      | o => o }
theorem laid_met (os : Os) (args : Array Value) : laidMetH Tryz.prog five ((laidWorld os).forCall (fun _ _ => 0) ⟨#[], args, []⟩).memory :=
  laidMet_of_run' 8 (by kernel_rfl) (by kernel_rfl)
end Go.Proofs.YtkkpnbfhghfleaaGreatDoor.X
end
section
namespace Go.Proofs.YtkkpnbfhghfleaaGreatDoor.valueTests
open Go.ChangeShapes Go.WideShapes Go.ChangeAt Go.RowKit Go.Proofs.YtkkpnbfhghfleaaGreatDoor.X
open Go.ChangeMaps (open_string shut_string)
set_option linter.unusedVariables false
set_option maxRecDepth 100000 in
theorem reads (os : Os) {H : Type} (enc : TypeId × Value → H) : ∃ places, DataW.whole enc Tryz.prog ((laidWorld os).forCall (fun _ _ => 0) ⟨#[], #[.string ⟨#[]⟩, .agg #[.int .i64 0, .int .i64 0, .string ⟨#[]⟩], .agg #[.int .i64 0, .int .i64 0, .string ⟨#[]⟩]], []⟩).memory Tryz.f3.params.toList Rows.valueTestsSpec.vars false
    #[Value.string ⟨#[]⟩, .agg #[.int .i64 0, .int .i64 0, .string ⟨#[]⟩], .agg #[.int .i64 0, .int .i64 0, .string ⟨#[]⟩]].toList 8 =
    some ([.lit (.string []), .agg [.lit (.int .i64 0), .lit (.int .i64 0), .lit (.string [])], .agg [.lit (.int .i64 0), .lit (.int .i64 0), .lit (.string [])]], [], places) :=
  ⟨[], by kernel_rfl⟩
set_option maxRecDepth 100000 in
theorem lifted (os : Os) (started : os.Started) (H : Type) (enc : TypeId × Value → H) (F : Stop.Interp) :
    ReturnsInHanded {} Tryz.checked os 3 .any ((OpenSpec.ofChange Rows.valueTestsSpec).preRow enc Tryz.prog Tryz.f3 Rows.valueTestsRow.domain false Rows.valueTestsRow.laid) (((OpenSpec.ofChange Rows.valueTestsSpec).at F).post enc Tryz.prog Tryz.f3 false true false false) := by
  obtain ⟨places, hx⟩ := reads os enc
  refine returnsInHanded_of_row (C := Tryz.checked) (s := OpenSpec.ofChange Rows.valueTestsSpec) own started (by kernel_rfl) Tryz.func3
    (witness_row_at (enc := enc) (C := Tryz.checked) false (laidWorld os) #[.string ⟨#[]⟩, .agg #[.int .i64 0, .int .i64 0, .string ⟨#[]⟩], .agg #[.int .i64 0, .int .i64 0, .string ⟨#[]⟩]] rfl (by kernel_rfl) (by kernel_rfl) (by kernel_rfl)
      (OpenSpec.preRow_of_cond 8 hx (by kernel_rfl) (fun k hk => by cases hk) (by kernel_rfl) (laid_met os _))) ?_
  intro W base args ds gs before hval0 hW _ _ hsz0 hL hsh _
  have hT : Tabs W := tabs_of hL hsh
  have hval : ∀ (j : Nat) t v, Tryz.f3.params[j]? = some t → args[j]? = some v → Value.okWide Tryz.prog W .any base t v := hval0
  have hW' := hW
  obtain ⟨p, q, hA0, hV, rfl, hfz, hnd⟩ := hW
  have hA : DataW.TrodAll enc Tryz.prog W 0 (fun _ => true) true Tryz.f3.params.toList args.toList ds p := hA0
  rw [Tryz.params3] at hA hval
  obtain ⟨v0, vs0, d0, ds0, p0, q0, hargs, rfl, rfl, h0, r0⟩ := trodAll_cons hA
  obtain ⟨v1, vs1, d1, ds1, p1, q1, rfl, rfl, rfl, h1, r1⟩ := trodAll_cons r0
  obtain ⟨v2, vs2, d2, ds2, p2, q2, rfl, rfl, rfl, h2, r2⟩ := trodAll_cons r1
  obtain ⟨rfl, rfl, rfl⟩ := trodAll_nil r2
  obtain rfl : args = #[v0, v1, v2] := by cases args; simp_all
  obtain ⟨rfl, rfl⟩ := trodVars_none hV
  obtain ⟨a0, rfl, rfl, rfl, y0⟩ := open_string Tryz.underlying9 (hval 0 9 v0 rfl rfl) h0
  obtain ⟨t1, n1, s1, rfl, rfl, rfl, it1, in1, z1⟩ := open_value (hval 1 23 v1 rfl rfl) h1
  obtain ⟨t2, n2, s2, rfl, rfl, rfl, it2, in2, z2⟩ := open_value (hval 2 23 v2 rfl rfl) h2
  clear hA0 hval0
  refine (locksteplaw01_ValueTests.calls 61 a0 t1 n1 s1 t2 n2 s2 true W hT (ValueTests_true a0 t1 n1 s1 t2 n2 s2 in1 in2) rfl).mono fun e W' ⟨he, bel⟩ => ?_
  subst he
  exact ⟨_, rfl, _, _, _, [], _, [], hW', trodAll_mk1 (shut_bool Tryz.underlying4 _), (trodAll_cons_mk (shut_string Tryz.underlying9 y0) (trodAll_cons_mk (shut_value it1 in1 z1) (trodAll_cons_mk (shut_value it2 in2 z2) trodAll_mk0))), rfl, bel.frame _, fun h => by cases h⟩
theorem said : Rows.ValueTestsSaid :=
  OpenClaim.holds_of_cond 3 Tryz.f3 rfl rfl rfl rfl rfl rfl rfl ⟨rfl, rfl, rfl, rfl, rfl⟩ rfl rfl rfl rfl rfl (by kernel_rfl) Tryz.func3 (by kernel_rfl)
    (of_decide_eq_true (by kernel_rfl)) (by unfold Func.isWrapper; first | (rw [if_pos (by decide +kernel)]; kernel_rfl) | (rw [if_neg (by decide +kernel)]; exact ⟨rfl, rfl⟩))
    (fun os started H enc _ F => by rw [OpenClaim.pre_eq_preRow]; exact lifted os started H enc F)
theorem plain (f : FuncId) (fn : Func) (hf : Tryz.pinned.checked.prog.funcNamed "lockstep/locksteplaw01.ValueTests" = some f) (hfn : Tryz.pinned.checked.prog.funcs[f]? = some fn) :
    true = Tryz.pinned.checked.prog.looks [] ∧ ∀ (j : Nat) t, fn.params[j]? = some t → Tryz.pinned.checked.prog.wantsStandIn t = false := by
  obtain rfl : f = 3 := Option.some.inj ((show Tryz.prog.funcNamed "lockstep/locksteplaw01.ValueTests" = some 3 by kernel_rfl).symm.trans hf) |>.symm
  obtain rfl : fn = Tryz.f3 := (Option.some.inj (Tryz.func3.symm.trans hfn)).symm
  refine ⟨by kernel_rfl, fun j t ht => ?_⟩
  rw [Tryz.params3] at ht
  have hm := Array.mem_of_getElem? ht
  have ht' : t = 9 ∨ t = 23 := by simpa using hm
  rcases ht' with rfl | rfl
  · exact (show Tryz.prog.wantsStandIn 9 = false by kernel_rfl)
  · exact (show Tryz.prog.wantsStandIn 23 = false by kernel_rfl)
theorem card : Rows.ValueTestsCardSaid :=
  Claim7.holds_tied_plain_at .later [] _ _ _ _ said (fun _ h => by cases h) (by kernel_rfl) (fun _ h => by cases h) valueTests_row_tie rfl ⟨rfl, rfl⟩ (by kernel_rfl) rfl plain (by kernel_rfl)
end Go.Proofs.YtkkpnbfhghfleaaGreatDoor.valueTests
end

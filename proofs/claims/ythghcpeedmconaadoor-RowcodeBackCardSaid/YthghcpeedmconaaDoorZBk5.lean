/- The law RowcodeBack of layer 2 answers true at every row of values and every two rows of bytes, and leaves its arguments as they were; condition: the tables of unicode/utf8 are laid as the program's text lays them. -/
import Derived.Test.YthghcpeedmconaaDoorZBk0
import Derived.Test.YthghcpeedmconaaDoorZBk1
import Derived.Test.YthghcpeedmconaaDoorZBk3
import Derived.Test.YthghcpeedmconaaDoorZBk4
import Derived.Deep.Slices
import Derived.Deep.Strs
import Derived.Lib.SmallJoins
import Derived.OpenShut
import Derived.Carry
import Derived.Test.YthghcpeedmconaaDoorCards
import Derived.Test.YthghcpeedmconaaDoorTie
import Derived.Lib.LaidU8T
import Derived.Lib.LaidTab
import Derived.Shelf.Vars
import Derived.LaidMore
import Derived.ShutString
import Derived.SizedLaws
import Derived.ProofKit
import Derived.Deep.DeepHandedRow
import Derived.SevenTiedAt
section
namespace Go.Proofs.YthghcpeedmconaaDoor.X
open Go.RowKit Go.Proofs.YthghcpeedmconaaDoorW.PrintWords Go.Proofs.YthghcpeedmconaaDoorW.PrintLast Go.Proofs.YthghcpeedmconaaDoorW.PrintMore
attribute [local go_sem] max2_int min2_int max_two min_two max_three min_three max_four min_four
set_option linter.unusedVariables false
set_option linter.unusedSimpArgs false
def lockstepref02_Plain.j0 : Nat → Int → Bool → Int → Int → ByteArray → Option (Int × Int × ByteArray)
 | 0, _, _, _, _, _ => none
 | k + 1, x4, x5, x643000, x643001, x643002 => if x5 = true then (some (x643000, x643001, (⟨#[]⟩ : ByteArray))) else (if x4 = 3 then (some (x643000, 0, x643002)) else (some (x643000, 0, (⟨#[]⟩ : ByteArray))))
def lockstepref02_Plain.f (k : Nat) (a0_0 : Int) (a0_1 : Int) (a0_2 : ByteArray) : Option (Int × Int × ByteArray) := if a0_0 = 1 then (lockstepref02_Plain.j0 k a0_0 (a0_0 == 1) a0_0 a0_1 a0_2) else (if a0_0 = 2 then (lockstepref02_Plain.j0 k a0_0 (a0_0 == 2) a0_0 a0_1 a0_2) else (lockstepref02_Plain.j0 k a0_0 (a0_0 == 4) a0_0 a0_1 a0_2))
set_option maxHeartbeats 8000000 in
set_option maxRecDepth 100000 in
theorem lockstepref02_Plain.calls (k : Nat) (a0_0 : Int) (a0_1 : Int) (a0_2 : ByteArray) (r1 : Int) (r2 : Int) (r3 : ByteArray) (w : World) (h : lockstepref02_Plain.f k a0_0 a0_1 a0_2 = some (r1, r2, r3)) :
  Calls Tryd.prog 36 #[.agg #[.int .i64 a0_0, .int .i64 a0_1, .string a0_2]] w fun e w' => e = .returned (.agg #[.int .i64 r1, .int .i64 r2, .string r3]) ∧ Below w.heap.size w w' := by
 have hu42 := Tryd.underlying42
 have HB := Aside0.mk (Below.refl w.heap.size w)
 have H : (if a0_0 = 1 then (lockstepref02_Plain.j0 k a0_0 (a0_0 == 1) a0_0 a0_1 a0_2) else (if a0_0 = 2 then (lockstepref02_Plain.j0 k a0_0 (a0_0 == 2) a0_0 a0_1 a0_2) else (lockstepref02_Plain.j0 k a0_0 (a0_0 == 4) a0_0 a0_1 a0_2))) = some (r1, r2, r3) := h
 clear h
 have HC2 := Aside0.mk H
 clear H
 go_enter Tryd.func36, Tryd.ntmps36
 go_upto_if 5 with (first | ((with_reducible refine gate_dst (N := 1) rfl ?_); refine box_event ?hg (N := 1) ?hd (cs := #[.int .i64 a0_0, .int .i64 a0_1, .string a0_2]) (t := 42) ?hr ?_; (case hd => rfl); (case hg => rfl); (case hr => first | (go_simp; done) | (go_simp; rfl)); intro gb642 hg w3 hbox hb; have n0_ := Aside0.mk (below_step (by repeat (first | (with_reducible first | exact HB.out | apply below_alloc | apply pw_below_drewN | apply below_drew1) | exact HB.out)) hb); have n1_ := Aside0.mk (hbox); have n2_ := Aside0.mk ((by rw [hg]; exact (below_size (by repeat (first | (with_reducible first | exact HB.out | apply below_alloc | apply pw_below_drewN | apply below_drew1) | exact HB.out))) : w.heap.size ≤ gb642)); have n3_ := Aside0.mk ((by rw [hg]; exact (below_size (by repeat (first | (with_reducible first | exact HB.out | apply below_alloc | apply pw_below_drewN | apply below_drew1) | exact HB.out))) : w.heap.size ≤ gb642)); clear HB; have HB := n0_; have BK642 := n1_; have GW642 := n2_; have GE642 := n3_; clear n0_ n1_ n2_ n3_; clear hb hbox hg) | ((with_reducible refine gate_dst (N := 2) rfl ?_); refine box_event ?hg (N := 2) ?hd (cs := #[.int .i64 0, .int .i64 0, .string (⟨#[]⟩ : ByteArray)]) (t := 42) ?hr ?_; (case hd => rfl); (case hg => rfl); (case hr => first | (go_simp; done) | (go_simp; rfl)); intro gb643 hg w4 hbox hb; have n0_ := Aside0.mk (blk_below (g := gb642) (o := .cells #[.int .i64 a0_0, .int .i64 a0_1, .string a0_2] 42 (0, 0)) (by (with_reducible repeat (first | refine blk_drewN ?_ _ | refine blk_drew ?_ | refine blk_alloc ?_ _)); exact BK642.out) hb); have n1_ := Aside0.mk (below_step (by repeat (first | (with_reducible first | exact HB.out | apply below_alloc | apply pw_below_drewN | apply below_drew1 | refine below_set ?_ GE642.out) | exact HB.out)) hb); have n2_ := Aside0.mk (hbox); have n3_ := Aside0.mk ((by rw [hg]; exact (below_size (by repeat (first | (with_reducible first | exact HB.out | apply below_alloc | apply pw_below_drewN | apply below_drew1 | refine below_set ?_ GE642.out) | exact HB.out))) : w.heap.size ≤ gb643)); have n4_ := Aside0.mk ((by rw [hg]; exact (below_size (by repeat (first | (with_reducible first | exact HB.out | apply below_alloc | apply pw_below_drewN | apply below_drew1 | refine below_set ?_ GE642.out) | exact HB.out))) : w.heap.size ≤ gb643)); have n5_ := Aside0.mk ((by rw [hg]; exact Nat.ne_of_lt (blk_lt (g := gb642) (o := .cells #[.int .i64 a0_0, .int .i64 a0_1, .string a0_2] 42 (0, 0)) (by (with_reducible repeat (first | refine blk_drewN ?_ _ | refine blk_drew ?_ | refine blk_alloc ?_ _)); exact BK642.out)) : gb642 ≠ gb643)); have n6_ := Aside0.mk ((by rw [hg]; exact Nat.ne_of_gt (blk_lt (g := gb642) (o := .cells #[.int .i64 a0_0, .int .i64 a0_1, .string a0_2] 42 (0, 0)) (by (with_reducible repeat (first | refine blk_drewN ?_ _ | refine blk_drew ?_ | refine blk_alloc ?_ _)); exact BK642.out)) : gb643 ≠ gb642)); clear BK642; clear HB; have BK642 := n0_; have HB := n1_; have BK643 := n2_; have GW643 := n3_; have GE643 := n4_; have NB642_643 := n5_; have NB643_642 := n6_; clear n0_ n1_ n2_ n3_ n4_ n5_ n6_; clear hb hbox hg; have hnb5 := eq_false NB642_643.out; have hnc5 := eq_false NB643_642.out; have hcz6_0 : w4.cell? ⟨gb642, 0, none⟩ = some (.int .i64 a0_0) := (blk_cell BK642.out 0).trans rfl; have hcz6_1 : w4.cell? ⟨gb642, 1, none⟩ = some (.int .i64 a0_1) := (blk_cell BK642.out 1).trans rfl; have hcz6_2 : w4.cell? ⟨gb642, 2, none⟩ = some (.string a0_2) := (blk_cell BK642.out 2).trans rfl; have hfz6_0 := blk_frozen BK642.out 0; have hfz6_1 := blk_frozen BK642.out 1; have hfz6_2 := blk_frozen BK642.out 2))
 (try simp only [Act.put, List.setIfInBounds_toArray, List.set_cons_zero, List.set_cons_succ])
 go_cut [5] (fun v5 wc => ∃ (kq : Nat) (x5_1 : Bool), v5 = .bool x5_1 ∧ Aside0 (lockstepref02_Plain.j0 kq a0_0 x5_1 a0_0 a0_1 a0_2 = some (r1, r2, r3)) ∧ Aside0 (kq ≤ k) ∧ Aside0 (wc.heap[gb642]? = some (.cells #[.int .i64 a0_0, .int .i64 a0_1, .string a0_2] 42 (0, 0))) ∧ Aside0 (wc.heap[gb643]? = some (.cells #[.int .i64 0, .int .i64 0, .string (⟨#[]⟩ : ByteArray)] 42 (0, 0))) ∧ Aside0 (Below w.heap.size w wc))
 case first =>
  have H := HC2.out
  clear HC2
  by_cases c7 : a0_0 = 1
  ·
   rw [if_pos c7] at H
   have c7b0 : (a0_0 == 1) = true := beq_iff_eq.mpr c7
   have c7b1 : (a0_0 != 1) = false := bne_eq_false_iff_eq.mpr c7
   clear c7
   (first | rw [c7b0] | (simp only [i64_w, i32_w]; rw [c7b0]) | skip)
   have H' := Aside0.mk H
   clear H
   go_wp2
   go_meet
   case rel => exact ⟨_, ((a0_0 == 1)), (by first | with_reducible rfl | (simp; done) | (simp [*]; done) | rfl), H', ⟨by first | omega | exact Nat.le_refl _⟩, ⟨by (with_reducible repeat (first | refine blk_drewN ?_ _ | refine blk_drew ?_ | refine blk_alloc ?_ _)); exact BK642.out⟩, ⟨by (with_reducible repeat (first | refine blk_drewN ?_ _ | refine blk_drew ?_ | refine blk_alloc ?_ _)); exact BK643.out⟩, ⟨by repeat (first | (with_reducible first | exact HB.out | apply below_alloc | apply pw_below_drewN | apply below_drew1 | refine below_set ?_ GE642.out | refine below_set ?_ GE643.out) | exact HB.out)⟩⟩
  ·
   rw [if_neg c7] at H
   have c7b0 : (a0_0 == 1) = false := beq_eq_false_iff_ne.mpr c7
   have c7b1 : (a0_0 != 1) = true := bne_iff_ne.mpr c7
   (first | rw [c7b0] | (simp only [i64_w, i32_w]; rw [c7b0]) | skip)
   by_cases c8 : a0_0 = 2
   ·
    rw [if_pos c8] at H
    have c8b0 : (a0_0 == 2) = true := beq_iff_eq.mpr c8
    have c8b1 : (a0_0 != 2) = false := bne_eq_false_iff_eq.mpr c8
    clear c8
    have H' := Aside0.mk H
    clear H
    go_wp2
    go_meet
    case rel => exact ⟨_, ((a0_0 == 2)), (by first | with_reducible rfl | (simp; done) | (simp [*]; done) | rfl), H', ⟨by first | omega | exact Nat.le_refl _⟩, ⟨by (with_reducible repeat (first | refine blk_drewN ?_ _ | refine blk_drew ?_ | refine blk_alloc ?_ _)); exact BK642.out⟩, ⟨by (with_reducible repeat (first | refine blk_drewN ?_ _ | refine blk_drew ?_ | refine blk_alloc ?_ _)); exact BK643.out⟩, ⟨by repeat (first | (with_reducible first | exact HB.out | apply below_alloc | apply pw_below_drewN | apply below_drew1 | refine below_set ?_ GE642.out | refine below_set ?_ GE643.out) | exact HB.out)⟩⟩
   ·
    rw [if_neg c8] at H
    have c8b0 : (a0_0 == 2) = false := beq_eq_false_iff_ne.mpr c8
    have c8b1 : (a0_0 != 2) = true := bne_iff_ne.mpr c8
    have H' := Aside0.mk H
    clear H
    go_wp2
    go_meet
    case rel => exact ⟨_, ((a0_0 == 4)), (by first | with_reducible rfl | (simp; done) | (simp [*]; done) | rfl), H', ⟨by first | omega | exact Nat.le_refl _⟩, ⟨by (with_reducible repeat (first | refine blk_drewN ?_ _ | refine blk_drew ?_ | refine blk_alloc ?_ _)); exact BK642.out⟩, ⟨by (with_reducible repeat (first | refine blk_drewN ?_ _ | refine blk_drew ?_ | refine blk_alloc ?_ _)); exact BK643.out⟩, ⟨by repeat (first | (with_reducible first | exact HB.out | apply below_alloc | apply pw_below_drewN | apply below_drew1 | refine below_set ?_ GE642.out | refine below_set ?_ GE643.out) | exact HB.out)⟩⟩
 case rest =>
  clear HC2
  (try clear p2); (try clear c3); (try clear c5); (try clear c7); (try clear c7b0); (try clear c7b1); (try clear c8); (try clear c8b0); (try clear c8b1); (try clear hcz6_0); (try clear hcz6_1); (try clear hcz6_2); (try clear hfz6_0); (try clear hfz6_1); (try clear hfz6_2)
  obtain ⟨kq, x5_1, rfl, HA, HJ1, BK642, BK643, HB⟩ := hcut
  cases kq with
  | zero => exact absurd HA.out (by simp [lockstepref02_Plain.j0])
  | succ kj1 =>
   have H := HA.out
   clear HA
   simp only [lockstepref02_Plain.j0] at H
   by_cases c9 : x5_1 = true
   ·
    subst c9
    have H1 : (some (a0_0, a0_1, (⟨#[]⟩ : ByteArray))) = some (r1, r2, r3) := by rw [if_pos rfl] at H; exact H
    clear H
    have H := H1
    clear H1
    simp only [Option.some.injEq, Prod.mk.injEq] at H
    obtain ⟨rfl, rfl, rfl⟩ := H
    have hnb10 := eq_false NB642_643.out
    have hnc10 := eq_false NB643_642.out
    have hcz11_0 : wc.cell? ⟨gb642, 0, none⟩ = some (.int .i64 a0_0) := (blk_cell BK642.out 0).trans rfl
    have hcz11_1 : wc.cell? ⟨gb642, 1, none⟩ = some (.int .i64 a0_1) := (blk_cell BK642.out 1).trans rfl
    have hcz11_2 : wc.cell? ⟨gb642, 2, none⟩ = some (.string a0_2) := (blk_cell BK642.out 2).trans rfl
    have hfz11_0 := blk_frozen BK642.out 0
    have hfz11_1 := blk_frozen BK642.out 1
    have hfz11_2 := blk_frozen BK642.out 2
    have hcz12_0 : wc.cell? ⟨gb643, 0, none⟩ = some (.int .i64 0) := (blk_cell BK643.out 0).trans rfl
    have hcz12_1 : wc.cell? ⟨gb643, 1, none⟩ = some (.int .i64 0) := (blk_cell BK643.out 1).trans rfl
    have hcz12_2 : wc.cell? ⟨gb643, 2, none⟩ = some (.string (⟨#[]⟩ : ByteArray)) := (blk_cell BK643.out 2).trans rfl
    have hfz12_0 := blk_frozen BK643.out 0
    have hfz12_1 := blk_frozen BK643.out 1
    have hfz12_2 := blk_frozen BK643.out 2
    go_wp2
    refine bodyPost_ret (results_cell_row rfl _ _ gb643 42 #[.int .i64 a0_0, .int .i64 a0_1, .string (⟨#[]⟩ : ByteArray)] (0, 0) _ rfl (by (with_reducible repeat (first | refine blk_drewN ?_ _ | refine blk_drew ?_ | refine blk_alloc ?_ _)); refine blk_put (cs := #[.int .i64 a0_0, .int .i64 a0_1, .string (⟨#[]⟩ : ByteArray)]) ?_ 2 _ rfl; (with_reducible repeat (first | refine blk_drewN ?_ _ | refine blk_drew ?_ | refine blk_alloc ?_ _)); refine blk_put (cs := #[.int .i64 a0_0, .int .i64 0, .string (⟨#[]⟩ : ByteArray)]) ?_ 1 _ rfl; (with_reducible repeat (first | refine blk_drewN ?_ _ | refine blk_drew ?_ | refine blk_alloc ?_ _)); refine blk_put (cs := #[.int .i64 0, .int .i64 0, .string (⟨#[]⟩ : ByteArray)]) ?_ 0 _ rfl; (with_reducible repeat (first | refine blk_drewN ?_ _ | refine blk_drew ?_ | refine blk_alloc ?_ _)); exact BK643.out) Tryd.underlying42 rfl (by kernel_rfl)) rfl ?_
    exact ⟨by first | rfl | (simp [errW_none, errW_some] <;> rfl) | (simp [*, errW_none, errW_some] <;> rfl), by repeat (first | (with_reducible first | exact HB.out | apply below_alloc | apply pw_below_drewN | apply below_drew1 | refine below_set ?_ GE642.out | refine below_set ?_ GE643.out) | exact HB.out)⟩
   ·
    replace c9 := Bool.eq_false_iff.mpr c9
    subst c9
    have H1 : (if a0_0 = 3 then (some (a0_0, 0, a0_2)) else (some (a0_0, 0, (⟨#[]⟩ : ByteArray)))) = some (r1, r2, r3) := by rw [if_neg (show ¬ (false = true) by decide)] at H; exact H
    clear H
    have H := H1
    clear H1
    by_cases c13 : a0_0 = 3
    ·
     rw [if_pos c13] at H
     have c13b0 : (a0_0 == 3) = true := beq_iff_eq.mpr c13
     have c13b1 : (a0_0 != 3) = false := bne_eq_false_iff_eq.mpr c13
     clear c13
     simp only [Option.some.injEq, Prod.mk.injEq] at H
     obtain ⟨rfl, rfl, rfl⟩ := H
     have hnb14 := eq_false NB642_643.out
     have hnc14 := eq_false NB643_642.out
     have hcz15_0 : wc.cell? ⟨gb642, 0, none⟩ = some (.int .i64 a0_0) := (blk_cell BK642.out 0).trans rfl
     have hcz15_1 : wc.cell? ⟨gb642, 1, none⟩ = some (.int .i64 a0_1) := (blk_cell BK642.out 1).trans rfl
     have hcz15_2 : wc.cell? ⟨gb642, 2, none⟩ = some (.string a0_2) := (blk_cell BK642.out 2).trans rfl
     have hfz15_0 := blk_frozen BK642.out 0
     have hfz15_1 := blk_frozen BK642.out 1
     have hfz15_2 := blk_frozen BK642.out 2
     have hcz16_0 : wc.cell? ⟨gb643, 0, none⟩ = some (.int .i64 0) := (blk_cell BK643.out 0).trans rfl
     have hcz16_1 : wc.cell? ⟨gb643, 1, none⟩ = some (.int .i64 0) := (blk_cell BK643.out 1).trans rfl
     have hcz16_2 : wc.cell? ⟨gb643, 2, none⟩ = some (.string (⟨#[]⟩ : ByteArray)) := (blk_cell BK643.out 2).trans rfl
     have hfz16_0 := blk_frozen BK643.out 0
     have hfz16_1 := blk_frozen BK643.out 1
     have hfz16_2 := blk_frozen BK643.out 2
     go_wp2
     refine bodyPost_ret (results_cell_row rfl _ _ gb643 42 #[.int .i64 a0_0, .int .i64 0, .string a0_2] (0, 0) _ rfl (by (with_reducible repeat (first | refine blk_drewN ?_ _ | refine blk_drew ?_ | refine blk_alloc ?_ _)); refine blk_put (cs := #[.int .i64 a0_0, .int .i64 0, .string (⟨#[]⟩ : ByteArray)]) ?_ 2 _ rfl; (with_reducible repeat (first | refine blk_drewN ?_ _ | refine blk_drew ?_ | refine blk_alloc ?_ _)); refine blk_put (cs := #[.int .i64 a0_0, .int .i64 0, .string (⟨#[]⟩ : ByteArray)]) ?_ 1 _ rfl; (with_reducible repeat (first | refine blk_drewN ?_ _ | refine blk_drew ?_ | refine blk_alloc ?_ _)); refine blk_put (cs := #[.int .i64 0, .int .i64 0, .string (⟨#[]⟩ : ByteArray)]) ?_ 0 _ rfl; (with_reducible repeat (first | refine blk_drewN ?_ _ | refine blk_drew ?_ | refine blk_alloc ?_ _)); exact BK643.out) Tryd.underlying42 rfl (by kernel_rfl)) rfl ?_
     exact ⟨by first | rfl | (simp [errW_none, errW_some] <;> rfl) | (simp [*, errW_none, errW_some] <;> rfl), by repeat (first | (with_reducible first | exact HB.out | apply below_alloc | apply pw_below_drewN | apply below_drew1 | refine below_set ?_ GE642.out | refine below_set ?_ GE643.out) | exact HB.out)⟩
    ·
     rw [if_neg c13] at H
     have c13b0 : (a0_0 == 3) = false := beq_eq_false_iff_ne.mpr c13
     have c13b1 : (a0_0 != 3) = true := bne_iff_ne.mpr c13
     simp only [Option.some.injEq, Prod.mk.injEq] at H
     obtain ⟨rfl, rfl, rfl⟩ := H
     have hnb17 := eq_false NB642_643.out
     have hnc17 := eq_false NB643_642.out
     have hcz18_0 : wc.cell? ⟨gb642, 0, none⟩ = some (.int .i64 a0_0) := (blk_cell BK642.out 0).trans rfl
     have hcz18_1 : wc.cell? ⟨gb642, 1, none⟩ = some (.int .i64 a0_1) := (blk_cell BK642.out 1).trans rfl
     have hcz18_2 : wc.cell? ⟨gb642, 2, none⟩ = some (.string a0_2) := (blk_cell BK642.out 2).trans rfl
     have hfz18_0 := blk_frozen BK642.out 0
     have hfz18_1 := blk_frozen BK642.out 1
     have hfz18_2 := blk_frozen BK642.out 2
     have hcz19_0 : wc.cell? ⟨gb643, 0, none⟩ = some (.int .i64 0) := (blk_cell BK643.out 0).trans rfl
     have hcz19_1 : wc.cell? ⟨gb643, 1, none⟩ = some (.int .i64 0) := (blk_cell BK643.out 1).trans rfl
     have hcz19_2 : wc.cell? ⟨gb643, 2, none⟩ = some (.string (⟨#[]⟩ : ByteArray)) := (blk_cell BK643.out 2).trans rfl
     have hfz19_0 := blk_frozen BK643.out 0
     have hfz19_1 := blk_frozen BK643.out 1
     have hfz19_2 := blk_frozen BK643.out 2
     go_wp2
     refine bodyPost_ret (results_cell_row rfl _ _ gb643 42 #[.int .i64 a0_0, .int .i64 0, .string (⟨#[]⟩ : ByteArray)] (0, 0) _ rfl (by (with_reducible repeat (first | refine blk_drewN ?_ _ | refine blk_drew ?_ | refine blk_alloc ?_ _)); refine blk_put (cs := #[.int .i64 a0_0, .int .i64 0, .string (⟨#[]⟩ : ByteArray)]) ?_ 2 _ rfl; (with_reducible repeat (first | refine blk_drewN ?_ _ | refine blk_drew ?_ | refine blk_alloc ?_ _)); refine blk_put (cs := #[.int .i64 a0_0, .int .i64 0, .string (⟨#[]⟩ : ByteArray)]) ?_ 1 _ rfl; (with_reducible repeat (first | refine blk_drewN ?_ _ | refine blk_drew ?_ | refine blk_alloc ?_ _)); refine blk_put (cs := #[.int .i64 0, .int .i64 0, .string (⟨#[]⟩ : ByteArray)]) ?_ 0 _ rfl; (with_reducible repeat (first | refine blk_drewN ?_ _ | refine blk_drew ?_ | refine blk_alloc ?_ _)); exact BK643.out) Tryd.underlying42 rfl (by kernel_rfl)) rfl ?_
     exact ⟨by first | rfl | (simp [errW_none, errW_some] <;> rfl) | (simp [*, errW_none, errW_some] <;> rfl), by repeat (first | (with_reducible first | exact HB.out | apply below_alloc | apply pw_below_drewN | apply below_drew1 | refine below_set ?_ GE642.out | refine below_set ?_ GE643.out) | exact HB.out)⟩
end Go.Proofs.YthghcpeedmconaaDoor.X
end
section
namespace Go.Proofs.YthghcpeedmconaaDoor.X
open Go.RowKit Go.Proofs.YthghcpeedmconaaDoorW.PrintWords Go.Proofs.YthghcpeedmconaaDoorW.PrintLast Go.Proofs.YthghcpeedmconaaDoorW.PrintMore
attribute [local go_sem] max2_int min2_int max_two min_two max_three min_three max_four min_four
set_option linter.unusedVariables false
set_option linter.unusedSimpArgs false
def lockstepref02_PlainRow.l0 : Nat → List (S42) → List (S42) → Int → Option ((List (S42)))
 | 0, _, _, _ => none
 | k + 1, x0, x3, x4 => if x4 < (x0.length : Int) then (if 0 ≤ x4 then ((lockstepref02_Plain.f k ((rd_T42 x0 x4).f0) ((rd_T42 x0 x4).f1) ((rd_T42 x0 x4).f2)).bind fun bt645 => (if x3.length < 4398046511104 then (lockstepref02_PlainRow.l0 k x0 (x3 ++ [(⟨bt645.1, bt645.2.1, bt645.2.2⟩ : S42)]) (wrap64 (x4 + 1))) else (none))) else (none)) else (some x3)
def lockstepref02_PlainRow.f (k : Nat) (l0 : List (S42)) : Option ((List (S42))) := lockstepref02_PlainRow.l0 k l0 ([] : List (S42)) 0
set_option maxHeartbeats 8000000 in
set_option maxRecDepth 100000 in
theorem lockstepref02_PlainRow.calls (k : Nat) (A0 : Option Addr) (c0 : Nat) (l0 : List (S42)) (r : List (S42)) (w : World) (hr0 : Kd.C k42 w A0 l0.length l0) (hc0 : l0.length ≤ c0) (h : lockstepref02_PlainRow.f k l0 = some r) :
  Calls Tryd.prog 35 #[.slice A0 l0.length c0] w fun e w' => ∃ v0_ : Value, e = .returned (v0_) ∧ Kd.R k42 42 w' w.heap.size (fun _ => True) v0_ r ∧ Below w.heap.size w w' := by
 have hu42 := Tryd.underlying42
 have HR0 := Aside0.mk hr0
 have HC0 := Aside0.mk hc0
 clear hr0 hc0
 have HB := Aside0.mk (Below.refl w.heap.size w)
 have H : (lockstepref02_PlainRow.l0 k l0 ([] : List (S42)) 0) = some r := h
 clear h
 have H' := Aside0.mk H
 clear H
 go_enter Tryd.func35, Tryd.ntmps35
 go_wp2
 go_loopg [3, 4] k (fun kq v3 v4 w' => ∃ (x3_1 : List (S42)) (x4_1 : Int), v4 = .int .i64 x4_1 ∧ Aside0 (lockstepref02_PlainRow.l0 kq l0 x3_1 x4_1 = some r) ∧ Aside0 (kq ≤ k) ∧ Aside0 (Kd.R k42 42 w' w.heap.size (fun _ => True) v3 x3_1) ∧ Aside0 (Below w.heap.size w w'))
 case atStart => exact ⟨(([] : List (S42))), (0), (by first | rfl | (simp; done) | (simp [*]; done)), H', ⟨Nat.le_refl _⟩, ⟨by first | exact Kd.R_nil _ _ _ _ _ | exact Kd.N_nil _ _ _ _ _ | exact Kd.V_nil _ _ _ _ _ | exact Kd.Q_nil _ _ _ _ _ | exact Kd.S_nil _ _ _ _ _⟩, ⟨by repeat (first | (with_reducible first | exact HB.out | apply below_alloc | apply pw_below_drewN | apply below_drew1) | exact HB.out)⟩⟩
 case round =>
  clear H'
  obtain ⟨x3_1, x4_1, rfl, HA, HK1, HO_3, HB⟩ := hrel
  cases gk with
  | zero => exact absurd HA.out (by simp [lockstepref02_PlainRow.l0])
  | succ k1 =>
   have H := HA.out
   clear HA
   simp only [lockstepref02_PlainRow.l0] at H
   by_cases c2 : x4_1 < (l0.length : Int)
   ·
    rw [if_pos c2] at H
    have c2b0 : decide (x4_1 < (l0.length : Int)) = true := decide_eq_true c2
    clear c2
    by_cases c3 : 0 ≤ x4_1
    ·
     rw [if_pos c3] at H
     have c3b0 : decide (0 ≤ x4_1) = true := decide_eq_true c3
     clear c3
     replace H := Option.bind_eq_some_iff.mp H
     obtain ⟨⟨t645, t646, t647⟩, A40, H⟩ := H
     replace H : (if x3_1.length < 4398046511104 then (lockstepref02_PlainRow.l0 k1 l0 (x3_1 ++ [(⟨t645, t646, t647⟩ : S42)]) (wrap64 (x4_1 + 1))) else (none)) = some r := H
     have A4 := Aside0.mk A40
     clear A40
     by_cases c5 : x3_1.length < 4398046511104
     ·
      rw [if_pos c5] at H
      have LMc5 := Aside0.mk c5
      clear c5
      obtain ⟨y648, hy648⟩ : ∃ y_ : List (S42), y_ = (x3_1 ++ [(⟨t645, t646, t647⟩ : S42)]) := ⟨_, rfl⟩
      replace H : (lockstepref02_PlainRow.l0 k1 l0 y648 (wrap64 (x4_1 + 1))) = some r := by first | (rw [hy648]; with_reducible exact H) | (have H2_ := (Option.bind_some _ _).symm.trans H; rw [hy648]; with_reducible exact H2_) | (have H2_ := (Option.bind_some _ _).symm.trans H; with_reducible exact H2_) | with_reducible exact H | (rw [hy648]; exact H) | exact H
      have Ny648 := Aside0.mk hy648
      clear hy648
      have H' := Aside0.mk H
      clear H
      have p644 : 0 ≤ (x4_1 : Int) := of_decide_eq_true (by first | (with_reducible assumption) | assumption)
      have q644 : x4_1 < (l0.length : Int) := of_decide_eq_true (by first | (with_reducible assumption) | assumption)
      obtain ⟨ad644, e644, hx644_0, hx644_1, hx644_2⟩ := at_T42 HR0.out x4_1 p644 q644
      cases e644
      replace hx644_0 := (HB.out.cell (World.block_lt_of_cell? w _ hx644_0)).trans hx644_0
      replace hx644_1 := (HB.out.cell (World.block_lt_of_cell? w _ hx644_1)).trans hx644_1
      replace hx644_2 := (HB.out.cell (World.block_lt_of_cell? w _ hx644_2)).trans hx644_2
      replace p644 := eq_true p644
      replace q644 := eq_true q644
      go_wp2_with (first | ((with_reducible refine gate_callee (f := 36) rfl ?_); refine goesL_ (some 16) rfl rfl Tryd.func36 (by kernel_rfl) rfl #[.agg #[.int .i64 ((rd_T42 l0 x4_1).f0), .int .i64 ((rd_T42 l0 x4_1).f1), .string ((rd_T42 l0 x4_1).f2)]] rfl (by (try simp only [List.map_toArray, List.map_cons, List.map_nil]); first | done | rfl | (simp only [List.length_drop, List.length_take]; rfl)) ?_; (with_reducible refine (lockstepref02_Plain.calls k1 ((rd_T42 l0 x4_1).f0) ((rd_T42 l0 x4_1).f1) ((rd_T42 l0 x4_1).f2) t645 t646 t647 _ A4.out).mono ?_); rintro e w6 ⟨rfl, hb⟩; refine ⟨_, rfl, ?_⟩; have n0_ := Aside0.mk (Kd.R_below (by (with_reducible repeat (first | apply Kd.R_alloc | apply Kd.R_drewN | apply Kd.R_drew)); exact HO_3.out) hb); have n1_ := Aside0.mk (below_step (by repeat (first | (with_reducible first | exact HB.out | apply below_alloc | apply pw_below_drewN | apply below_drew1) | exact HB.out)) hb); clear HO_3; clear HB; have HO_3 := n0_; have HB := n1_; clear n0_ n1_; (try clear hb); (try clear hb2); (try clear hk); (try clear hi)) | ((with_reducible refine gate_builtin (b := .append) (xs := #[.tmp 11, .tmp 17]) rfl ?_); at_builtin; refine Kd.R_append k42 (w0 := w) w.heap.size rfl (.tmp 11) (.tmp 17) 33 42 (.agg #[(.int .i64 0), (.int .i64 0), (.string ⟨#[]⟩)]) 32 rfl Tryd.underlying33 info42 rfl (by decide) (by omega) u3 x3_1 (⟨t645, t646, t647⟩ : S42) [.int .i64 t645, .int .i64 t646, .string t647] (fun _ => True) (fun _ => False) rfl rfl ?aP (fun _ hk => hk.elim) ?aF ?aO ?aB ?aS ?aL ?_; (case aP => exact k42_mkM _ _ _ (⟨t645, t646, t647⟩ : S42)); (case aB => exact (by repeat (first | (with_reducible first | exact HB.out | apply below_alloc | apply pw_below_drewN | apply below_drew1) | exact HB.out))); (case aF => exact (fun _ _ => trivial)); (case aO => exact (by (with_reducible repeat (first | apply Kd.R_alloc | apply Kd.R_drewN | apply Kd.R_drew)); exact HO_3.out)); (case aS => exact (below_size (by repeat (first | (with_reducible first | exact HB.out | apply below_alloc | apply pw_below_drewN | apply below_drew1) | exact HB.out)))); (case aL => have := LMc5.out; omega); intro v649 w7 ho hb hg hat; rw [← Ny648.out] at ho; have n0_ := Aside0.mk (hb); have n1_ := Aside0.mk (ho); clear HB; clear HO_3; have HB := n0_; have HO650 := n1_; clear n0_ n1_; clear ho hb hg hat))
      go_roundg k1
      case measure => have := HK1.out; omega
      case rel => exact ⟨(y648), (wrap64 (x4_1 + 1)), (by first | rfl | (simp; done) | (simp [*]; done)), H', ⟨by have := HK1.out; omega⟩, ⟨by (with_reducible repeat (first | apply Kd.R_alloc | apply Kd.R_drewN | apply Kd.R_drew)); exact HO650.out⟩, ⟨by repeat (first | (with_reducible first | exact HB.out | apply below_alloc | apply pw_below_drewN | apply below_drew1) | exact HB.out)⟩⟩
     ·
      rw [if_neg c5] at H
      exact absurd H (by simp)
    ·
     rw [if_neg c3] at H
     exact absurd H (by simp)
   ·
    rw [if_neg c2] at H
    have c2b0 : decide (x4_1 < (l0.length : Int)) = false := decide_eq_false c2
    clear c2
    obtain rfl := Option.some.inj H
    go_wp2
    go_ret
    exact ⟨_, by first | rfl | (simp [errW_none, errW_some] <;> rfl) | (simp [*, errW_none, errW_some] <;> rfl), by (with_reducible repeat (first | apply Kd.R_alloc | apply Kd.R_drewN | apply Kd.R_drew)); exact HO_3.out, by repeat (first | (with_reducible first | exact HB.out | apply below_alloc | apply pw_below_drewN | apply below_drew1) | exact HB.out)⟩
end Go.Proofs.YthghcpeedmconaaDoor.X
end
section
namespace Go.Proofs.YthghcpeedmconaaDoor.X
open Go.RowKit Go.Proofs.YthghcpeedmconaaDoorW.PrintWords Go.Proofs.YthghcpeedmconaaDoorW.PrintLast Go.Proofs.YthghcpeedmconaaDoorW.PrintMore
attribute [local go_sem] max2_int min2_int max_two min_two max_three min_three max_four min_four
set_option linter.unusedVariables false
set_option linter.unusedSimpArgs false
def lockstepref02_Rows.l0 : Nat → List (S42) → List (S42) → Int → Option (Bool)
 | 0, _, _, _ => none
 | k + 1, x0, x1, x5 => if x5 < (x0.length : Int) then (if 0 ≤ x5 then (if x5 < (x1.length : Int) then ((lockstepref02_Same.f ((rd_T42 x0 x5).f0) ((rd_T42 x0 x5).f1) ((rd_T42 x0 x5).f2) ((rd_T42 x1 x5).f0) ((rd_T42 x1 x5).f1) ((rd_T42 x1 x5).f2)).bind fun t653 => (if t653 = true then (lockstepref02_Rows.l0 k x0 x1 (wrap64 (x5 + 1))) else (some false))) else (none)) else (none)) else (some true)
def lockstepref02_Rows.f (k : Nat) (l0 : List (S42)) (l1 : List (S42)) : Option (Bool) := if (l0.length : Int) = (l1.length : Int) then (lockstepref02_Rows.l0 k l0 l1 0) else (some false)
def lockstepref02_Rows.T6 : Bool × List (List Nat × List Nat) := (true, [([], []), ([], []), ([0, 1], [0, 1]), ([2], [2]), ([], []), ([], []), ([4, 5], [4, 5]), ([6], [6]), ([3, 7], [3, 7]), ([8], [8])])
def lockstepref02_Rows.B6 : List Nat := [0, 0, 3, 7, 0, 0, 48, 112, 255, 511]
theorem lockstepref02_Rows.tab6 : rtab .any (opsOf Tryd.f34 6) = lockstepref02_Rows.T6 := by kernel_rfl
theorem lockstepref02_Rows.bits6 : waitsOk lockstepref02_Rows.T6.2 lockstepref02_Rows.B6 = true := by kernel_rfl
set_option maxHeartbeats 8000000 in
set_option maxRecDepth 100000 in
theorem lockstepref02_Rows.calls (k : Nat) (A0 : Option Addr) (c0 : Nat) (l0 : List (S42)) (A1 : Option Addr) (c1 : Nat) (l1 : List (S42)) (r : Bool) (w : World) (hr0 : Kd.C k42 w A0 l0.length l0) (hc0 : l0.length ≤ c0) (hr1 : Kd.C k42 w A1 l1.length l1) (hc1 : l1.length ≤ c1) (h : lockstepref02_Rows.f k l0 l1 = some r) :
  Calls Tryd.prog 34 #[.slice A0 l0.length c0, .slice A1 l1.length c1] w fun e w' => e = .returned (.bool r) ∧ Below w.heap.size w w' := by
 have hu42 := Tryd.underlying42
 have HR0 := Aside0.mk hr0
 have HC0 := Aside0.mk hc0
 clear hr0 hc0
 have HR1 := Aside0.mk hr1
 have HC1 := Aside0.mk hc1
 clear hr1 hc1
 have HB := Aside0.mk (Below.refl w.heap.size w)
 have H : (if (l0.length : Int) = (l1.length : Int) then (lockstepref02_Rows.l0 k l0 l1 0) else (some false)) = some r := h
 clear h
 by_cases c3 : (l0.length : Int) = (l1.length : Int)
 ·
  rw [if_pos c3] at H
  have c3b0 : ((l0.length : Int) == (l1.length : Int)) = true := beq_iff_eq.mpr c3
  have c3b1 : ((l0.length : Int) != (l1.length : Int)) = false := bne_eq_false_iff_eq.mpr c3
  have c3b2 : (l0.length == l1.length) = true := by first | simpa using c3 | (simp at c3 ⊢; omega)
  clear c3
  have H' := Aside0.mk H
  clear H
  go_enter Tryd.func34, Tryd.ntmps34
  go_wp2
  go_loopg [5] k (fun kq v5 w' => ∃ (x5_1 : Int), v5 = .int .i64 x5_1 ∧ Aside0 (lockstepref02_Rows.l0 kq l0 l1 x5_1 = some r) ∧ Aside0 (kq ≤ k) ∧ Aside0 (Below w.heap.size w w'))
  case atStart => exact ⟨(0), (by first | rfl | (simp; done) | (simp [*]; done)), H', ⟨Nat.le_refl _⟩, ⟨by repeat (first | (with_reducible first | exact HB.out | apply below_alloc | apply pw_below_drewN | apply below_drew1) | exact HB.out)⟩⟩
  case round =>
   clear H'
   (try clear c1); (try clear p2); (try clear c3); (try clear c3b0); (try clear c3b1); (try clear c3b2)
   obtain ⟨x5_1, rfl, HA, HK1, HB⟩ := hrel
   cases gk with
   | zero => exact absurd HA.out (by simp [lockstepref02_Rows.l0])
   | succ k1 =>
    have H := HA.out
    clear HA
    simp only [lockstepref02_Rows.l0] at H
    by_cases c4 : x5_1 < (l0.length : Int)
    ·
     rw [if_pos c4] at H
     have c4b0 : decide (x5_1 < (l0.length : Int)) = true := decide_eq_true c4
     clear c4
     by_cases c5 : 0 ≤ x5_1
     ·
      rw [if_pos c5] at H
      have c5b0 : decide (0 ≤ x5_1) = true := decide_eq_true c5
      clear c5
      by_cases c6 : x5_1 < (l1.length : Int)
      ·
       rw [if_pos c6] at H
       have c6b0 : decide (x5_1 < (l1.length : Int)) = true := decide_eq_true c6
       clear c6
       replace H := Option.bind_eq_some_iff.mp H
       obtain ⟨t653, A70, H⟩ := H
       replace H : (if t653 = true then (lockstepref02_Rows.l0 k1 l0 l1 (wrap64 (x5_1 + 1))) else (some false)) = some r := H
       have A7 := Aside0.mk A70
       clear A70
       by_cases c8 : t653 = true
       ·
        subst c8
        have H1 : (lockstepref02_Rows.l0 k1 l0 l1 (wrap64 (x5_1 + 1))) = some r := by rw [if_pos rfl] at H; exact H
        clear H
        have H := H1
        clear H1
        have H' := Aside0.mk H
        clear H
        try go_wp2
        have n0_ := Aside0.mk (below_drew1 HB.out)
        clear HB
        have HB := n0_
        clear n0_
        have p651 : 0 ≤ (x5_1 : Int) := of_decide_eq_true (by first | (with_reducible assumption) | assumption)
        have q651 : x5_1 < (l0.length : Int) := of_decide_eq_true (by first | (with_reducible assumption) | assumption)
        obtain ⟨ad651, e651, hx651_0, hx651_1, hx651_2⟩ := at_T42 HR0.out x5_1 p651 q651
        have hw651_2 := hx651_2
        have hw651_1 := hx651_1
        have hw651_0 := hx651_0
        cases e651
        replace hx651_0 := (HB.out.cell (World.block_lt_of_cell? w _ hx651_0)).trans hx651_0
        replace hx651_1 := (HB.out.cell (World.block_lt_of_cell? w _ hx651_1)).trans hx651_1
        replace hx651_2 := (HB.out.cell (World.block_lt_of_cell? w _ hx651_2)).trans hx651_2
        replace p651 := eq_true p651
        replace q651 := eq_true q651
        have p652 : 0 ≤ (x5_1 : Int) := of_decide_eq_true (by first | (with_reducible assumption) | assumption)
        have q652 : x5_1 < (l1.length : Int) := of_decide_eq_true (by first | (with_reducible assumption) | assumption)
        obtain ⟨ad652, e652, hx652_0, hx652_1, hx652_2⟩ := at_T42 HR1.out x5_1 p652 q652
        have hw652_2 := hx652_2
        have hw652_1 := hx652_1
        have hw652_0 := hx652_0
        cases e652
        replace hx652_0 := (HB.out.cell (World.block_lt_of_cell? w _ hx652_0)).trans hx652_0
        replace hx652_1 := (HB.out.cell (World.block_lt_of_cell? w _ hx652_1)).trans hx652_1
        replace hx652_2 := (HB.out.cell (World.block_lt_of_cell? w _ hx652_2)).trans hx652_2
        replace p652 := eq_true p652
        replace q652 := eq_true q652
        refine start_ (n := 10) (S := fun w' => w'.cell? (ad651.add ((x5_1).toNat * 3)) = some (.int .i64 ((rd_T42 l0 x5_1).f0)) ∧ w'.cell? ⟨(ad651.add ((x5_1).toNat * 3)).block, (ad651.add ((x5_1).toNat * 3)).off + 1, none⟩ = some (.int .i64 ((rd_T42 l0 x5_1).f1)) ∧ w'.cell? ⟨(ad651.add ((x5_1).toNat * 3)).block, (ad651.add ((x5_1).toNat * 3)).off + 2, none⟩ = some (.string ((rd_T42 l0 x5_1).f2)) ∧ w'.cell? (ad652.add ((x5_1).toNat * 3)) = some (.int .i64 ((rd_T42 l1 x5_1).f0)) ∧ w'.cell? ⟨(ad652.add ((x5_1).toNat * 3)).block, (ad652.add ((x5_1).toNat * 3)).off + 1, none⟩ = some (.int .i64 ((rd_T42 l1 x5_1).f1)) ∧ w'.cell? ⟨(ad652.add ((x5_1).toNat * 3)).block, (ad652.add ((x5_1).toNat * 3)).off + 2, none⟩ = some (.string ((rd_T42 l1 x5_1).f2))) (ds := []) #[false, false, false, false, false, false, false, false, false, false] (by kernel_rfl) rfl rfl ⟨((HB.out.cell (World.block_lt_of_cell? w _ hw651_0)).trans hw651_0), ((HB.out.cell (World.block_lt_of_cell? w _ hw651_1)).trans hw651_1), ((HB.out.cell (World.block_lt_of_cell? w _ hw651_2)).trans hw651_2), ((HB.out.cell (World.block_lt_of_cell? w _ hw652_0)).trans hw652_0), ((HB.out.cell (World.block_lt_of_cell? w _ hw652_1)).trans hw652_1), ((HB.out.cell (World.block_lt_of_cell? w _ hw652_2)).trans hw652_2)⟩ (fun hHeld => ?_); refine with_tabW lockstepref02_Rows.tab6 lockstepref02_Rows.bits6 (fun HT_ HW_ => ?_)
        generalize wr.drew = w9 at HB hx651_0 hx651_1 hx651_2 hx652_0 hx652_1 hx652_2 hHeld ⊢
        refine pure_ (i := 0) (N := some 17) (v := ?_) (a' := ?_) #[true, false, false, false, false, false, false, false, false, false] rfl rfl (any_of HT_.out (by kernel_rfl)) (fun _ _ _ h => h) (Or.inl ⟨by rfl, ?_⟩) ?_ ?_
        rotate_left
        ·
         intro w'
         go_simp
         with_reducible rfl
        rotate_left
        ·
         simp only [Act.put, List.setIfInBounds_toArray, List.set_cons_zero, List.set_cons_succ, i64_w, i32_w]
         rfl
        refine pure_ (i := 1) (N := some 18) (v := ?_) (a' := ?_) #[true, true, false, false, false, false, false, false, false, false] rfl rfl (any_of HT_.out (by kernel_rfl)) (fun _ _ _ h => h) (Or.inl ⟨by rfl, ?_⟩) ?_ ?_
        rotate_left
        ·
         intro w'
         go_simp
         with_reducible rfl
        rotate_left
        ·
         simp only [Act.put, List.setIfInBounds_toArray, List.set_cons_zero, List.set_cons_succ, i64_w, i32_w]
         rfl
        refine pure_ (i := 2) (N := some 19) (v := ?_) (a' := ?_) #[true, true, true, false, false, false, false, false, false, false] rfl rfl (any_of HT_.out (by kernel_rfl)) (fun _ _ _ h => h) (Or.inl ⟨by rfl, ?_⟩) ?_ ?_
        rotate_left
        ·
         intro w'
         go_simp
         with_reducible rfl
        rotate_left
        ·
         simp only [Act.put, List.setIfInBounds_toArray, List.set_cons_zero, List.set_cons_succ, i64_w, i32_w]
         rfl
        refine pure_ (i := 4) (N := some 21) (v := ?_) (a' := ?_) #[true, true, true, false, true, false, false, false, false, false] rfl rfl (any_of HT_.out (by kernel_rfl)) (fun _ _ _ h => h) (Or.inl ⟨by rfl, ?_⟩) ?_ ?_
        rotate_left
        ·
         intro w'
         go_simp
         with_reducible rfl
        rotate_left
        ·
         simp only [Act.put, List.setIfInBounds_toArray, List.set_cons_zero, List.set_cons_succ, i64_w, i32_w]
         rfl
        refine pure_ (i := 5) (N := some 22) (v := ?_) (a' := ?_) #[true, true, true, false, true, true, false, false, false, false] rfl rfl (any_of HT_.out (by kernel_rfl)) (fun _ _ _ h => h) (Or.inl ⟨by rfl, ?_⟩) ?_ ?_
        rotate_left
        ·
         intro w'
         go_simp
         with_reducible rfl
        rotate_left
        ·
         simp only [Act.put, List.setIfInBounds_toArray, List.set_cons_zero, List.set_cons_succ, i64_w, i32_w]
         rfl
        refine pure_ (i := 6) (N := some 23) (v := ?_) (a' := ?_) #[true, true, true, false, true, true, true, false, false, false] rfl rfl (any_of HT_.out (by kernel_rfl)) (fun _ _ _ h => h) (Or.inl ⟨by rfl, ?_⟩) ?_ ?_
        rotate_left
        ·
         intro w'
         go_simp
         with_reducible rfl
        rotate_left
        ·
         simp only [Act.put, List.setIfInBounds_toArray, List.set_cons_zero, List.set_cons_succ, i64_w, i32_w]
         rfl
        refine take_ (i := 3) (N := some 20) (v := ?_) (a' := ?_) #[true, true, true, true, true, true, true, false, false, false] rfl rfl (take_ofW HT_.out HW_.out (by kernel_rfl)) (fun _ _ _ h => h) (Or.inl ⟨by rfl, ?_⟩) hHeld ?_ ?_
        rotate_left
        ·
         rintro w' ⟨s0, s1, s2, s3, s4, s5⟩
         go_simp
         with_reducible rfl
        rotate_left
        ·
         simp only [Act.put, List.setIfInBounds_toArray, List.set_cons_zero, List.set_cons_succ, i64_w, i32_w]
         rfl
        refine take_ (i := 7) (N := some 24) (v := ?_) (a' := ?_) #[true, true, true, true, true, true, true, true, false, false] rfl rfl (take_ofW HT_.out HW_.out (by kernel_rfl)) (fun _ _ _ h => h) (Or.inl ⟨by rfl, ?_⟩) hHeld ?_ ?_
        rotate_left
        ·
         rintro w' ⟨s0, s1, s2, s3, s4, s5⟩
         go_simp
         with_reducible rfl
        rotate_left
        ·
         simp only [Act.put, List.setIfInBounds_toArray, List.set_cons_zero, List.set_cons_succ, i64_w, i32_w]
         rfl
        refine one_ (i := 8) (N := some 25) #[true, true, true, true, true, true, true, true, true, false] rfl rfl (one_of HT_.out (by kernel_rfl)) (by decide) (fun K hK => ?_)
        refine goes_ Tryd.func30 (by kernel_rfl) rfl #[.agg #[.int .i64 ((rd_T42 l0 x5_1).f0), .int .i64 ((rd_T42 l0 x5_1).f1), .string ((rd_T42 l0 x5_1).f2)], .agg #[.int .i64 ((rd_T42 l1 x5_1).f0), .int .i64 ((rd_T42 l1 x5_1).f1), .string ((rd_T42 l1 x5_1).f2)]] (by rfl) rfl rfl (by (try simp only [List.map_toArray, List.map_cons, List.map_nil]); first | done | rfl | (simp only [List.length_drop, List.length_take]; rfl)) ?_
        with_reducible refine (lockstepref02_Same.calls ((rd_T42 l0 x5_1).f0) ((rd_T42 l0 x5_1).f1) ((rd_T42 l0 x5_1).f2) ((rd_T42 l1 x5_1).f0) ((rd_T42 l1 x5_1).f1) ((rd_T42 l1 x5_1).f2) true _ A7.out).mono ?_
        rintro e w10 ⟨rfl, hb⟩
        refine ⟨_, rfl, ?_⟩
        have n0_ := Aside0.mk (below_step (by repeat (first | (with_reducible first | exact HB.out | apply below_alloc | apply pw_below_drewN | apply below_drew1) | exact HB.out)) hb)
        clear HB
        have HB := n0_
        clear n0_
        (try clear hb)
        (try clear hb2)
        (try clear hk)
        (try clear hi)
        refine hK.out _ _ ⟨((HB.out.cell (World.block_lt_of_cell? w _ hw651_0)).trans hw651_0), ((HB.out.cell (World.block_lt_of_cell? w _ hw651_1)).trans hw651_1), ((HB.out.cell (World.block_lt_of_cell? w _ hw651_2)).trans hw651_2), ((HB.out.cell (World.block_lt_of_cell? w _ hw652_0)).trans hw652_0), ((HB.out.cell (World.block_lt_of_cell? w _ hw652_1)).trans hw652_1), ((HB.out.cell (World.block_lt_of_cell? w _ hw652_2)).trans hw652_2)⟩ (fun hHeld => ?_)
        clear hK K
        refine norm_ (a' := ?_) ?_ ?_
        rotate_left
        ·
         show Act.put _ (some 25) _ = _
         simp only [Act.put, List.setIfInBounds_toArray, List.set_cons_zero, List.set_cons_succ, i64_w, i32_w]
         rfl
        refine pure_ (i := 9) (N := some 26) (v := ?_) (a' := ?_) #[true, true, true, true, true, true, true, true, true, true] rfl rfl (any_of HT_.out (by kernel_rfl)) (fun _ _ _ h => h) (Or.inl ⟨by rfl, ?_⟩) ?_ ?_
        rotate_left
        ·
         intro w'
         go_simp
         with_reducible rfl
        rotate_left
        ·
         simp only [Act.put, List.setIfInBounds_toArray, List.set_cons_zero, List.set_cons_succ, i64_w, i32_w]
         rfl
        refine done_ (done_of HT_.out (by kernel_rfl)) ?_
        try go_wp2
        go_roundg k1
        case measure => have := HK1.out; omega
        case rel => exact ⟨(wrap64 (x5_1 + 1)), (by first | rfl | (simp; done) | (simp [*]; done)), H', ⟨by have := HK1.out; omega⟩, ⟨by repeat (first | (with_reducible first | exact HB.out | apply below_alloc | apply pw_below_drewN | apply below_drew1) | exact HB.out)⟩⟩
       ·
        replace c8 := Bool.eq_false_iff.mpr c8
        subst c8
        have H1 : (some false) = some r := by rw [if_neg (show ¬ (false = true) by decide)] at H; exact H
        clear H
        have H := H1
        clear H1
        obtain rfl := Option.some.inj H
        try go_wp2
        have n0_ := Aside0.mk (below_drew1 HB.out)
        clear HB
        have HB := n0_
        clear n0_
        have p651 : 0 ≤ (x5_1 : Int) := of_decide_eq_true (by first | (with_reducible assumption) | assumption)
        have q651 : x5_1 < (l0.length : Int) := of_decide_eq_true (by first | (with_reducible assumption) | assumption)
        obtain ⟨ad651, e651, hx651_0, hx651_1, hx651_2⟩ := at_T42 HR0.out x5_1 p651 q651
        have hw651_2 := hx651_2
        have hw651_1 := hx651_1
        have hw651_0 := hx651_0
        cases e651
        replace hx651_0 := (HB.out.cell (World.block_lt_of_cell? w _ hx651_0)).trans hx651_0
        replace hx651_1 := (HB.out.cell (World.block_lt_of_cell? w _ hx651_1)).trans hx651_1
        replace hx651_2 := (HB.out.cell (World.block_lt_of_cell? w _ hx651_2)).trans hx651_2
        replace p651 := eq_true p651
        replace q651 := eq_true q651
        have p652 : 0 ≤ (x5_1 : Int) := of_decide_eq_true (by first | (with_reducible assumption) | assumption)
        have q652 : x5_1 < (l1.length : Int) := of_decide_eq_true (by first | (with_reducible assumption) | assumption)
        obtain ⟨ad652, e652, hx652_0, hx652_1, hx652_2⟩ := at_T42 HR1.out x5_1 p652 q652
        have hw652_2 := hx652_2
        have hw652_1 := hx652_1
        have hw652_0 := hx652_0
        cases e652
        replace hx652_0 := (HB.out.cell (World.block_lt_of_cell? w _ hx652_0)).trans hx652_0
        replace hx652_1 := (HB.out.cell (World.block_lt_of_cell? w _ hx652_1)).trans hx652_1
        replace hx652_2 := (HB.out.cell (World.block_lt_of_cell? w _ hx652_2)).trans hx652_2
        replace p652 := eq_true p652
        replace q652 := eq_true q652
        refine start_ (n := 10) (S := fun w' => w'.cell? (ad651.add ((x5_1).toNat * 3)) = some (.int .i64 ((rd_T42 l0 x5_1).f0)) ∧ w'.cell? ⟨(ad651.add ((x5_1).toNat * 3)).block, (ad651.add ((x5_1).toNat * 3)).off + 1, none⟩ = some (.int .i64 ((rd_T42 l0 x5_1).f1)) ∧ w'.cell? ⟨(ad651.add ((x5_1).toNat * 3)).block, (ad651.add ((x5_1).toNat * 3)).off + 2, none⟩ = some (.string ((rd_T42 l0 x5_1).f2)) ∧ w'.cell? (ad652.add ((x5_1).toNat * 3)) = some (.int .i64 ((rd_T42 l1 x5_1).f0)) ∧ w'.cell? ⟨(ad652.add ((x5_1).toNat * 3)).block, (ad652.add ((x5_1).toNat * 3)).off + 1, none⟩ = some (.int .i64 ((rd_T42 l1 x5_1).f1)) ∧ w'.cell? ⟨(ad652.add ((x5_1).toNat * 3)).block, (ad652.add ((x5_1).toNat * 3)).off + 2, none⟩ = some (.string ((rd_T42 l1 x5_1).f2))) (ds := []) #[false, false, false, false, false, false, false, false, false, false] (by kernel_rfl) rfl rfl ⟨((HB.out.cell (World.block_lt_of_cell? w _ hw651_0)).trans hw651_0), ((HB.out.cell (World.block_lt_of_cell? w _ hw651_1)).trans hw651_1), ((HB.out.cell (World.block_lt_of_cell? w _ hw651_2)).trans hw651_2), ((HB.out.cell (World.block_lt_of_cell? w _ hw652_0)).trans hw652_0), ((HB.out.cell (World.block_lt_of_cell? w _ hw652_1)).trans hw652_1), ((HB.out.cell (World.block_lt_of_cell? w _ hw652_2)).trans hw652_2)⟩ (fun hHeld => ?_); refine with_tabW lockstepref02_Rows.tab6 lockstepref02_Rows.bits6 (fun HT_ HW_ => ?_)
        generalize wr.drew = w11 at HB hx651_0 hx651_1 hx651_2 hx652_0 hx652_1 hx652_2 hHeld ⊢
        refine pure_ (i := 0) (N := some 17) (v := ?_) (a' := ?_) #[true, false, false, false, false, false, false, false, false, false] rfl rfl (any_of HT_.out (by kernel_rfl)) (fun _ _ _ h => h) (Or.inl ⟨by rfl, ?_⟩) ?_ ?_
        rotate_left
        ·
         intro w'
         go_simp
         with_reducible rfl
        rotate_left
        ·
         simp only [Act.put, List.setIfInBounds_toArray, List.set_cons_zero, List.set_cons_succ, i64_w, i32_w]
         rfl
        refine pure_ (i := 1) (N := some 18) (v := ?_) (a' := ?_) #[true, true, false, false, false, false, false, false, false, false] rfl rfl (any_of HT_.out (by kernel_rfl)) (fun _ _ _ h => h) (Or.inl ⟨by rfl, ?_⟩) ?_ ?_
        rotate_left
        ·
         intro w'
         go_simp
         with_reducible rfl
        rotate_left
        ·
         simp only [Act.put, List.setIfInBounds_toArray, List.set_cons_zero, List.set_cons_succ, i64_w, i32_w]
         rfl
        refine pure_ (i := 2) (N := some 19) (v := ?_) (a' := ?_) #[true, true, true, false, false, false, false, false, false, false] rfl rfl (any_of HT_.out (by kernel_rfl)) (fun _ _ _ h => h) (Or.inl ⟨by rfl, ?_⟩) ?_ ?_
        rotate_left
        ·
         intro w'
         go_simp
         with_reducible rfl
        rotate_left
        ·
         simp only [Act.put, List.setIfInBounds_toArray, List.set_cons_zero, List.set_cons_succ, i64_w, i32_w]
         rfl
        refine pure_ (i := 4) (N := some 21) (v := ?_) (a' := ?_) #[true, true, true, false, true, false, false, false, false, false] rfl rfl (any_of HT_.out (by kernel_rfl)) (fun _ _ _ h => h) (Or.inl ⟨by rfl, ?_⟩) ?_ ?_
        rotate_left
        ·
         intro w'
         go_simp
         with_reducible rfl
        rotate_left
        ·
         simp only [Act.put, List.setIfInBounds_toArray, List.set_cons_zero, List.set_cons_succ, i64_w, i32_w]
         rfl
        refine pure_ (i := 5) (N := some 22) (v := ?_) (a' := ?_) #[true, true, true, false, true, true, false, false, false, false] rfl rfl (any_of HT_.out (by kernel_rfl)) (fun _ _ _ h => h) (Or.inl ⟨by rfl, ?_⟩) ?_ ?_
        rotate_left
        ·
         intro w'
         go_simp
         with_reducible rfl
        rotate_left
        ·
         simp only [Act.put, List.setIfInBounds_toArray, List.set_cons_zero, List.set_cons_succ, i64_w, i32_w]
         rfl
        refine pure_ (i := 6) (N := some 23) (v := ?_) (a' := ?_) #[true, true, true, false, true, true, true, false, false, false] rfl rfl (any_of HT_.out (by kernel_rfl)) (fun _ _ _ h => h) (Or.inl ⟨by rfl, ?_⟩) ?_ ?_
        rotate_left
        ·
         intro w'
         go_simp
         with_reducible rfl
        rotate_left
        ·
         simp only [Act.put, List.setIfInBounds_toArray, List.set_cons_zero, List.set_cons_succ, i64_w, i32_w]
         rfl
        refine take_ (i := 3) (N := some 20) (v := ?_) (a' := ?_) #[true, true, true, true, true, true, true, false, false, false] rfl rfl (take_ofW HT_.out HW_.out (by kernel_rfl)) (fun _ _ _ h => h) (Or.inl ⟨by rfl, ?_⟩) hHeld ?_ ?_
        rotate_left
        ·
         rintro w' ⟨s0, s1, s2, s3, s4, s5⟩
         go_simp
         with_reducible rfl
        rotate_left
        ·
         simp only [Act.put, List.setIfInBounds_toArray, List.set_cons_zero, List.set_cons_succ, i64_w, i32_w]
         rfl
        refine take_ (i := 7) (N := some 24) (v := ?_) (a' := ?_) #[true, true, true, true, true, true, true, true, false, false] rfl rfl (take_ofW HT_.out HW_.out (by kernel_rfl)) (fun _ _ _ h => h) (Or.inl ⟨by rfl, ?_⟩) hHeld ?_ ?_
        rotate_left
        ·
         rintro w' ⟨s0, s1, s2, s3, s4, s5⟩
         go_simp
         with_reducible rfl
        rotate_left
        ·
         simp only [Act.put, List.setIfInBounds_toArray, List.set_cons_zero, List.set_cons_succ, i64_w, i32_w]
         rfl
        refine one_ (i := 8) (N := some 25) #[true, true, true, true, true, true, true, true, true, false] rfl rfl (one_of HT_.out (by kernel_rfl)) (by decide) (fun K hK => ?_)
        refine goes_ Tryd.func30 (by kernel_rfl) rfl #[.agg #[.int .i64 ((rd_T42 l0 x5_1).f0), .int .i64 ((rd_T42 l0 x5_1).f1), .string ((rd_T42 l0 x5_1).f2)], .agg #[.int .i64 ((rd_T42 l1 x5_1).f0), .int .i64 ((rd_T42 l1 x5_1).f1), .string ((rd_T42 l1 x5_1).f2)]] (by rfl) rfl rfl (by (try simp only [List.map_toArray, List.map_cons, List.map_nil]); first | done | rfl | (simp only [List.length_drop, List.length_take]; rfl)) ?_
        with_reducible refine (lockstepref02_Same.calls ((rd_T42 l0 x5_1).f0) ((rd_T42 l0 x5_1).f1) ((rd_T42 l0 x5_1).f2) ((rd_T42 l1 x5_1).f0) ((rd_T42 l1 x5_1).f1) ((rd_T42 l1 x5_1).f2) false _ A7.out).mono ?_
        rintro e w12 ⟨rfl, hb⟩
        refine ⟨_, rfl, ?_⟩
        have n0_ := Aside0.mk (below_step (by repeat (first | (with_reducible first | exact HB.out | apply below_alloc | apply pw_below_drewN | apply below_drew1) | exact HB.out)) hb)
        clear HB
        have HB := n0_
        clear n0_
        (try clear hb)
        (try clear hb2)
        (try clear hk)
        (try clear hi)
        refine hK.out _ _ ⟨((HB.out.cell (World.block_lt_of_cell? w _ hw651_0)).trans hw651_0), ((HB.out.cell (World.block_lt_of_cell? w _ hw651_1)).trans hw651_1), ((HB.out.cell (World.block_lt_of_cell? w _ hw651_2)).trans hw651_2), ((HB.out.cell (World.block_lt_of_cell? w _ hw652_0)).trans hw652_0), ((HB.out.cell (World.block_lt_of_cell? w _ hw652_1)).trans hw652_1), ((HB.out.cell (World.block_lt_of_cell? w _ hw652_2)).trans hw652_2)⟩ (fun hHeld => ?_)
        clear hK K
        refine norm_ (a' := ?_) ?_ ?_
        rotate_left
        ·
         show Act.put _ (some 25) _ = _
         simp only [Act.put, List.setIfInBounds_toArray, List.set_cons_zero, List.set_cons_succ, i64_w, i32_w]
         rfl
        refine pure_ (i := 9) (N := some 26) (v := ?_) (a' := ?_) #[true, true, true, true, true, true, true, true, true, true] rfl rfl (any_of HT_.out (by kernel_rfl)) (fun _ _ _ h => h) (Or.inl ⟨by rfl, ?_⟩) ?_ ?_
        rotate_left
        ·
         intro w'
         go_simp
         with_reducible rfl
        rotate_left
        ·
         simp only [Act.put, List.setIfInBounds_toArray, List.set_cons_zero, List.set_cons_succ, i64_w, i32_w]
         rfl
        refine done_ (done_of HT_.out (by kernel_rfl)) ?_
        try go_wp2
        go_ret
        exact ⟨by first | rfl | (simp [errW_none, errW_some] <;> rfl) | (simp [*, errW_none, errW_some] <;> rfl), by repeat (first | (with_reducible first | exact HB.out | apply below_alloc | apply pw_below_drewN | apply below_drew1) | exact HB.out)⟩
      ·
       rw [if_neg c6] at H
       exact absurd H (by simp)
     ·
      rw [if_neg c5] at H
      exact absurd H (by simp)
    ·
     rw [if_neg c4] at H
     have c4b0 : decide (x5_1 < (l0.length : Int)) = false := decide_eq_false c4
     clear c4
     obtain rfl := Option.some.inj H
     go_wp2
     go_ret
     exact ⟨by first | rfl | (simp [errW_none, errW_some] <;> rfl) | (simp [*, errW_none, errW_some] <;> rfl), by repeat (first | (with_reducible first | exact HB.out | apply below_alloc | apply pw_below_drewN | apply below_drew1) | exact HB.out)⟩
 ·
  rw [if_neg c3] at H
  have c3b0 : ((l0.length : Int) == (l1.length : Int)) = false := beq_eq_false_iff_ne.mpr c3
  have c3b1 : ((l0.length : Int) != (l1.length : Int)) = true := bne_iff_ne.mpr c3
  have c3b2 : (l0.length == l1.length) = false := by first | simpa using c3 | (simp at c3 ⊢; omega)
  obtain rfl := Option.some.inj H
  go_enter Tryd.func34, Tryd.ntmps34
  go_wp2
  go_ret
  exact ⟨by first | rfl | (simp [errW_none, errW_some] <;> rfl) | (simp [*, errW_none, errW_some] <;> rfl), by repeat (first | (with_reducible first | exact HB.out | apply below_alloc | apply pw_below_drewN | apply below_drew1) | exact HB.out)⟩
end Go.Proofs.YthghcpeedmconaaDoor.X
end
section
namespace Go.Proofs.YthghcpeedmconaaDoor.X
open Go.RowKit Go.Proofs.YthghcpeedmconaaDoorW.PrintWords Go.Proofs.YthghcpeedmconaaDoorW.PrintLast Go.Proofs.YthghcpeedmconaaDoorW.PrintMore
attribute [local go_sem] max2_int min2_int max_two min_two max_three min_three max_four min_four
set_option linter.unusedVariables false
set_option linter.unusedSimpArgs false
mutual
def locksteplaw02_RowcodeBack.j0 : Nat → List (S42) → List Int → List Int → Int → Option (Bool)
 | 0, _, _, _, _ => none
 | k + 1, x0, x1, x2, x8 => locksteplaw02_RowcodeBack.l0 k x0 x1 x2 x8 0
def locksteplaw02_RowcodeBack.l0 : Nat → List (S42) → List Int → List Int → Int → Int → Option (Bool)
 | 0, _, _, _, _, _ => none
 | k + 1, x0, x1, x2, x8, x12 => if x12 < (x0.length : Int) then (locksteplaw02_RowcodeBack.j2 k x0 x1 x2 x8 x12 (x8 == 0)) else (locksteplaw02_RowcodeBack.j2 k x0 x1 x2 x8 x12 false)
def locksteplaw02_RowcodeBack.j2 : Nat → List (S42) → List Int → List Int → Int → Int → Bool → Option (Bool)
 | 0, _, _, _, _, _, _ => none
 | k + 1, x0, x1, x2, x8, x12, x63 => if x63 = true then (if 0 ≤ x12 then (if x12 < (x0.length : Int) then ((rowcode_Value.f k ((rd_T42 x0 x12).f0) ((rd_T42 x0 x12).f1) ((rd_T42 x0 x12).f2)).bind fun bt675 => ((locksteplaw02_own.f bt675.1).bind fun t679 => (if t679.length + x1.length < 175921860444160 then ((rowcode_Read.f k (t679 ++ x1)).bind fun bt685 => (if bt675.2 = 0 then (if bt685.2.2.2.2 = 0 then (if bt685.2.2.2.1 = (bt675.1.length : Int) then ((lockstepref02_Plain.f k ((rd_T42 x0 x12).f0) ((rd_T42 x0 x12).f1) ((rd_T42 x0 x12).f2)).bind fun bt692 => ((lockstepref02_Same.f bt685.1 bt685.2.1 bt685.2.2.1 bt692.1 bt692.2.1 bt692.2.2).bind fun t695 => (if t695 = true then (locksteplaw02_RowcodeBack.l0 k x0 x1 x2 x8 (wrap64 (x12 + 1))) else (some false)))) else (some false)) else (some false)) else (some false))) else (none)))) else (none)) else (none)) else ((locksteplaw02_own.f x2).bind fun t696 => ((rowcode_ReadRow.f k t696).bind fun bt699 => (if bt699.2.2 = 0 then ((rowcode_Row.f k bt699.1).bind fun bt704 => (if bt704.2 = 0 then (if bt699.2.1 ≥ 1 then (if bt699.2.1 ≤ (x2.length : Int) then (if 0 ≤ bt699.2.1 then (some ((strOfNums bt704.1).toList == (strOfNums (x2.take (bt699.2.1 : Int).toNat)).toList)) else (none)) else (some false)) else (some false)) else (some false))) else (if (bt699.1.length : Int) = 0 then (some (bt699.2.1 == 0)) else (some false)))))
end
def locksteplaw02_RowcodeBack.f (k : Nat) (l0 : List (S42)) (l1 : List Int) (l2 : List Int) : Option (Bool) := (locksteplaw02_lives.f k).bind fun t654 => (if t654 = true then ((rowcode_Row.f k l0).bind fun bt655 => (if bt655.2 = 0 then ((locksteplaw02_own.f bt655.1).bind fun t659 => (if t659.length + l1.length < 175921860444160 then ((rowcode_ReadRow.f k (t659 ++ l1)).bind fun bt665 => (if bt665.2.2 = 0 then (if bt665.2.1 = (bt655.1.length : Int) then ((lockstepref02_PlainRow.f k l0).bind fun t670 => ((lockstepref02_Rows.f k bt665.1 t670).bind fun t673 => (if t673 = true then (locksteplaw02_RowcodeBack.j0 k l0 l1 l2 bt655.2) else (some false)))) else (some false)) else (some false))) else (none))) else (locksteplaw02_RowcodeBack.j0 k l0 l1 l2 bt655.2))) else (some false))
def locksteplaw02_RowcodeBack.T13 : Bool × List (List Nat × List Nat) := (true, [([], []), ([0], [0]), ([1], [1]), ([2], [2]), ([3, 2], [2, 3]), ([2, 4], [2, 4]), ([5, 2], [5]), ([6], [6]), ([6], [6]), ([8, 6], [6, 8]), ([7, 9, 6], [6, 7, 9]), ([6, 10], [6, 10]), ([11, 6], [11]), ([12], [12]), ([12], [12]), ([12], [12]), ([14, 15, 12], [12, 14, 15]), ([16, 12], [12, 16]), ([17, 12, 12], [12, 17]), ([13, 18, 18, 12], [12, 13, 18]), ([19, 12], [12, 19]), ([12, 20], [12, 20])])
def locksteplaw02_RowcodeBack.B13 : List Nat := [0, 1, 3, 7, 15, 31, 63, 127, 127, 383, 1023, 2047, 4095, 8191, 8191, 8191, 57343, 122879, 253951, 524287, 1048575, 2097151]
theorem locksteplaw02_RowcodeBack.tab13 : rtab .any (opsOf Tryd.f7 13) = locksteplaw02_RowcodeBack.T13 := by kernel_rfl
theorem locksteplaw02_RowcodeBack.bits13 : waitsOk locksteplaw02_RowcodeBack.T13.2 locksteplaw02_RowcodeBack.B13 = true := by kernel_rfl
set_option maxHeartbeats 8000000 in
set_option maxRecDepth 100000 in
theorem locksteplaw02_RowcodeBack.calls (k : Nat) (A0 : Option Addr) (c0 : Nat) (l0 : List (S42)) (A1 : Option Addr) (c1 : Nat) (l1 : List Int) (A2 : Option Addr) (c2 : Nat) (l2 : List Int) (r : Bool) (w : World) (hT : Tabs w) (hr0 : Kd.C k42 w A0 l0.length l0) (hc0 : l0.length ≤ c0) (hr1 : Kd.C (Kd.int .u8) w A1 l1.length l1) (hc1 : l1.length ≤ c1) (hr2 : Kd.C (Kd.int .u8) w A2 l2.length l2) (hc2 : l2.length ≤ c2) (h : locksteplaw02_RowcodeBack.f k l0 l1 l2 = some r) (hr : r = true) :
  Calls Tryd.prog 7 #[.slice A0 l0.length c0, .slice A1 l1.length c1, .slice A2 l2.length c2] w fun e w' => e = .returned (.bool r) ∧ Below w.heap.size w w' := by
 have HR := Aside0.mk hr
 clear hr
 have hu42 := Tryd.underlying42
 have HT := Aside0.mk hT
 clear hT
 have HR0 := Aside0.mk hr0
 have HC0 := Aside0.mk hc0
 clear hr0 hc0
 have HR1 := Aside0.mk hr1
 have HC1 := Aside0.mk hc1
 clear hr1 hc1
 have HR2 := Aside0.mk hr2
 have HC2 := Aside0.mk hc2
 clear hr2 hc2
 have HB := Aside0.mk (Below.refl w.heap.size w)
 have H : ((locksteplaw02_lives.f k).bind fun t654 => (if t654 = true then ((rowcode_Row.f k l0).bind fun bt655 => (if bt655.2 = 0 then ((locksteplaw02_own.f bt655.1).bind fun t659 => (if t659.length + l1.length < 175921860444160 then ((rowcode_ReadRow.f k (t659 ++ l1)).bind fun bt665 => (if bt665.2.2 = 0 then (if bt665.2.1 = (bt655.1.length : Int) then ((lockstepref02_PlainRow.f k l0).bind fun t670 => ((lockstepref02_Rows.f k bt665.1 t670).bind fun t673 => (if t673 = true then (locksteplaw02_RowcodeBack.j0 k l0 l1 l2 bt655.2) else (some false)))) else (some false)) else (some false))) else (none))) else (locksteplaw02_RowcodeBack.j0 k l0 l1 l2 bt655.2))) else (some false))) = some r := h
 clear h
 replace H := Option.bind_eq_some_iff.mp H
 obtain ⟨t654, A40, H⟩ := H
 replace H : (if t654 = true then ((rowcode_Row.f k l0).bind fun bt655 => (if bt655.2 = 0 then ((locksteplaw02_own.f bt655.1).bind fun t659 => (if t659.length + l1.length < 175921860444160 then ((rowcode_ReadRow.f k (t659 ++ l1)).bind fun bt665 => (if bt665.2.2 = 0 then (if bt665.2.1 = (bt655.1.length : Int) then ((lockstepref02_PlainRow.f k l0).bind fun t670 => ((lockstepref02_Rows.f k bt665.1 t670).bind fun t673 => (if t673 = true then (locksteplaw02_RowcodeBack.j0 k l0 l1 l2 bt655.2) else (some false)))) else (some false)) else (some false))) else (none))) else (locksteplaw02_RowcodeBack.j0 k l0 l1 l2 bt655.2))) else (some false)) = some r := H
 have A4 := Aside0.mk A40
 clear A40
 by_cases c5 : t654 = true
 ·
  subst c5
  have H1 : ((rowcode_Row.f k l0).bind fun bt655 => (if bt655.2 = 0 then ((locksteplaw02_own.f bt655.1).bind fun t659 => (if t659.length + l1.length < 175921860444160 then ((rowcode_ReadRow.f k (t659 ++ l1)).bind fun bt665 => (if bt665.2.2 = 0 then (if bt665.2.1 = (bt655.1.length : Int) then ((lockstepref02_PlainRow.f k l0).bind fun t670 => ((lockstepref02_Rows.f k bt665.1 t670).bind fun t673 => (if t673 = true then (locksteplaw02_RowcodeBack.j0 k l0 l1 l2 bt655.2) else (some false)))) else (some false)) else (some false))) else (none))) else (locksteplaw02_RowcodeBack.j0 k l0 l1 l2 bt655.2))) = some r := by rw [if_pos rfl] at H; exact H
  clear H
  have H := H1
  clear H1
  replace H := Option.bind_eq_some_iff.mp H
  obtain ⟨⟨t655, t656⟩, A60, H⟩ := H
  replace H : (if t656 = 0 then ((locksteplaw02_own.f t655).bind fun t659 => (if t659.length + l1.length < 175921860444160 then ((rowcode_ReadRow.f k (t659 ++ l1)).bind fun bt665 => (if bt665.2.2 = 0 then (if bt665.2.1 = (t655.length : Int) then ((lockstepref02_PlainRow.f k l0).bind fun t670 => ((lockstepref02_Rows.f k bt665.1 t670).bind fun t673 => (if t673 = true then (locksteplaw02_RowcodeBack.j0 k l0 l1 l2 t656) else (some false)))) else (some false)) else (some false))) else (none))) else (locksteplaw02_RowcodeBack.j0 k l0 l1 l2 t656)) = some r := H
  have A6 := Aside0.mk A60
  clear A60
  have HC7 := Aside0.mk H
  clear H
  go_enter Tryd.func7, Tryd.ntmps7
  go_upto_if 31 with (first | ((with_reducible refine gate_callee (f := 17) rfl ?_); refine goesL_ (some 23) rfl rfl Tryd.func17 (by kernel_rfl) rfl #[] rfl (by (try simp only [List.map_toArray, List.map_cons, List.map_nil]); first | done | rfl | (simp only [List.length_drop, List.length_take]; rfl)) ?_; (with_reducible refine (locksteplaw02_lives.calls k  true _ ?side1 A4.out).mono ?_); (case side1 => exact Tabs.below HT.out (by repeat (first | (with_reducible first | exact HB.out | apply below_alloc | apply pw_below_drewN | apply below_drew1) | exact HB.out))); rintro e w8 ⟨rfl, hb⟩; refine ⟨_, rfl, ?_⟩; have n0_ := Aside0.mk (below_step (by repeat (first | (with_reducible first | exact HB.out | apply below_alloc | apply pw_below_drewN | apply below_drew1) | exact HB.out)) hb); clear HB; have HB := n0_; clear n0_; (try clear hb); (try clear hb2); (try clear hk); (try clear hi)) | ((with_reducible refine gate_callee (f := 23) rfl ?_); refine goesL_ (some 27) rfl rfl Tryd.func23 (by kernel_rfl) rfl #[.slice A0 l0.length c0] rfl (by (try simp only [List.map_toArray, List.map_cons, List.map_nil]); first | done | rfl | (simp only [List.length_drop, List.length_take]; rfl)) ?_; (with_reducible refine (rowcode_Row.calls k _ _ l0 t655 t656 _ ?side1 ?side2 ?side3 A6.out).mono ?_); (case side1 => exact Tabs.below HT.out (by repeat (first | (with_reducible first | exact HB.out | apply below_alloc | apply pw_below_drewN | apply below_drew1) | exact HB.out))); (case side2 => repeat (first | exact (Kd.C_below HR0.out HB.out) | (with_reducible refine Kd.C_alloc ?_ _) | (with_reducible refine Kd.C_drewN ?_ _) | (with_reducible refine Kd.C_drew ?_))); (case side3 => exact HC0.out); rintro e w9 ⟨v657, rfl, ho0, hb⟩; refine ⟨_, rfl, ?_⟩; have n0_ := Aside0.mk (Kd.R_lower ho0 (below_size (by repeat (first | (with_reducible first | exact HB.out | apply below_alloc | apply pw_below_drewN | apply below_drew1) | exact HB.out)))); have n1_ := Aside0.mk (below_step (by repeat (first | (with_reducible first | exact HB.out | apply below_alloc | apply pw_below_drewN | apply below_drew1) | exact HB.out)) hb); clear HB; have HO658 := n0_; have HB := n1_; clear n0_ n1_; (try clear hb); (try clear hb2); (try clear hk); (try clear hi); (try clear ho0)))
  (try simp only [Act.put, List.setIfInBounds_toArray, List.set_cons_zero, List.set_cons_succ])
  go_cut [] (fun wc => ∃ (kq : Nat), Aside0 (locksteplaw02_RowcodeBack.j0 kq l0 l1 l2 t656 = some r) ∧ Aside0 (kq ≤ k) ∧ Aside0 (Below w.heap.size w wc))
  case first =>
   have H := HC7.out
   clear HC7
   by_cases c10 : t656 = 0
   ·
    rw [if_pos c10] at H
    have c10b0 : (t656 == 0) = true := beq_iff_eq.mpr c10
    have c10b1 : (t656 != 0) = false := bne_eq_false_iff_eq.mpr c10
    clear c10
    (first | rw [c10b0] | (simp only [i64_w, i32_w]; rw [c10b0]) | skip)
    replace H := Option.bind_eq_some_iff.mp H
    obtain ⟨t659, A110, H⟩ := H
    replace H : (if t659.length + l1.length < 175921860444160 then ((rowcode_ReadRow.f k (t659 ++ l1)).bind fun bt665 => (if bt665.2.2 = 0 then (if bt665.2.1 = (t655.length : Int) then ((lockstepref02_PlainRow.f k l0).bind fun t670 => ((lockstepref02_Rows.f k bt665.1 t670).bind fun t673 => (if t673 = true then (locksteplaw02_RowcodeBack.j0 k l0 l1 l2 t656) else (some false)))) else (some false)) else (some false))) else (none)) = some r := H
    have A11 := Aside0.mk A110
    clear A110
    by_cases c12 : t659.length + l1.length < 175921860444160
    ·
     rw [if_pos c12] at H
     have LMc12 := Aside0.mk c12
     clear c12
     obtain ⟨y662, hy662⟩ : ∃ y_ : List Int, y_ = (t659 ++ l1) := ⟨_, rfl⟩
     replace H : ((rowcode_ReadRow.f k y662).bind fun bt665 => (if bt665.2.2 = 0 then (if bt665.2.1 = (t655.length : Int) then ((lockstepref02_PlainRow.f k l0).bind fun t670 => ((lockstepref02_Rows.f k bt665.1 t670).bind fun t673 => (if t673 = true then (locksteplaw02_RowcodeBack.j0 k l0 l1 l2 t656) else (some false)))) else (some false)) else (some false))) = some r := by first | (rw [hy662]; with_reducible exact H) | (have H2_ := (Option.bind_some _ _).symm.trans H; rw [hy662]; with_reducible exact H2_) | (have H2_ := (Option.bind_some _ _).symm.trans H; with_reducible exact H2_) | with_reducible exact H | (rw [hy662]; exact H) | exact H
     have Ny662 := Aside0.mk hy662
     clear hy662
     replace H := Option.bind_eq_some_iff.mp H
     obtain ⟨⟨t665, t666, t667⟩, A130, H⟩ := H
     replace H : (if t667 = 0 then (if t666 = (t655.length : Int) then ((lockstepref02_PlainRow.f k l0).bind fun t670 => ((lockstepref02_Rows.f k t665 t670).bind fun t673 => (if t673 = true then (locksteplaw02_RowcodeBack.j0 k l0 l1 l2 t656) else (some false)))) else (some false)) else (some false)) = some r := H
     have A13 := Aside0.mk A130
     clear A130
     by_cases c14 : t667 = 0
     ·
      rw [if_pos c14] at H
      have c14b0 : (t667 == 0) = true := beq_iff_eq.mpr c14
      have c14b1 : (t667 != 0) = false := bne_eq_false_iff_eq.mpr c14
      clear c14
      by_cases c15 : t666 = (t655.length : Int)
      ·
       rw [if_pos c15] at H
       have c15b0 : (t666 == (t655.length : Int)) = true := beq_iff_eq.mpr c15
       have c15b1 : (t666 != (t655.length : Int)) = false := bne_eq_false_iff_eq.mpr c15
       clear c15
       replace H := Option.bind_eq_some_iff.mp H
       obtain ⟨t670, A160, H⟩ := H
       replace H : ((lockstepref02_Rows.f k t665 t670).bind fun t673 => (if t673 = true then (locksteplaw02_RowcodeBack.j0 k l0 l1 l2 t656) else (some false))) = some r := H
       have A16 := Aside0.mk A160
       clear A160
       replace H := Option.bind_eq_some_iff.mp H
       obtain ⟨t673, A170, H⟩ := H
       replace H : (if t673 = true then (locksteplaw02_RowcodeBack.j0 k l0 l1 l2 t656) else (some false)) = some r := H
       have A17 := Aside0.mk A170
       clear A170
       by_cases c18 : t673 = true
       ·
        subst c18
        have H1 : (locksteplaw02_RowcodeBack.j0 k l0 l1 l2 t656) = some r := by rw [if_pos rfl] at H; exact H
        clear H
        have H := H1
        clear H1
        have H' := Aside0.mk H
        clear H
        obtain ⟨Ao19, co19, eo19⟩ := Kd.R_slice HO658.out
        subst eo19
        go_wp2_with (first | ((with_reducible refine gate_callee (f := 25) rfl ?_); refine goesL_ (some 34) rfl rfl Tryd.func25 (by kernel_rfl) rfl #[.slice Ao19 t655.length co19] rfl (by (try simp only [List.map_toArray, List.map_cons, List.map_nil]); first | done | rfl | (simp only [List.length_drop, List.length_take]; rfl)) ?_; (with_reducible refine (locksteplaw02_own.calls _ _ t655 t659 _ ?side1 ?side2 A11.out).mono ?_); (case side1 => repeat (first | exact (Kd.R_reads' HO658.out).2.2 | (with_reducible refine Kd.C_alloc ?_ _) | (with_reducible refine Kd.C_drewN ?_ _) | (with_reducible refine Kd.C_drew ?_))); (case side2 => exact (Kd.R_reads' HO658.out).2.1); rintro e w20 ⟨v660, rfl, ho0, hb⟩; refine ⟨_, rfl, ?_⟩; have n0_ := Aside0.mk (Kd.R_elder' (by (with_reducible repeat (first | apply Kd.R_alloc | apply Kd.R_drewN | apply Kd.R_drew)); exact HO658.out) (Kd.R_base ho0) hb); have n1_ := Aside0.mk (Kd.R_lower (Kd.R_new' ho0 (Kd.R_lt (by (with_reducible repeat (first | apply Kd.R_alloc | apply Kd.R_drewN | apply Kd.R_drew)); exact HO658.out))) (below_size (by repeat (first | (with_reducible first | exact HB.out | apply below_alloc | apply pw_below_drewN | apply below_drew1) | exact HB.out)))); have n2_ := Aside0.mk (below_step (by repeat (first | (with_reducible first | exact HB.out | apply below_alloc | apply pw_below_drewN | apply below_drew1) | exact HB.out)) hb); clear HO658; clear HB; have HO658 := n0_; have HO661 := n1_; have HB := n2_; clear n0_ n1_ n2_; (try clear hb); (try clear hb2); (try clear hk); (try clear hi); (try clear ho0)) | ((with_reducible refine gate_builtin (b := .append) (xs := #[.tmp 34, .tmp 35]) rfl ?_); (try (refine gate_guard (by rfl) ?_; dsimp only)); at_builtin; refine Kd.R_append_rowsL (Kd.int .u8) (w0 := w) w.heap.size rfl (.tmp 34) (.tmp 35) 47 5 (.int .u8 0) 1 rfl Tryd.underlying47 info5 rfl (by decide) (by omega) v660 t659 l1 _ _ _ (fun k_ => some k_ ≠ (.slice Ao19 t655.length co19 : Value).ownBlock) (fun _ => False) rfl rfl ?aO ?aR (fun _ _ h => h) (fun _ h => h.elim) ?aF ?aB ?aS ?aL ?_; (case aR => repeat (first | exact (Kd.C_below HR1.out HB.out) | (with_reducible refine Kd.C_alloc ?_ _) | (with_reducible refine Kd.C_drewN ?_ _) | (with_reducible refine Kd.C_drew ?_))); (case aB => exact (by repeat (first | (with_reducible first | exact HB.out | apply below_alloc | apply pw_below_drewN | apply below_drew1) | exact HB.out))); (case aF => exact (fun k_ hk => Kd.fresh' (Kd.R_lt (by (with_reducible repeat (first | apply Kd.R_alloc | apply Kd.R_drewN | apply Kd.R_drew)); exact HO658.out)) k_ hk)); (case aO => exact (by (with_reducible repeat (first | apply Kd.R_alloc | apply Kd.R_drewN | apply Kd.R_drew)); exact Kd.R_mono HO661.out (fun _ hk => hk.2))); (case aS => exact (below_size (by repeat (first | (with_reducible first | exact HB.out | apply below_alloc | apply pw_below_drewN | apply below_drew1) | exact HB.out)))); (case aL => have := LMc12.out; omega); intro v663 w21 ho hb hg hat; rw [← Ny662.out] at ho; have n0_ := Aside0.mk (Kd.R_after (ok := (fun _ => True)) (by (with_reducible repeat (first | apply Kd.R_alloc | apply Kd.R_drewN | apply Kd.R_drew)); exact HO658.out) hg hat); have n1_ := Aside0.mk (hb); have n2_ := Aside0.mk (ho); clear HO658; clear HB; clear HO661; have HO658 := n0_; have HB := n1_; have HO664 := n2_; clear n0_ n1_ n2_; clear ho hb hg hat; obtain ⟨Ao22, co22, eo22⟩ := Kd.R_slice HO664.out; subst eo22) | ((with_reducible refine gate_callee (f := 33) rfl ?_); refine goesL_ (some 37) rfl rfl Tryd.func33 (by kernel_rfl) rfl #[.slice Ao22 y662.length co22] rfl (by (try simp only [List.map_toArray, List.map_cons, List.map_nil]); first | done | rfl | (simp only [List.length_drop, List.length_take]; rfl)) ?_; (with_reducible refine (rowcode_ReadRow.calls k _ _ y662 t665 t666 t667 _ ?side1 ?side2 ?side3 A13.out).mono ?_); (case side1 => exact Tabs.below HT.out (by repeat (first | (with_reducible first | exact HB.out | apply below_alloc | apply pw_below_drewN | apply below_drew1) | exact HB.out))); (case side2 => repeat (first | exact (Kd.R_reads' HO664.out).2.2 | (with_reducible refine Kd.C_alloc ?_ _) | (with_reducible refine Kd.C_drewN ?_ _) | (with_reducible refine Kd.C_drew ?_))); (case side3 => exact (Kd.R_reads' HO664.out).2.1); rintro e w23 ⟨v668, rfl, ho0, hb⟩; refine ⟨_, rfl, ?_⟩; have n0_ := Aside0.mk (Kd.R_below (by (with_reducible repeat (first | apply Kd.R_alloc | apply Kd.R_drewN | apply Kd.R_drew)); exact HO658.out) hb); have n1_ := Aside0.mk (Kd.R_below (by (with_reducible repeat (first | apply Kd.R_alloc | apply Kd.R_drewN | apply Kd.R_drew)); exact HO664.out) hb); have n2_ := Aside0.mk (Kd.R_lower ho0 (below_size (by repeat (first | (with_reducible first | exact HB.out | apply below_alloc | apply pw_below_drewN | apply below_drew1) | exact HB.out)))); have n3_ := Aside0.mk (below_step (by repeat (first | (with_reducible first | exact HB.out | apply below_alloc | apply pw_below_drewN | apply below_drew1) | exact HB.out)) hb); clear HO658; clear HO664; clear HB; have HO658 := n0_; have HO664 := n1_; have HO669 := n2_; have HB := n3_; clear n0_ n1_ n2_ n3_; (try clear hb); (try clear hb2); (try clear hk); (try clear hi); (try clear ho0)) | (go_at_call 35; (with_reducible refine (lockstepref02_PlainRow.calls k _ _ l0 t670 _ ?side1 ?side2 A16.out).mono ?_); (case side1 => repeat (first | exact (Kd.C_below HR0.out HB.out) | (with_reducible refine Kd.C_alloc ?_ _) | (with_reducible refine Kd.C_drewN ?_ _) | (with_reducible refine Kd.C_drew ?_))); (case side2 => exact HC0.out); rintro e w24 ⟨v671, rfl, ho0, hb⟩; have n0_ := Aside0.mk (Kd.R_below (by (with_reducible repeat (first | apply Kd.R_alloc | apply Kd.R_drewN | apply Kd.R_drew)); exact HO658.out) hb); have n1_ := Aside0.mk (Kd.R_below (by (with_reducible repeat (first | apply Kd.R_alloc | apply Kd.R_drewN | apply Kd.R_drew)); exact HO664.out) hb); have n2_ := Aside0.mk (Kd.R_elder' (by (with_reducible repeat (first | apply Kd.R_alloc | apply Kd.R_drewN | apply Kd.R_drew)); exact HO669.out) (Kd.R_base ho0) hb); have n3_ := Aside0.mk (Kd.R_lower (Kd.R_new' ho0 (Kd.R_lt (by (with_reducible repeat (first | apply Kd.R_alloc | apply Kd.R_drewN | apply Kd.R_drew)); exact HO669.out))) (below_size (by repeat (first | (with_reducible first | exact HB.out | apply below_alloc | apply pw_below_drewN | apply below_drew1) | exact HB.out)))); have n4_ := Aside0.mk (below_step (by repeat (first | (with_reducible first | exact HB.out | apply below_alloc | apply pw_below_drewN | apply below_drew1) | exact HB.out)) hb); clear HO658; clear HO664; clear HO669; clear HB; have HO658 := n0_; have HO664 := n1_; have HO669 := n2_; have HO672 := n3_; have HB := n4_; clear n0_ n1_ n2_ n3_ n4_; (try clear hb); (try clear hb2); (try clear hk); (try clear hi); (try clear ho0); obtain ⟨Ao25, co25, eo25⟩ := Kd.R_slice HO669.out; subst eo25; obtain ⟨Ao26, co26, eo26⟩ := Kd.R_slice HO672.out; subst eo26) | (go_at_call 34; (with_reducible refine (lockstepref02_Rows.calls k _ _ t665 _ _ t670 true _ ?side1 ?side2 ?side3 ?side4 A17.out).mono ?_); (case side1 => repeat (first | exact (Kd.R_reads' HO669.out).2.2 | (with_reducible refine Kd.C_alloc ?_ _) | (with_reducible refine Kd.C_drewN ?_ _) | (with_reducible refine Kd.C_drew ?_))); (case side2 => exact (Kd.R_reads' HO669.out).2.1); (case side3 => repeat (first | exact (Kd.R_reads' HO672.out).2.2 | (with_reducible refine Kd.C_alloc ?_ _) | (with_reducible refine Kd.C_drewN ?_ _) | (with_reducible refine Kd.C_drew ?_))); (case side4 => exact (Kd.R_reads' HO672.out).2.1); rintro e w27 ⟨rfl, hb⟩; have n0_ := Aside0.mk (Kd.R_below (by (with_reducible repeat (first | apply Kd.R_alloc | apply Kd.R_drewN | apply Kd.R_drew)); exact HO658.out) hb); have n1_ := Aside0.mk (Kd.R_below (by (with_reducible repeat (first | apply Kd.R_alloc | apply Kd.R_drewN | apply Kd.R_drew)); exact HO664.out) hb); have n2_ := Aside0.mk (Kd.R_below (by (with_reducible repeat (first | apply Kd.R_alloc | apply Kd.R_drewN | apply Kd.R_drew)); exact HO669.out) hb); have n3_ := Aside0.mk (Kd.R_below (by (with_reducible repeat (first | apply Kd.R_alloc | apply Kd.R_drewN | apply Kd.R_drew)); exact HO672.out) hb); have n4_ := Aside0.mk (below_step (by repeat (first | (with_reducible first | exact HB.out | apply below_alloc | apply pw_below_drewN | apply below_drew1) | exact HB.out)) hb); clear HO658; clear HO664; clear HO669; clear HO672; clear HB; have HO658 := n0_; have HO664 := n1_; have HO669 := n2_; have HO672 := n3_; have HB := n4_; clear n0_ n1_ n2_ n3_ n4_; (try clear hb); (try clear hb2); (try clear hk); (try clear hi)))
        go_meet
        case rel => exact ⟨_, H', ⟨by first | omega | exact Nat.le_refl _⟩, ⟨by repeat (first | (with_reducible first | exact HB.out | apply below_alloc | apply pw_below_drewN | apply below_drew1) | exact HB.out)⟩⟩
       ·
        replace c18 := Bool.eq_false_iff.mpr c18
        subst c18
        have H1 : (some false) = some r := by rw [if_neg (show ¬ (false = true) by decide)] at H; exact H
        clear H
        have H := H1
        clear H1
        exact absurd (Option.some.inj H) (by rw [HR.out]; simp)
      ·
       rw [if_neg c15] at H
       have c15b0 : (t666 == (t655.length : Int)) = false := beq_eq_false_iff_ne.mpr c15
       have c15b1 : (t666 != (t655.length : Int)) = true := bne_iff_ne.mpr c15
       exact absurd (Option.some.inj H) (by rw [HR.out]; simp)
     ·
      rw [if_neg c14] at H
      have c14b0 : (t667 == 0) = false := beq_eq_false_iff_ne.mpr c14
      have c14b1 : (t667 != 0) = true := bne_iff_ne.mpr c14
      exact absurd (Option.some.inj H) (by rw [HR.out]; simp)
    ·
     rw [if_neg c12] at H
     exact absurd H (by simp)
   ·
    rw [if_neg c10] at H
    have c10b0 : (t656 == 0) = false := beq_eq_false_iff_ne.mpr c10
    have c10b1 : (t656 != 0) = true := bne_iff_ne.mpr c10
    (first | rw [c10b0] | (simp only [i64_w, i32_w]; rw [c10b0]) | skip)
    have H' := Aside0.mk H
    clear H
    go_wp2
    go_meet
    case rel => exact ⟨_, H', ⟨by first | omega | exact Nat.le_refl _⟩, ⟨by repeat (first | (with_reducible first | exact HB.out | apply below_alloc | apply pw_below_drewN | apply below_drew1) | exact HB.out)⟩⟩
  case rest =>
   clear HC7
   (try clear c1); (try clear c2); (try clear p2); (try clear c3); (try clear c5); (try clear c7); (try clear c10); (try clear c10b0); (try clear c10b1); (try clear c12); (try clear c14); (try clear c14b0); (try clear c14b1); (try clear c15); (try clear c15b0); (try clear c15b1); (try clear c17); (try clear c18); (try clear c23); (try clear c25)
   obtain ⟨kq, HA, HJ6, HB⟩ := hcut
   cases kq with
   | zero => exact absurd HA.out (by simp [locksteplaw02_RowcodeBack.j0])
   | succ kj6 =>
    have H := HA.out
    clear HA
    simp only [locksteplaw02_RowcodeBack.j0] at H
    have H' := Aside0.mk H
    clear H
    go_wp2
    go_loopg [12] kj6 (fun kq v12 w' => ∃ (x12_2 : Int), v12 = .int .i64 x12_2 ∧ Aside0 (locksteplaw02_RowcodeBack.l0 kq l0 l1 l2 t656 x12_2 = some r) ∧ Aside0 (kq ≤ kj6) ∧ Aside0 (Below w.heap.size w w'))
    case atStart => exact ⟨(0), (by first | rfl | (simp; done) | (simp [*]; done)), H', ⟨Nat.le_refl _⟩, ⟨by repeat (first | (with_reducible first | exact HB.out | apply below_alloc | apply pw_below_drewN | apply below_drew1) | exact HB.out)⟩⟩
    case round =>
     clear H'
     (try clear c1); (try clear c2); (try clear p2); (try clear c3); (try clear c5); (try clear c7); (try clear c10); (try clear c10b0); (try clear c10b1); (try clear c12); (try clear c14); (try clear c14b0); (try clear c14b1); (try clear c15); (try clear c15b0); (try clear c15b1); (try clear c17); (try clear c18); (try clear c23); (try clear c25); (try clear p2)
     obtain ⟨x12_2, rfl, HA, HK2, HB⟩ := hrel
     cases gk with
     | zero => exact absurd HA.out (by simp [locksteplaw02_RowcodeBack.l0])
     | succ k2 =>
      have H := HA.out
      clear HA
      simp only [locksteplaw02_RowcodeBack.l0] at H
      have HC28 := Aside0.mk H
      clear H
      go_upto_region 9 with (fail)
      go_cut [63] (fun v63 wc => ∃ (kq : Nat) (x63_27 : Bool), v63 = .bool x63_27 ∧ Aside0 (locksteplaw02_RowcodeBack.j2 kq l0 l1 l2 t656 x12_2 x63_27 = some r) ∧ Aside0 (kq ≤ k2) ∧ Aside0 (Below w.heap.size w wc))
      case first =>
       have H := HC28.out
       clear HC28
       by_cases c29 : x12_2 < (l0.length : Int)
       ·
        rw [if_pos c29] at H
        have c29b0 : decide (x12_2 < (l0.length : Int)) = true := decide_eq_true c29
        clear c29
        (first | rw [c29b0] | (simp only [i64_w, i32_w]; rw [c29b0]) | skip)
        have H' := Aside0.mk H
        clear H
        go_wp2
        go_meet
        case rel => exact ⟨_, ((t656 == 0)), (by first | with_reducible rfl | (simp; done) | (simp [*]; done) | rfl), H', ⟨by have := HJ6.out; have := HK2.out; first | omega | exact Nat.le_refl _⟩, ⟨by repeat (first | (with_reducible first | exact HB.out | apply below_alloc | apply pw_below_drewN | apply below_drew1) | exact HB.out)⟩⟩
       ·
        rw [if_neg c29] at H
        have c29b0 : decide (x12_2 < (l0.length : Int)) = false := decide_eq_false c29
        clear c29
        (first | rw [c29b0] | (simp only [i64_w, i32_w]; rw [c29b0]) | skip)
        have H' := Aside0.mk H
        clear H
        go_wp2
        go_meet
        case rel => exact ⟨_, (false), (by first | with_reducible rfl | (simp; done) | (simp [*]; done) | rfl), H', ⟨by have := HJ6.out; have := HK2.out; first | omega | exact Nat.le_refl _⟩, ⟨by repeat (first | (with_reducible first | exact HB.out | apply below_alloc | apply pw_below_drewN | apply below_drew1) | exact HB.out)⟩⟩
      case rest =>
       clear HC28
       (try clear c1); (try clear c2); (try clear p2); (try clear c3); (try clear c5); (try clear c7); (try clear c10); (try clear c10b0); (try clear c10b1); (try clear c12); (try clear c14); (try clear c14b0); (try clear c14b1); (try clear c15); (try clear c15b0); (try clear c15b1); (try clear c17); (try clear c18); (try clear c23); (try clear c25); (try clear c29); (try clear c29b0); (try clear p2)
       obtain ⟨kq, x63_27, rfl, HA, HJ27, HB⟩ := hcut
       cases kq with
       | zero => exact absurd HA.out (by simp [locksteplaw02_RowcodeBack.j2])
       | succ kj27 =>
        have H := HA.out
        clear HA
        simp only [locksteplaw02_RowcodeBack.j2] at H
        by_cases c30 : x63_27 = true
        ·
         subst c30
         have H1 : (if 0 ≤ x12_2 then (if x12_2 < (l0.length : Int) then ((rowcode_Value.f kj27 ((rd_T42 l0 x12_2).f0) ((rd_T42 l0 x12_2).f1) ((rd_T42 l0 x12_2).f2)).bind fun bt675 => ((locksteplaw02_own.f bt675.1).bind fun t679 => (if t679.length + l1.length < 175921860444160 then ((rowcode_Read.f kj27 (t679 ++ l1)).bind fun bt685 => (if bt675.2 = 0 then (if bt685.2.2.2.2 = 0 then (if bt685.2.2.2.1 = (bt675.1.length : Int) then ((lockstepref02_Plain.f kj27 ((rd_T42 l0 x12_2).f0) ((rd_T42 l0 x12_2).f1) ((rd_T42 l0 x12_2).f2)).bind fun bt692 => ((lockstepref02_Same.f bt685.1 bt685.2.1 bt685.2.2.1 bt692.1 bt692.2.1 bt692.2.2).bind fun t695 => (if t695 = true then (locksteplaw02_RowcodeBack.l0 kj27 l0 l1 l2 t656 (wrap64 (x12_2 + 1))) else (some false)))) else (some false)) else (some false)) else (some false))) else (none)))) else (none)) else (none)) = some r := by rw [if_pos rfl] at H; exact H
         clear H
         have H := H1
         clear H1
         by_cases c31 : 0 ≤ x12_2
         ·
          rw [if_pos c31] at H
          have c31b0 : decide (0 ≤ x12_2) = true := decide_eq_true c31
          clear c31
          by_cases c32 : x12_2 < (l0.length : Int)
          ·
           rw [if_pos c32] at H
           have c32b0 : decide (x12_2 < (l0.length : Int)) = true := decide_eq_true c32
           clear c32
           replace H := Option.bind_eq_some_iff.mp H
           obtain ⟨⟨t675, t678⟩, A330, H⟩ := H
           replace H : ((locksteplaw02_own.f t675).bind fun t679 => (if t679.length + l1.length < 175921860444160 then ((rowcode_Read.f kj27 (t679 ++ l1)).bind fun bt685 => (if t678 = 0 then (if bt685.2.2.2.2 = 0 then (if bt685.2.2.2.1 = (t675.length : Int) then ((lockstepref02_Plain.f kj27 ((rd_T42 l0 x12_2).f0) ((rd_T42 l0 x12_2).f1) ((rd_T42 l0 x12_2).f2)).bind fun bt692 => ((lockstepref02_Same.f bt685.1 bt685.2.1 bt685.2.2.1 bt692.1 bt692.2.1 bt692.2.2).bind fun t695 => (if t695 = true then (locksteplaw02_RowcodeBack.l0 kj27 l0 l1 l2 t656 (wrap64 (x12_2 + 1))) else (some false)))) else (some false)) else (some false)) else (some false))) else (none))) = some r := H
           have A33 := Aside0.mk A330
           clear A330
           replace H := Option.bind_eq_some_iff.mp H
           obtain ⟨t679, A340, H⟩ := H
           replace H : (if t679.length + l1.length < 175921860444160 then ((rowcode_Read.f kj27 (t679 ++ l1)).bind fun bt685 => (if t678 = 0 then (if bt685.2.2.2.2 = 0 then (if bt685.2.2.2.1 = (t675.length : Int) then ((lockstepref02_Plain.f kj27 ((rd_T42 l0 x12_2).f0) ((rd_T42 l0 x12_2).f1) ((rd_T42 l0 x12_2).f2)).bind fun bt692 => ((lockstepref02_Same.f bt685.1 bt685.2.1 bt685.2.2.1 bt692.1 bt692.2.1 bt692.2.2).bind fun t695 => (if t695 = true then (locksteplaw02_RowcodeBack.l0 kj27 l0 l1 l2 t656 (wrap64 (x12_2 + 1))) else (some false)))) else (some false)) else (some false)) else (some false))) else (none)) = some r := H
           have A34 := Aside0.mk A340
           clear A340
           by_cases c35 : t679.length + l1.length < 175921860444160
           ·
            rw [if_pos c35] at H
            have LMc35 := Aside0.mk c35
            clear c35
            obtain ⟨y682, hy682⟩ : ∃ y_ : List Int, y_ = (t679 ++ l1) := ⟨_, rfl⟩
            replace H : ((rowcode_Read.f kj27 y682).bind fun bt685 => (if t678 = 0 then (if bt685.2.2.2.2 = 0 then (if bt685.2.2.2.1 = (t675.length : Int) then ((lockstepref02_Plain.f kj27 ((rd_T42 l0 x12_2).f0) ((rd_T42 l0 x12_2).f1) ((rd_T42 l0 x12_2).f2)).bind fun bt692 => ((lockstepref02_Same.f bt685.1 bt685.2.1 bt685.2.2.1 bt692.1 bt692.2.1 bt692.2.2).bind fun t695 => (if t695 = true then (locksteplaw02_RowcodeBack.l0 kj27 l0 l1 l2 t656 (wrap64 (x12_2 + 1))) else (some false)))) else (some false)) else (some false)) else (some false))) = some r := by first | (rw [hy682]; with_reducible exact H) | (have H2_ := (Option.bind_some _ _).symm.trans H; rw [hy682]; with_reducible exact H2_) | (have H2_ := (Option.bind_some _ _).symm.trans H; with_reducible exact H2_) | with_reducible exact H | (rw [hy682]; exact H) | exact H
            have Ny682 := Aside0.mk hy682
            clear hy682
            replace H := Option.bind_eq_some_iff.mp H
            obtain ⟨⟨t685, t686, t687, t688, t689⟩, A360, H⟩ := H
            replace H : (if t678 = 0 then (if t689 = 0 then (if t688 = (t675.length : Int) then ((lockstepref02_Plain.f kj27 ((rd_T42 l0 x12_2).f0) ((rd_T42 l0 x12_2).f1) ((rd_T42 l0 x12_2).f2)).bind fun bt692 => ((lockstepref02_Same.f t685 t686 t687 bt692.1 bt692.2.1 bt692.2.2).bind fun t695 => (if t695 = true then (locksteplaw02_RowcodeBack.l0 kj27 l0 l1 l2 t656 (wrap64 (x12_2 + 1))) else (some false)))) else (some false)) else (some false)) else (some false)) = some r := H
            have A36 := Aside0.mk A360
            clear A360
            by_cases c37 : t678 = 0
            ·
             rw [if_pos c37] at H
             have c37b0 : (t678 == 0) = true := beq_iff_eq.mpr c37
             have c37b1 : (t678 != 0) = false := bne_eq_false_iff_eq.mpr c37
             clear c37
             by_cases c38 : t689 = 0
             ·
              rw [if_pos c38] at H
              have c38b0 : (t689 == 0) = true := beq_iff_eq.mpr c38
              have c38b1 : (t689 != 0) = false := bne_eq_false_iff_eq.mpr c38
              clear c38
              by_cases c39 : t688 = (t675.length : Int)
              ·
               rw [if_pos c39] at H
               have c39b0 : (t688 == (t675.length : Int)) = true := beq_iff_eq.mpr c39
               have c39b1 : (t688 != (t675.length : Int)) = false := bne_eq_false_iff_eq.mpr c39
               clear c39
               replace H := Option.bind_eq_some_iff.mp H
               obtain ⟨⟨t692, t693, t694⟩, A400, H⟩ := H
               replace H : ((lockstepref02_Same.f t685 t686 t687 t692 t693 t694).bind fun t695 => (if t695 = true then (locksteplaw02_RowcodeBack.l0 kj27 l0 l1 l2 t656 (wrap64 (x12_2 + 1))) else (some false))) = some r := H
               have A40 := Aside0.mk A400
               clear A400
               replace H := Option.bind_eq_some_iff.mp H
               obtain ⟨t695, A410, H⟩ := H
               replace H : (if t695 = true then (locksteplaw02_RowcodeBack.l0 kj27 l0 l1 l2 t656 (wrap64 (x12_2 + 1))) else (some false)) = some r := H
               have A41 := Aside0.mk A410
               clear A410
               by_cases c42 : t695 = true
               ·
                subst c42
                have H1 : (locksteplaw02_RowcodeBack.l0 kj27 l0 l1 l2 t656 (wrap64 (x12_2 + 1))) = some r := by rw [if_pos rfl] at H; exact H
                clear H
                have H := H1
                clear H1
                have H' := Aside0.mk H
                clear H
                have p674 : 0 ≤ (x12_2 : Int) := of_decide_eq_true (by first | (with_reducible assumption) | assumption)
                have q674 : x12_2 < (l0.length : Int) := of_decide_eq_true (by first | (with_reducible assumption) | assumption)
                obtain ⟨ad674, e674, hx674_0, hx674_1, hx674_2⟩ := at_T42 HR0.out x12_2 p674 q674
                cases e674
                replace hx674_0 := (HB.out.cell (World.block_lt_of_cell? w _ hx674_0)).trans hx674_0
                replace hx674_1 := (HB.out.cell (World.block_lt_of_cell? w _ hx674_1)).trans hx674_1
                replace hx674_2 := (HB.out.cell (World.block_lt_of_cell? w _ hx674_2)).trans hx674_2
                replace p674 := eq_true p674
                replace q674 := eq_true q674
                try go_wp2_with (first | ((with_reducible refine gate_callee (f := 18) rfl ?_); refine goesL_ (some 71) rfl rfl Tryd.func18 (by kernel_rfl) rfl #[.agg #[.int .i64 ((rd_T42 l0 x12_2).f0), .int .i64 ((rd_T42 l0 x12_2).f1), .string ((rd_T42 l0 x12_2).f2)]] rfl (by (try simp only [List.map_toArray, List.map_cons, List.map_nil]); first | done | rfl | (simp only [List.length_drop, List.length_take]; rfl)) ?_; (with_reducible refine (rowcode_Value.calls kj27 ((rd_T42 l0 x12_2).f0) ((rd_T42 l0 x12_2).f1) ((rd_T42 l0 x12_2).f2) t675 t678 _ ?side1 A33.out).mono ?_); (case side1 => exact Tabs.below HT.out (by repeat (first | (with_reducible first | exact HB.out | apply below_alloc | apply pw_below_drewN | apply below_drew1) | exact HB.out))); rintro e w43 ⟨v676, rfl, ho0, hb⟩; refine ⟨_, rfl, ?_⟩; have n0_ := Aside0.mk (Kd.R_lower ho0 (below_size (by repeat (first | (with_reducible first | exact HB.out | apply below_alloc | apply pw_below_drewN | apply below_drew1) | exact HB.out)))); have n1_ := Aside0.mk (below_step (by repeat (first | (with_reducible first | exact HB.out | apply below_alloc | apply pw_below_drewN | apply below_drew1) | exact HB.out)) hb); clear HB; have HO677 := n0_; have HB := n1_; clear n0_ n1_; (try clear hb); (try clear hb2); (try clear hk); (try clear hi); (try clear ho0); obtain ⟨Ao44, co44, eo44⟩ := Kd.R_slice HO677.out; subst eo44) | ((with_reducible refine gate_callee (f := 25) rfl ?_); refine goesL_ (some 76) rfl rfl Tryd.func25 (by kernel_rfl) rfl #[.slice Ao44 t675.length co44] rfl (by (try simp only [List.map_toArray, List.map_cons, List.map_nil]); first | done | rfl | (simp only [List.length_drop, List.length_take]; rfl)) ?_; (with_reducible refine (locksteplaw02_own.calls _ _ t675 t679 _ ?side1 ?side2 A34.out).mono ?_); (case side1 => repeat (first | exact (Kd.R_reads' HO677.out).2.2 | (with_reducible refine Kd.C_alloc ?_ _) | (with_reducible refine Kd.C_drewN ?_ _) | (with_reducible refine Kd.C_drew ?_))); (case side2 => exact (Kd.R_reads' HO677.out).2.1); rintro e w45 ⟨v680, rfl, ho0, hb⟩; refine ⟨_, rfl, ?_⟩; have n0_ := Aside0.mk (Kd.R_elder' (by (with_reducible repeat (first | apply Kd.R_alloc | apply Kd.R_drewN | apply Kd.R_drew)); exact HO677.out) (Kd.R_base ho0) hb); have n1_ := Aside0.mk (Kd.R_lower (Kd.R_new' ho0 (Kd.R_lt (by (with_reducible repeat (first | apply Kd.R_alloc | apply Kd.R_drewN | apply Kd.R_drew)); exact HO677.out))) (below_size (by repeat (first | (with_reducible first | exact HB.out | apply below_alloc | apply pw_below_drewN | apply below_drew1) | exact HB.out)))); have n2_ := Aside0.mk (below_step (by repeat (first | (with_reducible first | exact HB.out | apply below_alloc | apply pw_below_drewN | apply below_drew1) | exact HB.out)) hb); clear HO677; clear HB; have HO677 := n0_; have HO681 := n1_; have HB := n2_; clear n0_ n1_ n2_; (try clear hb); (try clear hb2); (try clear hk); (try clear hi); (try clear ho0)) | ((with_reducible refine gate_builtin (b := .append) (xs := #[.tmp 76, .tmp 77]) rfl ?_); (try (refine gate_guard (by rfl) ?_; dsimp only)); at_builtin; refine Kd.R_append_rowsL (Kd.int .u8) (w0 := w) w.heap.size rfl (.tmp 76) (.tmp 77) 47 5 (.int .u8 0) 1 rfl Tryd.underlying47 info5 rfl (by decide) (by omega) v680 t679 l1 _ _ _ (fun k_ => some k_ ≠ (.slice Ao44 t675.length co44 : Value).ownBlock) (fun _ => False) rfl rfl ?aO ?aR (fun _ _ h => h) (fun _ h => h.elim) ?aF ?aB ?aS ?aL ?_; (case aR => repeat (first | exact (Kd.C_below HR1.out HB.out) | (with_reducible refine Kd.C_alloc ?_ _) | (with_reducible refine Kd.C_drewN ?_ _) | (with_reducible refine Kd.C_drew ?_))); (case aB => exact (by repeat (first | (with_reducible first | exact HB.out | apply below_alloc | apply pw_below_drewN | apply below_drew1) | exact HB.out))); (case aF => exact (fun k_ hk => Kd.fresh' (Kd.R_lt (by (with_reducible repeat (first | apply Kd.R_alloc | apply Kd.R_drewN | apply Kd.R_drew)); exact HO677.out)) k_ hk)); (case aO => exact (by (with_reducible repeat (first | apply Kd.R_alloc | apply Kd.R_drewN | apply Kd.R_drew)); exact Kd.R_mono HO681.out (fun _ hk => hk.2))); (case aS => exact (below_size (by repeat (first | (with_reducible first | exact HB.out | apply below_alloc | apply pw_below_drewN | apply below_drew1) | exact HB.out)))); (case aL => have := LMc35.out; omega); intro v683 w46 ho hb hg hat; rw [← Ny682.out] at ho; have n0_ := Aside0.mk (Kd.R_after (ok := (fun _ => True)) (by (with_reducible repeat (first | apply Kd.R_alloc | apply Kd.R_drewN | apply Kd.R_drew)); exact HO677.out) hg hat); have n1_ := Aside0.mk (hb); have n2_ := Aside0.mk (ho); clear HO677; clear HB; clear HO681; have HO677 := n0_; have HB := n1_; have HO684 := n2_; clear n0_ n1_ n2_; clear ho hb hg hat; obtain ⟨Ao47, co47, eo47⟩ := Kd.R_slice HO684.out; subst eo47) | ((with_reducible refine gate_callee (f := 27) rfl ?_); refine goesL_ (some 79) rfl rfl Tryd.func27 (by kernel_rfl) rfl #[.slice Ao47 y682.length co47] rfl (by (try simp only [List.map_toArray, List.map_cons, List.map_nil]); first | done | rfl | (simp only [List.length_drop, List.length_take]; rfl)) ?_; (with_reducible refine (rowcode_Read.calls kj27 _ _ y682 t685 t686 t687 t688 t689 _ ?side1 ?side2 ?side3 A36.out).mono ?_); (case side1 => exact Tabs.below HT.out (by repeat (first | (with_reducible first | exact HB.out | apply below_alloc | apply pw_below_drewN | apply below_drew1) | exact HB.out))); (case side2 => repeat (first | exact (Kd.R_reads' HO684.out).2.2 | (with_reducible refine Kd.C_alloc ?_ _) | (with_reducible refine Kd.C_drewN ?_ _) | (with_reducible refine Kd.C_drew ?_))); (case side3 => exact (Kd.R_reads' HO684.out).2.1); rintro e w48 ⟨rfl, hb⟩; refine ⟨_, rfl, ?_⟩; have n0_ := Aside0.mk (Kd.R_below (by (with_reducible repeat (first | apply Kd.R_alloc | apply Kd.R_drewN | apply Kd.R_drew)); exact HO677.out) hb); have n1_ := Aside0.mk (Kd.R_below (by (with_reducible repeat (first | apply Kd.R_alloc | apply Kd.R_drewN | apply Kd.R_drew)); exact HO684.out) hb); have n2_ := Aside0.mk (below_step (by repeat (first | (with_reducible first | exact HB.out | apply below_alloc | apply pw_below_drewN | apply below_drew1) | exact HB.out)) hb); clear HO677; clear HO684; clear HB; have HO677 := n0_; have HO684 := n1_; have HB := n2_; clear n0_ n1_ n2_; (try clear hb); (try clear hb2); (try clear hk); (try clear hi)) | ((with_reducible refine gate_dst (N := 15) rfl ?_); (try (refine gate_guard (by rfl) ?_; dsimp only)); refine box_event ?hg (N := 15) ?hd (cs := #[.int .i64 0, .int .i64 0, .string (⟨#[]⟩ : ByteArray)]) (t := 42) ?hr ?_; (case hd => rfl); (case hg => rfl); (case hr => first | (go_simp; done) | (go_simp; rfl)); intro gb690 hg w49 hbox hb; have n0_ := Aside0.mk (Kd.R_below (by (with_reducible repeat (first | apply Kd.R_alloc | apply Kd.R_drewN | apply Kd.R_drew)); exact HO677.out) hb); have n1_ := Aside0.mk (Kd.R_below (by (with_reducible repeat (first | apply Kd.R_alloc | apply Kd.R_drewN | apply Kd.R_drew)); exact HO684.out) hb); have n2_ := Aside0.mk (below_step (by repeat (first | (with_reducible first | exact HB.out | apply below_alloc | apply pw_below_drewN | apply below_drew1) | exact HB.out)) hb); have n3_ := Aside0.mk (hbox); have n4_ := Aside0.mk ((by rw [hg]; exact (below_size (by repeat (first | (with_reducible first | exact HB.out | apply below_alloc | apply pw_below_drewN | apply below_drew1) | exact HB.out))) : w.heap.size ≤ gb690)); have n5_ := Aside0.mk ((by rw [hg]; exact (below_size (by repeat (first | (with_reducible first | exact HB.out | apply below_alloc | apply pw_below_drewN | apply below_drew1) | exact HB.out))) : w.heap.size ≤ gb690)); clear HO677; clear HO684; clear HB; have HO677 := n0_; have HO684 := n1_; have HB := n2_; have BK690 := n3_; have GW690 := n4_; have GE690 := n5_; clear n0_ n1_ n2_ n3_ n4_ n5_; clear hb hbox hg; have hcz50_0 : w49.cell? ⟨gb690, 0, none⟩ = some (.int .i64 0) := (blk_cell BK690.out 0).trans rfl; have hcz50_1 : w49.cell? ⟨gb690, 1, none⟩ = some (.int .i64 0) := (blk_cell BK690.out 1).trans rfl; have hcz50_2 : w49.cell? ⟨gb690, 2, none⟩ = some (.string (⟨#[]⟩ : ByteArray)) := (blk_cell BK690.out 2).trans rfl; have hfz50_0 := blk_frozen BK690.out 0; have hfz50_1 := blk_frozen BK690.out 1; have hfz50_2 := blk_frozen BK690.out 2))
                have n0_ : Aside0 (Kd.R (Kd.int .u8) 5 (((w49.setCell ⟨gb690, 0, none⟩ (.int .i64 t685)).setCell ⟨gb690, 1, none⟩ (.int .i64 t686)).setCell ⟨gb690, 2, none⟩ (.string t687)) w.heap.size (fun k_ => some k_ ≠ (.slice Ao47 y682.length co47 : Value).ownBlock) (.slice Ao44 t675.length co44) t675) := ⟨by (with_reducible repeat (first | apply Kd.R_alloc | apply Kd.R_drewN | apply Kd.R_drew)); exact Kd.R_mono (Kd.R_far (p := ⟨gb690, 2, none⟩) (Kd.R_far (p := ⟨gb690, 1, none⟩) (Kd.R_far (p := ⟨gb690, 0, none⟩) (Kd.R_types HO677.out BK690.out (by decide)) (fun _ hk => hk.2) (.int .i64 t685)) (fun _ hk => hk.2) (.int .i64 t686)) (fun _ hk => hk.2) (.string t687)) (fun _ hk => hk.1.2)⟩
                have n1_ : Aside0 (Kd.R (Kd.int .u8) 5 (((w49.setCell ⟨gb690, 0, none⟩ (.int .i64 t685)).setCell ⟨gb690, 1, none⟩ (.int .i64 t686)).setCell ⟨gb690, 2, none⟩ (.string t687)) w.heap.size (fun k_ => some k_ ≠ (.slice Ao44 t675.length co44 : Value).ownBlock) (.slice Ao47 y682.length co47) y682) := ⟨by (with_reducible repeat (first | apply Kd.R_alloc | apply Kd.R_drewN | apply Kd.R_drew)); exact Kd.R_mono (Kd.R_far (p := ⟨gb690, 2, none⟩) (Kd.R_far (p := ⟨gb690, 1, none⟩) (Kd.R_far (p := ⟨gb690, 0, none⟩) (Kd.R_types HO684.out BK690.out (by decide)) (fun _ hk => hk.2) (.int .i64 t685)) (fun _ hk => hk.2) (.int .i64 t686)) (fun _ hk => hk.2) (.string t687)) (fun _ hk => hk.1)⟩
                have n2_ : Aside0 ((((w49.setCell ⟨gb690, 0, none⟩ (.int .i64 t685)).setCell ⟨gb690, 1, none⟩ (.int .i64 t686)).setCell ⟨gb690, 2, none⟩ (.string t687)).heap[gb690]? = some (.cells #[.int .i64 t685, .int .i64 t686, .string t687] 42 (0, 0))) := ⟨by (with_reducible repeat (first | refine blk_drewN ?_ _ | refine blk_drew ?_ | refine blk_alloc ?_ _)); refine blk_put (cs := #[.int .i64 t685, .int .i64 t686, .string (⟨#[]⟩ : ByteArray)]) ?_ 2 _ rfl; (with_reducible repeat (first | refine blk_drewN ?_ _ | refine blk_drew ?_ | refine blk_alloc ?_ _)); refine blk_put (cs := #[.int .i64 t685, .int .i64 0, .string (⟨#[]⟩ : ByteArray)]) ?_ 1 _ rfl; (with_reducible repeat (first | refine blk_drewN ?_ _ | refine blk_drew ?_ | refine blk_alloc ?_ _)); refine blk_put (cs := #[.int .i64 0, .int .i64 0, .string (⟨#[]⟩ : ByteArray)]) ?_ 0 _ rfl; (with_reducible repeat (first | refine blk_drewN ?_ _ | refine blk_drew ?_ | refine blk_alloc ?_ _)); exact BK690.out⟩
                have n3_ : Aside0 (Below w.heap.size w (((w49.setCell ⟨gb690, 0, none⟩ (.int .i64 t685)).setCell ⟨gb690, 1, none⟩ (.int .i64 t686)).setCell ⟨gb690, 2, none⟩ (.string t687))) := ⟨by repeat (first | (with_reducible first | exact HB.out | apply below_alloc | apply pw_below_drewN | apply below_drew1 | refine below_set ?_ GE690.out) | exact HB.out)⟩
                (try clear HO677)
                (try clear HO684)
                (try clear BK690)
                (try clear HB)
                generalize (((w49.setCell ⟨gb690, 0, none⟩ (.int .i64 t685)).setCell ⟨gb690, 1, none⟩ (.int .i64 t686)).setCell ⟨gb690, 2, none⟩ (.string t687)) = w51 at n0_ n1_ n2_ n3_ ⊢
                have HO677 := n0_
                have HO684 := n1_
                have BK690 := n2_
                have HB := n3_
                clear n0_ n1_ n2_ n3_
                have n0_ := Aside0.mk (Kd.R_drew HO677.out)
                have n1_ := Aside0.mk (Kd.R_drew HO684.out)
                have n2_ := Aside0.mk (blk_drew BK690.out)
                have n3_ := Aside0.mk (below_drew1 HB.out)
                clear HO677
                clear HO684
                clear BK690
                clear HB
                have HO677 := n0_
                have HO684 := n1_
                have BK690 := n2_
                have HB := n3_
                clear n0_ n1_ n2_ n3_
                have p691 : 0 ≤ (x12_2 : Int) := of_decide_eq_true (by first | (with_reducible assumption) | assumption)
                have q691 : x12_2 < (l0.length : Int) := of_decide_eq_true (by first | (with_reducible assumption) | assumption)
                obtain ⟨ad691, e691, hx691_0, hx691_1, hx691_2⟩ := at_T42 HR0.out x12_2 p691 q691
                have hw691_2 := hx691_2
                have hw691_1 := hx691_1
                have hw691_0 := hx691_0
                obtain rfl : ad674 = ad691 := (by injection e691)
                replace hx691_0 := (HB.out.cell (World.block_lt_of_cell? w _ hx691_0)).trans hx691_0
                replace hx691_1 := (HB.out.cell (World.block_lt_of_cell? w _ hx691_1)).trans hx691_1
                replace hx691_2 := (HB.out.cell (World.block_lt_of_cell? w _ hx691_2)).trans hx691_2
                replace p691 := eq_true p691
                replace q691 := eq_true q691
                refine start_ (n := 22) (S := fun w' => w'.cell? ⟨gb690, 0, none⟩ = some (.int .i64 t685) ∧ w'.cell? ⟨gb690, 1, none⟩ = some (.int .i64 t686) ∧ w'.cell? ⟨gb690, 2, none⟩ = some (.string t687) ∧ w'.cell? (ad674.add ((x12_2).toNat * 3)) = some (.int .i64 ((rd_T42 l0 x12_2).f0)) ∧ w'.cell? ⟨(ad674.add ((x12_2).toNat * 3)).block, (ad674.add ((x12_2).toNat * 3)).off + 1, none⟩ = some (.int .i64 ((rd_T42 l0 x12_2).f1)) ∧ w'.cell? ⟨(ad674.add ((x12_2).toNat * 3)).block, (ad674.add ((x12_2).toNat * 3)).off + 2, none⟩ = some (.string ((rd_T42 l0 x12_2).f2))) (ds := []) #[false, false, false, false, false, false, false, false, false, false, false, false, false, false, false, false, false, false, false, false, false, false] (by kernel_rfl) rfl rfl ⟨(blk_cell BK690.out 0).trans rfl, (blk_cell BK690.out 1).trans rfl, (blk_cell BK690.out 2).trans rfl, ((HB.out.cell (World.block_lt_of_cell? w _ hw691_0)).trans hw691_0), ((HB.out.cell (World.block_lt_of_cell? w _ hw691_1)).trans hw691_1), ((HB.out.cell (World.block_lt_of_cell? w _ hw691_2)).trans hw691_2)⟩ (fun hHeld => ?_); refine with_tabW locksteplaw02_RowcodeBack.tab13 locksteplaw02_RowcodeBack.bits13 (fun HT_ HW_ => ?_)
                generalize w51.drew = w52 at HO677 HO684 BK690 HB hx691_0 hx691_1 hx691_2 hHeld ⊢
                refine pure_ (i := 0) (N := some 83) (v := ?_) (a' := ?_) #[true, false, false, false, false, false, false, false, false, false, false, false, false, false, false, false, false, false, false, false, false, false] rfl rfl (any_of HT_.out (by kernel_rfl)) (fun _ _ _ h => h) (Or.inl ⟨by rfl, ?_⟩) ?_ ?_
                rotate_left
                ·
                 intro w'
                 go_simp
                 with_reducible rfl
                rotate_left
                ·
                 simp only [Act.put, List.setIfInBounds_toArray, List.set_cons_zero, List.set_cons_succ, i64_w, i32_w]
                 rfl
                refine pure_ (i := 1) (N := some 84) (v := ?_) (a' := ?_) #[true, true, false, false, false, false, false, false, false, false, false, false, false, false, false, false, false, false, false, false, false, false] rfl rfl (any_of HT_.out (by kernel_rfl)) (fun _ _ _ h => h) (Or.inl ⟨by rfl, ?_⟩) ?_ ?_
                rotate_left
                ·
                 intro w'
                 go_simp
                 with_reducible rfl
                rotate_left
                ·
                 simp only [Act.put, List.setIfInBounds_toArray, List.set_cons_zero, List.set_cons_succ, i64_w, i32_w]
                 rfl
                refine pure_ (i := 2) (N := some 85) (v := ?_) (a' := ?_) #[true, true, true, false, false, false, false, false, false, false, false, false, false, false, false, false, false, false, false, false, false, false] rfl rfl (any_of HT_.out (by kernel_rfl)) (fun _ _ _ h => h) (Or.inl ⟨by rfl, ?_⟩) ?_ ?_
                rotate_left
                ·
                 intro w'
                 go_simp
                 with_reducible rfl
                rotate_left
                ·
                 simp only [Act.put, List.setIfInBounds_toArray, List.set_cons_zero, List.set_cons_succ, i64_w, i32_w]
                 rfl
                refine pure_ (i := 3) (N := some 86) (v := ?_) (a' := ?_) #[true, true, true, true, false, false, false, false, false, false, false, false, false, false, false, false, false, false, false, false, false, false] rfl rfl (any_of HT_.out (by kernel_rfl)) (fun _ _ _ h => h) (Or.inl ⟨by rfl, ?_⟩) ?_ ?_
                rotate_left
                ·
                 intro w'
                 go_simp
                 with_reducible rfl
                rotate_left
                ·
                 simp only [Act.put, List.setIfInBounds_toArray, List.set_cons_zero, List.set_cons_succ, i64_w, i32_w]
                 rfl
                refine pure_ (i := 4) (N := some 87) (v := ?_) (a' := ?_) #[true, true, true, true, true, false, false, false, false, false, false, false, false, false, false, false, false, false, false, false, false, false] rfl rfl (any_of HT_.out (by kernel_rfl)) (fun _ _ _ h => h) (Or.inl ⟨by rfl, ?_⟩) ?_ ?_
                rotate_left
                ·
                 intro w'
                 go_simp
                 with_reducible rfl
                rotate_left
                ·
                 simp only [Act.put, List.setIfInBounds_toArray, List.set_cons_zero, List.set_cons_succ, i64_w, i32_w]
                 rfl
                refine pure_ (i := 5) (N := some 88) (v := ?_) (a' := ?_) #[true, true, true, true, true, true, false, false, false, false, false, false, false, false, false, false, false, false, false, false, false, false] rfl rfl (any_of HT_.out (by kernel_rfl)) (fun _ _ _ h => h) (Or.inl ⟨by rfl, ?_⟩) ?_ ?_
                rotate_left
                ·
                 intro w'
                 go_simp
                 with_reducible rfl
                rotate_left
                ·
                 simp only [Act.put, List.setIfInBounds_toArray, List.set_cons_zero, List.set_cons_succ, i64_w, i32_w]
                 rfl
                refine pure_ (i := 6) (N := some 89) (v := ?_) (a' := ?_) #[true, true, true, true, true, true, true, false, false, false, false, false, false, false, false, false, false, false, false, false, false, false] rfl rfl (any_of HT_.out (by kernel_rfl)) (fun _ _ _ h => h) (Or.inl ⟨by rfl, ?_⟩) ?_ ?_
                rotate_left
                ·
                 intro w'
                 go_simp
                 with_reducible rfl
                rotate_left
                ·
                 simp only [Act.put, List.setIfInBounds_toArray, List.set_cons_zero, List.set_cons_succ, i64_w, i32_w]
                 rfl
                refine pure_ (i := 7) (N := some 90) (v := ?_) (a' := ?_) #[true, true, true, true, true, true, true, true, false, false, false, false, false, false, false, false, false, false, false, false, false, false] rfl rfl (any_of HT_.out (by kernel_rfl)) (fun _ _ _ h => h) (Or.inl ⟨by rfl, ?_⟩) ?_ ?_
                rotate_left
                ·
                 intro w'
                 go_simp
                 with_reducible rfl
                rotate_left
                ·
                 simp only [Act.put, List.setIfInBounds_toArray, List.set_cons_zero, List.set_cons_succ, i64_w, i32_w]
                 rfl
                refine pure_ (i := 8) (N := some 91) (v := ?_) (a' := ?_) #[true, true, true, true, true, true, true, true, true, false, false, false, false, false, false, false, false, false, false, false, false, false] rfl rfl (any_of HT_.out (by kernel_rfl)) (fun _ _ _ h => h) (Or.inl ⟨by rfl, ?_⟩) ?_ ?_
                rotate_left
                ·
                 intro w'
                 go_simp
                 with_reducible rfl
                rotate_left
                ·
                 simp only [Act.put, List.setIfInBounds_toArray, List.set_cons_zero, List.set_cons_succ, i64_w, i32_w]
                 rfl
                refine pure_ (i := 9) (N := some 92) (v := ?_) (a' := ?_) #[true, true, true, true, true, true, true, true, true, true, false, false, false, false, false, false, false, false, false, false, false, false] rfl rfl (any_of HT_.out (by kernel_rfl)) (fun _ _ _ h => h) (Or.inl ⟨by rfl, ?_⟩) ?_ ?_
                rotate_left
                ·
                 intro w'
                 go_simp
                 with_reducible rfl
                rotate_left
                ·
                 simp only [Act.put, List.setIfInBounds_toArray, List.set_cons_zero, List.set_cons_succ, i64_w, i32_w]
                 rfl
                refine pure_ (i := 10) (N := some 93) (v := ?_) (a' := ?_) #[true, true, true, true, true, true, true, true, true, true, true, false, false, false, false, false, false, false, false, false, false, false] rfl rfl (any_of HT_.out (by kernel_rfl)) (fun _ _ _ h => h) (Or.inl ⟨by rfl, ?_⟩) ?_ ?_
                rotate_left
                ·
                 intro w'
                 go_simp
                 with_reducible rfl
                rotate_left
                ·
                 simp only [Act.put, List.setIfInBounds_toArray, List.set_cons_zero, List.set_cons_succ, i64_w, i32_w]
                 rfl
                refine pure_ (i := 11) (N := some 94) (v := ?_) (a' := ?_) #[true, true, true, true, true, true, true, true, true, true, true, true, false, false, false, false, false, false, false, false, false, false] rfl rfl (any_of HT_.out (by kernel_rfl)) (fun _ _ _ h => h) (Or.inl ⟨by rfl, ?_⟩) ?_ ?_
                rotate_left
                ·
                 intro w'
                 go_simp
                 with_reducible rfl
                rotate_left
                ·
                 simp only [Act.put, List.setIfInBounds_toArray, List.set_cons_zero, List.set_cons_succ, i64_w, i32_w]
                 rfl
                refine pure_ (i := 12) (N := some 95) (v := ?_) (a' := ?_) #[true, true, true, true, true, true, true, true, true, true, true, true, true, false, false, false, false, false, false, false, false, false] rfl rfl (any_of HT_.out (by kernel_rfl)) (fun _ _ _ h => h) (Or.inl ⟨by rfl, ?_⟩) ?_ ?_
                rotate_left
                ·
                 intro w'
                 go_simp
                 with_reducible rfl
                rotate_left
                ·
                 simp only [Act.put, List.setIfInBounds_toArray, List.set_cons_zero, List.set_cons_succ, i64_w, i32_w]
                 rfl
                refine pure_ (i := 14) (N := some 97) (v := ?_) (a' := ?_) #[true, true, true, true, true, true, true, true, true, true, true, true, true, false, true, false, false, false, false, false, false, false] rfl rfl (any_of HT_.out (by kernel_rfl)) (fun _ _ _ h => h) (Or.inl ⟨by rfl, ?_⟩) ?_ ?_
                rotate_left
                ·
                 intro w'
                 go_simp
                 with_reducible rfl
                rotate_left
                ·
                 simp only [Act.put, List.setIfInBounds_toArray, List.set_cons_zero, List.set_cons_succ, i64_w, i32_w]
                 rfl
                refine pure_ (i := 15) (N := some 98) (v := ?_) (a' := ?_) #[true, true, true, true, true, true, true, true, true, true, true, true, true, false, true, true, false, false, false, false, false, false] rfl rfl (any_of HT_.out (by kernel_rfl)) (fun _ _ _ h => h) (Or.inl ⟨by rfl, ?_⟩) ?_ ?_
                rotate_left
                ·
                 intro w'
                 go_simp
                 with_reducible rfl
                rotate_left
                ·
                 simp only [Act.put, List.setIfInBounds_toArray, List.set_cons_zero, List.set_cons_succ, i64_w, i32_w]
                 rfl
                refine pure_ (i := 16) (N := some 99) (v := ?_) (a' := ?_) #[true, true, true, true, true, true, true, true, true, true, true, true, true, false, true, true, true, false, false, false, false, false] rfl rfl (any_of HT_.out (by kernel_rfl)) (fun _ _ _ h => h) (Or.inl ⟨by rfl, ?_⟩) ?_ ?_
                rotate_left
                ·
                 intro w'
                 go_simp
                 with_reducible rfl
                rotate_left
                ·
                 simp only [Act.put, List.setIfInBounds_toArray, List.set_cons_zero, List.set_cons_succ, i64_w, i32_w]
                 rfl
                refine take_ (i := 13) (N := some 96) (v := ?_) (a' := ?_) #[true, true, true, true, true, true, true, true, true, true, true, true, true, true, true, true, true, false, false, false, false, false] rfl rfl (take_ofW HT_.out HW_.out (by kernel_rfl)) (fun _ _ _ h => h) (Or.inl ⟨by rfl, ?_⟩) hHeld ?_ ?_
                rotate_left
                ·
                 rintro w' ⟨s0, s1, s2, s3, s4, s5⟩
                 go_simp
                 with_reducible rfl
                rotate_left
                ·
                 simp only [Act.put, List.setIfInBounds_toArray, List.set_cons_zero, List.set_cons_succ, i64_w, i32_w]
                 rfl
                refine take_ (i := 17) (N := some 100) (v := ?_) (a' := ?_) #[true, true, true, true, true, true, true, true, true, true, true, true, true, true, true, true, true, true, false, false, false, false] rfl rfl (take_ofW HT_.out HW_.out (by kernel_rfl)) (fun _ _ _ h => h) (Or.inl ⟨by rfl, ?_⟩) hHeld ?_ ?_
                rotate_left
                ·
                 rintro w' ⟨s0, s1, s2, s3, s4, s5⟩
                 go_simp
                 with_reducible rfl
                rotate_left
                ·
                 simp only [Act.put, List.setIfInBounds_toArray, List.set_cons_zero, List.set_cons_succ, i64_w, i32_w]
                 rfl
                refine one_ (i := 18) (N := some 101) #[true, true, true, true, true, true, true, true, true, true, true, true, true, true, true, true, true, true, true, false, false, false] rfl rfl (one_of HT_.out (by kernel_rfl)) (by decide) (fun K hK => ?_)
                refine goes_ Tryd.func36 (by kernel_rfl) rfl #[.agg #[.int .i64 ((rd_T42 l0 x12_2).f0), .int .i64 ((rd_T42 l0 x12_2).f1), .string ((rd_T42 l0 x12_2).f2)]] (by rfl) rfl rfl (by (try simp only [List.map_toArray, List.map_cons, List.map_nil]); first | done | rfl | (simp only [List.length_drop, List.length_take]; rfl)) ?_
                with_reducible refine (lockstepref02_Plain.calls kj27 ((rd_T42 l0 x12_2).f0) ((rd_T42 l0 x12_2).f1) ((rd_T42 l0 x12_2).f2) t692 t693 t694 _ A40.out).mono ?_
                rintro e w53 ⟨rfl, hb⟩
                refine ⟨_, rfl, ?_⟩
                have n0_ := Aside0.mk (Kd.R_below (by (with_reducible repeat (first | apply Kd.R_alloc | apply Kd.R_drewN | apply Kd.R_drew)); exact HO677.out) hb)
                have n1_ := Aside0.mk (Kd.R_below (by (with_reducible repeat (first | apply Kd.R_alloc | apply Kd.R_drewN | apply Kd.R_drew)); exact HO684.out) hb)
                have n2_ := Aside0.mk (blk_below (g := gb690) (o := .cells #[.int .i64 t685, .int .i64 t686, .string t687] 42 (0, 0)) (by (with_reducible repeat (first | refine blk_drewN ?_ _ | refine blk_drew ?_ | refine blk_alloc ?_ _)); exact BK690.out) hb)
                have n3_ := Aside0.mk (below_step (by repeat (first | (with_reducible first | exact HB.out | apply below_alloc | apply pw_below_drewN | apply below_drew1 | refine below_set ?_ GE690.out) | exact HB.out)) hb)
                clear HO677
                clear HO684
                clear BK690
                clear HB
                have HO677 := n0_
                have HO684 := n1_
                have BK690 := n2_
                have HB := n3_
                clear n0_ n1_ n2_ n3_
                (try clear hb)
                (try clear hb2)
                (try clear hk)
                (try clear hi)
                refine hK.out _ _ ⟨(blk_cell BK690.out 0).trans rfl, (blk_cell BK690.out 1).trans rfl, (blk_cell BK690.out 2).trans rfl, ((HB.out.cell (World.block_lt_of_cell? w _ hw691_0)).trans hw691_0), ((HB.out.cell (World.block_lt_of_cell? w _ hw691_1)).trans hw691_1), ((HB.out.cell (World.block_lt_of_cell? w _ hw691_2)).trans hw691_2)⟩ (fun hHeld => ?_)
                clear hK K
                refine norm_ (a' := ?_) ?_ ?_
                rotate_left
                ·
                 show Act.put _ (some 101) _ = _
                 simp only [Act.put, List.setIfInBounds_toArray, List.set_cons_zero, List.set_cons_succ, i64_w, i32_w]
                 rfl
                refine one_ (i := 19) (N := some 102) #[true, true, true, true, true, true, true, true, true, true, true, true, true, true, true, true, true, true, true, true, false, false] rfl rfl (one_of HT_.out (by kernel_rfl)) (by decide) (fun K hK => ?_)
                refine goes_ Tryd.func30 (by kernel_rfl) rfl #[.agg #[.int .i64 t685, .int .i64 t686, .string t687], .agg #[.int .i64 t692, .int .i64 t693, .string t694]] (by rfl) rfl rfl (by (try simp only [List.map_toArray, List.map_cons, List.map_nil]); first | done | rfl | (simp only [List.length_drop, List.length_take]; rfl)) ?_
                with_reducible refine (lockstepref02_Same.calls t685 t686 t687 t692 t693 t694 true _ A41.out).mono ?_
                rintro e w54 ⟨rfl, hb⟩
                refine ⟨_, rfl, ?_⟩
                have n0_ := Aside0.mk (Kd.R_below (by (with_reducible repeat (first | apply Kd.R_alloc | apply Kd.R_drewN | apply Kd.R_drew)); exact HO677.out) hb)
                have n1_ := Aside0.mk (Kd.R_below (by (with_reducible repeat (first | apply Kd.R_alloc | apply Kd.R_drewN | apply Kd.R_drew)); exact HO684.out) hb)
                have n2_ := Aside0.mk (blk_below (g := gb690) (o := .cells #[.int .i64 t685, .int .i64 t686, .string t687] 42 (0, 0)) (by (with_reducible repeat (first | refine blk_drewN ?_ _ | refine blk_drew ?_ | refine blk_alloc ?_ _)); exact BK690.out) hb)
                have n3_ := Aside0.mk (below_step (by repeat (first | (with_reducible first | exact HB.out | apply below_alloc | apply pw_below_drewN | apply below_drew1 | refine below_set ?_ GE690.out) | exact HB.out)) hb)
                clear HO677
                clear HO684
                clear BK690
                clear HB
                have HO677 := n0_
                have HO684 := n1_
                have BK690 := n2_
                have HB := n3_
                clear n0_ n1_ n2_ n3_
                (try clear hb)
                (try clear hb2)
                (try clear hk)
                (try clear hi)
                refine hK.out _ _ ⟨(blk_cell BK690.out 0).trans rfl, (blk_cell BK690.out 1).trans rfl, (blk_cell BK690.out 2).trans rfl, ((HB.out.cell (World.block_lt_of_cell? w _ hw691_0)).trans hw691_0), ((HB.out.cell (World.block_lt_of_cell? w _ hw691_1)).trans hw691_1), ((HB.out.cell (World.block_lt_of_cell? w _ hw691_2)).trans hw691_2)⟩ (fun hHeld => ?_)
                clear hK K
                refine norm_ (a' := ?_) ?_ ?_
                rotate_left
                ·
                 show Act.put _ (some 102) _ = _
                 simp only [Act.put, List.setIfInBounds_toArray, List.set_cons_zero, List.set_cons_succ, i64_w, i32_w]
                 rfl
                refine pure_ (i := 20) (N := some 103) (v := ?_) (a' := ?_) #[true, true, true, true, true, true, true, true, true, true, true, true, true, true, true, true, true, true, true, true, true, false] rfl rfl (any_of HT_.out (by kernel_rfl)) (fun _ _ _ h => h) (Or.inl ⟨by rfl, ?_⟩) ?_ ?_
                rotate_left
                ·
                 intro w'
                 go_simp
                 with_reducible rfl
                rotate_left
                ·
                 simp only [Act.put, List.setIfInBounds_toArray, List.set_cons_zero, List.set_cons_succ, i64_w, i32_w]
                 rfl
                refine pure_ (i := 21) (N := some 104) (v := ?_) (a' := ?_) #[true, true, true, true, true, true, true, true, true, true, true, true, true, true, true, true, true, true, true, true, true, true] rfl rfl (any_of HT_.out (by kernel_rfl)) (fun _ _ _ h => h) (Or.inl ⟨by rfl, ?_⟩) ?_ ?_
                rotate_left
                ·
                 intro w'
                 go_simp
                 with_reducible rfl
                rotate_left
                ·
                 simp only [Act.put, List.setIfInBounds_toArray, List.set_cons_zero, List.set_cons_succ, i64_w, i32_w]
                 rfl
                refine done_ (done_of HT_.out (by kernel_rfl)) ?_
                try go_wp2
                go_roundg kj27
                case measure => have := HJ6.out; have := HK2.out; have := HJ27.out; omega
                case rel => exact ⟨(wrap64 (x12_2 + 1)), (by first | rfl | (simp; done) | (simp [*]; done)), H', ⟨by have := HJ6.out; have := HK2.out; have := HJ27.out; omega⟩, ⟨by repeat (first | (with_reducible first | exact HB.out | apply below_alloc | apply pw_below_drewN | apply below_drew1 | refine below_set ?_ GE690.out) | exact HB.out)⟩⟩
               ·
                replace c42 := Bool.eq_false_iff.mpr c42
                subst c42
                have H1 : (some false) = some r := by rw [if_neg (show ¬ (false = true) by decide)] at H; exact H
                clear H
                have H := H1
                clear H1
                exact absurd (Option.some.inj H) (by rw [HR.out]; simp)
              ·
               rw [if_neg c39] at H
               have c39b0 : (t688 == (t675.length : Int)) = false := beq_eq_false_iff_ne.mpr c39
               have c39b1 : (t688 != (t675.length : Int)) = true := bne_iff_ne.mpr c39
               exact absurd (Option.some.inj H) (by rw [HR.out]; simp)
             ·
              rw [if_neg c38] at H
              have c38b0 : (t689 == 0) = false := beq_eq_false_iff_ne.mpr c38
              have c38b1 : (t689 != 0) = true := bne_iff_ne.mpr c38
              exact absurd (Option.some.inj H) (by rw [HR.out]; simp)
            ·
             rw [if_neg c37] at H
             have c37b0 : (t678 == 0) = false := beq_eq_false_iff_ne.mpr c37
             have c37b1 : (t678 != 0) = true := bne_iff_ne.mpr c37
             exact absurd (Option.some.inj H) (by rw [HR.out]; simp)
           ·
            rw [if_neg c35] at H
            exact absurd H (by simp)
          ·
           rw [if_neg c32] at H
           exact absurd H (by simp)
         ·
          rw [if_neg c31] at H
          exact absurd H (by simp)
        ·
         replace c30 := Bool.eq_false_iff.mpr c30
         subst c30
         have H1 : ((locksteplaw02_own.f l2).bind fun t696 => ((rowcode_ReadRow.f kj27 t696).bind fun bt699 => (if bt699.2.2 = 0 then ((rowcode_Row.f kj27 bt699.1).bind fun bt704 => (if bt704.2 = 0 then (if bt699.2.1 ≥ 1 then (if bt699.2.1 ≤ (l2.length : Int) then (if 0 ≤ bt699.2.1 then (some ((strOfNums bt704.1).toList == (strOfNums (l2.take (bt699.2.1 : Int).toNat)).toList)) else (none)) else (some false)) else (some false)) else (some false))) else (if (bt699.1.length : Int) = 0 then (some (bt699.2.1 == 0)) else (some false))))) = some r := by rw [if_neg (show ¬ (false = true) by decide)] at H; exact H
         clear H
         have H := H1
         clear H1
         replace H := Option.bind_eq_some_iff.mp H
         obtain ⟨t696, A550, H⟩ := H
         replace H : ((rowcode_ReadRow.f kj27 t696).bind fun bt699 => (if bt699.2.2 = 0 then ((rowcode_Row.f kj27 bt699.1).bind fun bt704 => (if bt704.2 = 0 then (if bt699.2.1 ≥ 1 then (if bt699.2.1 ≤ (l2.length : Int) then (if 0 ≤ bt699.2.1 then (some ((strOfNums bt704.1).toList == (strOfNums (l2.take (bt699.2.1 : Int).toNat)).toList)) else (none)) else (some false)) else (some false)) else (some false))) else (if (bt699.1.length : Int) = 0 then (some (bt699.2.1 == 0)) else (some false)))) = some r := H
         have A55 := Aside0.mk A550
         clear A550
         replace H := Option.bind_eq_some_iff.mp H
         obtain ⟨⟨t699, t700, t701⟩, A560, H⟩ := H
         replace H : (if t701 = 0 then ((rowcode_Row.f kj27 t699).bind fun bt704 => (if bt704.2 = 0 then (if t700 ≥ 1 then (if t700 ≤ (l2.length : Int) then (if 0 ≤ t700 then (some ((strOfNums bt704.1).toList == (strOfNums (l2.take (t700 : Int).toNat)).toList)) else (none)) else (some false)) else (some false)) else (some false))) else (if (t699.length : Int) = 0 then (some (t700 == 0)) else (some false))) = some r := H
         have A56 := Aside0.mk A560
         clear A560
         by_cases c57 : t701 = 0
         ·
          rw [if_pos c57] at H
          have c57b0 : (t701 == 0) = true := beq_iff_eq.mpr c57
          have c57b1 : (t701 != 0) = false := bne_eq_false_iff_eq.mpr c57
          clear c57
          replace H := Option.bind_eq_some_iff.mp H
          obtain ⟨⟨t704, t705⟩, A580, H⟩ := H
          replace H : (if t705 = 0 then (if t700 ≥ 1 then (if t700 ≤ (l2.length : Int) then (if 0 ≤ t700 then (some ((strOfNums t704).toList == (strOfNums (l2.take (t700 : Int).toNat)).toList)) else (none)) else (some false)) else (some false)) else (some false)) = some r := H
          have A58 := Aside0.mk A580
          clear A580
          by_cases c59 : t705 = 0
          ·
           rw [if_pos c59] at H
           have c59b0 : (t705 == 0) = true := beq_iff_eq.mpr c59
           have c59b1 : (t705 != 0) = false := bne_eq_false_iff_eq.mpr c59
           clear c59
           by_cases c60 : t700 ≥ 1
           ·
            rw [if_pos c60] at H
            have c60b0 : decide (1 ≤ t700) = true := decide_eq_true c60
            clear c60
            by_cases c61 : t700 ≤ (l2.length : Int)
            ·
             rw [if_pos c61] at H
             have c61b0 : decide (t700 ≤ (l2.length : Int)) = true := decide_eq_true c61
             clear c61
             by_cases c62 : 0 ≤ t700
             ·
              rw [if_pos c62] at H
              have c62b0 := eq_true c62
              have c62b1 : decide (0 ≤ t700) = true := decide_eq_true c62
              clear c62
              have c63b0 := eq_true (of_decide_eq_true (by first | (with_reducible assumption) | assumption) : t700 ≤ (l2.length : Int))
              obtain rfl := Option.some.inj H
              try go_wp2_with (first | ((with_reducible refine gate_callee (f := 25) rfl ?_); refine goesL_ (some 107) rfl rfl Tryd.func25 (by kernel_rfl) rfl #[.slice A2 l2.length c2] rfl (by (try simp only [List.map_toArray, List.map_cons, List.map_nil]); first | done | rfl | (simp only [List.length_drop, List.length_take]; rfl)) ?_; (with_reducible refine (locksteplaw02_own.calls _ _ l2 t696 _ ?side1 ?side2 A55.out).mono ?_); (case side1 => repeat (first | exact (Kd.C_below HR2.out HB.out) | (with_reducible refine Kd.C_alloc ?_ _) | (with_reducible refine Kd.C_drewN ?_ _) | (with_reducible refine Kd.C_drew ?_))); (case side2 => exact HC2.out); rintro e w64 ⟨v697, rfl, ho0, hb⟩; refine ⟨_, rfl, ?_⟩; have n0_ := Aside0.mk (Kd.R_lower ho0 (below_size (by repeat (first | (with_reducible first | exact HB.out | apply below_alloc | apply pw_below_drewN | apply below_drew1) | exact HB.out)))); have n1_ := Aside0.mk (below_step (by repeat (first | (with_reducible first | exact HB.out | apply below_alloc | apply pw_below_drewN | apply below_drew1) | exact HB.out)) hb); clear HB; have HO698 := n0_; have HB := n1_; clear n0_ n1_; (try clear hb); (try clear hb2); (try clear hk); (try clear hi); (try clear ho0); obtain ⟨Ao65, co65, eo65⟩ := Kd.R_slice HO698.out; subst eo65) | ((with_reducible refine gate_callee (f := 33) rfl ?_); refine goesL_ (some 108) rfl rfl Tryd.func33 (by kernel_rfl) rfl #[.slice Ao65 t696.length co65] rfl (by (try simp only [List.map_toArray, List.map_cons, List.map_nil]); first | done | rfl | (simp only [List.length_drop, List.length_take]; rfl)) ?_; (with_reducible refine (rowcode_ReadRow.calls kj27 _ _ t696 t699 t700 t701 _ ?side1 ?side2 ?side3 A56.out).mono ?_); (case side1 => exact Tabs.below HT.out (by repeat (first | (with_reducible first | exact HB.out | apply below_alloc | apply pw_below_drewN | apply below_drew1) | exact HB.out))); (case side2 => repeat (first | exact (Kd.R_reads' HO698.out).2.2 | (with_reducible refine Kd.C_alloc ?_ _) | (with_reducible refine Kd.C_drewN ?_ _) | (with_reducible refine Kd.C_drew ?_))); (case side3 => exact (Kd.R_reads' HO698.out).2.1); rintro e w66 ⟨v702, rfl, ho0, hb⟩; refine ⟨_, rfl, ?_⟩; have n0_ := Aside0.mk (Kd.R_below (by (with_reducible repeat (first | apply Kd.R_alloc | apply Kd.R_drewN | apply Kd.R_drew)); exact HO698.out) hb); have n1_ := Aside0.mk (Kd.R_lower ho0 (below_size (by repeat (first | (with_reducible first | exact HB.out | apply below_alloc | apply pw_below_drewN | apply below_drew1) | exact HB.out)))); have n2_ := Aside0.mk (below_step (by repeat (first | (with_reducible first | exact HB.out | apply below_alloc | apply pw_below_drewN | apply below_drew1) | exact HB.out)) hb); clear HO698; clear HB; have HO698 := n0_; have HO703 := n1_; have HB := n2_; clear n0_ n1_ n2_; (try clear hb); (try clear hb2); (try clear hk); (try clear hi); (try clear ho0); obtain ⟨Ao67, co67, eo67⟩ := Kd.R_slice HO703.out; subst eo67) | ((with_reducible refine gate_callee (f := 23) rfl ?_); refine goesL_ (some 123) rfl rfl Tryd.func23 (by kernel_rfl) rfl #[.slice Ao67 t699.length co67] rfl (by (try simp only [List.map_toArray, List.map_cons, List.map_nil]); first | done | rfl | (simp only [List.length_drop, List.length_take]; rfl)) ?_; (with_reducible refine (rowcode_Row.calls kj27 _ _ t699 t704 t705 _ ?side1 ?side2 ?side3 A58.out).mono ?_); (case side1 => exact Tabs.below HT.out (by repeat (first | (with_reducible first | exact HB.out | apply below_alloc | apply pw_below_drewN | apply below_drew1) | exact HB.out))); (case side2 => repeat (first | exact (Kd.R_reads' HO703.out).2.2 | (with_reducible refine Kd.C_alloc ?_ _) | (with_reducible refine Kd.C_drewN ?_ _) | (with_reducible refine Kd.C_drew ?_))); (case side3 => exact (Kd.R_reads' HO703.out).2.1); rintro e w68 ⟨v706, rfl, ho0, hb⟩; refine ⟨_, rfl, ?_⟩; have n0_ := Aside0.mk (Kd.R_elder' (by (with_reducible repeat (first | apply Kd.R_alloc | apply Kd.R_drewN | apply Kd.R_drew)); exact HO698.out) (Kd.R_base ho0) hb); have n1_ := Aside0.mk (Kd.R_below (by (with_reducible repeat (first | apply Kd.R_alloc | apply Kd.R_drewN | apply Kd.R_drew)); exact HO703.out) hb); have n2_ := Aside0.mk (Kd.R_lower (Kd.R_new' ho0 (Kd.R_lt (by (with_reducible repeat (first | apply Kd.R_alloc | apply Kd.R_drewN | apply Kd.R_drew)); exact HO698.out))) (below_size (by repeat (first | (with_reducible first | exact HB.out | apply below_alloc | apply pw_below_drewN | apply below_drew1) | exact HB.out)))); have n3_ := Aside0.mk (below_step (by repeat (first | (with_reducible first | exact HB.out | apply below_alloc | apply pw_below_drewN | apply below_drew1) | exact HB.out)) hb); clear HO698; clear HO703; clear HB; have HO698 := n0_; have HO703 := n1_; have HO707 := n2_; have HB := n3_; clear n0_ n1_ n2_ n3_; (try clear hb); (try clear hb2); (try clear hk); (try clear hi); (try clear ho0)))
              obtain ⟨i070, hi070, _, hsz70, _⟩ := info_parts info5
              obtain ⟨hcut70, hA70, hC70⟩ := print_take_of (P := Tryd.prog) (Value.int .u8) 0 47 5 .i64 Tryd.underlying47 hi070 hsz70 A2 c2 l2 t700 (of_decide_eq_true (by first | (with_reducible assumption) | assumption)) (of_decide_eq_true (by first | (with_reducible assumption) | assumption)) HC2.out
              have HR708 := Aside0.mk (Kd.C_of_reads (h1 := fun _ => rfl) (hA70 _ (Kd.reads_of_C HR2.out)))
              have HC708 := Aside0.mk hC70
              clear hA70 hC70 hi070 hsz70
              have hcv71q := fun nq_ : Nat => own_string (P := Tryd.prog) Tryd.underlying47 Tryd.underlying5 Tryd.underlying9 (Kd.own_of_R (Kd.R_drewN HO707.out nq_))
              have hcv72q := fun nq_ : Nat => Kd.C_string (P := Tryd.prog) (A := A2) (c := c2) Tryd.underlying47 Tryd.underlying5 Tryd.underlying9 (Kd.C_drewN (Kd.C_below HR708.out HB.out) nq_)
              have hlen_ : (l2.take t700.toNat).length = t700.toNat := by rw [List.length_take]; have h_ : t700 ≤ (l2.length : Int) := of_decide_eq_true (by first | (with_reducible assumption) | assumption); omega
              have hcv72m := hcv72q
              simp only [hlen_] at hcv72m
              clear hlen_
              (with_reducible refine at_region ?_)
              go_quiet (fail)
              try go_wp2
              go_ret
              exact ⟨by first | rfl | (simp [errW_none, errW_some] <;> rfl) | (simp [*, errW_none, errW_some] <;> rfl), by repeat (first | (with_reducible first | exact HB.out | apply below_alloc | apply pw_below_drewN | apply below_drew1) | exact HB.out)⟩
             ·
              rw [if_neg c62] at H
              exact absurd H (by simp)
            ·
             rw [if_neg c61] at H
             have c61b0 : decide (t700 ≤ (l2.length : Int)) = false := decide_eq_false c61
             clear c61
             exact absurd (Option.some.inj H) (by rw [HR.out]; simp)
           ·
            rw [if_neg c60] at H
            have c60b0 : decide (1 ≤ t700) = false := decide_eq_false c60
            clear c60
            exact absurd (Option.some.inj H) (by rw [HR.out]; simp)
          ·
           rw [if_neg c59] at H
           have c59b0 : (t705 == 0) = false := beq_eq_false_iff_ne.mpr c59
           have c59b1 : (t705 != 0) = true := bne_iff_ne.mpr c59
           exact absurd (Option.some.inj H) (by rw [HR.out]; simp)
         ·
          rw [if_neg c57] at H
          have c57b0 : (t701 == 0) = false := beq_eq_false_iff_ne.mpr c57
          have c57b1 : (t701 != 0) = true := bne_iff_ne.mpr c57
          by_cases c74 : (t699.length : Int) = 0
          ·
           rw [if_pos c74] at H
           have c74b0 : ((t699.length : Int) == 0) = true := beq_iff_eq.mpr c74
           have c74b1 : ((t699.length : Int) != 0) = false := bne_eq_false_iff_eq.mpr c74
           clear c74
           obtain rfl := Option.some.inj H
           go_wp2_with (first | ((with_reducible refine gate_callee (f := 25) rfl ?_); refine goesL_ (some 107) rfl rfl Tryd.func25 (by kernel_rfl) rfl #[.slice A2 l2.length c2] rfl (by (try simp only [List.map_toArray, List.map_cons, List.map_nil]); first | done | rfl | (simp only [List.length_drop, List.length_take]; rfl)) ?_; (with_reducible refine (locksteplaw02_own.calls _ _ l2 t696 _ ?side1 ?side2 A55.out).mono ?_); (case side1 => repeat (first | exact (Kd.C_below HR2.out HB.out) | (with_reducible refine Kd.C_alloc ?_ _) | (with_reducible refine Kd.C_drewN ?_ _) | (with_reducible refine Kd.C_drew ?_))); (case side2 => exact HC2.out); rintro e w75 ⟨v697, rfl, ho0, hb⟩; refine ⟨_, rfl, ?_⟩; have n0_ := Aside0.mk (Kd.R_lower ho0 (below_size (by repeat (first | (with_reducible first | exact HB.out | apply below_alloc | apply pw_below_drewN | apply below_drew1) | exact HB.out)))); have n1_ := Aside0.mk (below_step (by repeat (first | (with_reducible first | exact HB.out | apply below_alloc | apply pw_below_drewN | apply below_drew1) | exact HB.out)) hb); clear HB; have HO698 := n0_; have HB := n1_; clear n0_ n1_; (try clear hb); (try clear hb2); (try clear hk); (try clear hi); (try clear ho0); obtain ⟨Ao76, co76, eo76⟩ := Kd.R_slice HO698.out; subst eo76) | ((with_reducible refine gate_callee (f := 33) rfl ?_); refine goesL_ (some 108) rfl rfl Tryd.func33 (by kernel_rfl) rfl #[.slice Ao76 t696.length co76] rfl (by (try simp only [List.map_toArray, List.map_cons, List.map_nil]); first | done | rfl | (simp only [List.length_drop, List.length_take]; rfl)) ?_; (with_reducible refine (rowcode_ReadRow.calls kj27 _ _ t696 t699 t700 t701 _ ?side1 ?side2 ?side3 A56.out).mono ?_); (case side1 => exact Tabs.below HT.out (by repeat (first | (with_reducible first | exact HB.out | apply below_alloc | apply pw_below_drewN | apply below_drew1) | exact HB.out))); (case side2 => repeat (first | exact (Kd.R_reads' HO698.out).2.2 | (with_reducible refine Kd.C_alloc ?_ _) | (with_reducible refine Kd.C_drewN ?_ _) | (with_reducible refine Kd.C_drew ?_))); (case side3 => exact (Kd.R_reads' HO698.out).2.1); rintro e w77 ⟨v702, rfl, ho0, hb⟩; refine ⟨_, rfl, ?_⟩; have n0_ := Aside0.mk (Kd.R_below (by (with_reducible repeat (first | apply Kd.R_alloc | apply Kd.R_drewN | apply Kd.R_drew)); exact HO698.out) hb); have n1_ := Aside0.mk (Kd.R_lower ho0 (below_size (by repeat (first | (with_reducible first | exact HB.out | apply below_alloc | apply pw_below_drewN | apply below_drew1) | exact HB.out)))); have n2_ := Aside0.mk (below_step (by repeat (first | (with_reducible first | exact HB.out | apply below_alloc | apply pw_below_drewN | apply below_drew1) | exact HB.out)) hb); clear HO698; clear HB; have HO698 := n0_; have HO703 := n1_; have HB := n2_; clear n0_ n1_ n2_; (try clear hb); (try clear hb2); (try clear hk); (try clear hi); (try clear ho0); obtain ⟨Ao78, co78, eo78⟩ := Kd.R_slice HO703.out; subst eo78))
           go_ret
           exact ⟨by first | rfl | (simp [errW_none, errW_some] <;> rfl) | (simp [*, errW_none, errW_some] <;> rfl), by repeat (first | (with_reducible first | exact HB.out | apply below_alloc | apply pw_below_drewN | apply below_drew1) | exact HB.out)⟩
          ·
           rw [if_neg c74] at H
           have c74b0 : ((t699.length : Int) == 0) = false := beq_eq_false_iff_ne.mpr c74
           have c74b1 : ((t699.length : Int) != 0) = true := bne_iff_ne.mpr c74
           have c74b2 : ¬ (t699 = []) := fun h_ => c74 (by rw [h_]; rfl)
           exact absurd (Option.some.inj H) (by rw [HR.out]; simp)
 ·
  replace c5 := Bool.eq_false_iff.mpr c5
  subst c5
  have H1 : (some false) = some r := by rw [if_neg (show ¬ (false = true) by decide)] at H; exact H
  clear H
  have H := H1
  clear H1
  exact absurd (Option.some.inj H) (by rw [HR.out]; simp)
end Go.Proofs.YthghcpeedmconaaDoor.X
end
section
namespace Go.Proofs.YthghcpeedmconaaDoor.X
set_option linter.unusedVariables false
set_option linter.unusedSimpArgs false
open Go.RowKit Go.Proofs.YthghcpeedmconaaDoorW.PrintWords Go.Proofs.YthghcpeedmconaaDoorW.PrintLast Go.Proofs.YthghcpeedmconaaDoorW.PrintMore
open Num
def tl : List Int → Nat
  | [] => 0
  | x :: l => if x ≠ 0 then tl l + 1 else match l with
    | [] => 0
    | y :: m => if y = 255 then tl m + 1 else 0
theorem tl_ne {x : Int} (h : x ≠ 0) (l : List Int) : tl (x :: l) = tl l + 1 := by
  conv => lhs; unfold tl
  exact if_pos h
theorem tl_two (y : Int) (m : List Int) : tl (0 :: y :: m) = if y = 255 then tl m + 1 else 0 := by
  conv => lhs; unfold tl
  exact if_neg (by simp)
theorem tl_pass : ∀ (p q : List Int), (∀ x ∈ p, x ≠ 0) → tl (p ++ q) = p.length + tl q
  | [], q, _ => by rw [List.nil_append, List.length_nil, Nat.zero_add]
  | x :: p, q, h => by
    rw [List.cons_append, tl_ne (h x List.mem_cons_self), tl_pass p q (fun y hy => h y (List.mem_cons_of_mem _ hy)), List.length_cons]
    omega
theorem tl_code : ∀ (t : List UInt8) (z : List Int), tl (escB t ++ 0 :: 0 :: z) = t.length
  | [], z => by show tl (0 :: 0 :: z) = 0; rw [tl_two, if_neg (by decide)]
  | b :: t, z => by
    by_cases h : b = 0
    · subst h; rw [escB_z, List.cons_append, List.cons_append, tl_two, if_pos rfl, tl_code t]; rfl
    · rw [escB_n h, List.cons_append, tl_ne (by have := u8_pos h; omega), tl_code t]; rfl
theorem text_loop2 : ∀ (n : Nat) (l : List Int), l.length ≤ n → isB l → ∀ (acc : List Int) (k : Nat), acc.length + tl l < 140737488355328 → l.length ≤ 1152921504606846976 → 2 * n + 10 ≤ k →
    rowcode_text.l0 k l acc = some (txtRead acc l)
  | n, l, hn, hB, acc, k, hl, hm, hk => by
    obtain ⟨k, rfl⟩ : ∃ m, k = m + 2 := ⟨k - 2, by omega⟩
    rw [rowcode_text.l0]
    unfold bytes_IndexByte.f
    rw [Option.bind_some]
    rcases idx_split l hB with ⟨i1, i2⟩ | ⟨p, q, rfl, i2, i3⟩
    · rw [i1, if_pos (by decide), rowcode_text.j1, if_pos rfl, txt_all l acc i2]; rfl
    · rw [i3, if_neg (by omega)]
      have hlen : (p ++ 0 :: q).length = p.length + q.length + 1 := by simp; omega
      rw [rowcode_text.j1]
      have w1 : wrap64 ((p.length : Int) + 1) = ((p.length + 1 : Nat) : Int) := by unfold wrap64; omega
      have w2 : wrap64 ((p.length : Int) + 2) = ((p.length + 2 : Nat) : Int) := by unfold wrap64; omega
      rw [w1, w2, hlen, txt_pass p acc _ i2]
      cases q with
      | nil =>
        rw [if_pos (by simp), txt_one]; rfl
      | cons y m =>
        have hy := isB_head (isB_tail (fun x hx => hB x (List.mem_append_right _ hx)) : isB (y :: m))
        simp only [List.length_cons] at hlen hm hn ⊢
        rw [tl_pass p _ i2, tl_two] at hl
        rw [if_neg (by simp; omega), if_pos (by omega), if_pos (by omega), Option.bind_some]
        have ht : (p ++ 0 :: y :: m).take ((p.length : Int).toNat) = p := by rw [Int.toNat_natCast, List.take_left]
        rw [ht, if_pos (by omega), Option.bind_some, if_pos (by omega), if_pos (by omega), if_pos (by omega), if_pos (by omega)]
        have hd : (p ++ 0 :: y :: m).drop (((p.length + 2 : Nat) : Int).toNat) = m := by
          rw [Int.toNat_natCast, List.drop_append, Nat.add_sub_cancel_left, List.drop_eq_nil_of_le (by omega)]; rfl
        have hr : rd (p ++ 0 :: y :: m) ((p.length + 1 : Nat) : Int) = y := by
          have := rd_app (p ++ [0]) m y
          rw [List.append_assoc, List.length_append] at this
          exact this
        rw [hd, hr, Option.bind_some, txt_two]
        by_cases y255 : y = 255
        · rw [if_pos y255] at hl
          rw [if_pos y255, if_pos (by rw [List.length_append]; omega), if_pos y255]
          cases n with
          | zero => omega
          | succ n =>
            exact text_loop2 n m (by omega) (fun x hx => hB x (List.mem_append_right _ (List.mem_cons_of_mem _ (List.mem_cons_of_mem _ hx)))) _ k (by rw [List.length_append, List.length_append]; simp only [List.length_cons, List.length_nil]; omega) (by omega) (by omega)
        · rw [if_neg y255, if_neg y255]
          by_cases y0 : y = 0
          · rw [if_pos y0, if_pos y0]
            obtain ⟨k, rfl⟩ : ∃ m, k = m + 1 := ⟨k - 1, by omega⟩
            rw [value_Check.eq, Option.bind_some]
            split <;> rfl
          · rw [if_neg y0, if_neg y0]; rfl
theorem text_eq2 (l : List Int) (hB : isB l) (hl : l.length ≤ 1152921504606846976) (ht : tl l < 140737488355328) (k : Nat) (hk : 2 * l.length + 10 ≤ k) : rowcode_text.f k l = some (txtRead [] l) :=
  text_loop2 l.length l (Nat.le_refl _) hB [] k (by simpa using ht) hl hk
theorem read_eq2 (l : List Int) (hB : isB l) (hl : l.length ≤ 1152921504606846976) (ht : tl l.tail < 140737488355328) (k : Nat) (hk : 2 * l.length + 60 ≤ k) : rowcode_read.f k l = some (valRead l) := by
  unfold rowcode_read.f
  cases l with
  | nil => rfl
  | cons tag y =>
    simp only [List.length_cons] at hl hk ⊢
    have hy := isB_tail hB
    rw [if_neg (by omega), if_pos (by omega), if_pos (by omega), Option.bind_some]
    have hr : rd (tag :: y) 0 = tag := rfl
    have hd : (tag :: y).drop 1 = y := rfl
    rw [hr, hd]
    rw [valRead_cons]
    by_cases t1 : tag = 1
    · rw [if_pos t1, if_pos t1]
    rw [if_neg t1, if_neg t1]
    by_cases t2 : tag = 2
    · rw [if_pos t2, if_pos t2, number_eq y hy (by omega) k (by omega), Option.bind_some]
    rw [if_neg t2, if_neg t2]
    by_cases t3 : tag = 3
    · rw [if_pos t3, if_pos t3, text_eq2 y hy (by omega) ht k (by omega), Option.bind_some]
    rw [if_neg t3, if_neg t3]
    by_cases t4 : tag = 4
    · rw [if_pos t4, if_pos t4]
      cases y with
      | nil => rfl
      | cons b m =>
        have hb := isB_head hy
        have hr2 : rd (b :: m) 0 = b := rfl
        rw [hr2]
        simp only [List.length_cons]
        rw [if_neg (by omega), if_pos (by omega)]
        rw [show boolRead (b :: m) = if b > 1 then bad 20 else (4, b, (⟨#[]⟩ : ByteArray), m, 0) from rfl]
        by_cases b1 : b > 1
        · rw [if_pos b1, if_pos b1]; rfl
        · rw [if_neg b1, if_neg b1, if_pos (by omega)]
          rw [show wrap64 b = b by unfold wrap64; omega]
          rfl
    · rw [if_neg t4, if_neg t4]; rfl
theorem read_tag (tag : Int) (y : List Int) (h3 : tag ≠ 3) (hB : isB (tag :: y)) (hl : (tag :: y).length ≤ 1152921504606846976) (k : Nat) (hk : 2 * (tag :: y).length + 60 ≤ k) : rowcode_read.f k (tag :: y) = some (valRead (tag :: y)) := by
  unfold rowcode_read.f
  simp only [List.length_cons] at hl hk ⊢
  have hy := isB_tail hB
  rw [if_neg (by omega), if_pos (by omega), if_pos (by omega), Option.bind_some]
  have hr : rd (tag :: y) 0 = tag := rfl
  have hd : (tag :: y).drop 1 = y := rfl
  rw [hr, hd, valRead_cons]
  by_cases t1 : tag = 1
  · rw [if_pos t1, if_pos t1]
  rw [if_neg t1, if_neg t1]
  by_cases t2 : tag = 2
  · rw [if_pos t2, if_pos t2, number_eq y hy (by omega) k (by omega), Option.bind_some]
  rw [if_neg t2, if_neg t2, if_neg h3, if_neg h3]
  by_cases t4 : tag = 4
  · rw [if_pos t4, if_pos t4]
    cases y with
    | nil => rfl
    | cons b m =>
      have hb := isB_head hy
      have hr2 : rd (b :: m) 0 = b := rfl
      rw [hr2]
      simp only [List.length_cons]
      rw [if_neg (by omega), if_pos (by omega)]
      rw [show boolRead (b :: m) = if b > 1 then bad 20 else (4, b, (⟨#[]⟩ : ByteArray), m, 0) from rfl]
      by_cases b1 : b > 1
      · rw [if_pos b1, if_pos b1]; rfl
      · rw [if_neg b1, if_neg b1, if_pos (by omega)]
        rw [show wrap64 b = b by unfold wrap64; omega]
        rfl
  · rw [if_neg t4, if_neg t4]; rfl
theorem livesUp : ∀ n, locksteplaw02_lives.f (60 + n) = some true
  | 0 => lives60
  | n + 1 => locksteplaw02_lives.mono (60 + n) true (livesUp n)
theorem code_ne {v : S42} (h : Can v) : ∃ c l, code v = c :: l ∧ c ≠ 0 := by
  obtain ⟨l, e⟩ := code_tag h
  refine ⟨_, l, e, ?_⟩
  unfold cls
  split
  · decide
  split
  · decide
  split
  · decide
  split <;> decide
theorem read_code {v : S42} (h : Can v) (z : List Int) (hz : isB z) (hl : (code v ++ z).length ≤ 1152921504606846976) (k : Nat) (hk : 2 * (code v ++ z).length + 60 ≤ k) :
    rowcode_read.f k (code v ++ z) = some ((plainV v).f0, (plainV v).f1, (plainV v).f2, z, 0) := by
  have hB : isB (code v ++ z) := isB_append (code_isB v) hz
  by_cases h3 : v.f0 = 3
  · rw [read_eq2 _ hB hl ?_ k hk, valRead_code h]
    have hs : v.f2.size ≤ 4096 := by rcases h.typ with e | e | e | e <;> first | omega | exact e.2
    rw [code_text h3, List.cons_append, List.tail_cons, List.append_assoc]
    have := tl_code v.f2.data.toList z
    rw [show ([0, 0] : List Int) ++ z = 0 :: 0 :: z from rfl, this]
    have hl : v.f2.data.toList.length = v.f2.size := by simp
    omega
  · have hc := valRead_code h z
    rw [← hc]
    obtain ⟨c, l, e, h0⟩ := code_ne h
    have hc3 : c ≠ 3 := by
      intro h3'
      rcases h.typ with q | q | q | q
      · rw [code_null q] at e; injection e with e _; omega
      · rw [code_num q] at e; injection e with e _; omega
      · omega
      · rw [code_bool q.1] at e; injection e with e _; omega
    rw [e, List.cons_append] at hB hl hk ⊢
    exact read_tag c (l ++ z) hc3 hB hl k hk
theorem codes_cons (v : S42) (r : List S42) : codes (v :: r) = code v ++ codes r := rfl
theorem readRow_code (z : List Int) (hz : isB z) : ∀ (r : List S42), (∀ v ∈ r, Can v) → ∀ (acc : List S42) (k : Nat), acc.length + r.length ≤ 16 → (codes r ++ z).length ≤ 1152921504606846976 → 2 * (codes r ++ z).length + r.length + 61 ≤ k →
    rowcode_readRow.l0 k (codes r ++ z) acc = some (acc ++ r.map plainV, z, 0)
  | [], _, acc, k, _, hl, hk => by
    obtain ⟨k, rfl⟩ : ∃ m, k = m + 1 := ⟨k - 1, by omega⟩
    show rowcode_readRow.l0 (k + 1) (0 :: z) acc = _
    rw [rowcode_readRow.l0]
    have hlen : (0 :: z : List Int).length = z.length + 1 := rfl
    rw [if_neg (by omega), if_pos (by omega), if_pos (show rd (0 :: z) 0 = 0 from rfl), if_pos (by omega), List.map_nil, List.append_nil]
    rfl
  | v :: r, hr, acc, k, ha, hl, hk => by
    obtain ⟨k, rfl⟩ : ∃ m, k = m + 1 := ⟨k - 1, by omega⟩
    have hv := hr v List.mem_cons_self
    rw [codes_cons, List.append_assoc] at hl hk ⊢
    simp only [List.length_cons] at ha hk
    have hrest : isB (codes r ++ z) := isB_append (codes_isB r) hz
    have hread := read_code hv (codes r ++ z) hrest hl k (by omega)
    obtain ⟨c, l, e, h0⟩ := code_ne hv
    have hlen : (code v ++ (codes r ++ z)).length = (codes r ++ z).length + l.length + 1 := by rw [e, List.length_append, List.length_cons]; omega
    have hrd : rd (code v ++ (codes r ++ z)) 0 = c := by rw [e]; rfl
    rw [rowcode_readRow.l0, if_neg (by omega), if_pos (by omega), hrd, if_neg h0, if_neg (by omega), hread, Option.bind_some, if_pos (by rfl), if_pos (by omega)]
    show rowcode_readRow.l0 k (codes r ++ z) (acc ++ [plainV v]) = _
    rw [readRow_code z hz r (fun w hw => hr w (List.mem_cons_of_mem _ hw)) (acc ++ [plainV v]) k (by rw [List.length_append]; simp; omega) (by omega) (by omega), List.append_assoc]
    rfl
theorem readRow_back : ∀ (n : Nat) (l : List Int), l.length ≤ n → isB l → ∀ (acc : List S42) (k : Nat), acc.length ≤ 16 → l.length < 140737488355328 → 3 * n + 100 ≤ k →
    ∃ row rest err, rowcode_readRow.l0 k l acc = some (row, rest, err) ∧ ((err ≠ 0 ∧ row = []) ∨ (err = 0 ∧ ∃ r, row = acc ++ r ∧ (∀ v ∈ r, Can v) ∧ acc.length + r.length ≤ 16 ∧ l = codes r ++ rest))
  | n, l, hn, hB, acc, k, ha, hl, hk => by
    obtain ⟨k, rfl⟩ : ∃ m, k = m + 1 := ⟨k - 1, by omega⟩
    rw [rowcode_readRow.l0]
    cases l with
    | nil => exact ⟨_, _, _, rfl, Or.inl ⟨by decide, rfl⟩⟩
    | cons c y =>
      have hlen : (c :: y).length = y.length + 1 := rfl
      rw [if_neg (by omega), if_pos (by omega), show rd (c :: y) 0 = c from rfl]
      by_cases h0 : c = 0
      · rw [if_pos h0, if_pos (by omega), h0]
        exact ⟨_, _, _, rfl, Or.inr ⟨rfl, [], by rw [List.append_nil], fun v hv => by simp at hv, by simpa using ha, rfl⟩⟩
      · rw [if_neg h0]
        by_cases h16 : (acc.length : Int) = 16
        · rw [if_pos h16]
          exact ⟨_, _, _, rfl, Or.inl ⟨by decide, rfl⟩⟩
        · rw [if_neg h16, read_eq _ hB hl k (by omega), Option.bind_some]
          have hback := valRead_back (c :: y) hB
          generalize valRead (c :: y) = x at *
          obtain ⟨t, m, s, rest, e⟩ := x
          simp only [] at hback ⊢
          by_cases he : e = 0
          · subst he
            obtain ⟨hcan, hcode⟩ := hback t m s rest rfl
            rw [if_pos rfl, if_pos (by omega)]
            obtain ⟨c', l', e', _⟩ := code_ne hcan
            have hl2 : y.length + 1 = l'.length + 1 + rest.length := by rw [← hlen, hcode, e', List.length_append, List.length_cons]
            cases n with
            | zero => omega
            | succ n =>
              have hBr : isB rest := fun x hx => hB x (by rw [hcode]; exact List.mem_append_right _ hx)
              obtain ⟨row, rest2, err, q1, q2⟩ := readRow_back n rest (by omega) hBr (acc ++ [⟨t, m, s⟩]) k (by rw [List.length_append]; simp; omega) (by omega) (by omega)
              refine ⟨row, rest2, err, q1, ?_⟩
              rcases q2 with q2 | ⟨q2, r, q3, q4, q5, q6⟩
              · exact Or.inl q2
              · refine Or.inr ⟨q2, ⟨t, m, s⟩ :: r, by rw [q3, List.append_assoc]; rfl, fun v hv => ?_, ?_, ?_⟩
                · rcases List.mem_cons.mp hv with hv | hv
                  · rw [hv]; exact hcan
                  · exact q4 v hv
                · rw [List.length_append] at q5
                  simp only [List.length_cons, List.length_nil] at q5 ⊢
                  omega
                · rw [hcode, q6, codes_cons, List.append_assoc]
          · rw [if_neg he]
            exact ⟨_, _, _, rfl, Or.inl ⟨he, rfl⟩⟩
theorem codes_len : ∀ (r : List S42), (∀ v ∈ r, Can v) → 1 ≤ (codes r).length ∧ (codes r).length ≤ 8195 * r.length + 1
  | [], _ => ⟨Nat.le_refl _, Nat.le_refl _⟩
  | v :: r, h => by
    obtain ⟨h1, h2⟩ := codes_len r (fun w hw => h w (List.mem_cons_of_mem _ hw))
    have := code_len (h v List.mem_cons_self)
    rw [codes_cons, List.length_append, List.length_cons]
    omega
theorem Plain_eq (v : S42) (k : Nat) (hk : 1 ≤ k) : lockstepref02_Plain.f k v.f0 v.f1 v.f2 = some ((plainV v).f0, (plainV v).f1, (plainV v).f2) := by
  obtain ⟨k, rfl⟩ : ∃ m, k = m + 1 := ⟨k - 1, by omega⟩
  unfold lockstepref02_Plain.f plainV
  simp only []
  by_cases h1 : v.f0 = 1
  · rw [if_pos h1, lockstepref02_Plain.j0, if_pos (by rw [h1]; rfl), if_pos (by omega), if_neg (by omega)]
  rw [if_neg h1]
  by_cases h2 : v.f0 = 2
  · rw [if_pos h2, lockstepref02_Plain.j0, if_pos (by rw [h2]; rfl), if_pos (by omega), if_neg (by omega)]
  rw [if_neg h2, lockstepref02_Plain.j0]
  by_cases h4 : v.f0 = 4
  · rw [if_pos (by rw [h4]; rfl), if_pos (by omega), if_neg (by omega)]
  rw [if_neg (by simpa using h4)]
  by_cases h3 : v.f0 = 3
  · rw [if_pos h3, if_neg (show ¬ (v.f0 = 1 ∨ v.f0 = 2 ∨ v.f0 = 4) by omega), if_pos h3]
  · rw [if_neg h3, if_neg (show ¬ (v.f0 = 1 ∨ v.f0 = 2 ∨ v.f0 = 4) by omega), if_neg h3]
theorem PlainRow_loop (r : List S42) (hr : r.length ≤ 16) : ∀ (d i : Nat), i + d = r.length → ∀ (acc : List S42) (k : Nat), acc.length ≤ i → d + 3 ≤ k →
    lockstepref02_PlainRow.l0 k r acc (i : Int) = some (acc ++ (r.drop i).map plainV)
  | 0, i, h, acc, k, ha, hk => by
    obtain ⟨k, rfl⟩ : ∃ m, k = m + 1 := ⟨k - 1, by omega⟩
    rw [lockstepref02_PlainRow.l0, if_neg (by omega), List.drop_eq_nil_of_le (by omega), List.map_nil, List.append_nil]
  | d + 1, i, h, acc, k, ha, hk => by
    obtain ⟨k, rfl⟩ : ∃ m, k = m + 1 := ⟨k - 1, by omega⟩
    rw [lockstepref02_PlainRow.l0, if_pos (by omega), if_pos (by omega), Plain_eq _ k (by omega), Option.bind_some, if_pos (by omega), show wrap64 ((i : Int) + 1) = ((i + 1 : Nat) : Int) by unfold wrap64; omega]
    show lockstepref02_PlainRow.l0 k r (acc ++ [plainV (rd_T42 r (i : Int))]) ((i + 1 : Nat) : Int) = _
    rw [PlainRow_loop r hr d (i + 1) (by omega) _ k (by rw [List.length_append]; simp; omega) (by omega), getD_drop (show i < r.length by omega), List.append_assoc]
    rfl
theorem PlainRow_eq (r : List S42) (hr : r.length ≤ 16) (k : Nat) (hk : 20 ≤ k) : lockstepref02_PlainRow.f k r = some (r.map plainV) := by
  have := PlainRow_loop r hr r.length 0 (by omega) [] k (by simp) (by omega)
  rw [List.drop_zero, List.nil_append] at this
  exact this
theorem Rows_self_loop (r : List S42) (hr : r.length ≤ 16) : ∀ (d i : Nat), i + d = r.length → ∀ (k : Nat), d + 1 ≤ k → lockstepref02_Rows.l0 k r r (i : Int) = some true
  | 0, i, h, k, hk => by
    obtain ⟨k, rfl⟩ : ∃ m, k = m + 1 := ⟨k - 1, by omega⟩
    rw [lockstepref02_Rows.l0, if_neg (by omega)]
  | d + 1, i, h, k, hk => by
    obtain ⟨k, rfl⟩ : ∃ m, k = m + 1 := ⟨k - 1, by omega⟩
    rw [lockstepref02_Rows.l0, if_pos (by omega), if_pos (by omega), if_pos (by omega)]
    unfold lockstepref02_Same.f
    rw [if_pos rfl, if_pos rfl, beq_self_eq_true, Option.bind_some, if_pos rfl, show wrap64 ((i : Int) + 1) = ((i + 1 : Nat) : Int) by unfold wrap64; omega]
    exact Rows_self_loop r hr d (i + 1) (by omega) k (by omega)
theorem Rows_self (r : List S42) (hr : r.length ≤ 16) (k : Nat) (hk : 20 ≤ k) : lockstepref02_Rows.f k r r = some true := by
  unfold lockstepref02_Rows.f
  rw [if_pos rfl]
  exact Rows_self_loop r hr r.length 0 (by omega) k (by omega)
theorem own_eq2 (l : List Int) (hl : l.length < 140737488355328) : locksteplaw02_own.f l = some l := by
  unfold locksteplaw02_own.f
  have hw : wrap64 ((l.length : Int) + 2) = (l.length : Int) + 2 := by unfold wrap64; omega
  rw [hw, if_pos (by omega), if_pos (by omega), Option.bind_some, if_pos (by simpa using hl), List.nil_append]
theorem rowErr_zero : ∀ (r : List S42), (∀ v ∈ r, Can v) → rowErr r = 0
  | [], _ => rfl
  | v :: r, h => by
    unfold rowErr
    rw [if_pos (h v List.mem_cons_self).chk]
    exact rowErr_zero r (fun w hw => h w (List.mem_cons_of_mem _ hw))
theorem Back_last (m : List Int) (hB : isB m) (hm : m.length ≤ 140737488351232) (k : Nat) (hk : 3 * m.length + 200 ≤ k) :
    ((locksteplaw02_own.f m).bind fun t696 => (rowcode_ReadRow.f k t696).bind fun bt699 => if bt699.2.2 = 0 then ((rowcode_Row.f k bt699.1).bind fun bt704 => if bt704.2 = 0 then (if bt699.2.1 ≥ 1 then (if bt699.2.1 ≤ (m.length : Int) then (if 0 ≤ bt699.2.1 then (some ((strOfNums bt704.1).toList == (strOfNums (m.take (bt699.2.1 : Int).toNat)).toList)) else none) else some false) else some false) else some false) else (if (bt699.1.length : Int) = 0 then (some (bt699.2.1 == 0)) else some false)) = some true := by
  rw [own_eq2 m (by omega), Option.bind_some]
  unfold rowcode_ReadRow.f rowcode_readRow.f
  obtain ⟨row, rest, err, q1, q2⟩ := readRow_back m.length m (Nat.le_refl _) hB [] k (by simp) (by omega) (by omega)
  rw [q1, Option.bind_some]
  simp only []
  rcases q2 with ⟨he, hrow⟩ | ⟨he, r, h1, h2, h3, h4⟩
  · rw [if_neg he, Option.bind_some]
    simp only []
    rw [if_neg he]
    rfl
  · rw [List.nil_append] at h1
    subst h1 he
    simp only [List.length_nil, Nat.zero_add] at h3
    rw [if_pos rfl, Option.bind_some]
    simp only []
    obtain ⟨c1, c2⟩ := codes_len row h2
    have hlen := congrArg List.length h4
    rw [List.length_append] at hlen
    have hw : wrap64 ((m.length : Int) - (rest.length : Int)) = (((codes row).length : Nat) : Int) := by unfold wrap64; omega
    have hout : rowOut row = (codes row, 0) := by unfold rowOut; rw [if_neg (by omega), if_pos (rowErr_zero row h2)]
    rw [if_pos trivial, hw, Row_eq row (fun v hv => (h2 v hv).num) k (by omega), Option.bind_some, hout]
    simp only []
    have ht : m.take (((codes row).length : Nat) : Int).toNat = codes row := by rw [Int.toNat_natCast, h4]; exact List.take_left
    rw [if_pos trivial, if_pos (by omega), if_pos (by omega), if_pos (by omega), ht, beq_self_eq_true]
theorem Back_loop (C : Nat) (hC : C = 20000) (r : List S42) (a m : List Int) (e : Int) (hcan : e = 0 → ∀ v ∈ r, Can v) (hn : ∀ v ∈ r, I64 v.f1) (hr : e = 0 → r.length ≤ 16) (ha : isB a) (hal : a.length ≤ 140737488351232) (hB : isB m) (hm : m.length ≤ 140737488351232) :
    ∀ (d i : Nat), i + d = r.length → (e ≠ 0 → i = 0) → ∀ (k : Nat), 2 * a.length + 3 * m.length + 2 * d + C ≤ k → locksteplaw02_RowcodeBack.l0 k r a m e (i : Int) = some true
  | d, i, h, hi0, k, hk => by
    obtain ⟨k, rfl⟩ : ∃ m, k = m + 2 := ⟨k - 2, by omega⟩
    rw [locksteplaw02_RowcodeBack.l0]
    have last : locksteplaw02_RowcodeBack.j2 (k + 1) r a m e (i : Int) false = some true := by
      rw [locksteplaw02_RowcodeBack.j2, if_neg (by decide)]
      exact Back_last m hB hm k (by omega)
    by_cases hi : i < r.length
    · rw [if_pos (by omega)]
      by_cases he : e = 0
      · subst he
        rw [beq_self_eq_true, locksteplaw02_RowcodeBack.j2, if_pos rfl, if_pos (by omega), if_pos (by omega)]
        have hmem := mem_rd hi
        have hv := hcan rfl _ hmem
        generalize rd_T42 r (i : Int) = v at *
        have hl := code_len hv
        have hval : valOut v = (code v, 0) := by unfold valOut; rw [if_pos hv.chk]
        rw [val_eq v hv.num k (by omega), Option.bind_some, hval]
        simp only []
        have hlen : (code v ++ a).length = (code v).length + a.length := List.length_append
        rw [own_eq2 _ (by omega), Option.bind_some, if_pos (by omega)]
        unfold rowcode_Read.f
        rw [read_code hv a ha (by omega) k (by omega), Option.bind_some]
        simp only []
        have hw : wrap64 (((code v ++ a).length : Int) - (a.length : Int)) = ((code v).length : Int) := by unfold wrap64; omega
        rw [if_pos trivial, Option.bind_some, if_pos trivial]
        simp only []
        rw [if_pos trivial, if_pos hw, Plain_eq v k (by omega), Option.bind_some]
        unfold lockstepref02_Same.f
        rw [if_pos rfl, if_pos rfl, beq_self_eq_true, Option.bind_some, if_pos rfl, show wrap64 ((i : Int) + 1) = ((i + 1 : Nat) : Int) by unfold wrap64; omega]
        cases d with
        | zero => omega
        | succ d => exact Back_loop C hC r a m 0 hcan hn hr ha hal hB hm d (i + 1) (by omega) (fun h => absurd rfl h) k (by omega)
      · rw [show (e == 0) = false from beq_eq_false_iff_ne.mpr he]
        exact last
    · rw [if_neg (by omega)]
      exact last
theorem RowcodeBack_true (r : List S42) (a m : List Int) (hn : ∀ v ∈ r, I64 v.f1) (ha : isB a) (hal : a.length ≤ 140737488351232) (hB : isB m) (hm : m.length ≤ 140737488351232) : ∃ k, locksteplaw02_RowcodeBack.f k r a m = some true := by
  refine ⟨2 * a.length + 3 * m.length + 2 * r.length + 300000, ?_⟩
  generalize hk : 2 * a.length + 3 * m.length + 2 * r.length + 300000 = k
  unfold locksteplaw02_RowcodeBack.f
  have hlives : locksteplaw02_lives.f k = some true := by
    rw [show k = 60 + (k - 60) by omega]
    exact livesUp (k - 60)
  rw [hlives, Option.bind_some, if_pos rfl, Row_eq r hn k (by omega), Option.bind_some]
  have hj : ∀ e, (e = 0 → ∀ v ∈ r, Can v) → (e = 0 → r.length ≤ 16) → locksteplaw02_RowcodeBack.j0 k r a m e = some true := by
    intro e h1 h2
    obtain ⟨k, rfl⟩ : ∃ m, k = m + 1 := ⟨k - 1, by omega⟩
    rw [locksteplaw02_RowcodeBack.j0]
    exact Back_loop 20000 rfl r a m e h1 hn h2 ha hal hB hm r.length 0 (by omega) (fun _ => rfl) k (by omega)
  unfold rowOut
  by_cases h16 : 16 < r.length
  · rw [if_pos h16]
    simp only []
    rw [if_neg (by decide)]
    exact hj 2 (fun h => absurd h (by decide)) (fun h => absurd h (by decide))
  rw [if_neg h16]
  by_cases he : rowErr r = 0
  · rw [if_pos he]
    simp only []
    have hcan := rowErr_can r hn he
    obtain ⟨c1, c2⟩ := codes_len r hcan
    have hlen : (codes r ++ a).length = (codes r).length + a.length := List.length_append
    rw [if_pos trivial, own_eq2 _ (by omega), Option.bind_some, if_pos (by omega)]
    unfold rowcode_ReadRow.f rowcode_readRow.f
    have hrr := readRow_code a ha r hcan [] k (by simp; omega) (by omega) (by omega)
    rw [hrr, Option.bind_some]
    simp only []
    rw [if_pos trivial, Option.bind_some]
    simp only []
    have hw : wrap64 (((codes r ++ a).length : Int) - (a.length : Int)) = ((codes r).length : Int) := by unfold wrap64; omega
    rw [if_pos trivial, if_pos hw, PlainRow_eq r (by omega) k (by omega), Option.bind_some, List.nil_append, Rows_self _ (by rw [List.length_map]; omega) k (by omega), Option.bind_some, if_pos rfl]
    exact hj 0 (fun _ => hcan) (fun _ => by omega)
  · rw [if_neg he]
    simp only []
    rw [if_neg he]
    exact hj (rowErr r) (fun h => absurd h he) (fun h => absurd h he)
end Go.Proofs.YthghcpeedmconaaDoor.X
end
section
namespace Go.Proofs.YthghcpeedmconaaDoorW.PrintWords
open Go Go.RowKit Go.ChangeShapes Go.WideShapes Go.Deep
set_option linter.unusedVariables false
set_option linter.unusedSimpArgs false
def Opens {α : Type} (P : Program) (d : Kd α) (t : TypeId) (g : α → Prop) : Prop :=
  ∀ {H : Type} (enc : TypeId × Value → H) (W : World) (base : Nat) (spare : Nat → Bool) (held : Bool) (fuel : Nat) (cs : List Value) (x : DataW H × List MemPlace),
    DataW.trod enc P W base spare held fuel t cs = some x → ∃ a, d.K W a cs ∧ g a
def inKind (k : IntKind) (n : Int) : Prop := k.min ≤ n ∧ n ≤ k.max
section
variable {P : Program} {α β : Type}
theorem opens_int {t : TypeId} {k : IntKind} (ht : P.underlying t = some (.int k)) : Opens P (Kd.int k) t (inKind k) := by
  intro H enc W base spare held fuel cs x h
  obtain ⟨n, rfl, _, hw⟩ := DataW.trod_int ht h
  refine ⟨n, rfl, ?_⟩
  simpa [Lit.wf, inKind] using hw
theorem opens_string {t : TypeId} (ht : P.underlying t = some .string) : Opens P Kd.string t (fun s => s.size ≤ 9223372036854775807) := by
  intro H enc W base spare held fuel cs x h
  obtain ⟨n, rfl, _, hw⟩ := DataW.trod_string ht h
  exact ⟨n, rfl, by simpa [maxLen] using hw⟩
theorem Opens.imp {d : Kd α} {t : TypeId} {g g' : α → Prop} (h : Opens P d t g) (hg : ∀ a, g a → g' a) : Opens P d t g' := by
  intro H enc W base spare held fuel cs x hx
  obtain ⟨a, h1, h2⟩ := h enc W base spare held fuel cs x hx
  exact ⟨a, h1, hg a h2⟩
theorem opens_iso {d : Kd α} {t : TypeId} {g : α → Prop} (h : Opens P d t g) (f : β → α) (b : α → β) (hf : ∀ a, f (b a) = a) : Opens P (Kd.iso d f) t (fun x => g (f x)) := by
  intro H enc W base spare held fuel cs x hx
  obtain ⟨a, h1, h2⟩ := h enc W base spare held fuel cs x hx
  exact ⟨b a, by show d.K W (f (b a)) cs; rw [hf]; exact h1, by show g (f (b a)); rw [hf]; exact h2⟩
theorem elems_of {γ : Type} {n : Nat} {p : Nat → γ → Prop} (h : ∀ i, i < n → ∃ a, p i a) : ∃ xs : List γ, xs.length = n ∧ ∀ i a, xs[i]? = some a → p i a := by
  induction n with
  | zero => exact ⟨[], rfl, fun i a h => by simp at h⟩
  | succ n ih =>
    obtain ⟨xs, hl, hx⟩ := ih (fun i hi => h i (by omega))
    obtain ⟨a, ha⟩ := h n (by omega)
    refine ⟨xs ++ [a], by simp [hl], fun i b hb => ?_⟩
    by_cases hi : i < xs.length
    · rw [List.getElem?_append_left hi] at hb
      exact hx i b hb
    · rw [List.getElem?_append_right (by omega)] at hb
      have : i = n := by
        have := (List.getElem?_eq_some_iff.1 hb).1
        simp at this
        omega
      subst this
      rw [hl, Nat.sub_self] at hb
      injection hb with hb
      exact hb ▸ ha
theorem opens_slice {d : Kd α} {t e : TypeId} {g : α → Prop} (ht : P.underlying t = some (.slice e)) (hs : P.cellsOf e = d.sz) (h : Opens P d e g) :
    Opens P (Kd.slice e d) t (fun xs => ∀ x ∈ xs, g x) := by
  intro H enc W base spare held fuel cs x hx
  rcases open_slice ht hx with ⟨rfl, rfl⟩ | ⟨a, len, cap, m, n, D, Pl, rfl, hb, hl, hm, hmm, rfl, hel⟩
  · exact ⟨[], ⟨none, 0, rfl, Nat.le_refl _, ⟨rfl, by simp, fun h => absurd h (by simp)⟩⟩, fun x hx => by simp at hx⟩
  · obtain ⟨xs, hlen, hxs⟩ := elems_of (n := len) (p := fun i y => ∃ cs', W.cells? base (a.add (i * P.cellsOf e)) (P.cellsOf e) = some cs' ∧ d.K W y cs' ∧ g y) (fun i hi => by
      obtain ⟨cs', h1, h2⟩ := hel i (by rw [hmm]; split <;> omega)
      obtain ⟨y, h3, h4⟩ := h enc W base spare held n cs' _ h2
      exact ⟨y, cs', h1, h3, h4⟩)
    refine ⟨xs, ⟨some a, cap, by rw [hlen], by rw [hlen]; exact hl, ⟨rfl, by rw [hlen]; simp only [maxLen] at hm; omega, fun hp => ⟨a, rfl, fun j p hj => ?_⟩⟩⟩, fun x hx => ?_⟩
    · obtain ⟨cs', h1, h2, _⟩ := hxs j p hj
      refine ⟨cs', d.K_len h2, h2, fun i u hu => ?_⟩
      obtain ⟨_, hcl, hcc⟩ := World.cells?_some h1
      have hi : i < cs'.length := (List.getElem?_eq_some_iff.1 hu).1
      have h5 := hcc i (by rw [← hcl]; exact hi)
      rw [hu, Addr.add_add, hs] at h5
      exact h5
    · obtain ⟨i, hi⟩ := List.getElem?_of_mem hx
      obtain ⟨_, _, _, h4⟩ := hxs i x hi
      exact h4
theorem open_arg_slice {d : Kd α} {t e : TypeId} {g : α → Prop} (ht : P.underlying t = some (.slice e)) (hs : P.cellsOf e = d.sz) (h : Opens P d e g) {H : Type} {enc : TypeId × Value → H} {W : World} {base b0 : Nat} {spare : Nat → Bool} {held : Bool} {r : Reach} {v : Value} {D : DataW H} {p : List MemPlace}
    (hv : Value.okWide P W r b0 t v) (hd : DataW.Trod enc P W base spare held t v D p) : ∃ A c xs, v = .slice A xs.length c ∧ xs.length ≤ c ∧ d.C W A xs.length xs ∧ ∀ x ∈ xs, g x := by
  obtain ⟨A, n, c, rfl⟩ := okWide_slice ht hv
  obtain ⟨fuel, hf⟩ := hd
  obtain ⟨xs, ⟨A', c', he, hl, hC⟩, hg⟩ := opens_slice ht hs h enc W base spare held fuel _ _ hf
  have he' : Value.slice A n c = .slice A' xs.length c' := by simpa [Value.cells] using he
  injection he' with h1 h2 h3
  subst h1 h2 h3
  exact ⟨A, c, xs, rfl, hl, hC, hg⟩
theorem opens_three {α β γ : Type} {a : Kd α} {b : Kd β} {c : Kd γ} {t : TypeId} {f0 f1 f2 : Field} {g0 : α → Prop} {g1 : β → Prop} {g2 : γ → Prop} (ht : P.underlying t = some (.struct #[f0, f1, f2]))
    (ho : f0.offset = 0 ∧ f1.offset = a.sz ∧ f2.offset = a.sz + b.sz) (hc : P.cellsOf t = a.sz + (b.sz + c.sz)) (h0 : P.cellsOf f0.type = a.sz) (h1 : P.cellsOf f1.type = b.sz) (h2 : P.cellsOf f2.type = c.sz)
    (k0 : Opens P a f0.type g0) (k1 : Opens P b f1.type g1) (k2 : Opens P c f2.type g2) : Opens P (Kd.pair a (Kd.pair b c)) t (fun x => g0 x.1 ∧ g1 x.2.1 ∧ g2 x.2.2) := by
  intro H enc W base spare held fuel cs x hx
  obtain ⟨y0, y1, y2, n, _, hl, e0, e1, e2⟩ := trod_struct3 ht hx
  rw [ho.1, h0, List.drop_zero] at e0
  rw [ho.2.1, h1] at e1
  rw [ho.2.2, h2] at e2
  obtain ⟨p0, q0, r0⟩ := k0 enc W base spare held n _ _ e0
  obtain ⟨p1, q1, r1⟩ := k1 enc W base spare held n _ _ e1
  obtain ⟨p2, q2, r2⟩ := k2 enc W base spare held n _ _ e2
  refine ⟨(p0, p1, p2), ⟨_, _, ?_, q0, ⟨_, _, rfl, q1, q2⟩⟩, r0, r1, r2⟩
  rw [hc] at hl
  rw [List.take_of_length_le (l := cs.drop (a.sz + b.sz)) (by rw [List.length_drop]; omega)]
  conv => lhs; rw [← List.take_append_drop a.sz cs]
  congr 1
  conv => lhs; rw [← List.take_append_drop b.sz (cs.drop a.sz)]
  rw [List.drop_drop]
end
end Go.Proofs.YthghcpeedmconaaDoorW.PrintWords
end
section
namespace Go.Proofs.YthghcpeedmconaaDoor.X
set_option linter.unusedVariables false
set_option linter.unusedSimpArgs false
open Go.RowKit Go.Lib Go.ChangeShapes Go.WideShapes Go.ChangeAt Go.Joins Go.Proofs.YthghcpeedmconaaDoorW.PrintWords
open Go.ChangeMaps (open_string shut_string)
set_option maxRecDepth 100000
theorem own : ownKnob Tryd.prog.godebug = none := by kernel_rfl
theorem u8extra : U8Extra Tryd.prog Tryd.laysValid_ren := ⟨by kernel_rfl, by kernel_rfl, by kernel_rfl, by kernel_rfl, by kernel_rfl, by kernel_rfl, by kernel_rfl⟩
theorem most_of {w : World} (h : w.ShapedOpen Tryd.prog) : ∃ m : Int, w.cell? ⟨2, 0, none⟩ = some (.int .i64 m) :=
  cell_of_shapedOpen_int (zero := #[.int .i64 0]) (t := 3) h (of_decide_eq_true (by kernel_rfl)) (by kernel_rfl) rfl (by kernel_rfl) (by kernel_rfl) Tryd.underlying3
def two : List (String × DataW Unit) := [("unicode/utf8.acceptRanges", Rows.laid_unicode_utf8_acceptRanges), ("unicode/utf8.first", Rows.laid_unicode_utf8_first)]
theorem tabs_of {w : World} (h : laidMetH Tryd.prog two w) (hs : w.ShapedOpen Tryd.prog) : Tabs w := by
  have h' : laidMet Tryd.prog two w := h
  refine ⟨?_, most_of hs⟩
  have h3 := Go.Lib.laidMet.reads h' (n := "unicode/utf8.first") (d := Rows.laid_unicode_utf8_first) (by simp [two])
  have h4 := Go.Lib.laidMet.reads h' (n := "unicode/utf8.acceptRanges") (d := Rows.laid_unicode_utf8_acceptRanges) (by simp [two])
  rw [show (Rows.laid_unicode_utf8_first : DataW Unit) = firstData by kernel_rfl] at h3
  rw [show (Rows.laid_unicode_utf8_acceptRanges : DataW Unit) = acceptData by kernel_rfl] at h4
  exact utf8Tabs_of_readsT (U8Types.of196 Tryd.laysValid) u8extra h3 h4
theorem laidOut : laidOutB Tryd.prog = true := by kernel_rfl
theorem i64_of {n : Int} (h : inKind .i64 n) : I64 n := by
  unfold inKind at h
  simp only [IntKind.min, IntKind.max, IntKind.signed, IntKind.bits, if_true] at h
  exact ⟨by omega, by omega⟩
def okV (x : S42) : Prop := I64 x.f0 ∧ I64 x.f1 ∧ x.f2.size ≤ 9223372036854775807
theorem opens_value : Opens Tryd.prog k42 42 okV :=
  Opens.imp (opens_iso (opens_three Tryd.underlying42 ⟨rfl, rfl, rfl⟩ (by kernel_rfl) (by kernel_rfl) (by kernel_rfl) (by kernel_rfl) (opens_int Tryd.underlying3) (opens_int Tryd.underlying2) (opens_string Tryd.underlying9)) (fun x : S42 => (x.f0, (x.f1, x.f2))) (fun p => ⟨p.1, p.2.1, p.2.2⟩) (fun _ => rfl))
    (fun x h => ⟨i64_of h.1, i64_of h.2.1, h.2.2⟩)
section
variable {H : Type} {enc : TypeId × Value → H} {W : World} {base b0 : Nat} {spare : Nat → Bool} {held : Bool} {r : Reach} {v : Value} {D : DataW H} {p : List MemPlace}
theorem open_vrow (hv : Value.okWide Tryd.prog W r b0 33 v) (hd : DataW.Trod enc Tryd.prog W base spare held 33 v D p) : ∃ A c xs, v = .slice A xs.length c ∧ xs.length ≤ c ∧ k42.C W A xs.length xs ∧ ∀ x ∈ xs, okV x :=
  open_arg_slice Tryd.underlying33 (by kernel_rfl) opens_value hv hd
theorem open_vbytes (hv : Value.okWide Tryd.prog W r b0 47 v) (hd : DataW.Trod enc Tryd.prog W base spare held 47 v D p) : ∃ A c xs, v = .slice A xs.length c ∧ xs.length ≤ c ∧ (Kd.int .u8).C W A xs.length xs ∧ ∀ x ∈ xs, 0 ≤ x ∧ x < 256 := by
  obtain ⟨A, c, xs, h1, h2, h3, h4⟩ := open_arg_slice Tryd.underlying47 (by kernel_rfl) (opens_int Tryd.underlying5) hv hd
  refine ⟨A, c, xs, h1, h2, h3, fun x hx => ?_⟩
  have := h4 x hx
  unfold inKind at this
  simp only [IntKind.min, IntKind.max, IntKind.signed, IntKind.bits, Bool.false_eq_true, if_false] at this
  omega
end
noncomputable def laidWorld (os : Os) : World :=
  { World.doorLaid Tryd.prog 200 os with heap := (World.doorLaid Tryd.prog 200 os).heap.modify 0 fun
      | .cells _ t frozen => .cells (Go.Pinned.utf8FirstZ.map fun (n : Nat) => Value.int .u8 (n : Int)).toArray t frozen
      | o => o }
theorem laid_met (os : Os) (args : Array Value) : laidMetH Tryd.prog two ((laidWorld os).forCall (fun _ _ => 0) ⟨#[], args, []⟩).memory :=
  laidMet_of_run' 8 (by kernel_rfl) (by kernel_rfl)
end Go.Proofs.YthghcpeedmconaaDoor.X
end
section
namespace Go.Proofs.YthghcpeedmconaaDoor.rowcodeBack
open Go.ChangeShapes Go.WideShapes Go.ChangeAt Go.RowKit Go.Proofs.YthghcpeedmconaaDoor.X Go.Proofs.YthghcpeedmconaaDoorW.PrintWords
open Go.ChangeMaps (open_string shut_string)
set_option linter.unusedVariables false
set_option linter.unusedSimpArgs false
set_option maxRecDepth 100000 in
theorem reads (os : Os) {H : Type} (enc : TypeId × Value → H) : ∃ places, DataW.whole enc Tryd.prog ((laidWorld os).forCall (fun _ _ => 0) ⟨#[], #[.slice none 0 0, .slice none 0 0, .slice none 0 0], []⟩).memory Tryd.f7.params.toList Rows.rowcodeBackSpec.vars false
    #[Value.slice none 0 0, .slice none 0 0, .slice none 0 0].toList 8 =
    some ([.nil, .nil, .nil], [], places) :=
  ⟨[], by kernel_rfl⟩
set_option maxRecDepth 100000 in
theorem lifted (os : Os) (started : os.Started) (H : Type) (enc : TypeId × Value → H) (F : Stop.Interp) :
    ReturnsInHanded {} Tryd.checked os 7 .any ((OpenSpec.ofChange Rows.rowcodeBackSpec).preRow enc Tryd.prog Tryd.f7 Rows.rowcodeBackRow.domain false Rows.rowcodeBackRow.laid) (((OpenSpec.ofChange Rows.rowcodeBackSpec).at F).post enc Tryd.prog Tryd.f7 false true false false) := by
  obtain ⟨places, hx⟩ := reads os enc
  refine returnsInHanded_of_row (C := Tryd.checked) (s := (OpenSpec.ofChange Rows.rowcodeBackSpec)) own started (by kernel_rfl) Tryd.func7
    (witness_row_at (enc := enc) (C := Tryd.checked) false (laidWorld os) #[.slice none 0 0, .slice none 0 0, .slice none 0 0] rfl (by kernel_rfl) (by kernel_rfl) (by kernel_rfl)
      (OpenSpec.preRow_of_cond 8 hx (by kernel_rfl) (fun k hk => by cases hk) (by kernel_rfl) (laid_met os _))) ?_
  intro W base args ds gs before hval0 hW _ hcond hsz0 hL hsh _
  have hT : Tabs W := tabs_of hL hsh
  have hval : ∀ (j : Nat) t v, Tryd.f7.params[j]? = some t → args[j]? = some v → Value.okWide Tryd.prog W .any base t v := hval0
  have hW' := hW
  have hlt0 := fun x hx => hW'.lt x hx
  obtain ⟨p, q, hA0, hV, rfl, hfz, hnd⟩ := hW
  have hA : DataW.TrodAll enc Tryd.prog W 0 (fun _ => true) true Tryd.f7.params.toList args.toList ds p := hA0
  rw [Tryd.params7] at hA hval
  obtain ⟨v0, vs0, d0, ds0, p0, q0, hargs, rfl, rfl, h0, r0⟩ := trodAll_cons hA
  obtain ⟨v1, vs1, d1, ds1, p1, q1, rfl, rfl, rfl, h1, r1⟩ := trodAll_cons r0
  obtain ⟨v2, vs2, d2, ds2, p2, q2, rfl, rfl, rfl, h2, r2⟩ := trodAll_cons r1
  obtain ⟨rfl, rfl, rfl⟩ := trodAll_nil r2
  obtain rfl : args = #[v0, v1, v2] := by cases args; simp_all
  obtain ⟨rfl, rfl⟩ := trodVars_none hV
  have k0 := h0
  have lt0 : ∀ x ∈ p0, x.block < W.heap.size := fun x hx => by have := hlt0 x (by simp [hx]); simpa using this
  obtain ⟨A0, c0, a0, rfl, hc0, hr0, g0⟩ := open_vrow (hval 0 33 v0 rfl rfl) h0
  have k1 := h1
  have lt1 : ∀ x ∈ p1, x.block < W.heap.size := fun x hx => by have := hlt0 x (by simp [hx]); simpa using this
  obtain ⟨A1, c1, a1, rfl, hc1, hr1, g1⟩ := open_vbytes (hval 1 47 v1 rfl rfl) h1
  have z1 : a1.length * 1 ≤ 140737488351232 := sized_ints (j := 1) hsz0 rfl rfl Tryd.underlying47 Tryd.underlying5 (by kernel_rfl) (by kernel_rfl) k1
  have k2 := h2
  have lt2 : ∀ x ∈ p2, x.block < W.heap.size := fun x hx => by have := hlt0 x (by simp [hx]); simpa using this
  obtain ⟨A2, c2, a2, rfl, hc2, hr2, g2⟩ := open_vbytes (hval 2 47 v2 rfl rfl) h2
  have z2 : a2.length * 1 ≤ 140737488351232 := sized_ints (j := 2) hsz0 rfl rfl Tryd.underlying47 Tryd.underlying5 (by kernel_rfl) (by kernel_rfl) k2
  have hE := RowcodeBack_true a0 a1 a2 (fun v hv => (g0 v hv).2.1) g1 (by omega) g2 (by omega)
  obtain ⟨kk, hP⟩ := hE
  refine (locksteplaw02_RowcodeBack.calls kk A0 c0 a0 A1 c1 a1 A2 c2 a2 true W hT hr0 hc0 hr1 hc1 hr2 hc2 (hP) rfl).mono fun e W' ⟨he, bel⟩ => ?_
  subst he
  exact ⟨_, rfl, _, _, _, [], _, [], hW', trodAll_mk1 (shut_bool Tryd.underlying4 _), (trodAll_cons_mk (Below.trod laidOut (by kernel_rfl) (of_decide_eq_true (by kernel_rfl)) k0 bel lt0) (trodAll_cons_mk (Below.trod laidOut (by kernel_rfl) (of_decide_eq_true (by kernel_rfl)) k1 bel lt1) (trodAll_cons_mk (Below.trod laidOut (by kernel_rfl) (of_decide_eq_true (by kernel_rfl)) k2 bel lt2) trodAll_mk0))), rfl, bel.frame _, fun h => by cases h⟩
theorem said : Rows.RowcodeBackSaid :=
  OpenClaim.holds_of_cond 7 Tryd.f7 rfl rfl rfl rfl rfl rfl rfl ⟨rfl, rfl, rfl, rfl, rfl⟩ rfl rfl rfl rfl rfl (by kernel_rfl) Tryd.func7 (by kernel_rfl)
    (of_decide_eq_true (by kernel_rfl)) (by unfold Func.isWrapper; first | (rw [if_pos (by decide +kernel)]; kernel_rfl) | (rw [if_neg (by decide +kernel)]; exact ⟨rfl, rfl⟩))
    (fun os started H enc _ F => by rw [OpenClaim.pre_eq_preRow]; exact lifted os started H enc F)
theorem plain (f : FuncId) (fn : Func) (hf : Tryd.pinned.checked.prog.funcNamed "lockstep/locksteplaw02.RowcodeBack" = some f) (hfn : Tryd.pinned.checked.prog.funcs[f]? = some fn) :
    false = Tryd.pinned.checked.prog.looks [] ∧ ∀ (j : Nat) t, fn.params[j]? = some t → Tryd.pinned.checked.prog.wantsStandIn t = false := by
  obtain rfl : f = 7 := Option.some.inj ((show Tryd.prog.funcNamed "lockstep/locksteplaw02.RowcodeBack" = some 7 by kernel_rfl).symm.trans hf) |>.symm
  obtain rfl : fn = Tryd.f7 := (Option.some.inj (Tryd.func7.symm.trans hfn)).symm
  refine ⟨by kernel_rfl, fun j t ht => ?_⟩
  rw [Tryd.params7] at ht
  have hm := Array.mem_of_getElem? ht
  have ht' : t = 33 ∨ t = 47 := by simpa using hm
  rcases ht' with rfl | rfl
  · exact (show Tryd.prog.wantsStandIn 33 = false by kernel_rfl)
  · exact (show Tryd.prog.wantsStandIn 47 = false by kernel_rfl)
theorem card : Rows.RowcodeBackCardSaid :=
  Claim7.holds_tied_plain_at .later [] _ _ _ _ said (fun _ h => by cases h) (by kernel_rfl) (fun _ h => by cases h) rowcodeBack_row_tie rfl ⟨rfl, rfl⟩ (by kernel_rfl) rfl plain (by kernel_rfl)
end Go.Proofs.YthghcpeedmconaaDoor.rowcodeBack
end

/- Part 4 of a claim of this seat: texts merged by a program of the claim's session (wip/bundle.py). -/
import Derived.Test.YthghcpeedmconaaDoorZRr1
section
namespace Go.Proofs.YthghcpeedmconaaDoor.X
open Go.RowKit Go.Proofs.YthghcpeedmconaaDoorW.PrintWords Go.Proofs.YthghcpeedmconaaDoorW.PrintLast Go.Proofs.YthghcpeedmconaaDoorW.PrintMore
attribute [local go_sem] max2_int min2_int max_two min_two max_three min_three max_four min_four
set_option linter.unusedVariables false
set_option linter.unusedSimpArgs false
def lockstepref02_signed.j0 : Nat → Int → Bool → Int → Bool → Option (Int × Int × ByteArray × Int × Int)
 | 0, _, _, _, _ => none
 | k + 1, x0, x1, x2, x19 => if x19 = true then (some (0, 0, (⟨#[]⟩ : ByteArray), 0, 20)) else (if x2 = 9223372036854775808 then (some (x0, (-9223372036854775808), (⟨#[]⟩ : ByteArray), 12, 0)) else (if x1 = true then (some (x0, wrap64 (-(wrap64 (Int.tmod x2 9223372036854775808))), (⟨#[]⟩ : ByteArray), 12, 0)) else (some (x0, wrap64 (Int.tmod x2 9223372036854775808), (⟨#[]⟩ : ByteArray), 12, 0))))
def lockstepref02_signed.f (k : Nat) (a0 : Int) (a1 : Bool) (a2 : Int) : Option (Int × Int × ByteArray × Int × Int) := if a2 > 9223372036854775808 then (lockstepref02_signed.j0 k a0 a1 a2 true) else (if a2 = 9223372036854775808 then (lockstepref02_signed.j0 k a0 a1 a2 (!a1)) else (lockstepref02_signed.j0 k a0 a1 a2 false))
set_option maxHeartbeats 8000000 in
set_option maxRecDepth 100000 in
theorem lockstepref02_signed.calls (k : Nat) (a0 : Int) (a1 : Bool) (a2 : Int) (r1 : Int) (r2 : Int) (r3 : ByteArray) (r4 : Int) (r5 : Int) (w : World) (h : lockstepref02_signed.f k a0 a1 a2 = some (r1, r2, r3, r4, r5)) :
  Calls Tryd.prog 78 #[.int .i64 a0, .bool a1, .int .u64 a2] w fun e w' => e = .returned (.tuple #[.agg #[.int .i64 r1, .int .i64 r2, .string r3], .int .i64 r4, .int .i64 r5]) ∧ Below w.heap.size w w' := by
 have hu42 := Tryd.underlying42
 have HB := Aside0.mk (Below.refl w.heap.size w)
 have H : (if a2 > 9223372036854775808 then (lockstepref02_signed.j0 k a0 a1 a2 true) else (if a2 = 9223372036854775808 then (lockstepref02_signed.j0 k a0 a1 a2 (!a1)) else (lockstepref02_signed.j0 k a0 a1 a2 false))) = some (r1, r2, r3, r4, r5) := h
 clear h
 have HC4 := Aside0.mk H
 clear H
 go_enter Tryd.func78, Tryd.ntmps78
 go_upto_region 1 with (first | ((with_reducible refine gate_dst (N := 6) rfl ?_); refine box_event ?hg (N := 6) ?hd (cs := #[.int .i64 0, .int .i64 0, .string (⟨#[]⟩ : ByteArray)]) (t := 42) ?hr ?_; (case hd => rfl); (case hg => rfl); (case hr => first | (go_simp; done) | (go_simp; rfl)); intro gb540 hg w5 hbox hb; have n0_ := Aside0.mk (below_step (by repeat (first | (with_reducible first | exact HB.out | apply below_alloc | apply pw_below_drewN | apply below_drew1) | exact HB.out)) hb); have n1_ := Aside0.mk (hbox); have n2_ := Aside0.mk ((by rw [hg]; exact (below_size (by repeat (first | (with_reducible first | exact HB.out | apply below_alloc | apply pw_below_drewN | apply below_drew1) | exact HB.out))) : w.heap.size ≤ gb540)); have n3_ := Aside0.mk ((by rw [hg]; exact (below_size (by repeat (first | (with_reducible first | exact HB.out | apply below_alloc | apply pw_below_drewN | apply below_drew1) | exact HB.out))) : w.heap.size ≤ gb540)); clear HB; have HB := n0_; have BK540 := n1_; have GW540 := n2_; have GE540 := n3_; clear n0_ n1_ n2_ n3_; clear hb hbox hg))
 (try simp only [Act.put, List.setIfInBounds_toArray, List.set_cons_zero, List.set_cons_succ])
 go_cut [19] (fun v19 wc => ∃ (kq : Nat) (x19_3 : Bool), v19 = .bool x19_3 ∧ Aside0 (lockstepref02_signed.j0 kq a0 a1 a2 x19_3 = some (r1, r2, r3, r4, r5)) ∧ Aside0 (kq ≤ k) ∧ Aside0 (wc.heap[gb540]? = some (.cells #[.int .i64 0, .int .i64 0, .string (⟨#[]⟩ : ByteArray)] 42 (0, 0))) ∧ Aside0 (Below w.heap.size w wc))
 case first =>
  have H := HC4.out
  clear HC4
  by_cases c6 : a2 > 9223372036854775808
  ·
   rw [if_pos c6] at H
   have c6b0 : decide (9223372036854775808 < a2) = true := decide_eq_true c6
   clear c6
   (first | rw [c6b0] | (simp only [i64_w, i32_w]; rw [c6b0]) | skip)
   have H' := Aside0.mk H
   clear H
   go_wp2
   go_meet
   case rel => exact ⟨_, (true), (by first | with_reducible rfl | (simp; done) | (simp [*]; done) | rfl), H', ⟨by first | omega | exact Nat.le_refl _⟩, ⟨by (with_reducible repeat (first | refine blk_drewN ?_ _ | refine blk_drew ?_ | refine blk_alloc ?_ _)); exact BK540.out⟩, ⟨by repeat (first | (with_reducible first | exact HB.out | apply below_alloc | apply pw_below_drewN | apply below_drew1 | refine below_set ?_ GE540.out) | exact HB.out)⟩⟩
  ·
   rw [if_neg c6] at H
   have c6b0 : decide (9223372036854775808 < a2) = false := decide_eq_false c6
   clear c6
   (first | rw [c6b0] | (simp only [i64_w, i32_w]; rw [c6b0]) | skip)
   by_cases c7 : a2 = 9223372036854775808
   ·
    rw [if_pos c7] at H
    have c7b0 : (a2 == 9223372036854775808) = true := beq_iff_eq.mpr c7
    have c7b1 : (a2 != 9223372036854775808) = false := bne_eq_false_iff_eq.mpr c7
    clear c7
    have H' := Aside0.mk H
    clear H
    go_wp2
    go_meet
    case rel => exact ⟨_, (!a1), (by first | with_reducible rfl | (simp; done) | (simp [*]; done) | rfl), H', ⟨by first | omega | exact Nat.le_refl _⟩, ⟨by (with_reducible repeat (first | refine blk_drewN ?_ _ | refine blk_drew ?_ | refine blk_alloc ?_ _)); exact BK540.out⟩, ⟨by repeat (first | (with_reducible first | exact HB.out | apply below_alloc | apply pw_below_drewN | apply below_drew1 | refine below_set ?_ GE540.out) | exact HB.out)⟩⟩
   ·
    rw [if_neg c7] at H
    have c7b0 : (a2 == 9223372036854775808) = false := beq_eq_false_iff_ne.mpr c7
    have c7b1 : (a2 != 9223372036854775808) = true := bne_iff_ne.mpr c7
    have H' := Aside0.mk H
    clear H
    go_wp2
    go_meet
    case rel => exact ⟨_, (false), (by first | with_reducible rfl | (simp; done) | (simp [*]; done) | rfl), H', ⟨by first | omega | exact Nat.le_refl _⟩, ⟨by (with_reducible repeat (first | refine blk_drewN ?_ _ | refine blk_drew ?_ | refine blk_alloc ?_ _)); exact BK540.out⟩, ⟨by repeat (first | (with_reducible first | exact HB.out | apply below_alloc | apply pw_below_drewN | apply below_drew1 | refine below_set ?_ GE540.out) | exact HB.out)⟩⟩
 case rest =>
  clear HC4
  (try clear p2); (try clear c6); (try clear c6b0); (try clear c7); (try clear c7b0); (try clear c7b1)
  obtain ⟨kq, x19_3, rfl, HA, HJ3, BK540, HB⟩ := hcut
  cases kq with
  | zero => exact absurd HA.out (by simp [lockstepref02_signed.j0])
  | succ kj3 =>
   have H := HA.out
   clear HA
   simp only [lockstepref02_signed.j0] at H
   by_cases c8 : x19_3 = true
   ·
    subst c8
    have H1 : (some (0, 0, (⟨#[]⟩ : ByteArray), 0, 20)) = some (r1, r2, r3, r4, r5) := by rw [if_pos rfl] at H; exact H
    clear H
    have H := H1
    clear H1
    simp only [Option.some.injEq, Prod.mk.injEq] at H
    obtain ⟨rfl, rfl, rfl, rfl, rfl⟩ := H
    have hcz9_0 : wc.cell? ⟨gb540, 0, none⟩ = some (.int .i64 0) := (blk_cell BK540.out 0).trans rfl
    have hcz9_1 : wc.cell? ⟨gb540, 1, none⟩ = some (.int .i64 0) := (blk_cell BK540.out 1).trans rfl
    have hcz9_2 : wc.cell? ⟨gb540, 2, none⟩ = some (.string (⟨#[]⟩ : ByteArray)) := (blk_cell BK540.out 2).trans rfl
    have hfz9_0 := blk_frozen BK540.out 0
    have hfz9_1 := blk_frozen BK540.out 1
    have hfz9_2 := blk_frozen BK540.out 2
    go_wp2
    refine bodyPost_ret (results_ctt rfl _ _ gb540 42 #[.int .i64 0, .int .i64 0, .string (⟨#[]⟩ : ByteArray)] (0, 0) _ rfl (by (with_reducible repeat (first | refine blk_drewN ?_ _ | refine blk_drew ?_ | refine blk_alloc ?_ _)); refine blk_put (cs := #[.int .i64 0, .int .i64 0, .string (⟨#[]⟩ : ByteArray)]) ?_ 2 _ rfl; (with_reducible repeat (first | refine blk_drewN ?_ _ | refine blk_drew ?_ | refine blk_alloc ?_ _)); refine blk_put (cs := #[.int .i64 0, .int .i64 0, .string (⟨#[]⟩ : ByteArray)]) ?_ 1 _ rfl; (with_reducible repeat (first | refine blk_drewN ?_ _ | refine blk_drew ?_ | refine blk_alloc ?_ _)); refine blk_put (cs := #[.int .i64 0, .int .i64 0, .string (⟨#[]⟩ : ByteArray)]) ?_ 0 _ rfl; (with_reducible repeat (first | refine blk_drewN ?_ _ | refine blk_drew ?_ | refine blk_alloc ?_ _)); exact BK540.out) Tryd.underlying42 rfl (by kernel_rfl)) rfl ?_
    exact ⟨by first | rfl | (simp [errW_none, errW_some] <;> rfl) | (simp [*, errW_none, errW_some] <;> rfl), by repeat (first | (with_reducible first | exact HB.out | apply below_alloc | apply pw_below_drewN | apply below_drew1 | refine below_set ?_ GE540.out) | exact HB.out)⟩
   ·
    replace c8 := Bool.eq_false_iff.mpr c8
    subst c8
    have H1 : (if a2 = 9223372036854775808 then (some (a0, (-9223372036854775808), (⟨#[]⟩ : ByteArray), 12, 0)) else (if a1 = true then (some (a0, wrap64 (-(wrap64 (Int.tmod a2 9223372036854775808))), (⟨#[]⟩ : ByteArray), 12, 0)) else (some (a0, wrap64 (Int.tmod a2 9223372036854775808), (⟨#[]⟩ : ByteArray), 12, 0)))) = some (r1, r2, r3, r4, r5) := by rw [if_neg (show ¬ (false = true) by decide)] at H; exact H
    clear H
    have H := H1
    clear H1
    by_cases c10 : a2 = 9223372036854775808
    ·
     rw [if_pos c10] at H
     have c10b0 : (a2 == 9223372036854775808) = true := beq_iff_eq.mpr c10
     have c10b1 : (a2 != 9223372036854775808) = false := bne_eq_false_iff_eq.mpr c10
     clear c10
     simp only [Option.some.injEq, Prod.mk.injEq] at H
     obtain ⟨rfl, rfl, rfl, rfl, rfl⟩ := H
     have hcz11_0 : wc.cell? ⟨gb540, 0, none⟩ = some (.int .i64 0) := (blk_cell BK540.out 0).trans rfl
     have hcz11_1 : wc.cell? ⟨gb540, 1, none⟩ = some (.int .i64 0) := (blk_cell BK540.out 1).trans rfl
     have hcz11_2 : wc.cell? ⟨gb540, 2, none⟩ = some (.string (⟨#[]⟩ : ByteArray)) := (blk_cell BK540.out 2).trans rfl
     have hfz11_0 := blk_frozen BK540.out 0
     have hfz11_1 := blk_frozen BK540.out 1
     have hfz11_2 := blk_frozen BK540.out 2
     go_wp2
     refine bodyPost_ret (results_ctt rfl _ _ gb540 42 #[.int .i64 a0, .int .i64 (-9223372036854775808), .string (⟨#[]⟩ : ByteArray)] (0, 0) _ rfl (by (with_reducible repeat (first | refine blk_drewN ?_ _ | refine blk_drew ?_ | refine blk_alloc ?_ _)); refine blk_put (cs := #[.int .i64 a0, .int .i64 (-9223372036854775808), .string (⟨#[]⟩ : ByteArray)]) ?_ 2 _ rfl; (with_reducible repeat (first | refine blk_drewN ?_ _ | refine blk_drew ?_ | refine blk_alloc ?_ _)); refine blk_put (cs := #[.int .i64 a0, .int .i64 0, .string (⟨#[]⟩ : ByteArray)]) ?_ 1 _ rfl; (with_reducible repeat (first | refine blk_drewN ?_ _ | refine blk_drew ?_ | refine blk_alloc ?_ _)); refine blk_put (cs := #[.int .i64 0, .int .i64 0, .string (⟨#[]⟩ : ByteArray)]) ?_ 0 _ rfl; (with_reducible repeat (first | refine blk_drewN ?_ _ | refine blk_drew ?_ | refine blk_alloc ?_ _)); exact BK540.out) Tryd.underlying42 rfl (by kernel_rfl)) rfl ?_
     exact ⟨by first | rfl | (simp [errW_none, errW_some] <;> rfl) | (simp [*, errW_none, errW_some] <;> rfl), by repeat (first | (with_reducible first | exact HB.out | apply below_alloc | apply pw_below_drewN | apply below_drew1 | refine below_set ?_ GE540.out) | exact HB.out)⟩
    ·
     rw [if_neg c10] at H
     have c10b0 : (a2 == 9223372036854775808) = false := beq_eq_false_iff_ne.mpr c10
     have c10b1 : (a2 != 9223372036854775808) = true := bne_iff_ne.mpr c10
     by_cases c12 : a1 = true
     ·
      subst c12
      have H1 : (some (a0, wrap64 (-(wrap64 (Int.tmod a2 9223372036854775808))), (⟨#[]⟩ : ByteArray), 12, 0)) = some (r1, r2, r3, r4, r5) := by rw [if_pos rfl] at H; exact H
      clear H
      have H := H1
      clear H1
      simp only [Option.some.injEq, Prod.mk.injEq] at H
      obtain ⟨rfl, rfl, rfl, rfl, rfl⟩ := H
      have hcz13_0 : wc.cell? ⟨gb540, 0, none⟩ = some (.int .i64 0) := (blk_cell BK540.out 0).trans rfl
      have hcz13_1 : wc.cell? ⟨gb540, 1, none⟩ = some (.int .i64 0) := (blk_cell BK540.out 1).trans rfl
      have hcz13_2 : wc.cell? ⟨gb540, 2, none⟩ = some (.string (⟨#[]⟩ : ByteArray)) := (blk_cell BK540.out 2).trans rfl
      have hfz13_0 := blk_frozen BK540.out 0
      have hfz13_1 := blk_frozen BK540.out 1
      have hfz13_2 := blk_frozen BK540.out 2
      go_wp2
      refine bodyPost_ret (results_ctt rfl _ _ gb540 42 #[.int .i64 a0, .int .i64 (wrap64 (-(wrap64 (Int.tmod a2 9223372036854775808)))), .string (⟨#[]⟩ : ByteArray)] (0, 0) _ rfl (by (with_reducible repeat (first | refine blk_drewN ?_ _ | refine blk_drew ?_ | refine blk_alloc ?_ _)); refine blk_put (cs := #[.int .i64 a0, .int .i64 (wrap64 (-(wrap64 (Int.tmod a2 9223372036854775808)))), .string (⟨#[]⟩ : ByteArray)]) ?_ 2 _ rfl; (with_reducible repeat (first | refine blk_drewN ?_ _ | refine blk_drew ?_ | refine blk_alloc ?_ _)); refine blk_put (cs := #[.int .i64 a0, .int .i64 0, .string (⟨#[]⟩ : ByteArray)]) ?_ 1 _ rfl; (with_reducible repeat (first | refine blk_drewN ?_ _ | refine blk_drew ?_ | refine blk_alloc ?_ _)); refine blk_put (cs := #[.int .i64 0, .int .i64 0, .string (⟨#[]⟩ : ByteArray)]) ?_ 0 _ rfl; (with_reducible repeat (first | refine blk_drewN ?_ _ | refine blk_drew ?_ | refine blk_alloc ?_ _)); exact BK540.out) Tryd.underlying42 rfl (by kernel_rfl)) rfl ?_
      exact ⟨by first | rfl | (simp [errW_none, errW_some] <;> rfl) | (simp [*, errW_none, errW_some] <;> rfl), by repeat (first | (with_reducible first | exact HB.out | apply below_alloc | apply pw_below_drewN | apply below_drew1 | refine below_set ?_ GE540.out) | exact HB.out)⟩
     ·
      replace c12 := Bool.eq_false_iff.mpr c12
      subst c12
      have H1 : (some (a0, wrap64 (Int.tmod a2 9223372036854775808), (⟨#[]⟩ : ByteArray), 12, 0)) = some (r1, r2, r3, r4, r5) := by rw [if_neg (show ¬ (false = true) by decide)] at H; exact H
      clear H
      have H := H1
      clear H1
      simp only [Option.some.injEq, Prod.mk.injEq] at H
      obtain ⟨rfl, rfl, rfl, rfl, rfl⟩ := H
      have hcz14_0 : wc.cell? ⟨gb540, 0, none⟩ = some (.int .i64 0) := (blk_cell BK540.out 0).trans rfl
      have hcz14_1 : wc.cell? ⟨gb540, 1, none⟩ = some (.int .i64 0) := (blk_cell BK540.out 1).trans rfl
      have hcz14_2 : wc.cell? ⟨gb540, 2, none⟩ = some (.string (⟨#[]⟩ : ByteArray)) := (blk_cell BK540.out 2).trans rfl
      have hfz14_0 := blk_frozen BK540.out 0
      have hfz14_1 := blk_frozen BK540.out 1
      have hfz14_2 := blk_frozen BK540.out 2
      go_wp2
      refine bodyPost_ret (results_ctt rfl _ _ gb540 42 #[.int .i64 a0, .int .i64 (wrap64 (Int.tmod a2 9223372036854775808)), .string (⟨#[]⟩ : ByteArray)] (0, 0) _ rfl (by (with_reducible repeat (first | refine blk_drewN ?_ _ | refine blk_drew ?_ | refine blk_alloc ?_ _)); refine blk_put (cs := #[.int .i64 a0, .int .i64 (wrap64 (Int.tmod a2 9223372036854775808)), .string (⟨#[]⟩ : ByteArray)]) ?_ 2 _ rfl; (with_reducible repeat (first | refine blk_drewN ?_ _ | refine blk_drew ?_ | refine blk_alloc ?_ _)); refine blk_put (cs := #[.int .i64 a0, .int .i64 0, .string (⟨#[]⟩ : ByteArray)]) ?_ 1 _ rfl; (with_reducible repeat (first | refine blk_drewN ?_ _ | refine blk_drew ?_ | refine blk_alloc ?_ _)); refine blk_put (cs := #[.int .i64 0, .int .i64 0, .string (⟨#[]⟩ : ByteArray)]) ?_ 0 _ rfl; (with_reducible repeat (first | refine blk_drewN ?_ _ | refine blk_drew ?_ | refine blk_alloc ?_ _)); exact BK540.out) Tryd.underlying42 rfl (by kernel_rfl)) rfl ?_
      exact ⟨by first | rfl | (simp [errW_none, errW_some] <;> rfl) | (simp [*, errW_none, errW_some] <;> rfl), by repeat (first | (with_reducible first | exact HB.out | apply below_alloc | apply pw_below_drewN | apply below_drew1 | refine below_set ?_ GE540.out) | exact HB.out)⟩
def lockstepref02_divided.l0 : Nat → Int → Int → Int → Int → Option (Int × Int)
 | 0, _, _, _, _ => none
 | k + 1, x1, x6, x7, x8 => if x8 ≥ 0 then (if 0 ≤ (IntKind.u64.wrap (x8)) then (if (IntKind.u64.wrap ((IntKind.u64.wrap (2 * x7)) + (Int.tmod (shr .u64 x1 (IntKind.u64.wrap (x8))) 2))) ≥ 10000 then (lockstepref02_divided.l0 k x1 (IntKind.u64.wrap ((IntKind.u64.wrap (2 * x6)) + 1)) (IntKind.u64.wrap ((IntKind.u64.wrap ((IntKind.u64.wrap (2 * x7)) + (Int.tmod (shr .u64 x1 (IntKind.u64.wrap (x8))) 2))) - 10000)) (wrap64 (x8 - 1))) else (lockstepref02_divided.l0 k x1 (IntKind.u64.wrap (2 * x6)) (IntKind.u64.wrap ((IntKind.u64.wrap (2 * x7)) + (Int.tmod (shr .u64 x1 (IntKind.u64.wrap (x8))) 2))) (wrap64 (x8 - 1)))) else (none)) else (some (x6, x7))
def lockstepref02_divided.f (k : Nat) (a0 : Int) (a1 : Int) : Option (Int × Int) := lockstepref02_divided.l0 k a1 0 a0 63
set_option maxHeartbeats 8000000 in
set_option maxRecDepth 100000 in
theorem lockstepref02_divided.calls (k : Nat) (a0 : Int) (a1 : Int) (r1 : Int) (r2 : Int) (w : World) (h : lockstepref02_divided.f k a0 a1 = some (r1, r2)) :
  Calls Tryd.prog 79 #[.int .u64 a0, .int .u64 a1] w fun e w' => e = .returned (.tuple #[.int .u64 r1, .int .u64 r2]) ∧ Drawn0 w w' := by
 have H : (lockstepref02_divided.l0 k a1 0 a0 63) = some (r1, r2) := h
 clear h
 have H' := Aside0.mk H
 clear H
 go_enter Tryd.func79, Tryd.ntmps79
 go_wp2
 go_loopg [6, 7, 8] k (fun kq v6 v7 v8 w' => ∃ (x6_1 : Int) (x7_1 : Int) (x8_1 : Int), v6 = .int .u64 x6_1 ∧ v7 = .int .u64 x7_1 ∧ v8 = .int .i64 x8_1 ∧ Aside0 (lockstepref02_divided.l0 kq a1 x6_1 x7_1 x8_1 = some (r1, r2)) ∧ Aside0 (kq ≤ k) ∧ Drawn0 w w')
 case atStart => exact ⟨(0), (a0), (63), (by first | rfl | (simp; done) | (simp [*]; done)), (by first | rfl | (simp; done) | (simp [*]; done)), (by first | rfl | (simp; done) | (simp [*]; done)), H', ⟨Nat.le_refl _⟩, by repeat (first | exact Drawn0.refl _ | apply Drawn0.step)⟩
 case round =>
  clear H'
  (try clear p2)
  obtain ⟨x6_1, x7_1, x8_1, rfl, rfl, rfl, HA, HK1, ⟨m1, rfl⟩⟩ := hrel
  cases gk with
  | zero => exact absurd HA.out (by simp [lockstepref02_divided.l0])
  | succ k1 =>
   have H := HA.out
   clear HA
   simp only [lockstepref02_divided.l0] at H
   by_cases c3 : x8_1 ≥ 0
   ·
    rw [if_pos c3] at H
    have c3b0 : decide (0 ≤ x8_1) = true := decide_eq_true c3
    clear c3
    obtain ⟨ji4, hji4⟩ : ∃ j_ : Int, (IntKind.u64.wrap (x8_1)) = j_ := ⟨_, rfl⟩
    replace H : (if 0 ≤ (ji4) then (if (IntKind.u64.wrap ((IntKind.u64.wrap (2 * x7_1)) + (Int.tmod (shr .u64 a1 (ji4)) 2))) ≥ 10000 then (lockstepref02_divided.l0 k1 a1 (IntKind.u64.wrap ((IntKind.u64.wrap (2 * x6_1)) + 1)) (IntKind.u64.wrap ((IntKind.u64.wrap ((IntKind.u64.wrap (2 * x7_1)) + (Int.tmod (shr .u64 a1 (ji4)) 2))) - 10000)) (wrap64 (x8_1 - 1))) else (lockstepref02_divided.l0 k1 a1 (IntKind.u64.wrap (2 * x6_1)) (IntKind.u64.wrap ((IntKind.u64.wrap (2 * x7_1)) + (Int.tmod (shr .u64 a1 (ji4)) 2))) (wrap64 (x8_1 - 1)))) else (none)) = some (r1, r2) := by first | (rw [hji4] at H; exact H) | (simp only [hji4] at H ⊢; exact H)
    by_cases c5 : 0 ≤ (ji4)
    ·
     rw [if_pos c5] at H
     have c5b0 := eq_true c5
     have c5b1 : decide (0 ≤ (ji4)) = true := decide_eq_true c5
     clear c5
     obtain ⟨ji6, hji6⟩ : ∃ j_ : Int, (shr .u64 a1 (ji4)) = j_ := ⟨_, rfl⟩
     replace H : (if (IntKind.u64.wrap ((IntKind.u64.wrap (2 * x7_1)) + (Int.tmod (ji6) 2))) ≥ 10000 then (lockstepref02_divided.l0 k1 a1 (IntKind.u64.wrap ((IntKind.u64.wrap (2 * x6_1)) + 1)) (IntKind.u64.wrap ((IntKind.u64.wrap ((IntKind.u64.wrap (2 * x7_1)) + (Int.tmod (ji6) 2))) - 10000)) (wrap64 (x8_1 - 1))) else (lockstepref02_divided.l0 k1 a1 (IntKind.u64.wrap (2 * x6_1)) (IntKind.u64.wrap ((IntKind.u64.wrap (2 * x7_1)) + (Int.tmod (ji6) 2))) (wrap64 (x8_1 - 1)))) = some (r1, r2) := by first | (rw [hji6] at H; exact H) | (simp only [hji6] at H ⊢; exact H)
     have hji6_ : (a1 / 2 ^ min (ji4).toNat 64) = ji6 := hji6
     have hji6z : (ji4) ≤ 64 → (a1 / 2 ^ (ji4).toNat) = ji6 := shr_small hji6
     by_cases c7 : (IntKind.u64.wrap ((IntKind.u64.wrap (2 * x7_1)) + (Int.tmod (ji6) 2))) ≥ 10000
     ·
      rw [if_pos c7] at H
      have c7b0 : decide (10000 ≤ (IntKind.u64.wrap ((IntKind.u64.wrap (2 * x7_1)) + (Int.tmod (ji6) 2)))) = true := decide_eq_true c7
      clear c7
      have H' := Aside0.mk H
      clear H
      go_wp2
      go_roundg k1
      case measure => have := HK1.out; omega
      case rel => exact ⟨(IntKind.u64.wrap ((IntKind.u64.wrap (2 * x6_1)) + 1)), (IntKind.u64.wrap ((IntKind.u64.wrap ((IntKind.u64.wrap (2 * x7_1)) + (Int.tmod (ji6) 2))) - 10000)), (wrap64 (x8_1 - 1)), (by first | rfl | (simp; done) | (simp [*]; done)), (by first | rfl | (simp; done) | (simp only [← hji6] <;> (first | rfl | simp)) | (simp [*]; done)), (by first | rfl | (simp; done) | (simp [*]; done)), H', ⟨by have := HK1.out; omega⟩, by repeat (first | exact Drawn0.refl _ | apply Drawn0.step)⟩
     ·
      rw [if_neg c7] at H
      have c7b0 : decide (10000 ≤ (IntKind.u64.wrap ((IntKind.u64.wrap (2 * x7_1)) + (Int.tmod (ji6) 2)))) = false := decide_eq_false c7
      clear c7
      have H' := Aside0.mk H
      clear H
      go_wp2
      go_roundg k1
      case measure => have := HK1.out; omega
      case rel => exact ⟨(IntKind.u64.wrap (2 * x6_1)), (IntKind.u64.wrap ((IntKind.u64.wrap (2 * x7_1)) + (Int.tmod (ji6) 2))), (wrap64 (x8_1 - 1)), (by first | rfl | (simp; done) | (simp [*]; done)), (by first | rfl | (simp; done) | (simp only [← hji6] <;> (first | rfl | simp)) | (simp [*]; done)), (by first | rfl | (simp; done) | (simp [*]; done)), H', ⟨by have := HK1.out; omega⟩, by repeat (first | exact Drawn0.refl _ | apply Drawn0.step)⟩
    ·
     rw [if_neg c5] at H
     exact absurd H (by simp)
   ·
    rw [if_neg c3] at H
    have c3b0 : decide (0 ≤ x8_1) = false := decide_eq_false c3
    clear c3
    simp only [Option.some.injEq, Prod.mk.injEq] at H
    obtain ⟨rfl, rfl⟩ := H
    go_wp2
    go_ret2
    exact ⟨by first | rfl | (simp; done) | (simp [*]; done), by repeat (first | exact Drawn0.refl _ | apply Drawn0.step)⟩
mutual
def lockstepref02_readNumber.l0 : Nat → List Int → Int → Int → Int → Option (Int × Int × ByteArray × Int × Int)
 | 0, _, _, _, _ => none
 | k + 1, x0, x5, x6, x7 => if x7 < 11 then (if 0 ≤ x7 then (if x7 < (x0.length : Int) then (lockstepref02_readNumber.l0 k x0 x5 (Go.bits .or .u64 (IntKind.u64.wrap (x6 * 256)) (IntKind.u64.wrap (rd x0 x7))) (wrap64 (x7 + 1))) else (none)) else (none)) else (if 11 < (x0.length : Int) then (if (wrap64 (rd x0 11)) = 1 then (lockstepref02_readNumber.j1 k x5 x6 (wrap64 (rd x0 11)) false) else (lockstepref02_readNumber.j1 k x5 x6 (wrap64 (rd x0 11)) ((wrap64 (rd x0 11)) != 2))) else (none))
def lockstepref02_readNumber.j1 : Nat → Int → Int → Int → Bool → Option (Int × Int × ByteArray × Int × Int)
 | 0, _, _, _, _ => none
 | k + 1, x5, x6, x8, x47 => if x47 = true then (some (0, 0, (⟨#[]⟩ : ByteArray), 0, 20)) else (if x5 < 32768 then (if (IntKind.u64.wrap (-x6)) = 0 then (lockstepref02_readNumber.j2 k (IntKind.u64.wrap ((IntKind.u64.wrap (65535 - (Int.tmod (IntKind.u64.wrap (x5 + 32768)) 65536))) + 1)) (IntKind.u64.wrap (-x6)) x8 (decide (x5 < 32768))) else (lockstepref02_readNumber.j2 k (IntKind.u64.wrap (65535 - (Int.tmod (IntKind.u64.wrap (x5 + 32768)) 65536))) (IntKind.u64.wrap (-x6)) x8 (decide (x5 < 32768)))) else (lockstepref02_readNumber.j2 k (Int.tmod (IntKind.u64.wrap (x5 + 32768)) 65536) x6 x8 (decide (x5 < 32768))))
def lockstepref02_readNumber.j2 : Nat → Int → Int → Int → Bool → Option (Int × Int × ByteArray × Int × Int)
 | 0, _, _, _, _ => none
 | k + 1, x5, x6, x8, x9 => if x8 = 2 then (if x5 > 0 then (some (0, 0, (⟨#[]⟩ : ByteArray), 0, 20)) else ((lockstepref02_signed.f k x8 x9 x6).bind fun bt546 => (some (bt546.1, bt546.2.1, bt546.2.2.1, bt546.2.2.2.1, bt546.2.2.2.2)))) else (if x5 ≥ 10000 then (some (0, 0, (⟨#[]⟩ : ByteArray), 0, 20)) else ((lockstepref02_divided.f k x5 x6).bind fun bt551 => (if bt551.2 = 0 then ((lockstepref02_signed.f k x8 x9 bt551.1).bind fun bt553 => (some (bt553.1, bt553.2.1, bt553.2.2.1, bt553.2.2.2.1, bt553.2.2.2.2))) else (some (0, 0, (⟨#[]⟩ : ByteArray), 0, 20)))))
end
def lockstepref02_readNumber.f (k : Nat) (l0 : List Int) : Option (Int × Int × ByteArray × Int × Int) := if (l0.length : Int) < 12 then (some (0, 0, (⟨#[]⟩ : ByteArray), 0, 4)) else (if 1 < (l0.length : Int) then (if 2 < (l0.length : Int) then (lockstepref02_readNumber.l0 k l0 (Go.bits .or .u64 (IntKind.u64.wrap ((IntKind.u64.wrap (rd l0 1)) * 256)) (IntKind.u64.wrap (rd l0 2))) 0 3) else (none)) else (none))
set_option maxHeartbeats 8000000 in
set_option maxRecDepth 100000 in
theorem lockstepref02_readNumber.calls (k : Nat) (A0 : Option Addr) (c0 : Nat) (l0 : List Int) (r1 : Int) (r2 : Int) (r3 : ByteArray) (r4 : Int) (r5 : Int) (w : World) (hr0 : Kd.C (Kd.int .u8) w A0 l0.length l0) (hc0 : l0.length ≤ c0) (h : lockstepref02_readNumber.f k l0 = some (r1, r2, r3, r4, r5)) :
  Calls Tryd.prog 58 #[.slice A0 l0.length c0] w fun e w' => e = .returned (.tuple #[.agg #[.int .i64 r1, .int .i64 r2, .string r3], .int .i64 r4, .int .i64 r5]) ∧ Below w.heap.size w w' := by
 have hu42 := Tryd.underlying42
 have HR0 := am hr0
 have HC0 := am hc0
 clear hr0 hc0
 have HB := am (Below.refl w.heap.size w)
 have H : (if (l0.length : Int) < 12 then (some (0, 0, (⟨#[]⟩ : ByteArray), 0, 4)) else (if 1 < (l0.length : Int) then (if 2 < (l0.length : Int) then (lockstepref02_readNumber.l0 k l0 (Go.bits .or .u64 (IntKind.u64.wrap ((IntKind.u64.wrap (rd l0 1)) * 256)) (IntKind.u64.wrap (rd l0 2))) 0 3) else (none)) else (none))) = some (r1, r2, r3, r4, r5) := h
 clear h
 by_cases c2 : (l0.length : Int) < 12
 ·
  rw [if_pos c2] at H
  have c2b0 := decide_eq_true c2
  have c2b1 : decide (l0.length < 12) = true := decide_eq_true (by omega)
  clear c2
  simp only [Option.some.injEq, Prod.mk.injEq] at H
  obtain ⟨rfl, rfl, rfl, rfl, rfl⟩ := H
  go_enter Tryd.func58, Tryd.ntmps58
  go_wp2_with (((with_reducible refine gate_dst (N := 2) rfl ?_); refine box_event ?hg (N := 2) ?hd (cs := #[.int .i64 0, .int .i64 0, .string (⟨#[]⟩ : ByteArray)]) (t := 42) ?hr ?_; (case hd => rfl); (case hg => rfl); (case hr => (go_simp; done)); intro gb541 hg w3 hbox hb; have BK541 := am (hbox); have GW541 := am ((by rw [hg]; exact (below_size HB.out) : w.heap.size ≤ gb541)); have GE541 := am ((by rw [hg]; exact (below_size HB.out) : w.heap.size ≤ gb541)); replace HB := am (below_step HB.out hb); clear hb hbox hg; have hcz4_0 : w3.cell? ⟨gb541, 0, none⟩ = some (.int .i64 0) := (blk_cell BK541.out 0).trans rfl; have hcz4_1 : w3.cell? ⟨gb541, 1, none⟩ = some (.int .i64 0) := (blk_cell BK541.out 1).trans rfl; have hcz4_2 : w3.cell? ⟨gb541, 2, none⟩ = some (.string (⟨#[]⟩ : ByteArray)) := (blk_cell BK541.out 2).trans rfl; have hfz4_0 := blk_frozen BK541.out 0; have hfz4_1 := blk_frozen BK541.out 1; have hfz4_2 := blk_frozen BK541.out 2))
  repeat ((with_reducible refine at_region ?_); go_quiet (first | ((with_reducible refine gate_dst (N := 2) rfl ?_); refine box_event ?hg (N := 2) ?hd (cs := #[.int .i64 0, .int .i64 0, .string (⟨#[]⟩ : ByteArray)]) (t := 42) ?hr ?_; (case hd => rfl); (case hg => rfl); (case hr => first | (go_simp; done) | (go_simp; rfl)); intro gb541 hg w3 hbox hb; have BK541 := am (hbox); have GW541 := am ((by rw [hg]; exact (below_size HB.out) : w.heap.size ≤ gb541)); have GE541 := am ((by rw [hg]; exact (below_size HB.out) : w.heap.size ≤ gb541)); replace HB := am (below_step HB.out hb); clear hb hbox hg; have hcz4_0 : w3.cell? ⟨gb541, 0, none⟩ = some (.int .i64 0) := (blk_cell BK541.out 0).trans rfl; have hcz4_1 : w3.cell? ⟨gb541, 1, none⟩ = some (.int .i64 0) := (blk_cell BK541.out 1).trans rfl; have hcz4_2 : w3.cell? ⟨gb541, 2, none⟩ = some (.string (⟨#[]⟩ : ByteArray)) := (blk_cell BK541.out 2).trans rfl; have hfz4_0 := blk_frozen BK541.out 0; have hfz4_1 := blk_frozen BK541.out 1; have hfz4_2 := blk_frozen BK541.out 2)); try go_wp2_with (first | ((with_reducible refine gate_dst (N := 2) rfl ?_); refine box_event ?hg (N := 2) ?hd (cs := #[.int .i64 0, .int .i64 0, .string (⟨#[]⟩ : ByteArray)]) (t := 42) ?hr ?_; (case hd => rfl); (case hg => rfl); (case hr => first | (go_simp; done) | (go_simp; rfl)); intro gb541 hg w3 hbox hb; have BK541 := am (hbox); have GW541 := am ((by rw [hg]; exact (below_size HB.out) : w.heap.size ≤ gb541)); have GE541 := am ((by rw [hg]; exact (below_size HB.out) : w.heap.size ≤ gb541)); replace HB := am (below_step HB.out hb); clear hb hbox hg; have hcz4_0 : w3.cell? ⟨gb541, 0, none⟩ = some (.int .i64 0) := (blk_cell BK541.out 0).trans rfl; have hcz4_1 : w3.cell? ⟨gb541, 1, none⟩ = some (.int .i64 0) := (blk_cell BK541.out 1).trans rfl; have hcz4_2 : w3.cell? ⟨gb541, 2, none⟩ = some (.string (⟨#[]⟩ : ByteArray)) := (blk_cell BK541.out 2).trans rfl; have hfz4_0 := blk_frozen BK541.out 0; have hfz4_1 := blk_frozen BK541.out 1; have hfz4_2 := blk_frozen BK541.out 2)))
  refine bodyPost_ret (results_ctt rfl _ _ gb541 42 #[.int .i64 0, .int .i64 0, .string (⟨#[]⟩ : ByteArray)] (0, 0) _ rfl (by refine blk_put (cs := #[.int .i64 0, .int .i64 0, .string (⟨#[]⟩ : ByteArray)]) ?_ 2 _ rfl; refine blk_put (cs := #[.int .i64 0, .int .i64 0, .string (⟨#[]⟩ : ByteArray)]) ?_ 1 _ rfl; refine blk_put (cs := #[.int .i64 0, .int .i64 0, .string (⟨#[]⟩ : ByteArray)]) ?_ 0 _ rfl; exact BK541.out) Tryd.underlying42 rfl (by kernel_rfl)) rfl ?_
  exact ⟨by rfl, by repeat ((with_reducible first | exact HB.out | refine below_set ?_ GE541.out))⟩
 rw [if_neg c2] at H
 have c2b0 := decide_eq_false c2
 have c2b1 : decide (l0.length < 12) = false := decide_eq_false (by omega)
 clear c2
 replace H := its H
 obtain ⟨c5, H⟩ := H
 have c5b0 := decide_eq_true c5
 have c5b1 : decide (1 < l0.length) = true := decide_eq_true (by omega)
 clear c5
 replace H := its H
 obtain ⟨c6, H⟩ := H
 have c6b0 := decide_eq_true c6
 have c6b1 : decide (2 < l0.length) = true := decide_eq_true (by omega)
 clear c6
 have H' := am H
 clear H
 go_enter Tryd.func58, Tryd.ntmps58
 go_wp2_with (((with_reducible refine gate_dst (N := 2) rfl ?_); refine box_event ?hg (N := 2) ?hd (cs := #[.int .i64 0, .int .i64 0, .string (⟨#[]⟩ : ByteArray)]) (t := 42) ?hr ?_; (case hd => rfl); (case hg => rfl); (case hr => (go_simp; done)); intro gb541 hg w7 hbox hb; have BK541 := am (hbox); have GW541 := am ((by rw [hg]; exact (below_size HB.out) : w.heap.size ≤ gb541)); have GE541 := am ((by rw [hg]; exact (below_size HB.out) : w.heap.size ≤ gb541)); replace HB := am (below_step HB.out hb); clear hb hbox hg; have p542 : 0 ≤ (1 : Int) := (by omega); have q542 : 1 < (l0.length : Int) := of_decide_eq_true (by assumption); obtain ⟨ad542, e542, hx542_0⟩ := Kd.at_int HR0.out 1 p542 q542; cases e542; (try simp only [show (1 : Int).toNat = 1 from rfl, Nat.reduceMul, Nat.reduceEqDiff, Go.Addr.add, ↓reduceIte] at hx542_0); have qi542 : (1 < l0.length) = True := eq_true (by omega); replace hx542_0 := (HB.out.cell (World.block_lt_of_cell? w _ hx542_0)).trans hx542_0; replace p542 := eq_true p542; replace q542 := eq_true q542; have p543 : 0 ≤ (2 : Int) := (by omega); have q543 : 2 < (l0.length : Int) := of_decide_eq_true (by assumption); obtain ⟨ad543, e543, hx543_0⟩ := Kd.at_int HR0.out 2 p543 q543; obtain rfl : ad542 = ad543 := (by injection e543); (try simp only [show (2 : Int).toNat = 2 from rfl, Nat.reduceMul, Nat.reduceEqDiff, Go.Addr.add, ↓reduceIte] at hx543_0); have qi543 : (2 < l0.length) = True := eq_true (by omega); replace hx543_0 := (HB.out.cell (World.block_lt_of_cell? w _ hx543_0)).trans hx543_0; replace p543 := eq_true p543; replace q543 := eq_true q543))
 repeat ((with_reducible refine at_region ?_); go_quiet (first | ((with_reducible refine gate_dst (N := 2) rfl ?_); refine box_event ?hg (N := 2) ?hd (cs := #[.int .i64 0, .int .i64 0, .string (⟨#[]⟩ : ByteArray)]) (t := 42) ?hr ?_; (case hd => rfl); (case hg => rfl); (case hr => first | (go_simp; done) | (go_simp; rfl)); intro gb541 hg w7 hbox hb; have BK541 := am (hbox); have GW541 := am ((by rw [hg]; exact (below_size HB.out) : w.heap.size ≤ gb541)); have GE541 := am ((by rw [hg]; exact (below_size HB.out) : w.heap.size ≤ gb541)); replace HB := am (below_step HB.out hb); clear hb hbox hg; have p542 : 0 ≤ (1 : Int) := (by omega); have q542 : 1 < (l0.length : Int) := of_decide_eq_true (by first | (with_reducible assumption) | assumption); obtain ⟨ad542, e542, hx542_0⟩ := Kd.at_int HR0.out 1 p542 q542; cases e542; have qi542 : (1 < l0.length) = True := eq_true (by omega); replace hx542_0 := (HB.out.cell (World.block_lt_of_cell? w _ hx542_0)).trans hx542_0; replace p542 := eq_true p542; replace q542 := eq_true q542; have p543 : 0 ≤ (2 : Int) := (by omega); have q543 : 2 < (l0.length : Int) := of_decide_eq_true (by first | (with_reducible assumption) | assumption); obtain ⟨ad543, e543, hx543_0⟩ := Kd.at_int HR0.out 2 p543 q543; obtain rfl : ad542 = ad543 := (by injection e543); have qi543 : (2 < l0.length) = True := eq_true (by omega); replace hx543_0 := (HB.out.cell (World.block_lt_of_cell? w _ hx543_0)).trans hx543_0; replace p543 := eq_true p543; replace q543 := eq_true q543)); try go_wp2_with (first | ((with_reducible refine gate_dst (N := 2) rfl ?_); refine box_event ?hg (N := 2) ?hd (cs := #[.int .i64 0, .int .i64 0, .string (⟨#[]⟩ : ByteArray)]) (t := 42) ?hr ?_; (case hd => rfl); (case hg => rfl); (case hr => first | (go_simp; done) | (go_simp; rfl)); intro gb541 hg w7 hbox hb; have BK541 := am (hbox); have GW541 := am ((by rw [hg]; exact (below_size HB.out) : w.heap.size ≤ gb541)); have GE541 := am ((by rw [hg]; exact (below_size HB.out) : w.heap.size ≤ gb541)); replace HB := am (below_step HB.out hb); clear hb hbox hg; have p542 : 0 ≤ (1 : Int) := (by omega); have q542 : 1 < (l0.length : Int) := of_decide_eq_true (by first | (with_reducible assumption) | assumption); obtain ⟨ad542, e542, hx542_0⟩ := Kd.at_int HR0.out 1 p542 q542; cases e542; have qi542 : (1 < l0.length) = True := eq_true (by omega); replace hx542_0 := (HB.out.cell (World.block_lt_of_cell? w _ hx542_0)).trans hx542_0; replace p542 := eq_true p542; replace q542 := eq_true q542; have p543 : 0 ≤ (2 : Int) := (by omega); have q543 : 2 < (l0.length : Int) := of_decide_eq_true (by first | (with_reducible assumption) | assumption); obtain ⟨ad543, e543, hx543_0⟩ := Kd.at_int HR0.out 2 p543 q543; obtain rfl : ad542 = ad543 := (by injection e543); have qi543 : (2 < l0.length) = True := eq_true (by omega); replace hx543_0 := (HB.out.cell (World.block_lt_of_cell? w _ hx543_0)).trans hx543_0; replace p543 := eq_true p543; replace q543 := eq_true q543)))
 go_loopg [6, 7] k (fun kq v6 v7 w' => ∃ (x6_1 : Int) (x7_1 : Int), v6 = .int .u64 x6_1 ∧ v7 = .int .i64 x7_1 ∧ Aside0 (lockstepref02_readNumber.l0 kq l0 (Go.bits .or .u64 (IntKind.u64.wrap ((IntKind.u64.wrap (rd l0 1)) * 256)) (IntKind.u64.wrap (rd l0 2))) x6_1 x7_1 = some (r1, r2, r3, r4, r5)) ∧ Aside0 (kq ≤ k) ∧ Aside0 (w'.heap[gb541]? = some (.cells #[.int .i64 0, .int .i64 0, .string (⟨#[]⟩ : ByteArray)] 42 (0, 0))) ∧ Aside0 (Below w.heap.size w w'))
 case atStart => exact ⟨(0), (3), (by rfl), (by rfl), H', ⟨Nat.le_refl _⟩, ⟨by (with_reducible repeat (refine blk_drewN ?_ _)); exact BK541.out⟩, ⟨by repeat ((with_reducible first | exact HB.out | apply pw_below_drewN))⟩⟩
 case round =>
  clear H'
  (try clear c2b0); (try clear c2b1); (try clear c5b0); (try clear c5b1); (try clear c6b0); (try clear c6b1); (try clear hx542_0); (try clear hx543_0); (try clear p542); (try clear p543); (try clear q542); (try clear q543)
  obtain ⟨x6_1, x7_1, rfl, rfl, HA, HK1, BK541, HB⟩ := hrel
  cases gk with
  | zero => exact absurd HA.out (by simp [lockstepref02_readNumber.l0])
  | succ k1 =>
   have H := HA.out
   clear HA
   simp only [lockstepref02_readNumber.l0] at H
   by_cases c8 : x7_1 < 11
   ·
    rw [if_pos c8] at H
    have c8b0 := decide_eq_true c8
    clear c8
    replace H := its H
    obtain ⟨c9, H⟩ := H
    have c9b0 := decide_eq_true c9
    clear c9
    replace H := its H
    obtain ⟨c10, H⟩ := H
    have c10b0 := decide_eq_true c10
    clear c10
    have H' := am H
    clear H
    have p544 : 0 ≤ (x7_1 : Int) := of_decide_eq_true (by assumption)
    have q544 : x7_1 < (l0.length : Int) := of_decide_eq_true (by assumption)
    obtain ⟨ad544, e544, hx544_0⟩ := Kd.at_int HR0.out x7_1 p544 q544
    obtain rfl : ad542 = ad544 := (by injection e544)
    replace hx544_0 := (HB.out.cell (World.block_lt_of_cell? w _ hx544_0)).trans hx544_0
    replace p544 := eq_true p544
    replace q544 := eq_true q544
    go_wp2
    repeat ((with_reducible refine at_region ?_); go_quiet (fail); try go_wp2)
    go_roundg k1
    case measure => have := HK1.out; omega
    case rel => exact ⟨(Go.bits .or .u64 (IntKind.u64.wrap (x6_1 * 256)) (IntKind.u64.wrap (rd l0 x7_1))), (wrap64 (x7_1 + 1)), (by rfl), (by rfl), H', ⟨by have := HK1.out; omega⟩, ⟨by exact BK541.out⟩, ⟨by exact HB.out⟩⟩
   rw [if_neg c8] at H
   have c8b0 := decide_eq_false c8
   clear c8
   replace H := its H
   obtain ⟨c11, H⟩ := H
   have c11b0 := decide_eq_true c11
   have c11b1 : decide (11 < l0.length) = true := decide_eq_true (by omega)
   clear c11
   have HC12 := am H
   clear H
   have p545 : 0 ≤ (11 : Int) := (by omega)
   have q545 : 11 < (l0.length : Int) := of_decide_eq_true (by assumption)
   obtain ⟨ad545, e545, hx545_0⟩ := Kd.at_int HR0.out 11 p545 q545
   obtain rfl : ad542 = ad545 := (by injection e545)
   (try simp only [show (11 : Int).toNat = 11 from rfl, Nat.reduceMul, Nat.reduceEqDiff, Go.Addr.add, ↓reduceIte] at hx545_0)
   have qi545 : (11 < l0.length) = True := eq_true (by omega)
   replace hx545_0 := (HB.out.cell (World.block_lt_of_cell? w _ hx545_0)).trans hx545_0
   replace p545 := eq_true p545
   replace q545 := eq_true q545
   go_upto_region 9 with (fail)
   repeat ((with_reducible refine at_region ?_); go_quiet (fail); go_upto_region 9 with (fail))
   go_cut [47] (fun v47 wc => ∃ (kq : Nat) (x47_11 : Bool), v47 = .bool x47_11 ∧ Aside0 (lockstepref02_readNumber.j1 kq (Go.bits .or .u64 (IntKind.u64.wrap ((IntKind.u64.wrap (rd l0 1)) * 256)) (IntKind.u64.wrap (rd l0 2))) x6_1 (wrap64 (rd l0 11)) x47_11 = some (r1, r2, r3, r4, r5)) ∧ Aside0 (kq ≤ k1) ∧ Aside0 (wc.heap[gb541]? = some (.cells #[.int .i64 0, .int .i64 0, .string (⟨#[]⟩ : ByteArray)] 42 (0, 0))) ∧ Aside0 (Below w.heap.size w wc))
   case first =>
    have H := HC12.out
    clear HC12
    by_cases c13 : (wrap64 (rd l0 11)) = 1
    rotate_left
    ·
     rw [if_neg c13] at H
     have c13b0 : ((wrap64 (rd l0 11)) == 1) = false := beq_eq_false_iff_ne.mpr c13
     have c13b1 : ((wrap64 (rd l0 11)) != 1) = true := bne_iff_ne.mpr c13
     (skip)
     have H' := am H
     clear H
     go_wp2
     repeat ((with_reducible refine at_region ?_); go_quiet (fail); try go_wp2)
     go_meet
     case rel => exact ⟨_, (((wrap64 (rd l0 11)) != 2)), (by with_reducible rfl), H', ⟨by have := HK1.out; omega⟩, ⟨by exact BK541.out⟩, ⟨by exact HB.out⟩⟩
    rw [if_pos c13] at H
    have c13b0 : ((wrap64 (rd l0 11)) == 1) = true := beq_iff_eq.mpr c13
    have c13b1 : ((wrap64 (rd l0 11)) != 1) = false := bne_eq_false_iff_eq.mpr c13
    clear c13
    (skip)
    have H' := am H
    clear H
    go_wp2
    repeat ((with_reducible refine at_region ?_); go_quiet (fail); try go_wp2)
    go_meet
    case rel => exact ⟨_, (false), (by with_reducible rfl), H', ⟨by have := HK1.out; omega⟩, ⟨by exact BK541.out⟩, ⟨by exact HB.out⟩⟩
   case rest =>
    clear HC12
    (try clear c8b0); (try clear c11b0); (try clear c11b1); (try clear hx545_0); (try clear p545); (try clear q545)
    obtain ⟨kq, x47_11, rfl, HA, HJ11, BK541, HB⟩ := hcut
    cases kq with
    | zero => exact absurd HA.out (by simp [lockstepref02_readNumber.j1])
    | succ kj11 =>
     have H := HA.out
     clear HA
     simp only [lockstepref02_readNumber.j1] at H
     by_cases c14 : x47_11 = true
     ·
      subst c14
      have H1 : (some (0, 0, (⟨#[]⟩ : ByteArray), 0, 20)) = some (r1, r2, r3, r4, r5) := by rw [if_pos rfl] at H; exact H
      clear H
      have H := H1
      clear H1
      simp only [Option.some.injEq, Prod.mk.injEq] at H
      obtain ⟨rfl, rfl, rfl, rfl, rfl⟩ := H
      have hcz15_0 : wc.cell? ⟨gb541, 0, none⟩ = some (.int .i64 0) := (blk_cell BK541.out 0).trans rfl
      have hcz15_1 : wc.cell? ⟨gb541, 1, none⟩ = some (.int .i64 0) := (blk_cell BK541.out 1).trans rfl
      have hcz15_2 : wc.cell? ⟨gb541, 2, none⟩ = some (.string (⟨#[]⟩ : ByteArray)) := (blk_cell BK541.out 2).trans rfl
      have hfz15_0 := blk_frozen BK541.out 0
      have hfz15_1 := blk_frozen BK541.out 1
      have hfz15_2 := blk_frozen BK541.out 2
      go_wp2
      repeat ((with_reducible refine at_region ?_); go_quiet (fail); try go_wp2)
      refine bodyPost_ret (results_ctt rfl _ _ gb541 42 #[.int .i64 0, .int .i64 0, .string (⟨#[]⟩ : ByteArray)] (0, 0) _ rfl (by refine blk_put (cs := #[.int .i64 0, .int .i64 0, .string (⟨#[]⟩ : ByteArray)]) ?_ 2 _ rfl; refine blk_put (cs := #[.int .i64 0, .int .i64 0, .string (⟨#[]⟩ : ByteArray)]) ?_ 1 _ rfl; refine blk_put (cs := #[.int .i64 0, .int .i64 0, .string (⟨#[]⟩ : ByteArray)]) ?_ 0 _ rfl; exact BK541.out) Tryd.underlying42 rfl (by kernel_rfl)) rfl ?_
      exact ⟨by rfl, by repeat ((with_reducible first | exact HB.out | refine below_set ?_ GE541.out))⟩
     replace c14 := Bool.eq_false_iff.mpr c14
     subst c14
     have H1 : (if (Go.bits .or .u64 (IntKind.u64.wrap ((IntKind.u64.wrap (rd l0 1)) * 256)) (IntKind.u64.wrap (rd l0 2))) < 32768 then (if (IntKind.u64.wrap (-x6_1)) = 0 then (lockstepref02_readNumber.j2 kj11 (IntKind.u64.wrap ((IntKind.u64.wrap (65535 - (Int.tmod (IntKind.u64.wrap ((Go.bits .or .u64 (IntKind.u64.wrap ((IntKind.u64.wrap (rd l0 1)) * 256)) (IntKind.u64.wrap (rd l0 2))) + 32768)) 65536))) + 1)) (IntKind.u64.wrap (-x6_1)) (wrap64 (rd l0 11)) (decide ((Go.bits .or .u64 (IntKind.u64.wrap ((IntKind.u64.wrap (rd l0 1)) * 256)) (IntKind.u64.wrap (rd l0 2))) < 32768))) else (lockstepref02_readNumber.j2 kj11 (IntKind.u64.wrap (65535 - (Int.tmod (IntKind.u64.wrap ((Go.bits .or .u64 (IntKind.u64.wrap ((IntKind.u64.wrap (rd l0 1)) * 256)) (IntKind.u64.wrap (rd l0 2))) + 32768)) 65536))) (IntKind.u64.wrap (-x6_1)) (wrap64 (rd l0 11)) (decide ((Go.bits .or .u64 (IntKind.u64.wrap ((IntKind.u64.wrap (rd l0 1)) * 256)) (IntKind.u64.wrap (rd l0 2))) < 32768)))) else (lockstepref02_readNumber.j2 kj11 (Int.tmod (IntKind.u64.wrap ((Go.bits .or .u64 (IntKind.u64.wrap ((IntKind.u64.wrap (rd l0 1)) * 256)) (IntKind.u64.wrap (rd l0 2))) + 32768)) 65536) x6_1 (wrap64 (rd l0 11)) (decide ((Go.bits .or .u64 (IntKind.u64.wrap ((IntKind.u64.wrap (rd l0 1)) * 256)) (IntKind.u64.wrap (rd l0 2))) < 32768)))) = some (r1, r2, r3, r4, r5) := by rw [if_neg (show ¬ (false = true) by decide)] at H; exact H
     clear H
     have H := H1
     clear H1
     have HC16 := am H
     clear H
     go_upto_if 54 with (fail)
     repeat ((with_reducible refine at_region ?_); go_quiet (fail); go_upto_if 54 with (fail))
     go_cut [5, 6, 9] (fun v5 v6 v9 wc => ∃ (kq : Nat) (x5_15 : Int) (x6_15 : Int) (x9_15 : Bool), v5 = .int .u64 x5_15 ∧ v6 = .int .u64 x6_15 ∧ v9 = .bool x9_15 ∧ Aside0 (lockstepref02_readNumber.j2 kq x5_15 x6_15 (wrap64 (rd l0 11)) x9_15 = some (r1, r2, r3, r4, r5)) ∧ Aside0 (kq ≤ kj11) ∧ Aside0 (wc.heap[gb541]? = some (.cells #[.int .i64 0, .int .i64 0, .string (⟨#[]⟩ : ByteArray)] 42 (0, 0))) ∧ Aside0 (Below w.heap.size w wc))
     case first =>
      have H := HC16.out
      clear HC16
      by_cases c17 : (Go.bits .or .u64 (IntKind.u64.wrap ((IntKind.u64.wrap (rd l0 1)) * 256)) (IntKind.u64.wrap (rd l0 2))) < 32768
      rotate_left
      ·
       rw [if_neg c17] at H
       have c17b0 := decide_eq_false c17
       clear c17
       (rw [c17b0])
       have H' := am H
       clear H
       go_wp2
       repeat ((with_reducible refine at_region ?_); go_quiet (fail); try go_wp2)
       go_meet
       case rel => exact ⟨_, (Int.tmod (IntKind.u64.wrap ((Go.bits .or .u64 (IntKind.u64.wrap ((IntKind.u64.wrap (rd l0 1)) * 256)) (IntKind.u64.wrap (rd l0 2))) + 32768)) 65536), (x6_1), (decide ((Go.bits .or .u64 (IntKind.u64.wrap ((IntKind.u64.wrap (rd l0 1)) * 256)) (IntKind.u64.wrap (rd l0 2))) < 32768)), (by rfl), (by rfl), (by (simp [*]; done)), H', ⟨by have := HK1.out; have := HJ11.out; omega⟩, ⟨by exact BK541.out⟩, ⟨by exact HB.out⟩⟩
      rw [if_pos c17] at H
      have c17b0 := decide_eq_true c17
      clear c17
      (rw [c17b0])
      by_cases c18 : (IntKind.u64.wrap (-x6_1)) = 0
      rotate_left
      ·
       rw [if_neg c18] at H
       have c18b0 : ((IntKind.u64.wrap (-x6_1)) == 0) = false := beq_eq_false_iff_ne.mpr c18
       have c18b1 : ((IntKind.u64.wrap (-x6_1)) != 0) = true := bne_iff_ne.mpr c18
       have H' := am H
       clear H
       go_wp2
       repeat ((with_reducible refine at_region ?_); go_quiet (fail); try go_wp2)
       go_meet
       case rel => exact ⟨_, (IntKind.u64.wrap (65535 - (Int.tmod (IntKind.u64.wrap ((Go.bits .or .u64 (IntKind.u64.wrap ((IntKind.u64.wrap (rd l0 1)) * 256)) (IntKind.u64.wrap (rd l0 2))) + 32768)) 65536))), (IntKind.u64.wrap (-x6_1)), (decide ((Go.bits .or .u64 (IntKind.u64.wrap ((IntKind.u64.wrap (rd l0 1)) * 256)) (IntKind.u64.wrap (rd l0 2))) < 32768)), (by rfl), (by rfl), (by (simp [*]; done)), H', ⟨by have := HK1.out; have := HJ11.out; omega⟩, ⟨by exact BK541.out⟩, ⟨by exact HB.out⟩⟩
      rw [if_pos c18] at H
      have c18b0 : ((IntKind.u64.wrap (-x6_1)) == 0) = true := beq_iff_eq.mpr c18
      have c18b1 : ((IntKind.u64.wrap (-x6_1)) != 0) = false := bne_eq_false_iff_eq.mpr c18
      clear c18
      have H' := am H
      clear H
      go_wp2
      repeat ((with_reducible refine at_region ?_); go_quiet (fail); try go_wp2)
      go_meet
      case rel => exact ⟨_, (IntKind.u64.wrap ((IntKind.u64.wrap (65535 - (Int.tmod (IntKind.u64.wrap ((Go.bits .or .u64 (IntKind.u64.wrap ((IntKind.u64.wrap (rd l0 1)) * 256)) (IntKind.u64.wrap (rd l0 2))) + 32768)) 65536))) + 1)), (IntKind.u64.wrap (-x6_1)), (decide ((Go.bits .or .u64 (IntKind.u64.wrap ((IntKind.u64.wrap (rd l0 1)) * 256)) (IntKind.u64.wrap (rd l0 2))) < 32768)), (by rfl), (by rfl), (by (simp [*]; done)), H', ⟨by have := HK1.out; have := HJ11.out; omega⟩, ⟨by exact BK541.out⟩, ⟨by exact HB.out⟩⟩
     case rest =>
      clear HC16
      obtain ⟨kq, x5_15, x6_15, x9_15, rfl, rfl, rfl, HA, HJ15, BK541, HB⟩ := hcut
      cases kq with
      | zero => exact absurd HA.out (by simp [lockstepref02_readNumber.j2])
      | succ kj15 =>
       have H := HA.out
       clear HA
       simp only [lockstepref02_readNumber.j2] at H
       by_cases c19 : (wrap64 (rd l0 11)) = 2
       ·
        rw [if_pos c19] at H
        have c19b0 : ((wrap64 (rd l0 11)) == 2) = true := beq_iff_eq.mpr c19
        have c19b1 : ((wrap64 (rd l0 11)) != 2) = false := bne_eq_false_iff_eq.mpr c19
        clear c19
        by_cases c20 : x5_15 > 0
        rotate_left
        ·
         rw [if_neg c20] at H
         have c20b0 : decide (0 < x5_15) = false := decide_eq_false c20
         clear c20
         replace H := Option.bind_eq_some_iff.mp H
         obtain ⟨⟨t546, t547, t548, t549, t550⟩, A220, H⟩ := H
         replace H : (some (t546, t547, t548, t549, t550)) = some (r1, r2, r3, r4, r5) := H
         have A22 := am A220
         clear A220
         simp only [Option.some.injEq, Prod.mk.injEq] at H
         obtain ⟨rfl, rfl, rfl, rfl, rfl⟩ := H
         go_wp2_with ((go_at_call 78; (with_reducible refine (lockstepref02_signed.calls kj15 (wrap64 (rd l0 11)) x9_15 x6_15 t546 t547 t548 t549 t550 _ A22.out).mono ?_); rintro e w23 ⟨rfl, hb⟩; replace BK541 := am (blk_below (g := gb541) (o := .cells #[.int .i64 0, .int .i64 0, .string (⟨#[]⟩ : ByteArray)] 42 (0, 0)) (by exact BK541.out) hb); replace HB := am (below_step HB.out hb); (try clear hb); have hcz24_0 : w23.cell? ⟨gb541, 0, none⟩ = some (.int .i64 0) := (blk_cell BK541.out 0).trans rfl; have hcz24_1 : w23.cell? ⟨gb541, 1, none⟩ = some (.int .i64 0) := (blk_cell BK541.out 1).trans rfl; have hcz24_2 : w23.cell? ⟨gb541, 2, none⟩ = some (.string (⟨#[]⟩ : ByteArray)) := (blk_cell BK541.out 2).trans rfl; have hfz24_0 := blk_frozen BK541.out 0; have hfz24_1 := blk_frozen BK541.out 1; have hfz24_2 := blk_frozen BK541.out 2))
         repeat ((with_reducible refine at_region ?_); go_quiet (first | (go_at_call 78; (with_reducible refine (lockstepref02_signed.calls kj15 (wrap64 (rd l0 11)) x9_15 x6_15 t546 t547 t548 t549 t550 _ A22.out).mono ?_); rintro e w23 ⟨rfl, hb⟩; replace BK541 := am (blk_below (g := gb541) (o := .cells #[.int .i64 0, .int .i64 0, .string (⟨#[]⟩ : ByteArray)] 42 (0, 0)) (by exact BK541.out) hb); replace HB := am (below_step (by repeat (first | (with_reducible first | exact HB.out | apply below_alloc | apply pw_below_drewN | apply below_drew1 | refine below_set ?_ GE541.out) | exact HB.out)) hb); have hcz24_0 : w23.cell? ⟨gb541, 0, none⟩ = some (.int .i64 0) := (blk_cell BK541.out 0).trans rfl; have hcz24_1 : w23.cell? ⟨gb541, 1, none⟩ = some (.int .i64 0) := (blk_cell BK541.out 1).trans rfl; have hcz24_2 : w23.cell? ⟨gb541, 2, none⟩ = some (.string (⟨#[]⟩ : ByteArray)) := (blk_cell BK541.out 2).trans rfl; have hfz24_0 := blk_frozen BK541.out 0; have hfz24_1 := blk_frozen BK541.out 1; have hfz24_2 := blk_frozen BK541.out 2)); try go_wp2_with (first | (go_at_call 78; (with_reducible refine (lockstepref02_signed.calls kj15 (wrap64 (rd l0 11)) x9_15 x6_15 t546 t547 t548 t549 t550 _ A22.out).mono ?_); rintro e w23 ⟨rfl, hb⟩; replace BK541 := am (blk_below (g := gb541) (o := .cells #[.int .i64 0, .int .i64 0, .string (⟨#[]⟩ : ByteArray)] 42 (0, 0)) (by exact BK541.out) hb); replace HB := am (below_step (by repeat (first | (with_reducible first | exact HB.out | apply below_alloc | apply pw_below_drewN | apply below_drew1 | refine below_set ?_ GE541.out) | exact HB.out)) hb); have hcz24_0 : w23.cell? ⟨gb541, 0, none⟩ = some (.int .i64 0) := (blk_cell BK541.out 0).trans rfl; have hcz24_1 : w23.cell? ⟨gb541, 1, none⟩ = some (.int .i64 0) := (blk_cell BK541.out 1).trans rfl; have hcz24_2 : w23.cell? ⟨gb541, 2, none⟩ = some (.string (⟨#[]⟩ : ByteArray)) := (blk_cell BK541.out 2).trans rfl; have hfz24_0 := blk_frozen BK541.out 0; have hfz24_1 := blk_frozen BK541.out 1; have hfz24_2 := blk_frozen BK541.out 2)))
         refine bodyPost_ret (results_ctt rfl _ _ gb541 42 #[.int .i64 t546, .int .i64 t547, .string t548] (0, 0) _ rfl (by refine blk_put (cs := #[.int .i64 t546, .int .i64 t547, .string (⟨#[]⟩ : ByteArray)]) ?_ 2 _ rfl; refine blk_put (cs := #[.int .i64 t546, .int .i64 0, .string (⟨#[]⟩ : ByteArray)]) ?_ 1 _ rfl; refine blk_put (cs := #[.int .i64 0, .int .i64 0, .string (⟨#[]⟩ : ByteArray)]) ?_ 0 _ rfl; exact BK541.out) Tryd.underlying42 rfl (by kernel_rfl)) rfl ?_
         exact ⟨by rfl, by repeat ((with_reducible first | exact HB.out | refine below_set ?_ GE541.out))⟩
        rw [if_pos c20] at H
        have c20b0 : decide (0 < x5_15) = true := decide_eq_true c20
        clear c20
        simp only [Option.some.injEq, Prod.mk.injEq] at H
        obtain ⟨rfl, rfl, rfl, rfl, rfl⟩ := H
        have hcz21_0 : wc.cell? ⟨gb541, 0, none⟩ = some (.int .i64 0) := (blk_cell BK541.out 0).trans rfl
        have hcz21_1 : wc.cell? ⟨gb541, 1, none⟩ = some (.int .i64 0) := (blk_cell BK541.out 1).trans rfl
        have hcz21_2 : wc.cell? ⟨gb541, 2, none⟩ = some (.string (⟨#[]⟩ : ByteArray)) := (blk_cell BK541.out 2).trans rfl
        have hfz21_0 := blk_frozen BK541.out 0
        have hfz21_1 := blk_frozen BK541.out 1
        have hfz21_2 := blk_frozen BK541.out 2
        go_wp2
        repeat ((with_reducible refine at_region ?_); go_quiet (fail); try go_wp2)
        refine bodyPost_ret (results_ctt rfl _ _ gb541 42 #[.int .i64 0, .int .i64 0, .string (⟨#[]⟩ : ByteArray)] (0, 0) _ rfl (by refine blk_put (cs := #[.int .i64 0, .int .i64 0, .string (⟨#[]⟩ : ByteArray)]) ?_ 2 _ rfl; refine blk_put (cs := #[.int .i64 0, .int .i64 0, .string (⟨#[]⟩ : ByteArray)]) ?_ 1 _ rfl; refine blk_put (cs := #[.int .i64 0, .int .i64 0, .string (⟨#[]⟩ : ByteArray)]) ?_ 0 _ rfl; exact BK541.out) Tryd.underlying42 rfl (by kernel_rfl)) rfl ?_
        exact ⟨by rfl, by repeat ((with_reducible first | exact HB.out | refine below_set ?_ GE541.out))⟩
       rw [if_neg c19] at H
       have c19b0 : ((wrap64 (rd l0 11)) == 2) = false := beq_eq_false_iff_ne.mpr c19
       have c19b1 : ((wrap64 (rd l0 11)) != 2) = true := bne_iff_ne.mpr c19
       by_cases c25 : x5_15 ≥ 10000
       ·
        rw [if_pos c25] at H
        have c25b0 : decide (10000 ≤ x5_15) = true := decide_eq_true c25
        clear c25
        simp only [Option.some.injEq, Prod.mk.injEq] at H
        obtain ⟨rfl, rfl, rfl, rfl, rfl⟩ := H
        have hcz26_0 : wc.cell? ⟨gb541, 0, none⟩ = some (.int .i64 0) := (blk_cell BK541.out 0).trans rfl
        have hcz26_1 : wc.cell? ⟨gb541, 1, none⟩ = some (.int .i64 0) := (blk_cell BK541.out 1).trans rfl
        have hcz26_2 : wc.cell? ⟨gb541, 2, none⟩ = some (.string (⟨#[]⟩ : ByteArray)) := (blk_cell BK541.out 2).trans rfl
        have hfz26_0 := blk_frozen BK541.out 0
        have hfz26_1 := blk_frozen BK541.out 1
        have hfz26_2 := blk_frozen BK541.out 2
        go_wp2
        repeat ((with_reducible refine at_region ?_); go_quiet (fail); try go_wp2)
        refine bodyPost_ret (results_ctt rfl _ _ gb541 42 #[.int .i64 0, .int .i64 0, .string (⟨#[]⟩ : ByteArray)] (0, 0) _ rfl (by refine blk_put (cs := #[.int .i64 0, .int .i64 0, .string (⟨#[]⟩ : ByteArray)]) ?_ 2 _ rfl; refine blk_put (cs := #[.int .i64 0, .int .i64 0, .string (⟨#[]⟩ : ByteArray)]) ?_ 1 _ rfl; refine blk_put (cs := #[.int .i64 0, .int .i64 0, .string (⟨#[]⟩ : ByteArray)]) ?_ 0 _ rfl; exact BK541.out) Tryd.underlying42 rfl (by kernel_rfl)) rfl ?_
        exact ⟨by rfl, by repeat ((with_reducible first | exact HB.out | refine below_set ?_ GE541.out))⟩
       rw [if_neg c25] at H
       have c25b0 : decide (10000 ≤ x5_15) = false := decide_eq_false c25
       clear c25
       replace H := Option.bind_eq_some_iff.mp H
       obtain ⟨⟨t551, t552⟩, A270, H⟩ := H
       replace H : (if t552 = 0 then ((lockstepref02_signed.f kj15 (wrap64 (rd l0 11)) x9_15 t551).bind fun bt553 => (some (bt553.1, bt553.2.1, bt553.2.2.1, bt553.2.2.2.1, bt553.2.2.2.2))) else (some (0, 0, (⟨#[]⟩ : ByteArray), 0, 20))) = some (r1, r2, r3, r4, r5) := H
       have A27 := am A270
       clear A270
       by_cases c28 : t552 = 0
       rotate_left
       ·
        rw [if_neg c28] at H
        have c28b0 : (t552 == 0) = false := beq_eq_false_iff_ne.mpr c28
        have c28b1 : (t552 != 0) = true := bne_iff_ne.mpr c28
        simp only [Option.some.injEq, Prod.mk.injEq] at H
        obtain ⟨rfl, rfl, rfl, rfl, rfl⟩ := H
        go_wp2_with ((go_at_call 79; (with_reducible refine (lockstepref02_divided.calls kj15 x5_15 x6_15 t551 t552 _ A27.out).mono ?_); rintro e w' ⟨rfl, ⟨nd, rfl⟩⟩; have hcz32_0 : wc.cell? ⟨gb541, 0, none⟩ = some (.int .i64 0) := (blk_cell BK541.out 0).trans rfl; have hcz32_1 : wc.cell? ⟨gb541, 1, none⟩ = some (.int .i64 0) := (blk_cell BK541.out 1).trans rfl; have hcz32_2 : wc.cell? ⟨gb541, 2, none⟩ = some (.string (⟨#[]⟩ : ByteArray)) := (blk_cell BK541.out 2).trans rfl; have hfz32_0 := blk_frozen BK541.out 0; have hfz32_1 := blk_frozen BK541.out 1; have hfz32_2 := blk_frozen BK541.out 2))
        repeat ((with_reducible refine at_region ?_); go_quiet (first | (go_at_call 79; (with_reducible refine (lockstepref02_divided.calls kj15 x5_15 x6_15 t551 t552 _ A27.out).mono ?_); rintro e w' ⟨rfl, ⟨nd, rfl⟩⟩; have hcz32_0 : wc.cell? ⟨gb541, 0, none⟩ = some (.int .i64 0) := (blk_cell BK541.out 0).trans rfl; have hcz32_1 : wc.cell? ⟨gb541, 1, none⟩ = some (.int .i64 0) := (blk_cell BK541.out 1).trans rfl; have hcz32_2 : wc.cell? ⟨gb541, 2, none⟩ = some (.string (⟨#[]⟩ : ByteArray)) := (blk_cell BK541.out 2).trans rfl; have hfz32_0 := blk_frozen BK541.out 0; have hfz32_1 := blk_frozen BK541.out 1; have hfz32_2 := blk_frozen BK541.out 2)); try go_wp2_with (first | (go_at_call 79; (with_reducible refine (lockstepref02_divided.calls kj15 x5_15 x6_15 t551 t552 _ A27.out).mono ?_); rintro e w' ⟨rfl, ⟨nd, rfl⟩⟩; have hcz32_0 : wc.cell? ⟨gb541, 0, none⟩ = some (.int .i64 0) := (blk_cell BK541.out 0).trans rfl; have hcz32_1 : wc.cell? ⟨gb541, 1, none⟩ = some (.int .i64 0) := (blk_cell BK541.out 1).trans rfl; have hcz32_2 : wc.cell? ⟨gb541, 2, none⟩ = some (.string (⟨#[]⟩ : ByteArray)) := (blk_cell BK541.out 2).trans rfl; have hfz32_0 := blk_frozen BK541.out 0; have hfz32_1 := blk_frozen BK541.out 1; have hfz32_2 := blk_frozen BK541.out 2)))
        refine bodyPost_ret (results_ctt rfl _ _ gb541 42 #[.int .i64 0, .int .i64 0, .string (⟨#[]⟩ : ByteArray)] (0, 0) _ rfl (by refine blk_put (cs := #[.int .i64 0, .int .i64 0, .string (⟨#[]⟩ : ByteArray)]) ?_ 2 _ rfl; refine blk_put (cs := #[.int .i64 0, .int .i64 0, .string (⟨#[]⟩ : ByteArray)]) ?_ 1 _ rfl; refine blk_put (cs := #[.int .i64 0, .int .i64 0, .string (⟨#[]⟩ : ByteArray)]) ?_ 0 _ rfl; (with_reducible repeat (refine blk_drewN ?_ _)); exact BK541.out) Tryd.underlying42 rfl (by kernel_rfl)) rfl ?_
        exact ⟨by rfl, by repeat ((with_reducible first | exact HB.out | apply pw_below_drewN | refine below_set ?_ GE541.out))⟩
       rw [if_pos c28] at H
       have c28b0 : (t552 == 0) = true := beq_iff_eq.mpr c28
       have c28b1 : (t552 != 0) = false := bne_eq_false_iff_eq.mpr c28
       clear c28
       replace H := Option.bind_eq_some_iff.mp H
       obtain ⟨⟨t553, t554, t555, t556, t557⟩, A290, H⟩ := H
       replace H : (some (t553, t554, t555, t556, t557)) = some (r1, r2, r3, r4, r5) := H
       have A29 := am A290
       clear A290
       simp only [Option.some.injEq, Prod.mk.injEq] at H
       obtain ⟨rfl, rfl, rfl, rfl, rfl⟩ := H
       go_wp2_with (first | (go_at_call 79; (with_reducible refine (lockstepref02_divided.calls kj15 x5_15 x6_15 t551 t552 _ A27.out).mono ?_); rintro e w' ⟨rfl, ⟨nd, rfl⟩⟩) | (go_at_call 78; (with_reducible refine (lockstepref02_signed.calls kj15 (wrap64 (rd l0 11)) x9_15 t551 t553 t554 t555 t556 t557 _ A29.out).mono ?_); rintro e w30 ⟨rfl, hb⟩; replace BK541 := am (blk_below (g := gb541) (o := .cells #[.int .i64 0, .int .i64 0, .string (⟨#[]⟩ : ByteArray)] 42 (0, 0)) (by (with_reducible repeat (refine blk_drewN ?_ _)); exact BK541.out) hb); replace HB := am (below_step (by repeat ((with_reducible first | exact HB.out | apply pw_below_drewN))) hb); (try clear hb); have hcz31_0 : w30.cell? ⟨gb541, 0, none⟩ = some (.int .i64 0) := (blk_cell BK541.out 0).trans rfl; have hcz31_1 : w30.cell? ⟨gb541, 1, none⟩ = some (.int .i64 0) := (blk_cell BK541.out 1).trans rfl; have hcz31_2 : w30.cell? ⟨gb541, 2, none⟩ = some (.string (⟨#[]⟩ : ByteArray)) := (blk_cell BK541.out 2).trans rfl; have hfz31_0 := blk_frozen BK541.out 0; have hfz31_1 := blk_frozen BK541.out 1; have hfz31_2 := blk_frozen BK541.out 2))
       repeat ((with_reducible refine at_region ?_); go_quiet (first | (go_at_call 79; (with_reducible refine (lockstepref02_divided.calls kj15 x5_15 x6_15 t551 t552 _ A27.out).mono ?_); rintro e w' ⟨rfl, ⟨nd, rfl⟩⟩) | (go_at_call 78; (with_reducible refine (lockstepref02_signed.calls kj15 (wrap64 (rd l0 11)) x9_15 t551 t553 t554 t555 t556 t557 _ A29.out).mono ?_); rintro e w30 ⟨rfl, hb⟩; replace BK541 := am (blk_below (g := gb541) (o := .cells #[.int .i64 0, .int .i64 0, .string (⟨#[]⟩ : ByteArray)] 42 (0, 0)) (by exact BK541.out) hb); replace HB := am (below_step (by repeat (first | (with_reducible first | exact HB.out | apply below_alloc | apply pw_below_drewN | apply below_drew1 | refine below_set ?_ GE541.out) | exact HB.out)) hb); have hcz31_0 : w30.cell? ⟨gb541, 0, none⟩ = some (.int .i64 0) := (blk_cell BK541.out 0).trans rfl; have hcz31_1 : w30.cell? ⟨gb541, 1, none⟩ = some (.int .i64 0) := (blk_cell BK541.out 1).trans rfl; have hcz31_2 : w30.cell? ⟨gb541, 2, none⟩ = some (.string (⟨#[]⟩ : ByteArray)) := (blk_cell BK541.out 2).trans rfl; have hfz31_0 := blk_frozen BK541.out 0; have hfz31_1 := blk_frozen BK541.out 1; have hfz31_2 := blk_frozen BK541.out 2)); try go_wp2_with (first | (go_at_call 79; (with_reducible refine (lockstepref02_divided.calls kj15 x5_15 x6_15 t551 t552 _ A27.out).mono ?_); rintro e w' ⟨rfl, ⟨nd, rfl⟩⟩) | (go_at_call 78; (with_reducible refine (lockstepref02_signed.calls kj15 (wrap64 (rd l0 11)) x9_15 t551 t553 t554 t555 t556 t557 _ A29.out).mono ?_); rintro e w30 ⟨rfl, hb⟩; replace BK541 := am (blk_below (g := gb541) (o := .cells #[.int .i64 0, .int .i64 0, .string (⟨#[]⟩ : ByteArray)] 42 (0, 0)) (by exact BK541.out) hb); replace HB := am (below_step (by repeat (first | (with_reducible first | exact HB.out | apply below_alloc | apply pw_below_drewN | apply below_drew1 | refine below_set ?_ GE541.out) | exact HB.out)) hb); have hcz31_0 : w30.cell? ⟨gb541, 0, none⟩ = some (.int .i64 0) := (blk_cell BK541.out 0).trans rfl; have hcz31_1 : w30.cell? ⟨gb541, 1, none⟩ = some (.int .i64 0) := (blk_cell BK541.out 1).trans rfl; have hcz31_2 : w30.cell? ⟨gb541, 2, none⟩ = some (.string (⟨#[]⟩ : ByteArray)) := (blk_cell BK541.out 2).trans rfl; have hfz31_0 := blk_frozen BK541.out 0; have hfz31_1 := blk_frozen BK541.out 1; have hfz31_2 := blk_frozen BK541.out 2)))
       refine bodyPost_ret (results_ctt rfl _ _ gb541 42 #[.int .i64 t553, .int .i64 t554, .string t555] (0, 0) _ rfl (by refine blk_put (cs := #[.int .i64 t553, .int .i64 t554, .string (⟨#[]⟩ : ByteArray)]) ?_ 2 _ rfl; refine blk_put (cs := #[.int .i64 t553, .int .i64 0, .string (⟨#[]⟩ : ByteArray)]) ?_ 1 _ rfl; refine blk_put (cs := #[.int .i64 0, .int .i64 0, .string (⟨#[]⟩ : ByteArray)]) ?_ 0 _ rfl; exact BK541.out) Tryd.underlying42 rfl (by kernel_rfl)) rfl ?_
       exact ⟨by rfl, by repeat ((with_reducible first | exact HB.out | refine below_set ?_ GE541.out))⟩
def lockstepref02_readText.l0 : Nat → List Int → List Int → Int → Option (Int × Int × ByteArray × Int × Int)
 | 0, _, _, _ => none
 | k + 1, x0, x5, x6 => if x6 < (x0.length : Int) then (if 0 ≤ x6 then (if (rd x0 x6) = 0 then (if (wrap64 (x6 + 1)) = (x0.length : Int) then (some (0, 0, (⟨#[]⟩ : ByteArray), 0, 4)) else (if 0 ≤ (wrap64 (x6 + 1)) then (if (wrap64 (x6 + 1)) < (x0.length : Int) then (if (rd x0 (wrap64 (x6 + 1))) = 255 then (if x5.length < 140737488355328 then (lockstepref02_readText.l0 k x0 (x5 ++ [0]) (wrap64 (x6 + 2))) else (none)) else (if (rd x0 (wrap64 (x6 + 1))) = 0 then ((lockstepref01_Check.f k 3 0 (strOfNums x5)).bind fun t569 => (if t569 = 0 then (some (3, 0, strOfNums x5, wrap64 (x6 + 2), 0)) else (some (0, 0, (⟨#[]⟩ : ByteArray), 0, 20)))) else (some (0, 0, (⟨#[]⟩ : ByteArray), 0, 20)))) else (none)) else (none))) else (if x5.length < 140737488355328 then (lockstepref02_readText.l0 k x0 (x5 ++ [rd x0 x6]) (wrap64 (x6 + 1))) else (none))) else (none)) else (some (0, 0, (⟨#[]⟩ : ByteArray), 0, 4))
def lockstepref02_readText.f (k : Nat) (l0 : List Int) : Option (Int × Int × ByteArray × Int × Int) := lockstepref02_readText.l0 k l0 ([] : List Int) 1
set_option maxHeartbeats 8000000 in
set_option maxRecDepth 100000 in
theorem lockstepref02_readText.calls (k : Nat) (A0 : Option Addr) (c0 : Nat) (l0 : List Int) (r1 : Int) (r2 : Int) (r3 : ByteArray) (r4 : Int) (r5 : Int) (w : World) (hr0 : Kd.C (Kd.int .u8) w A0 l0.length l0) (hc0 : l0.length ≤ c0) (h : lockstepref02_readText.f k l0 = some (r1, r2, r3, r4, r5)) :
  Calls Tryd.prog 59 #[.slice A0 l0.length c0] w fun e w' => e = .returned (.tuple #[.agg #[.int .i64 r1, .int .i64 r2, .string r3], .int .i64 r4, .int .i64 r5]) ∧ Below w.heap.size w w' := by
 have hu42 := Tryd.underlying42
 have HR0 := am hr0
 have HC0 := am hc0
 clear hr0 hc0
 have HB := am (Below.refl w.heap.size w)
 have H : (lockstepref02_readText.l0 k l0 ([] : List Int) 1) = some (r1, r2, r3, r4, r5) := h
 clear h
 have H' := am H
 clear H
 go_enter Tryd.func59, Tryd.ntmps59
 go_wp2_with (((with_reducible refine gate_dst (N := 2) rfl ?_); refine box_event ?hg (N := 2) ?hd (cs := #[.int .i64 0, .int .i64 0, .string (⟨#[]⟩ : ByteArray)]) (t := 42) ?hr ?_; (case hd => rfl); (case hg => rfl); (case hr => (go_simp; done)); intro gb558 hg w2 hbox hb; have BK558 := am (hbox); have GW558 := am ((by rw [hg]; exact (below_size HB.out) : w.heap.size ≤ gb558)); have GE558 := am ((by rw [hg]; exact (below_size HB.out) : w.heap.size ≤ gb558)); replace HB := am (below_step HB.out hb); clear hb hbox hg))
 go_loopg [5, 6] k (fun kq v5 v6 w' => ∃ (x5_1 : List Int) (x6_1 : Int) (x559000_1 : Int) (x559001_1 : Int) (x559002_1 : ByteArray), v6 = .int .i64 x6_1 ∧ Aside0 (lockstepref02_readText.l0 kq l0 x5_1 x6_1 = some (r1, r2, r3, r4, r5)) ∧ Aside0 (kq ≤ k) ∧ Aside0 (Kd.R (Kd.int .u8) 5 w' w.heap.size (fun _ => True) v5 x5_1) ∧ Aside0 (w'.heap[gb558]? = some (.cells #[.int .i64 x559000_1, .int .i64 x559001_1, .string x559002_1] 42 (0, 0))) ∧ Aside0 (Below w.heap.size w w'))
 case atStart => exact ⟨(([] : List Int)), (1), (0), (0), ((⟨#[]⟩ : ByteArray)), (by rfl), H', ⟨Nat.le_refl _⟩, ⟨by exact Kd.R_nil _ _ _ _ _⟩, ⟨by exact BK558.out⟩, ⟨by exact HB.out⟩⟩
 case round =>
  clear H'
  obtain ⟨x5_1, x6_1, x559000_1, x559001_1, x559002_1, rfl, HA, HK1, HO_5, BK558, HB⟩ := hrel
  cases gk with
  | zero => exact absurd HA.out (by simp [lockstepref02_readText.l0])
  | succ k1 =>
   have H := HA.out
   clear HA
   simp only [lockstepref02_readText.l0] at H
   by_cases c3 : x6_1 < (l0.length : Int)
   rotate_left
   ·
    rw [if_neg c3] at H
    have c3b0 := decide_eq_false c3
    clear c3
    simp only [Option.some.injEq, Prod.mk.injEq] at H
    obtain ⟨rfl, rfl, rfl, rfl, rfl⟩ := H
    have hcz33_0 : wr.cell? ⟨gb558, 0, none⟩ = some (.int .i64 x559000_1) := (blk_cell BK558.out 0).trans rfl
    have hcz33_1 : wr.cell? ⟨gb558, 1, none⟩ = some (.int .i64 x559001_1) := (blk_cell BK558.out 1).trans rfl
    have hcz33_2 : wr.cell? ⟨gb558, 2, none⟩ = some (.string x559002_1) := (blk_cell BK558.out 2).trans rfl
    have hfz33_0 := blk_frozen BK558.out 0
    have hfz33_1 := blk_frozen BK558.out 1
    have hfz33_2 := blk_frozen BK558.out 2
    go_wp2
    refine bodyPost_ret (results_ctt rfl _ _ gb558 42 #[.int .i64 0, .int .i64 0, .string (⟨#[]⟩ : ByteArray)] (0, 0) _ rfl (by refine blk_put (cs := #[.int .i64 0, .int .i64 0, .string x559002_1]) ?_ 2 _ rfl; refine blk_put (cs := #[.int .i64 0, .int .i64 x559001_1, .string x559002_1]) ?_ 1 _ rfl; refine blk_put (cs := #[.int .i64 x559000_1, .int .i64 x559001_1, .string x559002_1]) ?_ 0 _ rfl; exact BK558.out) Tryd.underlying42 rfl (by kernel_rfl)) rfl ?_
    exact ⟨by rfl, by repeat ((with_reducible first | exact HB.out | refine below_set ?_ GE558.out))⟩
   rw [if_pos c3] at H
   have c3b0 := decide_eq_true c3
   clear c3
   replace H := its H
   obtain ⟨c4, H⟩ := H
   have c4b0 := decide_eq_true c4
   clear c4
   by_cases c5 : (rd l0 x6_1) = 0
   rotate_left
   ·
    rw [if_neg c5] at H
    have c5b0 : ((rd l0 x6_1) == 0) = false := beq_eq_false_iff_ne.mpr c5
    have c5b1 : ((rd l0 x6_1) != 0) = true := bne_iff_ne.mpr c5
    replace H := its H
    obtain ⟨c31, H⟩ := H
    have LMc31 := am c31
    clear c31
    obtain ⟨y561, hy561⟩ : ∃ y_ : List Int, y_ = (x5_1 ++ [rd l0 x6_1]) := ⟨_, rfl⟩
    replace H : (lockstepref02_readText.l0 k1 l0 y561 (wrap64 (x6_1 + 1))) = some (r1, r2, r3, r4, r5) := by (rw [hy561]; with_reducible exact H)
    have Ny561 := am hy561
    clear hy561
    have H' := am H
    clear H
    have p559 : 0 ≤ (x6_1 : Int) := of_decide_eq_true (by assumption)
    have q559 : x6_1 < (l0.length : Int) := of_decide_eq_true (by assumption)
    obtain ⟨ad559, e559, hx559_0⟩ := Kd.at_int HR0.out x6_1 p559 q559
    cases e559
    replace hx559_0 := (HB.out.cell (World.block_lt_of_cell? w _ hx559_0)).trans hx559_0
    replace p559 := eq_true p559
    replace q559 := eq_true q559
    have p560 : 0 ≤ (x6_1 : Int) := of_decide_eq_true (by assumption)
    have q560 : x6_1 < (l0.length : Int) := of_decide_eq_true (by assumption)
    obtain ⟨ad560, e560, hx560_0⟩ := Kd.at_int HR0.out x6_1 p560 q560
    obtain rfl : ad559 = ad560 := (by injection e560)
    replace hx560_0 := (HB.out.cell (World.block_lt_of_cell? w _ hx560_0)).trans hx560_0
    replace p560 := eq_true p560
    replace q560 := eq_true q560
    go_wp2_with (((with_reducible refine gate_builtin (b := .append) (xs := #[.tmp 17, .tmp 22]) rfl ?_); at_builtin; refine Kd.R_append (Kd.int .u8) (w0 := w) w.heap.size rfl (.tmp 17) (.tmp 22) 47 5 (.int .u8 0) 1 rfl Tryd.underlying47 info5 rfl (by decide) (by omega) u5 x5_1 (rd l0 x6_1) [.int .u8 (rd l0 x6_1)] (fun _ => True) (fun _ => False) rfl rfl ?aP (fun _ hk => hk.elim) ?aF ?aO ?aB ?aS ?aL ?_; (case aP => exact rfl); (case aB => exact HB.out); (case aF => exact (fun _ _ => trivial)); (case aO => exact HO_5.out); (case aS => exact (below_size HB.out)); (case aL => have := LMc31.out; omega); intro v562 w32 ho hb hg hat; rw [← Ny561.out] at ho; replace BK558 := am (blk_grown (g := gb558) (o := .cells #[.int .i64 x559000_1, .int .i64 x559001_1, .string x559002_1] 42 (0, 0)) (by exact BK558.out) hg (Kd.R_ne HO_5.out BK558.out (by decide))); replace HB := am (hb); have HO563 := am (ho); clear HO_5; clear ho hb hg hat))
    go_roundg k1
    case measure => have := HK1.out; omega
    case rel => exact ⟨(y561), (wrap64 (x6_1 + 1)), (x559000_1), (x559001_1), (x559002_1), (by rfl), H', ⟨by have := HK1.out; omega⟩, ⟨by exact HO563.out⟩, ⟨by exact BK558.out⟩, ⟨by exact HB.out⟩⟩
   rw [if_pos c5] at H
   have c5b0 : ((rd l0 x6_1) == 0) = true := beq_iff_eq.mpr c5
   have c5b1 : ((rd l0 x6_1) != 0) = false := bne_eq_false_iff_eq.mpr c5
   clear c5
   by_cases c6 : (wrap64 (x6_1 + 1)) = (l0.length : Int)
   ·
    rw [if_pos c6] at H
    have c6b0 : ((wrap64 (x6_1 + 1)) == (l0.length : Int)) = true := beq_iff_eq.mpr c6
    have c6b1 : ((wrap64 (x6_1 + 1)) != (l0.length : Int)) = false := bne_eq_false_iff_eq.mpr c6
    clear c6
    simp only [Option.some.injEq, Prod.mk.injEq] at H
    obtain ⟨rfl, rfl, rfl, rfl, rfl⟩ := H
    have p559 : 0 ≤ (x6_1 : Int) := of_decide_eq_true (by assumption)
    have q559 : x6_1 < (l0.length : Int) := of_decide_eq_true (by assumption)
    obtain ⟨ad559, e559, hx559_0⟩ := Kd.at_int HR0.out x6_1 p559 q559
    cases e559
    replace hx559_0 := (HB.out.cell (World.block_lt_of_cell? w _ hx559_0)).trans hx559_0
    replace p559 := eq_true p559
    replace q559 := eq_true q559
    have hcz7_0 : wr.cell? ⟨gb558, 0, none⟩ = some (.int .i64 x559000_1) := (blk_cell BK558.out 0).trans rfl
    have hcz7_1 : wr.cell? ⟨gb558, 1, none⟩ = some (.int .i64 x559001_1) := (blk_cell BK558.out 1).trans rfl
    have hcz7_2 : wr.cell? ⟨gb558, 2, none⟩ = some (.string x559002_1) := (blk_cell BK558.out 2).trans rfl
    have hfz7_0 := blk_frozen BK558.out 0
    have hfz7_1 := blk_frozen BK558.out 1
    have hfz7_2 := blk_frozen BK558.out 2
    go_wp2
    refine bodyPost_ret (results_ctt rfl _ _ gb558 42 #[.int .i64 0, .int .i64 0, .string (⟨#[]⟩ : ByteArray)] (0, 0) _ rfl (by refine blk_put (cs := #[.int .i64 0, .int .i64 0, .string x559002_1]) ?_ 2 _ rfl; refine blk_put (cs := #[.int .i64 0, .int .i64 x559001_1, .string x559002_1]) ?_ 1 _ rfl; refine blk_put (cs := #[.int .i64 x559000_1, .int .i64 x559001_1, .string x559002_1]) ?_ 0 _ rfl; exact BK558.out) Tryd.underlying42 rfl (by kernel_rfl)) rfl ?_
    exact ⟨by rfl, by repeat ((with_reducible first | exact HB.out | refine below_set ?_ GE558.out))⟩
   rw [if_neg c6] at H
   have c6b0 : ((wrap64 (x6_1 + 1)) == (l0.length : Int)) = false := beq_eq_false_iff_ne.mpr c6
   have c6b1 : ((wrap64 (x6_1 + 1)) != (l0.length : Int)) = true := bne_iff_ne.mpr c6
   obtain ⟨ji8, hji8⟩ : ∃ j_ : Int, (wrap64 (x6_1 + 1)) = j_ := ⟨_, rfl⟩
   replace H : (if 0 ≤ (ji8) then (if (ji8) < (l0.length : Int) then (if (rd l0 (ji8)) = 255 then (if x5_1.length < 140737488355328 then (lockstepref02_readText.l0 k1 l0 (x5_1 ++ [0]) (wrap64 (x6_1 + 2))) else (none)) else (if (rd l0 (ji8)) = 0 then ((lockstepref01_Check.f k1 3 0 (strOfNums x5_1)).bind fun t569 => (if t569 = 0 then (some (3, 0, strOfNums x5_1, wrap64 (x6_1 + 2), 0)) else (some (0, 0, (⟨#[]⟩ : ByteArray), 0, 20)))) else (some (0, 0, (⟨#[]⟩ : ByteArray), 0, 20)))) else (none)) else (none)) = some (r1, r2, r3, r4, r5) := by (rw [hji8] at H; exact H)
   (try rw [hji8] at c6b0)
   (try rw [hji8] at c6b1)
   have hji8w : (IntKind.i64.wrap (x6_1 + 1)) = ji8 := (i64_w _).trans hji8
   replace H := its H
   obtain ⟨c9, H⟩ := H
   have c9b0 := decide_eq_true c9
   clear c9
   replace H := its H
   obtain ⟨c10, H⟩ := H
   have c10b0 := decide_eq_true c10
   clear c10
   by_cases c11 : (rd l0 (ji8)) = 255
   ·
    rw [if_pos c11] at H
    have c11b0 : ((rd l0 (ji8)) == 255) = true := beq_iff_eq.mpr c11
    have c11b1 : ((rd l0 (ji8)) != 255) = false := bne_eq_false_iff_eq.mpr c11
    clear c11
    replace H := its H
    obtain ⟨c12, H⟩ := H
    have LMc12 := am c12
    clear c12
    obtain ⟨y565, hy565⟩ : ∃ y_ : List Int, y_ = (x5_1 ++ [0]) := ⟨_, rfl⟩
    replace H : (lockstepref02_readText.l0 k1 l0 y565 (wrap64 (x6_1 + 2))) = some (r1, r2, r3, r4, r5) := by (rw [hy565]; with_reducible exact H)
    have Ny565 := am hy565
    clear hy565
    have H' := am H
    clear H
    have p559 : 0 ≤ (x6_1 : Int) := of_decide_eq_true (by assumption)
    have q559 : x6_1 < (l0.length : Int) := of_decide_eq_true (by assumption)
    obtain ⟨ad559, e559, hx559_0⟩ := Kd.at_int HR0.out x6_1 p559 q559
    cases e559
    replace hx559_0 := (HB.out.cell (World.block_lt_of_cell? w _ hx559_0)).trans hx559_0
    replace p559 := eq_true p559
    replace q559 := eq_true q559
    have p564 : 0 ≤ ((ji8) : Int) := of_decide_eq_true (by assumption)
    have q564 : (ji8) < (l0.length : Int) := of_decide_eq_true (by assumption)
    obtain ⟨ad564, e564, hx564_0⟩ := Kd.at_int HR0.out (ji8) p564 q564
    obtain rfl : ad559 = ad564 := (by injection e564)
    replace hx564_0 := (HB.out.cell (World.block_lt_of_cell? w _ hx564_0)).trans hx564_0
    replace p564 := eq_true p564
    replace q564 := eq_true q564
    go_wp2_with (((with_reducible refine gate_builtin (b := .append) (xs := #[.tmp 40, .tmp 41]) rfl ?_); at_builtin; refine Kd.R_append (Kd.int .u8) (w0 := w) w.heap.size rfl (.tmp 40) (.tmp 41) 47 5 (.int .u8 0) 1 rfl Tryd.underlying47 info5 rfl (by decide) (by omega) u5 x5_1 0 [.int .u8 0] (fun _ => True) (fun _ => False) rfl rfl ?aP (fun _ hk => hk.elim) ?aF ?aO ?aB ?aS ?aL ?_; (case aP => exact rfl); (case aB => exact HB.out); (case aF => exact (fun _ _ => trivial)); (case aO => exact HO_5.out); (case aS => exact (below_size HB.out)); (case aL => have := LMc12.out; omega); intro v566 w13 ho hb hg hat; rw [← Ny565.out] at ho; replace BK558 := am (blk_grown (g := gb558) (o := .cells #[.int .i64 x559000_1, .int .i64 x559001_1, .string x559002_1] 42 (0, 0)) (by exact BK558.out) hg (Kd.R_ne HO_5.out BK558.out (by decide))); replace HB := am (hb); have HO567 := am (ho); clear HO_5; clear ho hb hg hat))
    go_roundg k1
    case measure => have := HK1.out; omega
    case rel => exact ⟨(y565), (wrap64 (x6_1 + 2)), (x559000_1), (x559001_1), (x559002_1), (by rfl), H', ⟨by have := HK1.out; omega⟩, ⟨by exact HO567.out⟩, ⟨by exact BK558.out⟩, ⟨by exact HB.out⟩⟩
   rw [if_neg c11] at H
   have c11b0 : ((rd l0 (ji8)) == 255) = false := beq_eq_false_iff_ne.mpr c11
   have c11b1 : ((rd l0 (ji8)) != 255) = true := bne_iff_ne.mpr c11
   by_cases c14 : (rd l0 (ji8)) = 0
   rotate_left
   ·
    rw [if_neg c14] at H
    have c14b0 : ((rd l0 (ji8)) == 0) = false := beq_eq_false_iff_ne.mpr c14
    have c14b1 : ((rd l0 (ji8)) != 0) = true := bne_iff_ne.mpr c14
    simp only [Option.some.injEq, Prod.mk.injEq] at H
    obtain ⟨rfl, rfl, rfl, rfl, rfl⟩ := H
    have p559 : 0 ≤ (x6_1 : Int) := of_decide_eq_true (by assumption)
    have q559 : x6_1 < (l0.length : Int) := of_decide_eq_true (by assumption)
    obtain ⟨ad559, e559, hx559_0⟩ := Kd.at_int HR0.out x6_1 p559 q559
    cases e559
    replace hx559_0 := (HB.out.cell (World.block_lt_of_cell? w _ hx559_0)).trans hx559_0
    replace p559 := eq_true p559
    replace q559 := eq_true q559
    have p564 : 0 ≤ ((ji8) : Int) := of_decide_eq_true (by assumption)
    have q564 : (ji8) < (l0.length : Int) := of_decide_eq_true (by assumption)
    obtain ⟨ad564, e564, hx564_0⟩ := Kd.at_int HR0.out (ji8) p564 q564
    obtain rfl : ad559 = ad564 := (by injection e564)
    replace hx564_0 := (HB.out.cell (World.block_lt_of_cell? w _ hx564_0)).trans hx564_0
    replace p564 := eq_true p564
    replace q564 := eq_true q564
    have hcz30_0 : wr.cell? ⟨gb558, 0, none⟩ = some (.int .i64 x559000_1) := (blk_cell BK558.out 0).trans rfl
    have hcz30_1 : wr.cell? ⟨gb558, 1, none⟩ = some (.int .i64 x559001_1) := (blk_cell BK558.out 1).trans rfl
    have hcz30_2 : wr.cell? ⟨gb558, 2, none⟩ = some (.string x559002_1) := (blk_cell BK558.out 2).trans rfl
    have hfz30_0 := blk_frozen BK558.out 0
    have hfz30_1 := blk_frozen BK558.out 1
    have hfz30_2 := blk_frozen BK558.out 2
    go_wp2
    refine bodyPost_ret (results_ctt rfl _ _ gb558 42 #[.int .i64 0, .int .i64 0, .string (⟨#[]⟩ : ByteArray)] (0, 0) _ rfl (by refine blk_put (cs := #[.int .i64 0, .int .i64 0, .string x559002_1]) ?_ 2 _ rfl; refine blk_put (cs := #[.int .i64 0, .int .i64 x559001_1, .string x559002_1]) ?_ 1 _ rfl; refine blk_put (cs := #[.int .i64 x559000_1, .int .i64 x559001_1, .string x559002_1]) ?_ 0 _ rfl; exact BK558.out) Tryd.underlying42 rfl (by kernel_rfl)) rfl ?_
    exact ⟨by rfl, by repeat ((with_reducible first | exact HB.out | refine below_set ?_ GE558.out))⟩
   rw [if_pos c14] at H
   have c14b0 : ((rd l0 (ji8)) == 0) = true := beq_iff_eq.mpr c14
   have c14b1 : ((rd l0 (ji8)) != 0) = false := bne_eq_false_iff_eq.mpr c14
   clear c14
   replace H := Option.bind_eq_some_iff.mp H
   obtain ⟨t569, A150, H⟩ := H
   replace H : (if t569 = 0 then (some (3, 0, strOfNums x5_1, wrap64 (x6_1 + 2), 0)) else (some (0, 0, (⟨#[]⟩ : ByteArray), 0, 20))) = some (r1, r2, r3, r4, r5) := H
   have A15 := am A150
   clear A150
   by_cases c16 : t569 = 0
   rotate_left
   ·
    rw [if_neg c16] at H
    have c16b0 : (t569 == 0) = false := beq_eq_false_iff_ne.mpr c16
    have c16b1 : (t569 != 0) = true := bne_iff_ne.mpr c16
    simp only [Option.some.injEq, Prod.mk.injEq] at H
    obtain ⟨rfl, rfl, rfl, rfl, rfl⟩ := H
    have p559 : 0 ≤ (x6_1 : Int) := of_decide_eq_true (by assumption)
    have q559 : x6_1 < (l0.length : Int) := of_decide_eq_true (by assumption)
    obtain ⟨ad559, e559, hx559_0⟩ := Kd.at_int HR0.out x6_1 p559 q559
    cases e559
    replace hx559_0 := (HB.out.cell (World.block_lt_of_cell? w _ hx559_0)).trans hx559_0
    replace p559 := eq_true p559
    replace q559 := eq_true q559
    have p564 : 0 ≤ ((ji8) : Int) := of_decide_eq_true (by assumption)
    have q564 : (ji8) < (l0.length : Int) := of_decide_eq_true (by assumption)
    obtain ⟨ad564, e564, hx564_0⟩ := Kd.at_int HR0.out (ji8) p564 q564
    obtain rfl : ad559 = ad564 := (by injection e564)
    replace hx564_0 := (HB.out.cell (World.block_lt_of_cell? w _ hx564_0)).trans hx564_0
    replace p564 := eq_true p564
    replace q564 := eq_true q564
    have hcv24 := own_string (P := Tryd.prog) Tryd.underlying47 Tryd.underlying5 Tryd.underlying9 (Kd.own_of_R HO_5.out)
    go_wp2_with (first | ((with_reducible refine gate_dst (N := 7) rfl ?_); refine box_event ?hg (N := 7) ?hd (cs := #[.int .i64 0, .int .i64 0, .string (⟨#[]⟩ : ByteArray)]) (t := 42) ?hr ?_; (case hd => rfl); (case hg => rfl); (case hr => (go_simp; done)); intro gb568 hg w25 hbox hb; replace HO_5 := am (Kd.R_below HO_5.out hb); have BK568 := am (hbox); have GW568 := am ((by rw [hg]; exact (below_size HB.out) : w.heap.size ≤ gb568)); have GE568 := am ((by rw [hg]; exact (below_size HB.out) : w.heap.size ≤ gb568)); replace HB := am (below_step HB.out hb); have NB558_568 := am ((by rw [hg]; exact Nat.ne_of_lt (blk_lt (g := gb558) (o := .cells #[.int .i64 x559000_1, .int .i64 x559001_1, .string x559002_1] 42 (0, 0)) (by exact BK558.out)) : gb558 ≠ gb568)); have NB568_558 := am ((by rw [hg]; exact Nat.ne_of_gt (blk_lt (g := gb558) (o := .cells #[.int .i64 x559000_1, .int .i64 x559001_1, .string x559002_1] 42 (0, 0)) (by exact BK558.out)) : gb568 ≠ gb558)); replace BK558 := am (blk_below (g := gb558) (o := .cells #[.int .i64 x559000_1, .int .i64 x559001_1, .string x559002_1] 42 (0, 0)) (by exact BK558.out) hb); clear hb hbox hg; have hnb26 := eq_false NB568_558.out; have hnc26 := eq_false NB558_568.out; have hcz27_0 : w25.cell? ⟨gb568, 0, none⟩ = some (.int .i64 0) := (blk_cell BK568.out 0).trans rfl; have hcz27_1 : w25.cell? ⟨gb568, 1, none⟩ = some (.int .i64 0) := (blk_cell BK568.out 1).trans rfl; have hcz27_2 : w25.cell? ⟨gb568, 2, none⟩ = some (.string (⟨#[]⟩ : ByteArray)) := (blk_cell BK568.out 2).trans rfl; have hfz27_0 := blk_frozen BK568.out 0; have hfz27_1 := blk_frozen BK568.out 1; have hfz27_2 := blk_frozen BK568.out 2) | ((with_reducible refine gate_callee (f := 55) rfl ?_); refine goesL_ (some 49) rfl rfl Tryd.func55 (by kernel_rfl) rfl #[.agg #[.int .i64 3, .int .i64 0, .string (strOfNums x5_1)]] rfl (by (try simp only [List.map_toArray, List.map_cons, List.map_nil]); rfl) ?_; (with_reducible refine (lockstepref01_Check.calls k1 3 0 (strOfNums x5_1) t569 _ A15.out).mono ?_); rintro e w28 ⟨rfl, hb⟩; refine ⟨_, rfl, ?_⟩; replace HO_5 := am (Kd.R_below (by exact (Kd.R_mono (Kd.R_far (p := ⟨gb568, 2, none⟩) (Kd.R_far (p := ⟨gb568, 1, none⟩) (Kd.R_far (p := ⟨gb568, 0, none⟩) (Kd.R_types HO_5.out BK568.out (by decide)) (fun _ hk => hk.2) (.int .i64 3)) (fun _ hk => hk.2) (.int .i64 0)) (fun _ hk => hk.2) (.string (strOfNums x5_1))) (fun _ h_ => h_.1))) hb); replace BK558 := am (blk_below (g := gb558) (o := .cells #[.int .i64 x559000_1, .int .i64 x559001_1, .string x559002_1] 42 (0, 0)) (by refine blk_far ?_ NB558_568.out _; refine blk_far ?_ NB558_568.out _; refine blk_far ?_ NB558_568.out _; exact BK558.out) hb); replace BK568 := am (blk_below (g := gb568) (o := .cells #[.int .i64 3, .int .i64 0, .string (strOfNums x5_1)] 42 (0, 0)) (by refine blk_put (cs := #[.int .i64 3, .int .i64 0, .string (⟨#[]⟩ : ByteArray)]) ?_ 2 _ rfl; refine blk_put (cs := #[.int .i64 3, .int .i64 0, .string (⟨#[]⟩ : ByteArray)]) ?_ 1 _ rfl; refine blk_put (cs := #[.int .i64 0, .int .i64 0, .string (⟨#[]⟩ : ByteArray)]) ?_ 0 _ rfl; exact BK568.out) hb); replace HB := am (below_step (by repeat ((with_reducible first | exact HB.out | refine below_set ?_ GE568.out))) hb); (try clear hb); have hcz29_0 : w28.cell? ⟨gb558, 0, none⟩ = some (.int .i64 x559000_1) := (blk_cell BK558.out 0).trans rfl; have hcz29_1 : w28.cell? ⟨gb558, 1, none⟩ = some (.int .i64 x559001_1) := (blk_cell BK558.out 1).trans rfl; have hcz29_2 : w28.cell? ⟨gb558, 2, none⟩ = some (.string x559002_1) := (blk_cell BK558.out 2).trans rfl; have hfz29_0 := blk_frozen BK558.out 0; have hfz29_1 := blk_frozen BK558.out 1; have hfz29_2 := blk_frozen BK558.out 2))
    refine bodyPost_ret (results_ctt rfl _ _ gb558 42 #[.int .i64 0, .int .i64 0, .string (⟨#[]⟩ : ByteArray)] (0, 0) _ rfl (by refine blk_put (cs := #[.int .i64 0, .int .i64 0, .string x559002_1]) ?_ 2 _ rfl; refine blk_put (cs := #[.int .i64 0, .int .i64 x559001_1, .string x559002_1]) ?_ 1 _ rfl; refine blk_put (cs := #[.int .i64 x559000_1, .int .i64 x559001_1, .string x559002_1]) ?_ 0 _ rfl; exact BK558.out) Tryd.underlying42 rfl (by kernel_rfl)) rfl ?_
    exact ⟨by rfl, by repeat ((with_reducible first | exact HB.out | refine below_set ?_ GE558.out))⟩
   rw [if_pos c16] at H
   have c16b0 : (t569 == 0) = true := beq_iff_eq.mpr c16
   have c16b1 : (t569 != 0) = false := bne_eq_false_iff_eq.mpr c16
   clear c16
   simp only [Option.some.injEq, Prod.mk.injEq] at H
   obtain ⟨rfl, rfl, rfl, rfl, rfl⟩ := H
   have p559 : 0 ≤ (x6_1 : Int) := of_decide_eq_true (by assumption)
   have q559 : x6_1 < (l0.length : Int) := of_decide_eq_true (by assumption)
   obtain ⟨ad559, e559, hx559_0⟩ := Kd.at_int HR0.out x6_1 p559 q559
   cases e559
   replace hx559_0 := (HB.out.cell (World.block_lt_of_cell? w _ hx559_0)).trans hx559_0
   replace p559 := eq_true p559
   replace q559 := eq_true q559
   have p564 : 0 ≤ ((ji8) : Int) := of_decide_eq_true (by assumption)
   have q564 : (ji8) < (l0.length : Int) := of_decide_eq_true (by assumption)
   obtain ⟨ad564, e564, hx564_0⟩ := Kd.at_int HR0.out (ji8) p564 q564
   obtain rfl : ad559 = ad564 := (by injection e564)
   replace hx564_0 := (HB.out.cell (World.block_lt_of_cell? w _ hx564_0)).trans hx564_0
   replace p564 := eq_true p564
   replace q564 := eq_true q564
   have hcv17 := own_string (P := Tryd.prog) Tryd.underlying47 Tryd.underlying5 Tryd.underlying9 (Kd.own_of_R HO_5.out)
   go_wp2_with (first | ((with_reducible refine gate_dst (N := 7) rfl ?_); refine box_event ?hg (N := 7) ?hd (cs := #[.int .i64 0, .int .i64 0, .string (⟨#[]⟩ : ByteArray)]) (t := 42) ?hr ?_; (case hd => rfl); (case hg => rfl); (case hr => (go_simp; done)); intro gb568 hg w18 hbox hb; replace HO_5 := am (Kd.R_below HO_5.out hb); have BK568 := am (hbox); have GW568 := am ((by rw [hg]; exact (below_size HB.out) : w.heap.size ≤ gb568)); have GE568 := am ((by rw [hg]; exact (below_size HB.out) : w.heap.size ≤ gb568)); replace HB := am (below_step HB.out hb); have NB558_568 := am ((by rw [hg]; exact Nat.ne_of_lt (blk_lt (g := gb558) (o := .cells #[.int .i64 x559000_1, .int .i64 x559001_1, .string x559002_1] 42 (0, 0)) (by exact BK558.out)) : gb558 ≠ gb568)); have NB568_558 := am ((by rw [hg]; exact Nat.ne_of_gt (blk_lt (g := gb558) (o := .cells #[.int .i64 x559000_1, .int .i64 x559001_1, .string x559002_1] 42 (0, 0)) (by exact BK558.out)) : gb568 ≠ gb558)); replace BK558 := am (blk_below (g := gb558) (o := .cells #[.int .i64 x559000_1, .int .i64 x559001_1, .string x559002_1] 42 (0, 0)) (by exact BK558.out) hb); clear hb hbox hg; have hnb19 := eq_false NB568_558.out; have hnc19 := eq_false NB558_568.out; have hcz20_0 : w18.cell? ⟨gb568, 0, none⟩ = some (.int .i64 0) := (blk_cell BK568.out 0).trans rfl; have hcz20_1 : w18.cell? ⟨gb568, 1, none⟩ = some (.int .i64 0) := (blk_cell BK568.out 1).trans rfl; have hcz20_2 : w18.cell? ⟨gb568, 2, none⟩ = some (.string (⟨#[]⟩ : ByteArray)) := (blk_cell BK568.out 2).trans rfl; have hfz20_0 := blk_frozen BK568.out 0; have hfz20_1 := blk_frozen BK568.out 1; have hfz20_2 := blk_frozen BK568.out 2) | ((with_reducible refine gate_callee (f := 55) rfl ?_); refine goesL_ (some 49) rfl rfl Tryd.func55 (by kernel_rfl) rfl #[.agg #[.int .i64 3, .int .i64 0, .string (strOfNums x5_1)]] rfl (by (try simp only [List.map_toArray, List.map_cons, List.map_nil]); rfl) ?_; (with_reducible refine (lockstepref01_Check.calls k1 3 0 (strOfNums x5_1) t569 _ A15.out).mono ?_); rintro e w21 ⟨rfl, hb⟩; refine ⟨_, rfl, ?_⟩; replace HO_5 := am (Kd.R_below (by exact (Kd.R_mono (Kd.R_far (p := ⟨gb568, 2, none⟩) (Kd.R_far (p := ⟨gb568, 1, none⟩) (Kd.R_far (p := ⟨gb568, 0, none⟩) (Kd.R_types HO_5.out BK568.out (by decide)) (fun _ hk => hk.2) (.int .i64 3)) (fun _ hk => hk.2) (.int .i64 0)) (fun _ hk => hk.2) (.string (strOfNums x5_1))) (fun _ h_ => h_.1))) hb); replace BK558 := am (blk_below (g := gb558) (o := .cells #[.int .i64 x559000_1, .int .i64 x559001_1, .string x559002_1] 42 (0, 0)) (by refine blk_far ?_ NB558_568.out _; refine blk_far ?_ NB558_568.out _; refine blk_far ?_ NB558_568.out _; exact BK558.out) hb); replace BK568 := am (blk_below (g := gb568) (o := .cells #[.int .i64 3, .int .i64 0, .string (strOfNums x5_1)] 42 (0, 0)) (by refine blk_put (cs := #[.int .i64 3, .int .i64 0, .string (⟨#[]⟩ : ByteArray)]) ?_ 2 _ rfl; refine blk_put (cs := #[.int .i64 3, .int .i64 0, .string (⟨#[]⟩ : ByteArray)]) ?_ 1 _ rfl; refine blk_put (cs := #[.int .i64 0, .int .i64 0, .string (⟨#[]⟩ : ByteArray)]) ?_ 0 _ rfl; exact BK568.out) hb); replace HB := am (below_step (by repeat ((with_reducible first | exact HB.out | refine below_set ?_ GE568.out))) hb); (try clear hb); have hcz22_0 : w21.cell? ⟨gb568, 0, none⟩ = some (.int .i64 3) := (blk_cell BK568.out 0).trans rfl; have hcz22_1 : w21.cell? ⟨gb568, 1, none⟩ = some (.int .i64 0) := (blk_cell BK568.out 1).trans rfl; have hcz22_2 : w21.cell? ⟨gb568, 2, none⟩ = some (.string (strOfNums x5_1)) := (blk_cell BK568.out 2).trans rfl; have hfz22_0 := blk_frozen BK568.out 0; have hfz22_1 := blk_frozen BK568.out 1; have hfz22_2 := blk_frozen BK568.out 2; have hcz23_0 : w21.cell? ⟨gb558, 0, none⟩ = some (.int .i64 x559000_1) := (blk_cell BK558.out 0).trans rfl; have hcz23_1 : w21.cell? ⟨gb558, 1, none⟩ = some (.int .i64 x559001_1) := (blk_cell BK558.out 1).trans rfl; have hcz23_2 : w21.cell? ⟨gb558, 2, none⟩ = some (.string x559002_1) := (blk_cell BK558.out 2).trans rfl; have hfz23_0 := blk_frozen BK558.out 0; have hfz23_1 := blk_frozen BK558.out 1; have hfz23_2 := blk_frozen BK558.out 2))
   refine bodyPost_ret (results_ctt rfl _ _ gb558 42 #[.int .i64 3, .int .i64 0, .string (strOfNums x5_1)] (0, 0) _ rfl (by refine blk_put (cs := #[.int .i64 3, .int .i64 0, .string x559002_1]) ?_ 2 _ rfl; refine blk_put (cs := #[.int .i64 3, .int .i64 x559001_1, .string x559002_1]) ?_ 1 _ rfl; refine blk_put (cs := #[.int .i64 x559000_1, .int .i64 x559001_1, .string x559002_1]) ?_ 0 _ rfl; exact BK558.out) Tryd.underlying42 rfl (by kernel_rfl)) rfl ?_
   exact ⟨by rfl, by repeat ((with_reducible first | exact HB.out | refine below_set ?_ GE558.out))⟩
def lockstepref02_Read.f (k : Nat) (l0 : List Int) : Option (Int × Int × ByteArray × Int × Int) := if (l0.length : Int) = 0 then (some (0, 0, (⟨#[]⟩ : ByteArray), 0, 4)) else (if 0 < (l0.length : Int) then (if (rd l0 0) = 1 then (some (0, 0, (⟨#[]⟩ : ByteArray), 1, 0)) else (if (rd l0 0) = 2 then ((lockstepref02_readNumber.f k l0).bind fun bt572 => (some (bt572.1, bt572.2.1, bt572.2.2.1, bt572.2.2.2.1, bt572.2.2.2.2))) else (if (rd l0 0) = 3 then ((lockstepref02_readText.f k l0).bind fun bt577 => (some (bt577.1, bt577.2.1, bt577.2.2.1, bt577.2.2.2.1, bt577.2.2.2.2))) else (if (rd l0 0) = 4 then (if (l0.length : Int) < 2 then (some (0, 0, (⟨#[]⟩ : ByteArray), 0, 4)) else (if 1 < (l0.length : Int) then (if (rd l0 1) > 1 then (some (0, 0, (⟨#[]⟩ : ByteArray), 0, 20)) else (some (4, wrap64 (rd l0 1), (⟨#[]⟩ : ByteArray), 2, 0))) else (none))) else (some (0, 0, (⟨#[]⟩ : ByteArray), 0, 20)))))) else (none))
set_option maxHeartbeats 8000000 in
set_option maxRecDepth 100000 in
theorem lockstepref02_Read.calls (k : Nat) (A0 : Option Addr) (c0 : Nat) (l0 : List Int) (r1 : Int) (r2 : Int) (r3 : ByteArray) (r4 : Int) (r5 : Int) (w : World) (hr0 : Kd.C (Kd.int .u8) w A0 l0.length l0) (hc0 : l0.length ≤ c0) (h : lockstepref02_Read.f k l0 = some (r1, r2, r3, r4, r5)) :
  Calls Tryd.prog 28 #[.slice A0 l0.length c0] w fun e w' => e = .returned (.tuple #[.agg #[.int .i64 r1, .int .i64 r2, .string r3], .int .i64 r4, .int .i64 r5]) ∧ Below w.heap.size w w' := by
 have hu42 := Tryd.underlying42
 have HR0 := am hr0
 have HC0 := am hc0
 clear hr0 hc0
 have HB := am (Below.refl w.heap.size w)
 have H : (if (l0.length : Int) = 0 then (some (0, 0, (⟨#[]⟩ : ByteArray), 0, 4)) else (if 0 < (l0.length : Int) then (if (rd l0 0) = 1 then (some (0, 0, (⟨#[]⟩ : ByteArray), 1, 0)) else (if (rd l0 0) = 2 then ((lockstepref02_readNumber.f k l0).bind fun bt572 => (some (bt572.1, bt572.2.1, bt572.2.2.1, bt572.2.2.2.1, bt572.2.2.2.2))) else (if (rd l0 0) = 3 then ((lockstepref02_readText.f k l0).bind fun bt577 => (some (bt577.1, bt577.2.1, bt577.2.2.1, bt577.2.2.2.1, bt577.2.2.2.2))) else (if (rd l0 0) = 4 then (if (l0.length : Int) < 2 then (some (0, 0, (⟨#[]⟩ : ByteArray), 0, 4)) else (if 1 < (l0.length : Int) then (if (rd l0 1) > 1 then (some (0, 0, (⟨#[]⟩ : ByteArray), 0, 20)) else (some (4, wrap64 (rd l0 1), (⟨#[]⟩ : ByteArray), 2, 0))) else (none))) else (some (0, 0, (⟨#[]⟩ : ByteArray), 0, 20)))))) else (none))) = some (r1, r2, r3, r4, r5) := h
 clear h
 by_cases c2 : (l0.length : Int) = 0
 ·
  rw [if_pos c2] at H
  have c2b0 : ((l0.length : Int) == 0) = true := beq_iff_eq.mpr c2
  have c2b1 : ((l0.length : Int) != 0) = false := bne_eq_false_iff_eq.mpr c2
  clear c2
  simp only [Option.some.injEq, Prod.mk.injEq] at H
  obtain ⟨rfl, rfl, rfl, rfl, rfl⟩ := H
  go_enter Tryd.func28, Tryd.ntmps28
  go_wp2_with (((with_reducible refine gate_dst (N := 2) rfl ?_); refine box_event ?hg (N := 2) ?hd (cs := #[.int .i64 0, .int .i64 0, .string (⟨#[]⟩ : ByteArray)]) (t := 42) ?hr ?_; (case hd => rfl); (case hg => rfl); (case hr => (go_simp; done)); intro gb570 hg w3 hbox hb; have BK570 := am (hbox); have GW570 := am ((by rw [hg]; exact (below_size HB.out) : w.heap.size ≤ gb570)); have GE570 := am ((by rw [hg]; exact (below_size HB.out) : w.heap.size ≤ gb570)); replace HB := am (below_step HB.out hb); clear hb hbox hg; have hcz4_0 : w3.cell? ⟨gb570, 0, none⟩ = some (.int .i64 0) := (blk_cell BK570.out 0).trans rfl; have hcz4_1 : w3.cell? ⟨gb570, 1, none⟩ = some (.int .i64 0) := (blk_cell BK570.out 1).trans rfl; have hcz4_2 : w3.cell? ⟨gb570, 2, none⟩ = some (.string (⟨#[]⟩ : ByteArray)) := (blk_cell BK570.out 2).trans rfl; have hfz4_0 := blk_frozen BK570.out 0; have hfz4_1 := blk_frozen BK570.out 1; have hfz4_2 := blk_frozen BK570.out 2))
  refine bodyPost_ret (results_ctt rfl _ _ gb570 42 #[.int .i64 0, .int .i64 0, .string (⟨#[]⟩ : ByteArray)] (0, 0) _ rfl (by refine blk_put (cs := #[.int .i64 0, .int .i64 0, .string (⟨#[]⟩ : ByteArray)]) ?_ 2 _ rfl; refine blk_put (cs := #[.int .i64 0, .int .i64 0, .string (⟨#[]⟩ : ByteArray)]) ?_ 1 _ rfl; refine blk_put (cs := #[.int .i64 0, .int .i64 0, .string (⟨#[]⟩ : ByteArray)]) ?_ 0 _ rfl; exact BK570.out) Tryd.underlying42 rfl (by kernel_rfl)) rfl ?_
  exact ⟨by rfl, by repeat ((with_reducible first | exact HB.out | refine below_set ?_ GE570.out))⟩
 rw [if_neg c2] at H
 have c2b0 : ((l0.length : Int) == 0) = false := beq_eq_false_iff_ne.mpr c2
 have c2b1 : ((l0.length : Int) != 0) = true := bne_iff_ne.mpr c2
 have c2b2 : ¬ (l0 = []) := fun h_ => c2 (by rw [h_]; rfl)
 replace H := its H
 obtain ⟨c5, H⟩ := H
 have c5b0 := decide_eq_true c5
 have c5b1 : decide (0 < l0.length) = true := decide_eq_true (by omega)
 clear c5
 by_cases c6 : (rd l0 0) = 1
 ·
  rw [if_pos c6] at H
  have c6b0 : ((rd l0 0) == 1) = true := beq_iff_eq.mpr c6
  have c6b1 : ((rd l0 0) != 1) = false := bne_eq_false_iff_eq.mpr c6
  clear c6
  simp only [Option.some.injEq, Prod.mk.injEq] at H
  obtain ⟨rfl, rfl, rfl, rfl, rfl⟩ := H
  go_enter Tryd.func28, Tryd.ntmps28
  go_wp2_with (((with_reducible refine gate_dst (N := 2) rfl ?_); refine box_event ?hg (N := 2) ?hd (cs := #[.int .i64 0, .int .i64 0, .string (⟨#[]⟩ : ByteArray)]) (t := 42) ?hr ?_; (case hd => rfl); (case hg => rfl); (case hr => (go_simp; done)); intro gb570 hg w7 hbox hb; have BK570 := am (hbox); have GW570 := am ((by rw [hg]; exact (below_size HB.out) : w.heap.size ≤ gb570)); have GE570 := am ((by rw [hg]; exact (below_size HB.out) : w.heap.size ≤ gb570)); replace HB := am (below_step HB.out hb); clear hb hbox hg; have p571 : 0 ≤ (0 : Int) := (by omega); have q571 : 0 < (l0.length : Int) := of_decide_eq_true (by assumption); obtain ⟨ad571, e571, hx571_0⟩ := Kd.at_int HR0.out 0 p571 q571; cases e571; have qi571 : (0 < l0.length) = True := eq_true (by omega); (try rw [show ((0 : Int)).toNat = 0 from rfl] at hx571_0); (try rw [Addr.add_zero'] at hx571_0); replace hx571_0 := (HB.out.cell (World.block_lt_of_cell? w _ hx571_0)).trans hx571_0; replace p571 := eq_true p571; replace q571 := eq_true q571; have hcz8_0 : w7.cell? ⟨gb570, 0, none⟩ = some (.int .i64 0) := (blk_cell BK570.out 0).trans rfl; have hcz8_1 : w7.cell? ⟨gb570, 1, none⟩ = some (.int .i64 0) := (blk_cell BK570.out 1).trans rfl; have hcz8_2 : w7.cell? ⟨gb570, 2, none⟩ = some (.string (⟨#[]⟩ : ByteArray)) := (blk_cell BK570.out 2).trans rfl; have hfz8_0 := blk_frozen BK570.out 0; have hfz8_1 := blk_frozen BK570.out 1; have hfz8_2 := blk_frozen BK570.out 2))
  refine bodyPost_ret (results_ctt rfl _ _ gb570 42 #[.int .i64 0, .int .i64 0, .string (⟨#[]⟩ : ByteArray)] (0, 0) _ rfl (by refine blk_put (cs := #[.int .i64 0, .int .i64 0, .string (⟨#[]⟩ : ByteArray)]) ?_ 2 _ rfl; refine blk_put (cs := #[.int .i64 0, .int .i64 0, .string (⟨#[]⟩ : ByteArray)]) ?_ 1 _ rfl; refine blk_put (cs := #[.int .i64 0, .int .i64 0, .string (⟨#[]⟩ : ByteArray)]) ?_ 0 _ rfl; exact BK570.out) Tryd.underlying42 rfl (by kernel_rfl)) rfl ?_
  exact ⟨by rfl, by repeat ((with_reducible first | exact HB.out | refine below_set ?_ GE570.out))⟩
 rw [if_neg c6] at H
 have c6b0 : ((rd l0 0) == 1) = false := beq_eq_false_iff_ne.mpr c6
 have c6b1 : ((rd l0 0) != 1) = true := bne_iff_ne.mpr c6
 by_cases c9 : (rd l0 0) = 2
 ·
  rw [if_pos c9] at H
  have c9b0 : ((rd l0 0) == 2) = true := beq_iff_eq.mpr c9
  have c9b1 : ((rd l0 0) != 2) = false := bne_eq_false_iff_eq.mpr c9
  clear c9
  replace H := Option.bind_eq_some_iff.mp H
  obtain ⟨⟨t572, t573, t574, t575, t576⟩, A100, H⟩ := H
  replace H : (some (t572, t573, t574, t575, t576)) = some (r1, r2, r3, r4, r5) := H
  have A10 := am A100
  clear A100
  simp only [Option.some.injEq, Prod.mk.injEq] at H
  obtain ⟨rfl, rfl, rfl, rfl, rfl⟩ := H
  go_enter Tryd.func28, Tryd.ntmps28
  go_wp2_with (first | ((with_reducible refine gate_dst (N := 2) rfl ?_); refine box_event ?hg (N := 2) ?hd (cs := #[.int .i64 0, .int .i64 0, .string (⟨#[]⟩ : ByteArray)]) (t := 42) ?hr ?_; (case hd => rfl); (case hg => rfl); (case hr => (go_simp; done)); intro gb570 hg w11 hbox hb; have BK570 := am (hbox); have GW570 := am ((by rw [hg]; exact (below_size HB.out) : w.heap.size ≤ gb570)); have GE570 := am ((by rw [hg]; exact (below_size HB.out) : w.heap.size ≤ gb570)); replace HB := am (below_step HB.out hb); clear hb hbox hg; have p571 : 0 ≤ (0 : Int) := (by omega); have q571 : 0 < (l0.length : Int) := of_decide_eq_true (by assumption); obtain ⟨ad571, e571, hx571_0⟩ := Kd.at_int HR0.out 0 p571 q571; cases e571; have qi571 : (0 < l0.length) = True := eq_true (by omega); (try rw [show ((0 : Int)).toNat = 0 from rfl] at hx571_0); (try rw [Addr.add_zero'] at hx571_0); replace hx571_0 := (HB.out.cell (World.block_lt_of_cell? w _ hx571_0)).trans hx571_0; replace p571 := eq_true p571; replace q571 := eq_true q571) | ((with_reducible refine gate_callee (f := 58) rfl ?_); refine goesL_ (some 18) rfl rfl Tryd.func58 (by kernel_rfl) rfl #[.slice (some ad571) l0.length c0] rfl (by (try simp only [List.map_toArray, List.map_cons, List.map_nil]); rfl) ?_; (with_reducible refine (lockstepref02_readNumber.calls k _ _ l0 t572 t573 t574 t575 t576 _ ?side1 ?side2 A10.out).mono ?_); (case side1 => exact (Kd.C_below HR0.out HB.out)); (case side2 => exact HC0.out); rintro e w12 ⟨rfl, hb⟩; refine ⟨_, rfl, ?_⟩; replace BK570 := am (blk_below (g := gb570) (o := .cells #[.int .i64 0, .int .i64 0, .string (⟨#[]⟩ : ByteArray)] 42 (0, 0)) (by exact BK570.out) hb); replace HB := am (below_step HB.out hb); (try clear hb); have hcz13_0 : w12.cell? ⟨gb570, 0, none⟩ = some (.int .i64 0) := (blk_cell BK570.out 0).trans rfl; have hcz13_1 : w12.cell? ⟨gb570, 1, none⟩ = some (.int .i64 0) := (blk_cell BK570.out 1).trans rfl; have hcz13_2 : w12.cell? ⟨gb570, 2, none⟩ = some (.string (⟨#[]⟩ : ByteArray)) := (blk_cell BK570.out 2).trans rfl; have hfz13_0 := blk_frozen BK570.out 0; have hfz13_1 := blk_frozen BK570.out 1; have hfz13_2 := blk_frozen BK570.out 2))
  refine bodyPost_ret (results_ctt rfl _ _ gb570 42 #[.int .i64 t572, .int .i64 t573, .string t574] (0, 0) _ rfl (by refine blk_put (cs := #[.int .i64 t572, .int .i64 t573, .string (⟨#[]⟩ : ByteArray)]) ?_ 2 _ rfl; refine blk_put (cs := #[.int .i64 t572, .int .i64 0, .string (⟨#[]⟩ : ByteArray)]) ?_ 1 _ rfl; refine blk_put (cs := #[.int .i64 0, .int .i64 0, .string (⟨#[]⟩ : ByteArray)]) ?_ 0 _ rfl; exact BK570.out) Tryd.underlying42 rfl (by kernel_rfl)) rfl ?_
  exact ⟨by rfl, by repeat ((with_reducible first | exact HB.out | refine below_set ?_ GE570.out))⟩
 rw [if_neg c9] at H
 have c9b0 : ((rd l0 0) == 2) = false := beq_eq_false_iff_ne.mpr c9
 have c9b1 : ((rd l0 0) != 2) = true := bne_iff_ne.mpr c9
 by_cases c14 : (rd l0 0) = 3
 ·
  rw [if_pos c14] at H
  have c14b0 : ((rd l0 0) == 3) = true := beq_iff_eq.mpr c14
  have c14b1 : ((rd l0 0) != 3) = false := bne_eq_false_iff_eq.mpr c14
  clear c14
  replace H := Option.bind_eq_some_iff.mp H
  obtain ⟨⟨t577, t578, t579, t580, t581⟩, A150, H⟩ := H
  replace H : (some (t577, t578, t579, t580, t581)) = some (r1, r2, r3, r4, r5) := H
  have A15 := am A150
  clear A150
  simp only [Option.some.injEq, Prod.mk.injEq] at H
  obtain ⟨rfl, rfl, rfl, rfl, rfl⟩ := H
  go_enter Tryd.func28, Tryd.ntmps28
  go_wp2_with (first | ((with_reducible refine gate_dst (N := 2) rfl ?_); refine box_event ?hg (N := 2) ?hd (cs := #[.int .i64 0, .int .i64 0, .string (⟨#[]⟩ : ByteArray)]) (t := 42) ?hr ?_; (case hd => rfl); (case hg => rfl); (case hr => (go_simp; done)); intro gb570 hg w16 hbox hb; have BK570 := am (hbox); have GW570 := am ((by rw [hg]; exact (below_size HB.out) : w.heap.size ≤ gb570)); have GE570 := am ((by rw [hg]; exact (below_size HB.out) : w.heap.size ≤ gb570)); replace HB := am (below_step HB.out hb); clear hb hbox hg; have p571 : 0 ≤ (0 : Int) := (by omega); have q571 : 0 < (l0.length : Int) := of_decide_eq_true (by assumption); obtain ⟨ad571, e571, hx571_0⟩ := Kd.at_int HR0.out 0 p571 q571; cases e571; have qi571 : (0 < l0.length) = True := eq_true (by omega); (try rw [show ((0 : Int)).toNat = 0 from rfl] at hx571_0); (try rw [Addr.add_zero'] at hx571_0); replace hx571_0 := (HB.out.cell (World.block_lt_of_cell? w _ hx571_0)).trans hx571_0; replace p571 := eq_true p571; replace q571 := eq_true q571) | ((with_reducible refine gate_callee (f := 59) rfl ?_); refine goesL_ (some 25) rfl rfl Tryd.func59 (by kernel_rfl) rfl #[.slice (some ad571) l0.length c0] rfl (by (try simp only [List.map_toArray, List.map_cons, List.map_nil]); rfl) ?_; (with_reducible refine (lockstepref02_readText.calls k _ _ l0 t577 t578 t579 t580 t581 _ ?side1 ?side2 A15.out).mono ?_); (case side1 => exact (Kd.C_below HR0.out HB.out)); (case side2 => exact HC0.out); rintro e w17 ⟨rfl, hb⟩; refine ⟨_, rfl, ?_⟩; replace BK570 := am (blk_below (g := gb570) (o := .cells #[.int .i64 0, .int .i64 0, .string (⟨#[]⟩ : ByteArray)] 42 (0, 0)) (by exact BK570.out) hb); replace HB := am (below_step HB.out hb); (try clear hb); have hcz18_0 : w17.cell? ⟨gb570, 0, none⟩ = some (.int .i64 0) := (blk_cell BK570.out 0).trans rfl; have hcz18_1 : w17.cell? ⟨gb570, 1, none⟩ = some (.int .i64 0) := (blk_cell BK570.out 1).trans rfl; have hcz18_2 : w17.cell? ⟨gb570, 2, none⟩ = some (.string (⟨#[]⟩ : ByteArray)) := (blk_cell BK570.out 2).trans rfl; have hfz18_0 := blk_frozen BK570.out 0; have hfz18_1 := blk_frozen BK570.out 1; have hfz18_2 := blk_frozen BK570.out 2))
  refine bodyPost_ret (results_ctt rfl _ _ gb570 42 #[.int .i64 t577, .int .i64 t578, .string t579] (0, 0) _ rfl (by refine blk_put (cs := #[.int .i64 t577, .int .i64 t578, .string (⟨#[]⟩ : ByteArray)]) ?_ 2 _ rfl; refine blk_put (cs := #[.int .i64 t577, .int .i64 0, .string (⟨#[]⟩ : ByteArray)]) ?_ 1 _ rfl; refine blk_put (cs := #[.int .i64 0, .int .i64 0, .string (⟨#[]⟩ : ByteArray)]) ?_ 0 _ rfl; exact BK570.out) Tryd.underlying42 rfl (by kernel_rfl)) rfl ?_
  exact ⟨by rfl, by repeat ((with_reducible first | exact HB.out | refine below_set ?_ GE570.out))⟩
 rw [if_neg c14] at H
 have c14b0 : ((rd l0 0) == 3) = false := beq_eq_false_iff_ne.mpr c14
 have c14b1 : ((rd l0 0) != 3) = true := bne_iff_ne.mpr c14
 by_cases c19 : (rd l0 0) = 4
 rotate_left
 ·
  rw [if_neg c19] at H
  have c19b0 : ((rd l0 0) == 4) = false := beq_eq_false_iff_ne.mpr c19
  have c19b1 : ((rd l0 0) != 4) = true := bne_iff_ne.mpr c19
  simp only [Option.some.injEq, Prod.mk.injEq] at H
  obtain ⟨rfl, rfl, rfl, rfl, rfl⟩ := H
  go_enter Tryd.func28, Tryd.ntmps28
  go_wp2_with (((with_reducible refine gate_dst (N := 2) rfl ?_); refine box_event ?hg (N := 2) ?hd (cs := #[.int .i64 0, .int .i64 0, .string (⟨#[]⟩ : ByteArray)]) (t := 42) ?hr ?_; (case hd => rfl); (case hg => rfl); (case hr => (go_simp; done)); intro gb570 hg w29 hbox hb; have BK570 := am (hbox); have GW570 := am ((by rw [hg]; exact (below_size HB.out) : w.heap.size ≤ gb570)); have GE570 := am ((by rw [hg]; exact (below_size HB.out) : w.heap.size ≤ gb570)); replace HB := am (below_step HB.out hb); clear hb hbox hg; have p571 : 0 ≤ (0 : Int) := (by omega); have q571 : 0 < (l0.length : Int) := of_decide_eq_true (by assumption); obtain ⟨ad571, e571, hx571_0⟩ := Kd.at_int HR0.out 0 p571 q571; cases e571; have qi571 : (0 < l0.length) = True := eq_true (by omega); (try rw [show ((0 : Int)).toNat = 0 from rfl] at hx571_0); (try rw [Addr.add_zero'] at hx571_0); replace hx571_0 := (HB.out.cell (World.block_lt_of_cell? w _ hx571_0)).trans hx571_0; replace p571 := eq_true p571; replace q571 := eq_true q571; have hcz30_0 : w29.cell? ⟨gb570, 0, none⟩ = some (.int .i64 0) := (blk_cell BK570.out 0).trans rfl; have hcz30_1 : w29.cell? ⟨gb570, 1, none⟩ = some (.int .i64 0) := (blk_cell BK570.out 1).trans rfl; have hcz30_2 : w29.cell? ⟨gb570, 2, none⟩ = some (.string (⟨#[]⟩ : ByteArray)) := (blk_cell BK570.out 2).trans rfl; have hfz30_0 := blk_frozen BK570.out 0; have hfz30_1 := blk_frozen BK570.out 1; have hfz30_2 := blk_frozen BK570.out 2))
  refine bodyPost_ret (results_ctt rfl _ _ gb570 42 #[.int .i64 0, .int .i64 0, .string (⟨#[]⟩ : ByteArray)] (0, 0) _ rfl (by refine blk_put (cs := #[.int .i64 0, .int .i64 0, .string (⟨#[]⟩ : ByteArray)]) ?_ 2 _ rfl; refine blk_put (cs := #[.int .i64 0, .int .i64 0, .string (⟨#[]⟩ : ByteArray)]) ?_ 1 _ rfl; refine blk_put (cs := #[.int .i64 0, .int .i64 0, .string (⟨#[]⟩ : ByteArray)]) ?_ 0 _ rfl; exact BK570.out) Tryd.underlying42 rfl (by kernel_rfl)) rfl ?_
  exact ⟨by rfl, by repeat ((with_reducible first | exact HB.out | refine below_set ?_ GE570.out))⟩
 rw [if_pos c19] at H
 have c19b0 : ((rd l0 0) == 4) = true := beq_iff_eq.mpr c19
 have c19b1 : ((rd l0 0) != 4) = false := bne_eq_false_iff_eq.mpr c19
 clear c19
 by_cases c20 : (l0.length : Int) < 2
 ·
  rw [if_pos c20] at H
  have c20b0 := decide_eq_true c20
  have c20b1 : decide (l0.length < 2) = true := decide_eq_true (by omega)
  clear c20
  simp only [Option.some.injEq, Prod.mk.injEq] at H
  obtain ⟨rfl, rfl, rfl, rfl, rfl⟩ := H
  go_enter Tryd.func28, Tryd.ntmps28
  go_wp2_with (((with_reducible refine gate_dst (N := 2) rfl ?_); refine box_event ?hg (N := 2) ?hd (cs := #[.int .i64 0, .int .i64 0, .string (⟨#[]⟩ : ByteArray)]) (t := 42) ?hr ?_; (case hd => rfl); (case hg => rfl); (case hr => (go_simp; done)); intro gb570 hg w21 hbox hb; have BK570 := am (hbox); have GW570 := am ((by rw [hg]; exact (below_size HB.out) : w.heap.size ≤ gb570)); have GE570 := am ((by rw [hg]; exact (below_size HB.out) : w.heap.size ≤ gb570)); replace HB := am (below_step HB.out hb); clear hb hbox hg; have p571 : 0 ≤ (0 : Int) := (by omega); have q571 : 0 < (l0.length : Int) := of_decide_eq_true (by assumption); obtain ⟨ad571, e571, hx571_0⟩ := Kd.at_int HR0.out 0 p571 q571; cases e571; have qi571 : (0 < l0.length) = True := eq_true (by omega); (try rw [show ((0 : Int)).toNat = 0 from rfl] at hx571_0); (try rw [Addr.add_zero'] at hx571_0); replace hx571_0 := (HB.out.cell (World.block_lt_of_cell? w _ hx571_0)).trans hx571_0; replace p571 := eq_true p571; replace q571 := eq_true q571; have hcz22_0 : w21.cell? ⟨gb570, 0, none⟩ = some (.int .i64 0) := (blk_cell BK570.out 0).trans rfl; have hcz22_1 : w21.cell? ⟨gb570, 1, none⟩ = some (.int .i64 0) := (blk_cell BK570.out 1).trans rfl; have hcz22_2 : w21.cell? ⟨gb570, 2, none⟩ = some (.string (⟨#[]⟩ : ByteArray)) := (blk_cell BK570.out 2).trans rfl; have hfz22_0 := blk_frozen BK570.out 0; have hfz22_1 := blk_frozen BK570.out 1; have hfz22_2 := blk_frozen BK570.out 2))
  refine bodyPost_ret (results_ctt rfl _ _ gb570 42 #[.int .i64 0, .int .i64 0, .string (⟨#[]⟩ : ByteArray)] (0, 0) _ rfl (by refine blk_put (cs := #[.int .i64 0, .int .i64 0, .string (⟨#[]⟩ : ByteArray)]) ?_ 2 _ rfl; refine blk_put (cs := #[.int .i64 0, .int .i64 0, .string (⟨#[]⟩ : ByteArray)]) ?_ 1 _ rfl; refine blk_put (cs := #[.int .i64 0, .int .i64 0, .string (⟨#[]⟩ : ByteArray)]) ?_ 0 _ rfl; exact BK570.out) Tryd.underlying42 rfl (by kernel_rfl)) rfl ?_
  exact ⟨by rfl, by repeat ((with_reducible first | exact HB.out | refine below_set ?_ GE570.out))⟩
 rw [if_neg c20] at H
 have c20b0 := decide_eq_false c20
 have c20b1 : decide (l0.length < 2) = false := decide_eq_false (by omega)
 clear c20
 replace H := its H
 obtain ⟨c23, H⟩ := H
 have c23b0 := decide_eq_true c23
 have c23b1 : decide (1 < l0.length) = true := decide_eq_true (by omega)
 clear c23
 by_cases c24 : (rd l0 1) > 1
 ·
  rw [if_pos c24] at H
  have c24b0 : decide (1 < (rd l0 1)) = true := decide_eq_true c24
  clear c24
  simp only [Option.some.injEq, Prod.mk.injEq] at H
  obtain ⟨rfl, rfl, rfl, rfl, rfl⟩ := H
  go_enter Tryd.func28, Tryd.ntmps28
  go_wp2_with (((with_reducible refine gate_dst (N := 2) rfl ?_); refine box_event ?hg (N := 2) ?hd (cs := #[.int .i64 0, .int .i64 0, .string (⟨#[]⟩ : ByteArray)]) (t := 42) ?hr ?_; (case hd => rfl); (case hg => rfl); (case hr => (go_simp; done)); intro gb570 hg w25 hbox hb; have BK570 := am (hbox); have GW570 := am ((by rw [hg]; exact (below_size HB.out) : w.heap.size ≤ gb570)); have GE570 := am ((by rw [hg]; exact (below_size HB.out) : w.heap.size ≤ gb570)); replace HB := am (below_step HB.out hb); clear hb hbox hg; have p571 : 0 ≤ (0 : Int) := (by omega); have q571 : 0 < (l0.length : Int) := of_decide_eq_true (by assumption); obtain ⟨ad571, e571, hx571_0⟩ := Kd.at_int HR0.out 0 p571 q571; cases e571; have qi571 : (0 < l0.length) = True := eq_true (by omega); (try rw [show ((0 : Int)).toNat = 0 from rfl] at hx571_0); (try rw [Addr.add_zero'] at hx571_0); replace hx571_0 := (HB.out.cell (World.block_lt_of_cell? w _ hx571_0)).trans hx571_0; replace p571 := eq_true p571; replace q571 := eq_true q571; have p582 : 0 ≤ (1 : Int) := (by omega); have q582 : 1 < (l0.length : Int) := of_decide_eq_true (by assumption); obtain ⟨ad582, e582, hx582_0⟩ := Kd.at_int HR0.out 1 p582 q582; obtain rfl : ad571 = ad582 := (by injection e582); (try simp only [show (1 : Int).toNat = 1 from rfl, Nat.reduceMul, Nat.reduceEqDiff, Go.Addr.add, ↓reduceIte] at hx582_0); have qi582 : (1 < l0.length) = True := eq_true (by omega); replace hx582_0 := (HB.out.cell (World.block_lt_of_cell? w _ hx582_0)).trans hx582_0; replace p582 := eq_true p582; replace q582 := eq_true q582; have hcz26_0 : w25.cell? ⟨gb570, 0, none⟩ = some (.int .i64 0) := (blk_cell BK570.out 0).trans rfl; have hcz26_1 : w25.cell? ⟨gb570, 1, none⟩ = some (.int .i64 0) := (blk_cell BK570.out 1).trans rfl; have hcz26_2 : w25.cell? ⟨gb570, 2, none⟩ = some (.string (⟨#[]⟩ : ByteArray)) := (blk_cell BK570.out 2).trans rfl; have hfz26_0 := blk_frozen BK570.out 0; have hfz26_1 := blk_frozen BK570.out 1; have hfz26_2 := blk_frozen BK570.out 2))
  refine bodyPost_ret (results_ctt rfl _ _ gb570 42 #[.int .i64 0, .int .i64 0, .string (⟨#[]⟩ : ByteArray)] (0, 0) _ rfl (by refine blk_put (cs := #[.int .i64 0, .int .i64 0, .string (⟨#[]⟩ : ByteArray)]) ?_ 2 _ rfl; refine blk_put (cs := #[.int .i64 0, .int .i64 0, .string (⟨#[]⟩ : ByteArray)]) ?_ 1 _ rfl; refine blk_put (cs := #[.int .i64 0, .int .i64 0, .string (⟨#[]⟩ : ByteArray)]) ?_ 0 _ rfl; exact BK570.out) Tryd.underlying42 rfl (by kernel_rfl)) rfl ?_
  exact ⟨by rfl, by repeat ((with_reducible first | exact HB.out | refine below_set ?_ GE570.out))⟩
 rw [if_neg c24] at H
 have c24b0 : decide (1 < (rd l0 1)) = false := decide_eq_false c24
 clear c24
 simp only [Option.some.injEq, Prod.mk.injEq] at H
 obtain ⟨rfl, rfl, rfl, rfl, rfl⟩ := H
 go_enter Tryd.func28, Tryd.ntmps28
 go_wp2_with (((with_reducible refine gate_dst (N := 2) rfl ?_); refine box_event ?hg (N := 2) ?hd (cs := #[.int .i64 0, .int .i64 0, .string (⟨#[]⟩ : ByteArray)]) (t := 42) ?hr ?_; (case hd => rfl); (case hg => rfl); (case hr => (go_simp; done)); intro gb570 hg w27 hbox hb; have BK570 := am (hbox); have GW570 := am ((by rw [hg]; exact (below_size HB.out) : w.heap.size ≤ gb570)); have GE570 := am ((by rw [hg]; exact (below_size HB.out) : w.heap.size ≤ gb570)); replace HB := am (below_step HB.out hb); clear hb hbox hg; have p571 : 0 ≤ (0 : Int) := (by omega); have q571 : 0 < (l0.length : Int) := of_decide_eq_true (by assumption); obtain ⟨ad571, e571, hx571_0⟩ := Kd.at_int HR0.out 0 p571 q571; cases e571; have qi571 : (0 < l0.length) = True := eq_true (by omega); (try rw [show ((0 : Int)).toNat = 0 from rfl] at hx571_0); (try rw [Addr.add_zero'] at hx571_0); replace hx571_0 := (HB.out.cell (World.block_lt_of_cell? w _ hx571_0)).trans hx571_0; replace p571 := eq_true p571; replace q571 := eq_true q571; have p582 : 0 ≤ (1 : Int) := (by omega); have q582 : 1 < (l0.length : Int) := of_decide_eq_true (by assumption); obtain ⟨ad582, e582, hx582_0⟩ := Kd.at_int HR0.out 1 p582 q582; obtain rfl : ad571 = ad582 := (by injection e582); (try simp only [show (1 : Int).toNat = 1 from rfl, Nat.reduceMul, Nat.reduceEqDiff, Go.Addr.add, ↓reduceIte] at hx582_0); have qi582 : (1 < l0.length) = True := eq_true (by omega); replace hx582_0 := (HB.out.cell (World.block_lt_of_cell? w _ hx582_0)).trans hx582_0; replace p582 := eq_true p582; replace q582 := eq_true q582; have p583 : 0 ≤ (1 : Int) := (by omega); have q583 : 1 < (l0.length : Int) := of_decide_eq_true (by assumption); obtain ⟨ad583, e583, hx583_0⟩ := Kd.at_int HR0.out 1 p583 q583; obtain rfl : ad571 = ad583 := (by injection e583); (try simp only [show (1 : Int).toNat = 1 from rfl, Nat.reduceMul, Nat.reduceEqDiff, Go.Addr.add, ↓reduceIte] at hx583_0); have qi583 : (1 < l0.length) = True := eq_true (by omega); replace hx583_0 := (HB.out.cell (World.block_lt_of_cell? w _ hx583_0)).trans hx583_0; replace p583 := eq_true p583; replace q583 := eq_true q583; have hcz28_0 : w27.cell? ⟨gb570, 0, none⟩ = some (.int .i64 0) := (blk_cell BK570.out 0).trans rfl; have hcz28_1 : w27.cell? ⟨gb570, 1, none⟩ = some (.int .i64 0) := (blk_cell BK570.out 1).trans rfl; have hcz28_2 : w27.cell? ⟨gb570, 2, none⟩ = some (.string (⟨#[]⟩ : ByteArray)) := (blk_cell BK570.out 2).trans rfl; have hfz28_0 := blk_frozen BK570.out 0; have hfz28_1 := blk_frozen BK570.out 1; have hfz28_2 := blk_frozen BK570.out 2))
 refine bodyPost_ret (results_ctt rfl _ _ gb570 42 #[.int .i64 4, .int .i64 (wrap64 (rd l0 1)), .string (⟨#[]⟩ : ByteArray)] (0, 0) _ rfl (by refine blk_put (cs := #[.int .i64 4, .int .i64 (wrap64 (rd l0 1)), .string (⟨#[]⟩ : ByteArray)]) ?_ 2 _ rfl; refine blk_put (cs := #[.int .i64 4, .int .i64 0, .string (⟨#[]⟩ : ByteArray)]) ?_ 1 _ rfl; refine blk_put (cs := #[.int .i64 0, .int .i64 0, .string (⟨#[]⟩ : ByteArray)]) ?_ 0 _ rfl; exact BK570.out) Tryd.underlying42 rfl (by kernel_rfl)) rfl ?_
 exact ⟨by rfl, by repeat ((with_reducible first | exact HB.out | refine below_set ?_ GE570.out))⟩
def lockstepref02_times.f (a0 : Int) : Option (Int × Int) := some ((IntKind.u64.wrap ((IntKind.u64.wrap ((a0 / 4294967296) * 10000)) + ((IntKind.u64.wrap ((Int.tmod a0 4294967296) * 10000)) / 4294967296))) / 4294967296, Go.bits .or .u64 (IntKind.u64.wrap ((IntKind.u64.wrap ((IntKind.u64.wrap ((a0 / 4294967296) * 10000)) + ((IntKind.u64.wrap ((Int.tmod a0 4294967296) * 10000)) / 4294967296))) * 4294967296)) (Int.tmod (IntKind.u64.wrap ((Int.tmod a0 4294967296) * 10000)) 4294967296))
set_option maxHeartbeats 8000000 in
set_option maxRecDepth 100000 in
theorem lockstepref02_times.calls (a0 : Int) (r1 : Int) (r2 : Int) (w : World) (h : lockstepref02_times.f a0 = some (r1, r2)) :
  Calls Tryd.prog 88 #[.int .u64 a0] w fun e w' => e = .returned (.tuple #[.int .u64 r1, .int .u64 r2]) ∧ Drawn0 w w' := by
 have H : (some ((IntKind.u64.wrap ((IntKind.u64.wrap ((a0 / 4294967296) * 10000)) + ((IntKind.u64.wrap ((Int.tmod a0 4294967296) * 10000)) / 4294967296))) / 4294967296, Go.bits .or .u64 (IntKind.u64.wrap ((IntKind.u64.wrap ((IntKind.u64.wrap ((a0 / 4294967296) * 10000)) + ((IntKind.u64.wrap ((Int.tmod a0 4294967296) * 10000)) / 4294967296))) * 4294967296)) (Int.tmod (IntKind.u64.wrap ((Int.tmod a0 4294967296) * 10000)) 4294967296))) = some (r1, r2) := h
 clear h
 simp only [Option.some.injEq, Prod.mk.injEq] at H
 obtain ⟨rfl, rfl⟩ := H
 go_enter Tryd.func88, Tryd.ntmps88
 go_wp2
 go_ret2
 exact ⟨by first | rfl | (simp; done) | (simp [*]; done), by repeat (first | exact Drawn0.refl _ | apply Drawn0.step)⟩
mutual
def lockstepref02_number.j0 : Nat → Bool → Int → Int → Int → ByteArray → Option (List Int)
 | 0, _, _, _, _, _ => none
 | k + 1, x3, x4, x176000, x176001, x176002 => if x176000 = 1 then ((lockstepref02_times.f x4).bind fun bt176 => (lockstepref02_number.j1 k x3 bt176.1 bt176.2)) else (lockstepref02_number.j1 k x3 0 x4)
def lockstepref02_number.j1 : Nat → Bool → Int → Int → Option (List Int)
 | 0, _, _, _ => none
 | k + 1, x3, x5, x6 => if x3 = true then (if (IntKind.u64.wrap (-x6)) = 0 then (lockstepref02_number.j2 k (Int.tmod (IntKind.u64.wrap ((IntKind.u64.wrap (65535 - x5)) + 1)) 65536) (IntKind.u64.wrap (-x6))) else (lockstepref02_number.j2 k (Int.tmod (IntKind.u64.wrap (65535 - x5)) 65536) (IntKind.u64.wrap (-x6)))) else (lockstepref02_number.j2 k x5 x6)
def lockstepref02_number.j2 : Nat → Int → Int → Option (List Int)
 | 0, _, _ => none
 | k + 1, x5, x6 => lockstepref02_number.l0 k x6 (([(IntKind.u64.wrap (Int.tdiv (Int.tmod (IntKind.u64.wrap (x5 + 32768)) 65536) 256)) % 256, (Int.tmod (IntKind.u64.wrap (x5 + 32768)) 65536) % 256] : List Int)) 7
def lockstepref02_number.l0 : Nat → Int → List Int → Int → Option (List Int)
 | 0, _, _, _ => none
 | k + 1, x6, x7, x8 => if x8 ≥ 0 then (if 0 ≤ (IntKind.u64.wrap (wrap64 (8 * x8))) then (if x7.length < 140737488355328 then (lockstepref02_number.l0 k x6 (x7 ++ [(shr .u64 x6 (IntKind.u64.wrap (wrap64 (8 * x8)))) % 256]) (wrap64 (x8 - 1))) else (none)) else (none)) else (some x7)
end
def lockstepref02_number.f (k : Nat) (a0_0 : Int) (a0_1 : Int) (a0_2 : ByteArray) : Option (List Int) := if a0_1 < 0 then (lockstepref02_number.j0 k (decide (a0_1 < 0)) (IntKind.u64.wrap (-(IntKind.u64.wrap (a0_1)))) a0_0 a0_1 a0_2) else (lockstepref02_number.j0 k (decide (a0_1 < 0)) (IntKind.u64.wrap (a0_1)) a0_0 a0_1 a0_2)
set_option maxHeartbeats 8000000 in
set_option maxRecDepth 100000 in
theorem lockstepref02_number.calls (k : Nat) (a0_0 : Int) (a0_1 : Int) (a0_2 : ByteArray) (r : List Int) (w : World) (h : lockstepref02_number.f k a0_0 a0_1 a0_2 = some r) :
  Calls Tryd.prog 75 #[.agg #[.int .i64 a0_0, .int .i64 a0_1, .string a0_2]] w fun e w' => ∃ v0_ : Value, e = .returned (v0_) ∧ Kd.R (Kd.int .u8) 5 w' w.heap.size (fun _ => True) v0_ r ∧ Below w.heap.size w w' := by
 have hu42 := Tryd.underlying42
 have HB := am (Below.refl w.heap.size w)
 have H : (if a0_1 < 0 then (lockstepref02_number.j0 k (decide (a0_1 < 0)) (IntKind.u64.wrap (-(IntKind.u64.wrap (a0_1)))) a0_0 a0_1 a0_2) else (lockstepref02_number.j0 k (decide (a0_1 < 0)) (IntKind.u64.wrap (a0_1)) a0_0 a0_1 a0_2)) = some r := h
 clear h
 have HC2 := am H
 clear H
 go_enter Tryd.func75, Tryd.ntmps75
 go_upto_if 15 with (((with_reducible refine gate_dst (N := 1) rfl ?_); refine box_event ?hg (N := 1) ?hd (cs := #[.int .i64 a0_0, .int .i64 a0_1, .string a0_2]) (t := 42) ?hr ?_; (case hd => rfl); (case hg => rfl); (case hr => (go_simp; done)); intro gb175 hg w3 hbox hb; have BK175 := am (hbox); have GW175 := am ((by rw [hg]; exact (below_size HB.out) : w.heap.size ≤ gb175)); have GE175 := am ((by rw [hg]; exact (below_size HB.out) : w.heap.size ≤ gb175)); replace HB := am (below_step HB.out hb); clear hb hbox hg; have hcz4_0 : w3.cell? ⟨gb175, 0, none⟩ = some (.int .i64 a0_0) := (blk_cell BK175.out 0).trans rfl; have hcz4_1 : w3.cell? ⟨gb175, 1, none⟩ = some (.int .i64 a0_1) := (blk_cell BK175.out 1).trans rfl; have hcz4_2 : w3.cell? ⟨gb175, 2, none⟩ = some (.string a0_2) := (blk_cell BK175.out 2).trans rfl; have hfz4_0 := blk_frozen BK175.out 0; have hfz4_1 := blk_frozen BK175.out 1; have hfz4_2 := blk_frozen BK175.out 2))
 go_cut [3, 4] (fun v3 v4 wc => ∃ (kq : Nat) (x3_1 : Bool) (x4_1 : Int), v3 = .bool x3_1 ∧ v4 = .int .u64 x4_1 ∧ Aside0 (lockstepref02_number.j0 kq x3_1 x4_1 a0_0 a0_1 a0_2 = some r) ∧ Aside0 (kq ≤ k) ∧ Aside0 (wc.heap[gb175]? = some (.cells #[.int .i64 a0_0, .int .i64 a0_1, .string a0_2] 42 (0, 0))) ∧ Aside0 (Below w.heap.size w wc))
 case first =>
  have H := HC2.out
  clear HC2
  by_cases c5 : a0_1 < 0
  ·
   rw [if_pos c5] at H
   have c5b0 := decide_eq_true c5
   clear c5
   (rw [c5b0])
   have H' := am H
   clear H
   go_wp2
   go_meet
   case rel => exact ⟨_, (decide (a0_1 < 0)), (IntKind.u64.wrap (-(IntKind.u64.wrap (a0_1)))), (by (simp [*]; done)), (by rfl), H', ⟨by omega⟩, ⟨by exact BK175.out⟩, ⟨by exact HB.out⟩⟩
  rw [if_neg c5] at H
  have c5b0 := decide_eq_false c5
  clear c5
  (rw [c5b0])
  have H' := am H
  clear H
  go_wp2
  go_meet
  case rel => exact ⟨_, (decide (a0_1 < 0)), (IntKind.u64.wrap (a0_1)), (by (simp [*]; done)), (by rfl), H', ⟨by omega⟩, ⟨by exact BK175.out⟩, ⟨by exact HB.out⟩⟩
 case rest =>
  clear HC2
  (try clear hcz4_0); (try clear hcz4_1); (try clear hcz4_2); (try clear hfz4_0); (try clear hfz4_1); (try clear hfz4_2)
  obtain ⟨kq, x3_1, x4_1, rfl, rfl, HA, HJ1, BK175, HB⟩ := hcut
  cases kq with
  | zero => exact absurd HA.out (by simp [lockstepref02_number.j0])
  | succ kj1 =>
   have H := HA.out
   clear HA
   simp only [lockstepref02_number.j0] at H
   have HC6 := am H
   clear H
   have hcz7_0 : wc.cell? ⟨gb175, 0, none⟩ = some (.int .i64 a0_0) := (blk_cell BK175.out 0).trans rfl
   have hcz7_1 : wc.cell? ⟨gb175, 1, none⟩ = some (.int .i64 a0_1) := (blk_cell BK175.out 1).trans rfl
   have hcz7_2 : wc.cell? ⟨gb175, 2, none⟩ = some (.string a0_2) := (blk_cell BK175.out 2).trans rfl
   have hfz7_0 := blk_frozen BK175.out 0
   have hfz7_1 := blk_frozen BK175.out 1
   have hfz7_2 := blk_frozen BK175.out 2
   go_upto_if 21 with (fail)
   go_cut [5, 6] (fun v5 v6 wc => ∃ (kq : Nat) (x5_5 : Int) (x6_5 : Int), v5 = .int .u64 x5_5 ∧ v6 = .int .u64 x6_5 ∧ Aside0 (lockstepref02_number.j1 kq x3_1 x5_5 x6_5 = some r) ∧ Aside0 (kq ≤ kj1) ∧ Aside0 (wc.heap[gb175]? = some (.cells #[.int .i64 a0_0, .int .i64 a0_1, .string a0_2] 42 (0, 0))) ∧ Aside0 (Below w.heap.size w wc))
   case first =>
    have H := HC6.out
    clear HC6
    by_cases c8 : a0_0 = 1
    rotate_left
    ·
     rw [if_neg c8] at H
     have c8b0 : (a0_0 == 1) = false := beq_eq_false_iff_ne.mpr c8
     have c8b1 : (a0_0 != 1) = true := bne_iff_ne.mpr c8
     (rw [c8b0])
     have H' := am H
     clear H
     go_wp2
     go_meet
     case rel => exact ⟨_, (0), (x4_1), (by rfl), (by rfl), H', ⟨by have := HJ1.out; omega⟩, ⟨by exact BK175.out⟩, ⟨by exact HB.out⟩⟩
    rw [if_pos c8] at H
    have c8b0 : (a0_0 == 1) = true := beq_iff_eq.mpr c8
    have c8b1 : (a0_0 != 1) = false := bne_eq_false_iff_eq.mpr c8
    clear c8
    (rw [c8b0])
    replace H := Option.bind_eq_some_iff.mp H
    obtain ⟨⟨t176, t177⟩, A90, H⟩ := H
    replace H : (lockstepref02_number.j1 kj1 x3_1 t176 t177) = some r := H
    have A9 := am A90
    clear A90
    have H' := am H
    clear H
    go_wp2_with (((with_reducible refine gate_callee (f := 88) rfl ?_); refine goesL_ (some 24) rfl rfl Tryd.func88 (by kernel_rfl) rfl #[.int .u64 x4_1] rfl (by (try simp only [List.map_toArray, List.map_cons, List.map_nil]); rfl) ?_; (with_reducible refine (lockstepref02_times.calls x4_1 t176 t177 _ A9.out).mono ?_); rintro e w' ⟨rfl, ⟨nd, rfl⟩⟩; refine ⟨_, rfl, ?_⟩))
    go_meet
    case rel => exact ⟨_, (t176), (t177), (by rfl), (by rfl), H', ⟨by have := HJ1.out; omega⟩, ⟨by (with_reducible repeat (refine blk_drewN ?_ _)); exact BK175.out⟩, ⟨by repeat ((with_reducible first | exact HB.out | apply pw_below_drewN))⟩⟩
   case rest =>
    clear HC6
    (try clear hcz7_0); (try clear hcz7_1); (try clear hcz7_2); (try clear hfz7_0); (try clear hfz7_1); (try clear hfz7_2)
    obtain ⟨kq, x5_5, x6_5, rfl, rfl, HA, HJ5, BK175, HB⟩ := hcut
    cases kq with
    | zero => exact absurd HA.out (by simp [lockstepref02_number.j1])
    | succ kj5 =>
     have H := HA.out
     clear HA
     simp only [lockstepref02_number.j1] at H
     have HC10 := am H
     clear H
     go_upto_if 27 with (fail)
     go_cut [5, 6] (fun v5 v6 wc => ∃ (kq : Nat) (x5_9 : Int) (x6_9 : Int), v5 = .int .u64 x5_9 ∧ v6 = .int .u64 x6_9 ∧ Aside0 (lockstepref02_number.j2 kq x5_9 x6_9 = some r) ∧ Aside0 (kq ≤ kj5) ∧ Aside0 (wc.heap[gb175]? = some (.cells #[.int .i64 a0_0, .int .i64 a0_1, .string a0_2] 42 (0, 0))) ∧ Aside0 (Below w.heap.size w wc))
     case first =>
      have H := HC10.out
      clear HC10
      by_cases c11 : x3_1 = true
      rotate_left
      ·
       replace c11 := Bool.eq_false_iff.mpr c11
       subst c11
       have H1 : (lockstepref02_number.j2 kj5 x5_5 x6_5) = some r := by rw [if_neg (show ¬ (false = true) by decide)] at H; exact H
       clear H
       have H := H1
       clear H1
       have H' := am H
       clear H
       go_wp2
       go_meet
       case rel => exact ⟨_, (x5_5), (x6_5), (by rfl), (by rfl), H', ⟨by have := HJ1.out; have := HJ5.out; omega⟩, ⟨by exact BK175.out⟩, ⟨by exact HB.out⟩⟩
      subst c11
      have H1 : (if (IntKind.u64.wrap (-x6_5)) = 0 then (lockstepref02_number.j2 kj5 (Int.tmod (IntKind.u64.wrap ((IntKind.u64.wrap (65535 - x5_5)) + 1)) 65536) (IntKind.u64.wrap (-x6_5))) else (lockstepref02_number.j2 kj5 (Int.tmod (IntKind.u64.wrap (65535 - x5_5)) 65536) (IntKind.u64.wrap (-x6_5)))) = some r := by rw [if_pos rfl] at H; exact H
      clear H
      have H := H1
      clear H1
      by_cases c12 : (IntKind.u64.wrap (-x6_5)) = 0
      rotate_left
      ·
       rw [if_neg c12] at H
       have c12b0 : ((IntKind.u64.wrap (-x6_5)) == 0) = false := beq_eq_false_iff_ne.mpr c12
       have c12b1 : ((IntKind.u64.wrap (-x6_5)) != 0) = true := bne_iff_ne.mpr c12
       (skip)
       have H' := am H
       clear H
       go_wp2
       go_meet
       case rel => exact ⟨_, (Int.tmod (IntKind.u64.wrap (65535 - x5_5)) 65536), (IntKind.u64.wrap (-x6_5)), (by rfl), (by rfl), H', ⟨by have := HJ1.out; have := HJ5.out; omega⟩, ⟨by exact BK175.out⟩, ⟨by exact HB.out⟩⟩
      rw [if_pos c12] at H
      have c12b0 : ((IntKind.u64.wrap (-x6_5)) == 0) = true := beq_iff_eq.mpr c12
      have c12b1 : ((IntKind.u64.wrap (-x6_5)) != 0) = false := bne_eq_false_iff_eq.mpr c12
      clear c12
      (skip)
      have H' := am H
      clear H
      go_wp2
      go_meet
      case rel => exact ⟨_, (Int.tmod (IntKind.u64.wrap ((IntKind.u64.wrap (65535 - x5_5)) + 1)) 65536), (IntKind.u64.wrap (-x6_5)), (by rfl), (by rfl), H', ⟨by have := HJ1.out; have := HJ5.out; omega⟩, ⟨by exact BK175.out⟩, ⟨by exact HB.out⟩⟩
     case rest =>
      clear HC10
      obtain ⟨kq, x5_9, x6_9, rfl, rfl, HA, HJ9, BK175, HB⟩ := hcut
      cases kq with
      | zero => exact absurd HA.out (by simp [lockstepref02_number.j2])
      | succ kj9 =>
       have H := HA.out
       clear HA
       simp only [lockstepref02_number.j2] at H
       obtain ⟨y178, hy178⟩ : ∃ y_ : List Int, y_ = (([(IntKind.u64.wrap (Int.tdiv (Int.tmod (IntKind.u64.wrap (x5_9 + 32768)) 65536) 256)) % 256, (Int.tmod (IntKind.u64.wrap (x5_9 + 32768)) 65536) % 256] : List Int)) := ⟨_, rfl⟩
       replace H : (lockstepref02_number.l0 kj9 x6_9 y178 7) = some r := by (rw [hy178]; with_reducible exact H)
       have Ny178 := am hy178
       clear hy178
       have H' := am H
       clear H
       go_wp2_with (((with_reducible refine gate_dst (N := 46) rfl ?_); refine Kd.R_lit (Kd.int .u8) _ 5 ?hg (N := 46) ?hd (xs := ([(IntKind.u64.wrap (Int.tdiv (Int.tmod (IntKind.u64.wrap (x5_9 + 32768)) 65536) 256)) % 256, (Int.tmod (IntKind.u64.wrap (x5_9 + 32768)) 65536) % 256] : List Int)) (inner := [.int .u8 ((IntKind.u64.wrap (Int.tdiv (Int.tmod (IntKind.u64.wrap (x5_9 + 32768)) 65536) 256)) % 256), .int .u8 ((Int.tmod (IntKind.u64.wrap (x5_9 + 32768)) 65536) % 256)]) (ok := fun _ => True) (okp := fun _ => True) ?hr ?hp (fun _ hk => hk) trivial (Below.refl _ _) (Nat.le_refl _) (by simp) ?_; (case hd => rfl); (case hg => rfl); (case hr => (go_simp; done)); (case hp => exact (Reps.one (show Kd.M (Kd.int .u8) _ _ _ ((IntKind.u64.wrap (Int.tdiv (Int.tmod (IntKind.u64.wrap (x5_9 + 32768)) 65536) 256)) % 256) [.int .u8 ((IntKind.u64.wrap (Int.tdiv (Int.tmod (IntKind.u64.wrap (x5_9 + 32768)) 65536) 256)) % 256)] from rfl) (Reps.one (show Kd.M (Kd.int .u8) _ _ _ ((Int.tmod (IntKind.u64.wrap (x5_9 + 32768)) 65536) % 256) [.int .u8 ((Int.tmod (IntKind.u64.wrap (x5_9 + 32768)) 65536) % 256)] from rfl) (Reps.none _ _)))); intro v179 w13 ho14 hb hg_ hnew_; clear hg_ hnew_; (rw [← Ny178.out] at ho14); have HO180 := am (Kd.R_lower ho14 (below_size HB.out)); replace BK175 := am (blk_below (g := gb175) (o := .cells #[.int .i64 a0_0, .int .i64 a0_1, .string a0_2] 42 (0, 0)) (by exact BK175.out) hb); replace HB := am (below_step HB.out hb); clear hb ho14))
       go_loopg [7, 8] kj9 (fun kq v7 v8 w' => ∃ (x7_4 : List Int) (x8_4 : Int), v8 = .int .i64 x8_4 ∧ Aside0 (lockstepref02_number.l0 kq x6_9 x7_4 x8_4 = some r) ∧ Aside0 (kq ≤ kj9) ∧ Aside0 (Kd.R (Kd.int .u8) 5 w' w.heap.size (fun _ => True) v7 x7_4) ∧ Aside0 (w'.heap[gb175]? = some (.cells #[.int .i64 a0_0, .int .i64 a0_1, .string a0_2] 42 (0, 0))) ∧ Aside0 (Below w.heap.size w w'))
       case atStart => exact ⟨(y178), (7), (by rfl), H', ⟨Nat.le_refl _⟩, ⟨by exact HO180.out⟩, ⟨by exact BK175.out⟩, ⟨by exact HB.out⟩⟩
       case round =>
        clear H'
        obtain ⟨x7_4, x8_4, rfl, HA, HK4, HO_7, BK175, HB⟩ := hrel
        cases gk with
        | zero => exact absurd HA.out (by simp [lockstepref02_number.l0])
        | succ k4 =>
         have H := HA.out
         clear HA
         simp only [lockstepref02_number.l0] at H
         by_cases c15 : x8_4 ≥ 0
         rotate_left
         ·
          rw [if_neg c15] at H
          have c15b0 : decide (0 ≤ x8_4) = false := decide_eq_false c15
          clear c15
          obtain rfl := Option.some.inj H
          go_wp2
          go_ret
          exact ⟨_, by rfl, by exact HO_7.out, by exact HB.out⟩
         rw [if_pos c15] at H
         have c15b0 : decide (0 ≤ x8_4) = true := decide_eq_true c15
         clear c15
         obtain ⟨ji16, hji16⟩ : ∃ j_ : Int, (IntKind.u64.wrap (wrap64 (8 * x8_4))) = j_ := ⟨_, rfl⟩
         replace H : (if 0 ≤ (ji16) then (if x7_4.length < 140737488355328 then (lockstepref02_number.l0 k4 x6_9 (x7_4 ++ [(shr .u64 x6_9 (ji16)) % 256]) (wrap64 (x8_4 - 1))) else (none)) else (none)) = some r := by (rw [hji16] at H; exact H)
         replace H := its H
         obtain ⟨c17, H⟩ := H
         have c17b0 := eq_true c17
         have c17b1 := decide_eq_true c17
         clear c17
         obtain ⟨ji18, hji18⟩ : ∃ j_ : Int, (shr .u64 x6_9 (ji16)) = j_ := ⟨_, rfl⟩
         replace H : (if x7_4.length < 140737488355328 then (lockstepref02_number.l0 k4 x6_9 (x7_4 ++ [(ji18) % 256]) (wrap64 (x8_4 - 1))) else (none)) = some r := by (rw [hji18] at H; exact H)
         have hji18_ : (x6_9 / 2 ^ min (ji16).toNat 64) = ji18 := hji18
         have hji18z : (ji16) ≤ 64 → (x6_9 / 2 ^ (ji16).toNat) = ji18 := shr_small hji18
         replace H := its H
         obtain ⟨c19, H⟩ := H
         have LMc19 := am c19
         clear c19
         obtain ⟨y181, hy181⟩ : ∃ y_ : List Int, y_ = (x7_4 ++ [(ji18) % 256]) := ⟨_, rfl⟩
         replace H : (lockstepref02_number.l0 k4 x6_9 y181 (wrap64 (x8_4 - 1))) = some r := by (rw [hy181]; with_reducible exact H)
         have Ny181 := am hy181
         clear hy181
         have H' := am H
         clear H
         go_wp2_with (((with_reducible refine gate_builtin (b := .append) (xs := #[.tmp 51, .tmp 58]) rfl ?_); at_builtin; refine Kd.R_append (Kd.int .u8) (w0 := w) w.heap.size rfl (.tmp 51) (.tmp 58) 47 5 (.int .u8 0) 1 rfl Tryd.underlying47 info5 rfl (by decide) (by omega) u7 x7_4 ((ji18) % 256) [.int .u8 ((ji18) % 256)] (fun _ => True) (fun _ => False) rfl rfl ?aP (fun _ hk => hk.elim) ?aF ?aO ?aB ?aS ?aL ?_; (case aP => exact rfl); (case aB => exact HB.out); (case aF => exact (fun _ _ => trivial)); (case aO => exact HO_7.out); (case aS => exact (below_size HB.out)); (case aL => have := LMc19.out; omega); intro v182 w20 ho hb hg hat; rw [← Ny181.out] at ho; replace BK175 := am (blk_grown (g := gb175) (o := .cells #[.int .i64 a0_0, .int .i64 a0_1, .string a0_2] 42 (0, 0)) (by exact BK175.out) hg (Kd.R_ne HO_7.out BK175.out (by decide))); replace HB := am (hb); have HO183 := am (ho); clear HO_7; clear ho hb hg hat))
         go_roundg k4
         case measure => have := HJ1.out; have := HJ5.out; have := HJ9.out; have := HK4.out; omega
         case rel => exact ⟨(y181), (wrap64 (x8_4 - 1)), (by rfl), H', ⟨by have := HJ1.out; have := HJ5.out; have := HJ9.out; have := HK4.out; omega⟩, ⟨by exact HO183.out⟩, ⟨by exact BK175.out⟩, ⟨by exact HB.out⟩⟩
end Go.Proofs.YthghcpeedmconaaDoor.X
end

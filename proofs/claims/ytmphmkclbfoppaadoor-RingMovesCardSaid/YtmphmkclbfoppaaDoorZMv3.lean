/- The law RingMoves of layer 18 answers true at every row of values and every two numbers of a byte, and leaves its arguments as they were; condition: the tables of unicode/utf8 are laid as the program's text lays them. -/
import Derived.Test.YtmphmkclbfoppaaDoorZMv0
import Derived.Test.YtmphmkclbfoppaaDoorZMv1
import Derived.Test.YtmphmkclbfoppaaDoorZMv2
import Derived.Lib.ValidLaws
import Derived.Lib.MapLaws
import Derived.Lib.TrimUEq
import Derived.WalkSmall
import Derived.Laws.DeepStrings4
import Derived.Laws.RangeAny
import Derived.Lib.OthersKept
import Derived.Lib.Mul64
import Derived.Laws.Bits64b
import Derived.Lib.Replace
import Derived.Laws.BitsAllLaws
import Derived.Deep.Slices
import Derived.Deep.Strs
import Derived.Lib.SmallJoins
import Derived.OpenShut
import Derived.Carry
import Derived.Test.YtmphmkclbfoppaaDoorCards
import Derived.Test.YtmphmkclbfoppaaDoorTie
import Derived.Lib.LaidU8T
import Derived.Lib.LaidTab
import Derived.Shelf.Vars
import Derived.LaidMore
import Derived.ShutString
import Derived.SizedLaws
import Derived.ProofKit
import Derived.Deep.DeepHandedRow
import Derived.SevenTiedAt
section
namespace Go.Proofs.YtmphmkclbfoppaaDoor.X
open Go.RowKit Go.Proofs.YtmphmkclbfoppaaDoorW.PrintWords Go.Proofs.YtmphmkclbfoppaaDoorW.PrintLast Go.Proofs.YtmphmkclbfoppaaDoorW.PrintMore
attribute [local go_sem] max2_int min2_int max_two min_two max_three min_three max_four min_four
set_option linter.unusedVariables false
set_option linter.unusedSimpArgs false
mutual
def locksteplaw18_RingMoves.l0 : Nat → List (S32) → Int → Int → List (S29) → Int → Option (Bool)
 | 0, _, _, _, _, _ => none
 | k + 1, x0, x7, x8, x9, x11 => if x11 < (x9.length : Int) then (if 0 ≤ x11 then (if ((rd_T29 x9 x11).f0) < 0 then (locksteplaw18_RingMoves.j1 k x0 x7 x8 x9 x11 true ((rd_T29 x9 x11).f0) ((rd_T29 x9 x11).f1) ((rd_T29 x9 x11).f2)) else (if ((rd_T29 x9 x11).f0) ≥ (x0.length : Int) then (locksteplaw18_RingMoves.j1 k x0 x7 x8 x9 x11 true ((rd_T29 x9 x11).f0) ((rd_T29 x9 x11).f1) ((rd_T29 x9 x11).f2)) else (if ((rd_T29 x9 x11).f1) < 0 then (locksteplaw18_RingMoves.j1 k x0 x7 x8 x9 x11 true ((rd_T29 x9 x11).f0) ((rd_T29 x9 x11).f1) ((rd_T29 x9 x11).f2)) else (if ((rd_T29 x9 x11).f1) ≥ x7 then (locksteplaw18_RingMoves.j1 k x0 x7 x8 x9 x11 true ((rd_T29 x9 x11).f0) ((rd_T29 x9 x11).f1) ((rd_T29 x9 x11).f2)) else (if ((rd_T29 x9 x11).f2) < 0 then (locksteplaw18_RingMoves.j1 k x0 x7 x8 x9 x11 true ((rd_T29 x9 x11).f0) ((rd_T29 x9 x11).f1) ((rd_T29 x9 x11).f2)) else (if ((rd_T29 x9 x11).f2) ≥ x8 then (locksteplaw18_RingMoves.j1 k x0 x7 x8 x9 x11 true ((rd_T29 x9 x11).f0) ((rd_T29 x9 x11).f1) ((rd_T29 x9 x11).f2)) else (if x11 > 0 then (if 0 ≤ (wrap64 (x11 - 1)) then (if (wrap64 (x11 - 1)) < (x9.length : Int) then (locksteplaw18_RingMoves.j1 k x0 x7 x8 x9 x11 (decide (((rd_T29 x9 (wrap64 (x11 - 1))).f0) ≥ ((rd_T29 x9 x11).f0))) ((rd_T29 x9 x11).f0) ((rd_T29 x9 x11).f1) ((rd_T29 x9 x11).f2)) else (none)) else (none)) else (locksteplaw18_RingMoves.j1 k x0 x7 x8 x9 x11 false ((rd_T29 x9 x11).f0) ((rd_T29 x9 x11).f1) ((rd_T29 x9 x11).f2))))))))) else (none)) else (some true)
def locksteplaw18_RingMoves.j1 : Nat → List (S32) → Int → Int → List (S29) → Int → Bool → Int → Int → Int → Option (Bool)
 | 0, _, _, _, _, _, _, _, _, _ => none
 | k + 1, x0, x7, x8, x9, x11, x91, x198000, x198001, x198002 => if x91 = true then (some false) else (if x8 > x7 then (if x198002 < x7 then (some false) else (if x8 < x7 then (if x198001 < x8 then (some false) else (if x7 = x8 then (some false) else (locksteplaw18_RingMoves.l0 k x0 x7 x8 x9 (wrap64 (x11 + 1))))) else (if x7 = x8 then (some false) else (locksteplaw18_RingMoves.l0 k x0 x7 x8 x9 (wrap64 (x11 + 1)))))) else (if x8 < x7 then (if x198001 < x8 then (some false) else (if x7 = x8 then (some false) else (locksteplaw18_RingMoves.l0 k x0 x7 x8 x9 (wrap64 (x11 + 1))))) else (if x7 = x8 then (some false) else (locksteplaw18_RingMoves.l0 k x0 x7 x8 x9 (wrap64 (x11 + 1))))))
end
def locksteplaw18_RingMoves.f (k : Nat) (l0 : List (S32)) (a1 : Int) (a2 : Int) : Option (Bool) := (locksteplaw18_lives.f k).bind fun t191 => (if t191 = true then ((ring_Moves.f k l0 (wrap64 (1 + (wrap64 (Int.tmod a1 64)))) (wrap64 (1 + (wrap64 (Int.tmod a2 64))))).bind fun bt192 => (if bt192.2 = 0 then (locksteplaw18_RingMoves.l0 k l0 (wrap64 (1 + (wrap64 (Int.tmod a1 64)))) (wrap64 (1 + (wrap64 (Int.tmod a2 64)))) bt192.1 0) else (some ((bt192.1.length : Int) == 0)))) else (some false))
set_option maxHeartbeats 8000000 in
set_option maxRecDepth 100000 in
theorem locksteplaw18_RingMoves.calls (k : Nat) (A0 : Option Addr) (c0 : Nat) (l0 : List (S32)) (a1 : Int) (a2 : Int) (r : Bool) (w : World) (hT : Tabs w) (hr0 : Kd.C k32 w A0 l0.length l0) (hc0 : l0.length ≤ c0) (h : locksteplaw18_RingMoves.f k l0 a1 a2 = some r) (hr : r = true) :
  Calls Tryd.prog 3 #[.slice A0 l0.length c0, .int .u8 a1, .int .u8 a2] w fun e w' => e = .returned (.bool r) ∧ Below w.heap.size w w' := by
 have HR := Aside0.mk hr
 clear hr
 have hu29 := Tryd.underlying29
 have HT := Aside0.mk hT
 clear hT
 have HR0 := Aside0.mk hr0
 have HC0 := Aside0.mk hc0
 clear hr0 hc0
 have HB := Aside0.mk (Below.refl w.heap.size w)
 have H : ((locksteplaw18_lives.f k).bind fun t191 => (if t191 = true then ((ring_Moves.f k l0 (wrap64 (1 + (wrap64 (Int.tmod a1 64)))) (wrap64 (1 + (wrap64 (Int.tmod a2 64))))).bind fun bt192 => (if bt192.2 = 0 then (locksteplaw18_RingMoves.l0 k l0 (wrap64 (1 + (wrap64 (Int.tmod a1 64)))) (wrap64 (1 + (wrap64 (Int.tmod a2 64)))) bt192.1 0) else (some ((bt192.1.length : Int) == 0)))) else (some false))) = some r := h
 clear h
 replace H := Option.bind_eq_some_iff.mp H
 obtain ⟨t191, A40, H⟩ := H
 replace H : (if t191 = true then ((ring_Moves.f k l0 (wrap64 (1 + (wrap64 (Int.tmod a1 64)))) (wrap64 (1 + (wrap64 (Int.tmod a2 64))))).bind fun bt192 => (if bt192.2 = 0 then (locksteplaw18_RingMoves.l0 k l0 (wrap64 (1 + (wrap64 (Int.tmod a1 64)))) (wrap64 (1 + (wrap64 (Int.tmod a2 64)))) bt192.1 0) else (some ((bt192.1.length : Int) == 0)))) else (some false)) = some r := H
 have A4 := Aside0.mk A40
 clear A40
 by_cases c5 : t191 = true
 ·
  subst c5
  have H1 : ((ring_Moves.f k l0 (wrap64 (1 + (wrap64 (Int.tmod a1 64)))) (wrap64 (1 + (wrap64 (Int.tmod a2 64))))).bind fun bt192 => (if bt192.2 = 0 then (locksteplaw18_RingMoves.l0 k l0 (wrap64 (1 + (wrap64 (Int.tmod a1 64)))) (wrap64 (1 + (wrap64 (Int.tmod a2 64)))) bt192.1 0) else (some ((bt192.1.length : Int) == 0)))) = some r := by rw [if_pos rfl] at H; exact H
  clear H
  have H := H1
  clear H1
  replace H := Option.bind_eq_some_iff.mp H
  obtain ⟨⟨t192, t193⟩, A60, H⟩ := H
  replace H : (if t193 = 0 then (locksteplaw18_RingMoves.l0 k l0 (wrap64 (1 + (wrap64 (Int.tmod a1 64)))) (wrap64 (1 + (wrap64 (Int.tmod a2 64)))) t192 0) else (some ((t192.length : Int) == 0))) = some r := H
  have A6 := Aside0.mk A60
  clear A60
  by_cases c7 : t193 = 0
  ·
   rw [if_pos c7] at H
   have c7b0 : (t193 == 0) = true := beq_iff_eq.mpr c7
   have c7b1 : (t193 != 0) = false := bne_eq_false_iff_eq.mpr c7
   clear c7
   have H' := Aside0.mk H
   clear H
   go_enter Tryd.func3, Tryd.ntmps3
   go_wp2_with (first | (go_at_call 6; (with_reducible refine (locksteplaw18_lives.calls k  true _ ?side1 A4.out).mono ?_); (case side1 => exact Tabs.below HT.out (by repeat (first | (with_reducible first | exact HB.out | apply below_alloc | apply pw_below_drewN | apply below_drew1) | exact HB.out))); rintro e w8 ⟨rfl, hb⟩; have n0_ := Aside0.mk (below_step (by repeat (first | (with_reducible first | exact HB.out | apply below_alloc | apply pw_below_drewN | apply below_drew1) | exact HB.out)) hb); clear HB; have HB := n0_; clear n0_; (try clear hb); (try clear hb2); (try clear hk); (try clear hi)) | (go_at_call 7; (with_reducible refine (ring_Moves.calls k _ _ l0 (wrap64 (1 + (wrap64 (Int.tmod a1 64)))) (wrap64 (1 + (wrap64 (Int.tmod a2 64)))) t192 t193 _ ?side1 ?side2 ?side3 A6.out).mono ?_); (case side1 => exact Tabs.below HT.out (by repeat (first | (with_reducible first | exact HB.out | apply below_alloc | apply pw_below_drewN | apply below_drew1) | exact HB.out))); (case side2 => repeat (first | exact (Kd.C_below HR0.out HB.out) | (with_reducible refine Kd.C_alloc ?_ _) | (with_reducible refine Kd.C_drewN ?_ _) | (with_reducible refine Kd.C_drew ?_))); (case side3 => exact HC0.out); rintro e w9 ⟨v194, rfl, ho0, hb⟩; have n0_ := Aside0.mk (Kd.R_lower ho0 (below_size (by repeat (first | (with_reducible first | exact HB.out | apply below_alloc | apply pw_below_drewN | apply below_drew1) | exact HB.out)))); have n1_ := Aside0.mk (below_step (by repeat (first | (with_reducible first | exact HB.out | apply below_alloc | apply pw_below_drewN | apply below_drew1) | exact HB.out)) hb); clear HB; have HO195 := n0_; have HB := n1_; clear n0_ n1_; (try clear hb); (try clear hb2); (try clear hk); (try clear hi); (try clear ho0)))
   repeat ((with_reducible refine at_region ?_); go_quiet (first | (go_at_call 6; (with_reducible refine (locksteplaw18_lives.calls k  true _ ?side1 A4.out).mono ?_); (case side1 => exact Tabs.below HT.out (by repeat (first | (with_reducible first | exact HB.out | apply below_alloc | apply pw_below_drewN | apply below_drew1) | exact HB.out))); rintro e w8 ⟨rfl, hb⟩; have n0_ := Aside0.mk (below_step (by repeat (first | (with_reducible first | exact HB.out | apply below_alloc | apply pw_below_drewN | apply below_drew1) | exact HB.out)) hb); clear HB; have HB := n0_; clear n0_; (try clear hb); (try clear hb2); (try clear hk); (try clear hi)) | (go_at_call 7; (with_reducible refine (ring_Moves.calls k _ _ l0 (wrap64 (1 + (wrap64 (Int.tmod a1 64)))) (wrap64 (1 + (wrap64 (Int.tmod a2 64)))) t192 t193 _ ?side1 ?side2 ?side3 A6.out).mono ?_); (case side1 => exact Tabs.below HT.out (by repeat (first | (with_reducible first | exact HB.out | apply below_alloc | apply pw_below_drewN | apply below_drew1) | exact HB.out))); (case side2 => repeat (first | exact (Kd.C_below HR0.out HB.out) | (with_reducible refine Kd.C_alloc ?_ _) | (with_reducible refine Kd.C_drewN ?_ _) | (with_reducible refine Kd.C_drew ?_))); (case side3 => exact HC0.out); rintro e w9 ⟨v194, rfl, ho0, hb⟩; have n0_ := Aside0.mk (Kd.R_lower ho0 (below_size (by repeat (first | (with_reducible first | exact HB.out | apply below_alloc | apply pw_below_drewN | apply below_drew1) | exact HB.out)))); have n1_ := Aside0.mk (below_step (by repeat (first | (with_reducible first | exact HB.out | apply below_alloc | apply pw_below_drewN | apply below_drew1) | exact HB.out)) hb); clear HB; have HO195 := n0_; have HB := n1_; clear n0_ n1_; (try clear hb); (try clear hb2); (try clear hk); (try clear hi); (try clear ho0))); try go_wp2_with (first | (go_at_call 6; (with_reducible refine (locksteplaw18_lives.calls k  true _ ?side1 A4.out).mono ?_); (case side1 => exact Tabs.below HT.out (by repeat (first | (with_reducible first | exact HB.out | apply below_alloc | apply pw_below_drewN | apply below_drew1) | exact HB.out))); rintro e w8 ⟨rfl, hb⟩; have n0_ := Aside0.mk (below_step (by repeat (first | (with_reducible first | exact HB.out | apply below_alloc | apply pw_below_drewN | apply below_drew1) | exact HB.out)) hb); clear HB; have HB := n0_; clear n0_; (try clear hb); (try clear hb2); (try clear hk); (try clear hi)) | (go_at_call 7; (with_reducible refine (ring_Moves.calls k _ _ l0 (wrap64 (1 + (wrap64 (Int.tmod a1 64)))) (wrap64 (1 + (wrap64 (Int.tmod a2 64)))) t192 t193 _ ?side1 ?side2 ?side3 A6.out).mono ?_); (case side1 => exact Tabs.below HT.out (by repeat (first | (with_reducible first | exact HB.out | apply below_alloc | apply pw_below_drewN | apply below_drew1) | exact HB.out))); (case side2 => repeat (first | exact (Kd.C_below HR0.out HB.out) | (with_reducible refine Kd.C_alloc ?_ _) | (with_reducible refine Kd.C_drewN ?_ _) | (with_reducible refine Kd.C_drew ?_))); (case side3 => exact HC0.out); rintro e w9 ⟨v194, rfl, ho0, hb⟩; have n0_ := Aside0.mk (Kd.R_lower ho0 (below_size (by repeat (first | (with_reducible first | exact HB.out | apply below_alloc | apply pw_below_drewN | apply below_drew1) | exact HB.out)))); have n1_ := Aside0.mk (below_step (by repeat (first | (with_reducible first | exact HB.out | apply below_alloc | apply pw_below_drewN | apply below_drew1) | exact HB.out)) hb); clear HB; have HO195 := n0_; have HB := n1_; clear n0_ n1_; (try clear hb); (try clear hb2); (try clear hk); (try clear hi); (try clear ho0))))
   go_loopg [11] k (fun kq v11 w' => ∃ (x11_1 : Int), v11 = .int .i64 x11_1 ∧ Aside0 (locksteplaw18_RingMoves.l0 kq l0 (wrap64 (1 + (wrap64 (Int.tmod a1 64)))) (wrap64 (1 + (wrap64 (Int.tmod a2 64)))) t192 x11_1 = some r) ∧ Aside0 (kq ≤ k) ∧ Aside0 (Kd.R k29 29 w' w.heap.size (fun _ => True) v194 t192) ∧ Aside0 (Below w.heap.size w w'))
   case atStart => exact ⟨(0), (by first | rfl | (simp; done) | (simp [*]; done)), H', ⟨Nat.le_refl _⟩, ⟨by (with_reducible repeat (first | apply Kd.R_alloc | apply Kd.R_drewN | apply Kd.R_drew)); exact HO195.out⟩, ⟨by repeat (first | (with_reducible first | exact HB.out | apply below_alloc | apply pw_below_drewN | apply below_drew1) | exact HB.out)⟩⟩
   case round =>
    clear H'
    (try clear p2); (try clear c3); (try clear c5); (try clear p6); (try clear c7); (try clear c7b0); (try clear c7b1)
    obtain ⟨x11_1, rfl, HA, HK1, HO_9, HB⟩ := hrel
    cases gk with
    | zero => exact absurd HA.out (by simp [locksteplaw18_RingMoves.l0])
    | succ k1 =>
     have H := HA.out
     clear HA
     simp only [locksteplaw18_RingMoves.l0] at H
     by_cases c10 : x11_1 < (t192.length : Int)
     ·
      rw [if_pos c10] at H
      have c10b0 : decide (x11_1 < (t192.length : Int)) = true := decide_eq_true c10
      clear c10
      by_cases c11 : 0 ≤ x11_1
      ·
       rw [if_pos c11] at H
       have c11b0 : decide (0 ≤ x11_1) = true := decide_eq_true c11
       clear c11
       have HC12 := Aside0.mk H
       clear H
       obtain ⟨Ao13, co13, eo13⟩ := Kd.R_slice HO_9.out
       subst eo13
       have p196 : 0 ≤ (x11_1 : Int) := of_decide_eq_true (by first | (with_reducible assumption) | assumption)
       have q196 : x11_1 < (t192.length : Int) := of_decide_eq_true (by first | (with_reducible assumption) | assumption)
       obtain ⟨ad196, e196, hx196_0, hx196_1, hx196_2⟩ := at_T29 (Kd.R_reads' HO_9.out).2.2 x11_1 p196 q196
       cases e196
       replace p196 := eq_true p196
       replace q196 := eq_true q196
       go_upto_region 11 with (first | ((with_reducible refine gate_dst (N := 12) rfl ?_); (try (refine gate_guard (by rfl) ?_; dsimp only)); refine box_event ?hg (N := 12) ?hd (cs := #[.int .i64 0, .int .i64 0, .int .i64 0]) (t := 29) ?hr ?_; (case hd => rfl); (case hg => rfl); (case hr => first | (go_simp; done) | (go_simp; rfl)); intro gb197 hg w14 hbox hb; have n0_ := Aside0.mk (Kd.R_below (Kd.R_elderB (by (with_reducible repeat (first | apply Kd.R_alloc | apply Kd.R_drewN | apply Kd.R_drew)); exact HO_9.out) gb197 (Nat.le_of_eq hg.symm)) hb); have n1_ := Aside0.mk (below_step (by repeat (first | (with_reducible first | exact HB.out | apply below_alloc | apply pw_below_drewN | apply below_drew1) | exact HB.out)) hb); have n2_ := Aside0.mk (hbox); have n3_ := Aside0.mk ((by rw [hg]; exact (below_size (by repeat (first | (with_reducible first | exact HB.out | apply below_alloc | apply pw_below_drewN | apply below_drew1) | exact HB.out))) : w.heap.size ≤ gb197)); have n4_ := Aside0.mk ((by rw [hg]; exact (below_size (by repeat (first | (with_reducible first | exact HB.out | apply below_alloc | apply pw_below_drewN | apply below_drew1) | exact HB.out))) : w.heap.size ≤ gb197)); clear HO_9; clear HB; have HO_9 := n0_; have HB := n1_; have BK197 := n2_; have GW197 := n3_; have GE197 := n4_; clear n0_ n1_ n2_ n3_ n4_; clear hb hbox hg; have hcz15_0 : w14.cell? ⟨gb197, 0, none⟩ = some (.int .i64 0) := (blk_cell BK197.out 0).trans rfl; have hcz15_1 : w14.cell? ⟨gb197, 1, none⟩ = some (.int .i64 0) := (blk_cell BK197.out 1).trans rfl; have hcz15_2 : w14.cell? ⟨gb197, 2, none⟩ = some (.int .i64 0) := (blk_cell BK197.out 2).trans rfl; have hfz15_0 := blk_frozen BK197.out 0; have hfz15_1 := blk_frozen BK197.out 1; have hfz15_2 := blk_frozen BK197.out 2))
       repeat ((with_reducible refine at_region ?_); go_quiet (first | ((with_reducible refine gate_dst (N := 12) rfl ?_); (try (refine gate_guard (by rfl) ?_; dsimp only)); refine box_event ?hg (N := 12) ?hd (cs := #[.int .i64 0, .int .i64 0, .int .i64 0]) (t := 29) ?hr ?_; (case hd => rfl); (case hg => rfl); (case hr => first | (go_simp; done) | (go_simp; rfl)); intro gb197 hg w14 hbox hb; have n0_ := Aside0.mk (Kd.R_below (Kd.R_elderB (by (with_reducible repeat (first | apply Kd.R_alloc | apply Kd.R_drewN | apply Kd.R_drew)); exact HO_9.out) gb197 (Nat.le_of_eq hg.symm)) hb); have n1_ := Aside0.mk (below_step (by repeat (first | (with_reducible first | exact HB.out | apply below_alloc | apply pw_below_drewN | apply below_drew1) | exact HB.out)) hb); have n2_ := Aside0.mk (hbox); have n3_ := Aside0.mk ((by rw [hg]; exact (below_size (by repeat (first | (with_reducible first | exact HB.out | apply below_alloc | apply pw_below_drewN | apply below_drew1) | exact HB.out))) : w.heap.size ≤ gb197)); have n4_ := Aside0.mk ((by rw [hg]; exact (below_size (by repeat (first | (with_reducible first | exact HB.out | apply below_alloc | apply pw_below_drewN | apply below_drew1) | exact HB.out))) : w.heap.size ≤ gb197)); clear HO_9; clear HB; have HO_9 := n0_; have HB := n1_; have BK197 := n2_; have GW197 := n3_; have GE197 := n4_; clear n0_ n1_ n2_ n3_ n4_; clear hb hbox hg; have hcz15_0 : w14.cell? ⟨gb197, 0, none⟩ = some (.int .i64 0) := (blk_cell BK197.out 0).trans rfl; have hcz15_1 : w14.cell? ⟨gb197, 1, none⟩ = some (.int .i64 0) := (blk_cell BK197.out 1).trans rfl; have hcz15_2 : w14.cell? ⟨gb197, 2, none⟩ = some (.int .i64 0) := (blk_cell BK197.out 2).trans rfl; have hfz15_0 := blk_frozen BK197.out 0; have hfz15_1 := blk_frozen BK197.out 1; have hfz15_2 := blk_frozen BK197.out 2)); go_upto_region 11 with (first | ((with_reducible refine gate_dst (N := 12) rfl ?_); (try (refine gate_guard (by rfl) ?_; dsimp only)); refine box_event ?hg (N := 12) ?hd (cs := #[.int .i64 0, .int .i64 0, .int .i64 0]) (t := 29) ?hr ?_; (case hd => rfl); (case hg => rfl); (case hr => first | (go_simp; done) | (go_simp; rfl)); intro gb197 hg w14 hbox hb; have n0_ := Aside0.mk (Kd.R_below (Kd.R_elderB (by (with_reducible repeat (first | apply Kd.R_alloc | apply Kd.R_drewN | apply Kd.R_drew)); exact HO_9.out) gb197 (Nat.le_of_eq hg.symm)) hb); have n1_ := Aside0.mk (below_step (by repeat (first | (with_reducible first | exact HB.out | apply below_alloc | apply pw_below_drewN | apply below_drew1) | exact HB.out)) hb); have n2_ := Aside0.mk (hbox); have n3_ := Aside0.mk ((by rw [hg]; exact (below_size (by repeat (first | (with_reducible first | exact HB.out | apply below_alloc | apply pw_below_drewN | apply below_drew1) | exact HB.out))) : w.heap.size ≤ gb197)); have n4_ := Aside0.mk ((by rw [hg]; exact (below_size (by repeat (first | (with_reducible first | exact HB.out | apply below_alloc | apply pw_below_drewN | apply below_drew1) | exact HB.out))) : w.heap.size ≤ gb197)); clear HO_9; clear HB; have HO_9 := n0_; have HB := n1_; have BK197 := n2_; have GW197 := n3_; have GE197 := n4_; clear n0_ n1_ n2_ n3_ n4_; clear hb hbox hg; have hcz15_0 : w14.cell? ⟨gb197, 0, none⟩ = some (.int .i64 0) := (blk_cell BK197.out 0).trans rfl; have hcz15_1 : w14.cell? ⟨gb197, 1, none⟩ = some (.int .i64 0) := (blk_cell BK197.out 1).trans rfl; have hcz15_2 : w14.cell? ⟨gb197, 2, none⟩ = some (.int .i64 0) := (blk_cell BK197.out 2).trans rfl; have hfz15_0 := blk_frozen BK197.out 0; have hfz15_1 := blk_frozen BK197.out 1; have hfz15_2 := blk_frozen BK197.out 2)))
       (try simp only [Act.put, List.setIfInBounds_toArray, List.set_cons_zero, List.set_cons_succ])
       go_cut [91] (fun v91 wc => ∃ (kq : Nat) (x91_11 : Bool), v91 = .bool x91_11 ∧ Aside0 (locksteplaw18_RingMoves.j1 kq l0 (wrap64 (1 + (wrap64 (Int.tmod a1 64)))) (wrap64 (1 + (wrap64 (Int.tmod a2 64)))) t192 x11_1 x91_11 ((rd_T29 t192 x11_1).f0) ((rd_T29 t192 x11_1).f1) ((rd_T29 t192 x11_1).f2) = some r) ∧ Aside0 (kq ≤ k1) ∧ Aside0 (Kd.R k29 29 wc w.heap.size (fun k_ => k_ ≠ gb197) (.slice (some ad196) t192.length co13) t192) ∧ Aside0 (wc.heap[gb197]? = some (.cells #[.int .i64 ((rd_T29 t192 x11_1).f0), .int .i64 ((rd_T29 t192 x11_1).f1), .int .i64 ((rd_T29 t192 x11_1).f2)] 29 (0, 0))) ∧ Aside0 (Below w.heap.size w wc))
       case first =>
        have H := HC12.out
        clear HC12
        by_cases c16 : ((rd_T29 t192 x11_1).f0) < 0
        ·
         rw [if_pos c16] at H
         have c16b0 : decide (((rd_T29 t192 x11_1).f0) < 0) = true := decide_eq_true c16
         clear c16
         (first | rw [c16b0] | (simp only [i64_w, i32_w]; rw [c16b0]) | skip)
         have H' := Aside0.mk H
         clear H
         have hcz17_0 : w14.cell? ⟨gb197, 0, none⟩ = some (.int .i64 0) := (blk_cell BK197.out 0).trans rfl
         have hcz17_1 : w14.cell? ⟨gb197, 1, none⟩ = some (.int .i64 0) := (blk_cell BK197.out 1).trans rfl
         have hcz17_2 : w14.cell? ⟨gb197, 2, none⟩ = some (.int .i64 0) := (blk_cell BK197.out 2).trans rfl
         have hfz17_0 := blk_frozen BK197.out 0
         have hfz17_1 := blk_frozen BK197.out 1
         have hfz17_2 := blk_frozen BK197.out 2
         go_wp2
         repeat ((with_reducible refine at_region ?_); go_quiet (fail); try go_wp2)
         go_meet
         case rel => exact ⟨_, (true), (by first | with_reducible rfl | (simp; done) | (simp [*]; done) | rfl), H', ⟨by have := HK1.out; first | omega | exact Nat.le_refl _⟩, ⟨by (with_reducible repeat (first | apply Kd.R_alloc | apply Kd.R_drewN | apply Kd.R_drew)); exact Kd.R_mono (Kd.R_far (p := ⟨gb197, 2, none⟩) (Kd.R_far (p := ⟨gb197, 1, none⟩) (Kd.R_far (p := ⟨gb197, 0, none⟩) (Kd.R_mono HO_9.out (fun k_ hk => (⟨hk, hk.2⟩ : _ ∧ k_ ≠ gb197))) (fun _ hk => hk.2) (.int .i64 ((rd_T29 t192 x11_1).f0))) (fun _ hk => hk.2) (.int .i64 ((rd_T29 t192 x11_1).f1))) (fun _ hk => hk.2) (.int .i64 ((rd_T29 t192 x11_1).f2))) (fun _ hk => hk.1.2)⟩, ⟨by (with_reducible repeat (first | refine blk_drewN ?_ _ | refine blk_drew ?_ | refine blk_alloc ?_ _)); refine blk_put (cs := #[.int .i64 ((rd_T29 t192 x11_1).f0), .int .i64 ((rd_T29 t192 x11_1).f1), .int .i64 0]) ?_ 2 _ rfl; (with_reducible repeat (first | refine blk_drewN ?_ _ | refine blk_drew ?_ | refine blk_alloc ?_ _)); refine blk_put (cs := #[.int .i64 ((rd_T29 t192 x11_1).f0), .int .i64 0, .int .i64 0]) ?_ 1 _ rfl; (with_reducible repeat (first | refine blk_drewN ?_ _ | refine blk_drew ?_ | refine blk_alloc ?_ _)); refine blk_put (cs := #[.int .i64 0, .int .i64 0, .int .i64 0]) ?_ 0 _ rfl; (with_reducible repeat (first | refine blk_drewN ?_ _ | refine blk_drew ?_ | refine blk_alloc ?_ _)); exact BK197.out⟩, ⟨by repeat (first | (with_reducible first | exact HB.out | apply below_alloc | apply pw_below_drewN | apply below_drew1 | refine below_set ?_ GE197.out) | exact HB.out)⟩⟩
        ·
         rw [if_neg c16] at H
         have c16b0 : decide (((rd_T29 t192 x11_1).f0) < 0) = false := decide_eq_false c16
         clear c16
         (first | rw [c16b0] | (simp only [i64_w, i32_w]; rw [c16b0]) | skip)
         by_cases c18 : ((rd_T29 t192 x11_1).f0) ≥ (l0.length : Int)
         ·
          rw [if_pos c18] at H
          have c18b0 : decide ((l0.length : Int) ≤ ((rd_T29 t192 x11_1).f0)) = true := decide_eq_true c18
          clear c18
          have H' := Aside0.mk H
          clear H
          have hcz19_0 : w14.cell? ⟨gb197, 0, none⟩ = some (.int .i64 0) := (blk_cell BK197.out 0).trans rfl
          have hcz19_1 : w14.cell? ⟨gb197, 1, none⟩ = some (.int .i64 0) := (blk_cell BK197.out 1).trans rfl
          have hcz19_2 : w14.cell? ⟨gb197, 2, none⟩ = some (.int .i64 0) := (blk_cell BK197.out 2).trans rfl
          have hfz19_0 := blk_frozen BK197.out 0
          have hfz19_1 := blk_frozen BK197.out 1
          have hfz19_2 := blk_frozen BK197.out 2
          go_wp2
          repeat ((with_reducible refine at_region ?_); go_quiet (fail); try go_wp2)
          go_meet
          case rel => exact ⟨_, (true), (by first | with_reducible rfl | (simp; done) | (simp [*]; done) | rfl), H', ⟨by have := HK1.out; first | omega | exact Nat.le_refl _⟩, ⟨by (with_reducible repeat (first | apply Kd.R_alloc | apply Kd.R_drewN | apply Kd.R_drew)); exact Kd.R_mono (Kd.R_far (p := ⟨gb197, 2, none⟩) (Kd.R_far (p := ⟨gb197, 1, none⟩) (Kd.R_far (p := ⟨gb197, 0, none⟩) (Kd.R_mono HO_9.out (fun k_ hk => (⟨hk, hk.2⟩ : _ ∧ k_ ≠ gb197))) (fun _ hk => hk.2) (.int .i64 ((rd_T29 t192 x11_1).f0))) (fun _ hk => hk.2) (.int .i64 ((rd_T29 t192 x11_1).f1))) (fun _ hk => hk.2) (.int .i64 ((rd_T29 t192 x11_1).f2))) (fun _ hk => hk.1.2)⟩, ⟨by (with_reducible repeat (first | refine blk_drewN ?_ _ | refine blk_drew ?_ | refine blk_alloc ?_ _)); refine blk_put (cs := #[.int .i64 ((rd_T29 t192 x11_1).f0), .int .i64 ((rd_T29 t192 x11_1).f1), .int .i64 0]) ?_ 2 _ rfl; (with_reducible repeat (first | refine blk_drewN ?_ _ | refine blk_drew ?_ | refine blk_alloc ?_ _)); refine blk_put (cs := #[.int .i64 ((rd_T29 t192 x11_1).f0), .int .i64 0, .int .i64 0]) ?_ 1 _ rfl; (with_reducible repeat (first | refine blk_drewN ?_ _ | refine blk_drew ?_ | refine blk_alloc ?_ _)); refine blk_put (cs := #[.int .i64 0, .int .i64 0, .int .i64 0]) ?_ 0 _ rfl; (with_reducible repeat (first | refine blk_drewN ?_ _ | refine blk_drew ?_ | refine blk_alloc ?_ _)); exact BK197.out⟩, ⟨by repeat (first | (with_reducible first | exact HB.out | apply below_alloc | apply pw_below_drewN | apply below_drew1 | refine below_set ?_ GE197.out) | exact HB.out)⟩⟩
         ·
          rw [if_neg c18] at H
          have c18b0 : decide ((l0.length : Int) ≤ ((rd_T29 t192 x11_1).f0)) = false := decide_eq_false c18
          clear c18
          by_cases c20 : ((rd_T29 t192 x11_1).f1) < 0
          ·
           rw [if_pos c20] at H
           have c20b0 : decide (((rd_T29 t192 x11_1).f1) < 0) = true := decide_eq_true c20
           clear c20
           have H' := Aside0.mk H
           clear H
           have hcz21_0 : w14.cell? ⟨gb197, 0, none⟩ = some (.int .i64 0) := (blk_cell BK197.out 0).trans rfl
           have hcz21_1 : w14.cell? ⟨gb197, 1, none⟩ = some (.int .i64 0) := (blk_cell BK197.out 1).trans rfl
           have hcz21_2 : w14.cell? ⟨gb197, 2, none⟩ = some (.int .i64 0) := (blk_cell BK197.out 2).trans rfl
           have hfz21_0 := blk_frozen BK197.out 0
           have hfz21_1 := blk_frozen BK197.out 1
           have hfz21_2 := blk_frozen BK197.out 2
           go_wp2
           repeat ((with_reducible refine at_region ?_); go_quiet (fail); try go_wp2)
           go_meet
           case rel => exact ⟨_, (true), (by first | with_reducible rfl | (simp; done) | (simp [*]; done) | rfl), H', ⟨by have := HK1.out; first | omega | exact Nat.le_refl _⟩, ⟨by (with_reducible repeat (first | apply Kd.R_alloc | apply Kd.R_drewN | apply Kd.R_drew)); exact Kd.R_mono (Kd.R_far (p := ⟨gb197, 2, none⟩) (Kd.R_far (p := ⟨gb197, 1, none⟩) (Kd.R_far (p := ⟨gb197, 0, none⟩) (Kd.R_mono HO_9.out (fun k_ hk => (⟨hk, hk.2⟩ : _ ∧ k_ ≠ gb197))) (fun _ hk => hk.2) (.int .i64 ((rd_T29 t192 x11_1).f0))) (fun _ hk => hk.2) (.int .i64 ((rd_T29 t192 x11_1).f1))) (fun _ hk => hk.2) (.int .i64 ((rd_T29 t192 x11_1).f2))) (fun _ hk => hk.1.2)⟩, ⟨by (with_reducible repeat (first | refine blk_drewN ?_ _ | refine blk_drew ?_ | refine blk_alloc ?_ _)); refine blk_put (cs := #[.int .i64 ((rd_T29 t192 x11_1).f0), .int .i64 ((rd_T29 t192 x11_1).f1), .int .i64 0]) ?_ 2 _ rfl; (with_reducible repeat (first | refine blk_drewN ?_ _ | refine blk_drew ?_ | refine blk_alloc ?_ _)); refine blk_put (cs := #[.int .i64 ((rd_T29 t192 x11_1).f0), .int .i64 0, .int .i64 0]) ?_ 1 _ rfl; (with_reducible repeat (first | refine blk_drewN ?_ _ | refine blk_drew ?_ | refine blk_alloc ?_ _)); refine blk_put (cs := #[.int .i64 0, .int .i64 0, .int .i64 0]) ?_ 0 _ rfl; (with_reducible repeat (first | refine blk_drewN ?_ _ | refine blk_drew ?_ | refine blk_alloc ?_ _)); exact BK197.out⟩, ⟨by repeat (first | (with_reducible first | exact HB.out | apply below_alloc | apply pw_below_drewN | apply below_drew1 | refine below_set ?_ GE197.out) | exact HB.out)⟩⟩
          ·
           rw [if_neg c20] at H
           have c20b0 : decide (((rd_T29 t192 x11_1).f1) < 0) = false := decide_eq_false c20
           clear c20
           by_cases c22 : ((rd_T29 t192 x11_1).f1) ≥ (wrap64 (1 + (wrap64 (Int.tmod a1 64))))
           ·
            rw [if_pos c22] at H
            have c22b0 : decide ((wrap64 (1 + (wrap64 (Int.tmod a1 64)))) ≤ ((rd_T29 t192 x11_1).f1)) = true := decide_eq_true c22
            clear c22
            have H' := Aside0.mk H
            clear H
            have hcz23_0 : w14.cell? ⟨gb197, 0, none⟩ = some (.int .i64 0) := (blk_cell BK197.out 0).trans rfl
            have hcz23_1 : w14.cell? ⟨gb197, 1, none⟩ = some (.int .i64 0) := (blk_cell BK197.out 1).trans rfl
            have hcz23_2 : w14.cell? ⟨gb197, 2, none⟩ = some (.int .i64 0) := (blk_cell BK197.out 2).trans rfl
            have hfz23_0 := blk_frozen BK197.out 0
            have hfz23_1 := blk_frozen BK197.out 1
            have hfz23_2 := blk_frozen BK197.out 2
            go_wp2
            repeat ((with_reducible refine at_region ?_); go_quiet (fail); try go_wp2)
            go_meet
            case rel => exact ⟨_, (true), (by first | with_reducible rfl | (simp; done) | (simp [*]; done) | rfl), H', ⟨by have := HK1.out; first | omega | exact Nat.le_refl _⟩, ⟨by (with_reducible repeat (first | apply Kd.R_alloc | apply Kd.R_drewN | apply Kd.R_drew)); exact Kd.R_mono (Kd.R_far (p := ⟨gb197, 2, none⟩) (Kd.R_far (p := ⟨gb197, 1, none⟩) (Kd.R_far (p := ⟨gb197, 0, none⟩) (Kd.R_mono HO_9.out (fun k_ hk => (⟨hk, hk.2⟩ : _ ∧ k_ ≠ gb197))) (fun _ hk => hk.2) (.int .i64 ((rd_T29 t192 x11_1).f0))) (fun _ hk => hk.2) (.int .i64 ((rd_T29 t192 x11_1).f1))) (fun _ hk => hk.2) (.int .i64 ((rd_T29 t192 x11_1).f2))) (fun _ hk => hk.1.2)⟩, ⟨by (with_reducible repeat (first | refine blk_drewN ?_ _ | refine blk_drew ?_ | refine blk_alloc ?_ _)); refine blk_put (cs := #[.int .i64 ((rd_T29 t192 x11_1).f0), .int .i64 ((rd_T29 t192 x11_1).f1), .int .i64 0]) ?_ 2 _ rfl; (with_reducible repeat (first | refine blk_drewN ?_ _ | refine blk_drew ?_ | refine blk_alloc ?_ _)); refine blk_put (cs := #[.int .i64 ((rd_T29 t192 x11_1).f0), .int .i64 0, .int .i64 0]) ?_ 1 _ rfl; (with_reducible repeat (first | refine blk_drewN ?_ _ | refine blk_drew ?_ | refine blk_alloc ?_ _)); refine blk_put (cs := #[.int .i64 0, .int .i64 0, .int .i64 0]) ?_ 0 _ rfl; (with_reducible repeat (first | refine blk_drewN ?_ _ | refine blk_drew ?_ | refine blk_alloc ?_ _)); exact BK197.out⟩, ⟨by repeat (first | (with_reducible first | exact HB.out | apply below_alloc | apply pw_below_drewN | apply below_drew1 | refine below_set ?_ GE197.out) | exact HB.out)⟩⟩
           ·
            rw [if_neg c22] at H
            have c22b0 : decide ((wrap64 (1 + (wrap64 (Int.tmod a1 64)))) ≤ ((rd_T29 t192 x11_1).f1)) = false := decide_eq_false c22
            clear c22
            by_cases c24 : ((rd_T29 t192 x11_1).f2) < 0
            ·
             rw [if_pos c24] at H
             have c24b0 : decide (((rd_T29 t192 x11_1).f2) < 0) = true := decide_eq_true c24
             clear c24
             have H' := Aside0.mk H
             clear H
             have hcz25_0 : w14.cell? ⟨gb197, 0, none⟩ = some (.int .i64 0) := (blk_cell BK197.out 0).trans rfl
             have hcz25_1 : w14.cell? ⟨gb197, 1, none⟩ = some (.int .i64 0) := (blk_cell BK197.out 1).trans rfl
             have hcz25_2 : w14.cell? ⟨gb197, 2, none⟩ = some (.int .i64 0) := (blk_cell BK197.out 2).trans rfl
             have hfz25_0 := blk_frozen BK197.out 0
             have hfz25_1 := blk_frozen BK197.out 1
             have hfz25_2 := blk_frozen BK197.out 2
             go_wp2
             repeat ((with_reducible refine at_region ?_); go_quiet (fail); try go_wp2)
             go_meet
             case rel => exact ⟨_, (true), (by first | with_reducible rfl | (simp; done) | (simp [*]; done) | rfl), H', ⟨by have := HK1.out; first | omega | exact Nat.le_refl _⟩, ⟨by (with_reducible repeat (first | apply Kd.R_alloc | apply Kd.R_drewN | apply Kd.R_drew)); exact Kd.R_mono (Kd.R_far (p := ⟨gb197, 2, none⟩) (Kd.R_far (p := ⟨gb197, 1, none⟩) (Kd.R_far (p := ⟨gb197, 0, none⟩) (Kd.R_mono HO_9.out (fun k_ hk => (⟨hk, hk.2⟩ : _ ∧ k_ ≠ gb197))) (fun _ hk => hk.2) (.int .i64 ((rd_T29 t192 x11_1).f0))) (fun _ hk => hk.2) (.int .i64 ((rd_T29 t192 x11_1).f1))) (fun _ hk => hk.2) (.int .i64 ((rd_T29 t192 x11_1).f2))) (fun _ hk => hk.1.2)⟩, ⟨by (with_reducible repeat (first | refine blk_drewN ?_ _ | refine blk_drew ?_ | refine blk_alloc ?_ _)); refine blk_put (cs := #[.int .i64 ((rd_T29 t192 x11_1).f0), .int .i64 ((rd_T29 t192 x11_1).f1), .int .i64 0]) ?_ 2 _ rfl; (with_reducible repeat (first | refine blk_drewN ?_ _ | refine blk_drew ?_ | refine blk_alloc ?_ _)); refine blk_put (cs := #[.int .i64 ((rd_T29 t192 x11_1).f0), .int .i64 0, .int .i64 0]) ?_ 1 _ rfl; (with_reducible repeat (first | refine blk_drewN ?_ _ | refine blk_drew ?_ | refine blk_alloc ?_ _)); refine blk_put (cs := #[.int .i64 0, .int .i64 0, .int .i64 0]) ?_ 0 _ rfl; (with_reducible repeat (first | refine blk_drewN ?_ _ | refine blk_drew ?_ | refine blk_alloc ?_ _)); exact BK197.out⟩, ⟨by repeat (first | (with_reducible first | exact HB.out | apply below_alloc | apply pw_below_drewN | apply below_drew1 | refine below_set ?_ GE197.out) | exact HB.out)⟩⟩
            ·
             rw [if_neg c24] at H
             have c24b0 : decide (((rd_T29 t192 x11_1).f2) < 0) = false := decide_eq_false c24
             clear c24
             by_cases c26 : ((rd_T29 t192 x11_1).f2) ≥ (wrap64 (1 + (wrap64 (Int.tmod a2 64))))
             ·
              rw [if_pos c26] at H
              have c26b0 : decide ((wrap64 (1 + (wrap64 (Int.tmod a2 64)))) ≤ ((rd_T29 t192 x11_1).f2)) = true := decide_eq_true c26
              clear c26
              have H' := Aside0.mk H
              clear H
              have hcz27_0 : w14.cell? ⟨gb197, 0, none⟩ = some (.int .i64 0) := (blk_cell BK197.out 0).trans rfl
              have hcz27_1 : w14.cell? ⟨gb197, 1, none⟩ = some (.int .i64 0) := (blk_cell BK197.out 1).trans rfl
              have hcz27_2 : w14.cell? ⟨gb197, 2, none⟩ = some (.int .i64 0) := (blk_cell BK197.out 2).trans rfl
              have hfz27_0 := blk_frozen BK197.out 0
              have hfz27_1 := blk_frozen BK197.out 1
              have hfz27_2 := blk_frozen BK197.out 2
              go_wp2
              repeat ((with_reducible refine at_region ?_); go_quiet (fail); try go_wp2)
              go_meet
              case rel => exact ⟨_, (true), (by first | with_reducible rfl | (simp; done) | (simp [*]; done) | rfl), H', ⟨by have := HK1.out; first | omega | exact Nat.le_refl _⟩, ⟨by (with_reducible repeat (first | apply Kd.R_alloc | apply Kd.R_drewN | apply Kd.R_drew)); exact Kd.R_mono (Kd.R_far (p := ⟨gb197, 2, none⟩) (Kd.R_far (p := ⟨gb197, 1, none⟩) (Kd.R_far (p := ⟨gb197, 0, none⟩) (Kd.R_mono HO_9.out (fun k_ hk => (⟨hk, hk.2⟩ : _ ∧ k_ ≠ gb197))) (fun _ hk => hk.2) (.int .i64 ((rd_T29 t192 x11_1).f0))) (fun _ hk => hk.2) (.int .i64 ((rd_T29 t192 x11_1).f1))) (fun _ hk => hk.2) (.int .i64 ((rd_T29 t192 x11_1).f2))) (fun _ hk => hk.1.2)⟩, ⟨by (with_reducible repeat (first | refine blk_drewN ?_ _ | refine blk_drew ?_ | refine blk_alloc ?_ _)); refine blk_put (cs := #[.int .i64 ((rd_T29 t192 x11_1).f0), .int .i64 ((rd_T29 t192 x11_1).f1), .int .i64 0]) ?_ 2 _ rfl; (with_reducible repeat (first | refine blk_drewN ?_ _ | refine blk_drew ?_ | refine blk_alloc ?_ _)); refine blk_put (cs := #[.int .i64 ((rd_T29 t192 x11_1).f0), .int .i64 0, .int .i64 0]) ?_ 1 _ rfl; (with_reducible repeat (first | refine blk_drewN ?_ _ | refine blk_drew ?_ | refine blk_alloc ?_ _)); refine blk_put (cs := #[.int .i64 0, .int .i64 0, .int .i64 0]) ?_ 0 _ rfl; (with_reducible repeat (first | refine blk_drewN ?_ _ | refine blk_drew ?_ | refine blk_alloc ?_ _)); exact BK197.out⟩, ⟨by repeat (first | (with_reducible first | exact HB.out | apply below_alloc | apply pw_below_drewN | apply below_drew1 | refine below_set ?_ GE197.out) | exact HB.out)⟩⟩
             ·
              rw [if_neg c26] at H
              have c26b0 : decide ((wrap64 (1 + (wrap64 (Int.tmod a2 64)))) ≤ ((rd_T29 t192 x11_1).f2)) = false := decide_eq_false c26
              clear c26
              by_cases c28 : x11_1 > 0
              ·
               rw [if_pos c28] at H
               have c28b0 : decide (0 < x11_1) = true := decide_eq_true c28
               clear c28
               obtain ⟨ji29, hji29⟩ : ∃ j_ : Int, (wrap64 (x11_1 - 1)) = j_ := ⟨_, rfl⟩
               replace H : (if 0 ≤ (ji29) then (if (ji29) < (t192.length : Int) then (locksteplaw18_RingMoves.j1 k1 l0 (wrap64 (1 + (wrap64 (Int.tmod a1 64)))) (wrap64 (1 + (wrap64 (Int.tmod a2 64)))) t192 x11_1 (decide (((rd_T29 t192 (ji29)).f0) ≥ ((rd_T29 t192 x11_1).f0))) ((rd_T29 t192 x11_1).f0) ((rd_T29 t192 x11_1).f1) ((rd_T29 t192 x11_1).f2)) else (none)) else (none)) = some r := by first | (rw [hji29] at H; exact H) | (simp only [hji29] at H ⊢; exact H)
               have hji29w : (IntKind.i64.wrap (x11_1 - 1)) = ji29 := (i64_w _).trans hji29
               by_cases c30 : 0 ≤ (ji29)
               ·
                rw [if_pos c30] at H
                have c30b0 : decide (0 ≤ (ji29)) = true := decide_eq_true c30
                clear c30
                by_cases c31 : (ji29) < (t192.length : Int)
                ·
                 rw [if_pos c31] at H
                 have c31b0 : decide ((ji29) < (t192.length : Int)) = true := decide_eq_true c31
                 clear c31
                 have H' := Aside0.mk H
                 clear H
                 have hcz32_0 : w14.cell? ⟨gb197, 0, none⟩ = some (.int .i64 0) := (blk_cell BK197.out 0).trans rfl
                 have hcz32_1 : w14.cell? ⟨gb197, 1, none⟩ = some (.int .i64 0) := (blk_cell BK197.out 1).trans rfl
                 have hcz32_2 : w14.cell? ⟨gb197, 2, none⟩ = some (.int .i64 0) := (blk_cell BK197.out 2).trans rfl
                 have hfz32_0 := blk_frozen BK197.out 0
                 have hfz32_1 := blk_frozen BK197.out 1
                 have hfz32_2 := blk_frozen BK197.out 2
                 have p198 : 0 ≤ ((ji29) : Int) := of_decide_eq_true (by first | (with_reducible assumption) | assumption)
                 have q198 : (ji29) < (t192.length : Int) := of_decide_eq_true (by first | (with_reducible assumption) | assumption)
                 obtain ⟨ad198, e198, hx198_0, hx198_1, hx198_2⟩ := at_T29 (Kd.R_reads' HO_9.out).2.2 (ji29) p198 q198
                 obtain rfl : ad196 = ad198 := (by injection e198)
                 have hn198_0 : ad196.block ≠ gb197 := Kd.own_blk (fun he => (HO_9.out.1 _ he.symm).2 rfl)
                 have hn198_1 : ad196.block ≠ gb197 := Kd.own_blk (fun he => (HO_9.out.1 _ he.symm).2 rfl)
                 have hn198_2 : ad196.block ≠ gb197 := Kd.own_blk (fun he => (HO_9.out.1 _ he.symm).2 rfl)
                 replace hx198_0 := (cell_far (p := ⟨gb197, 0, none⟩) (by first | (rw [add_block]; exact hn198_0) | (show (Addr.add _ _).block ≠ _; rw [add_block]; exact hn198_0) | exact hn198_0) (.int .i64 ((rd_T29 t192 x11_1).f0))).trans hx198_0
                 replace hx198_1 := (cell_far (p := ⟨gb197, 0, none⟩) (by first | (rw [add_block]; exact hn198_0) | (show (Addr.add _ _).block ≠ _; rw [add_block]; exact hn198_0) | exact hn198_0) (.int .i64 ((rd_T29 t192 x11_1).f0))).trans hx198_1
                 replace hx198_2 := (cell_far (p := ⟨gb197, 0, none⟩) (by first | (rw [add_block]; exact hn198_0) | (show (Addr.add _ _).block ≠ _; rw [add_block]; exact hn198_0) | exact hn198_0) (.int .i64 ((rd_T29 t192 x11_1).f0))).trans hx198_2
                 replace hx198_0 := (cell_far (p := ⟨gb197, 1, none⟩) (by first | (rw [add_block]; exact hn198_1) | (show (Addr.add _ _).block ≠ _; rw [add_block]; exact hn198_1) | exact hn198_1) (.int .i64 ((rd_T29 t192 x11_1).f1))).trans hx198_0
                 replace hx198_1 := (cell_far (p := ⟨gb197, 1, none⟩) (by first | (rw [add_block]; exact hn198_1) | (show (Addr.add _ _).block ≠ _; rw [add_block]; exact hn198_1) | exact hn198_1) (.int .i64 ((rd_T29 t192 x11_1).f1))).trans hx198_1
                 replace hx198_2 := (cell_far (p := ⟨gb197, 1, none⟩) (by first | (rw [add_block]; exact hn198_1) | (show (Addr.add _ _).block ≠ _; rw [add_block]; exact hn198_1) | exact hn198_1) (.int .i64 ((rd_T29 t192 x11_1).f1))).trans hx198_2
                 replace hx198_0 := (cell_far (p := ⟨gb197, 2, none⟩) (by first | (rw [add_block]; exact hn198_2) | (show (Addr.add _ _).block ≠ _; rw [add_block]; exact hn198_2) | exact hn198_2) (.int .i64 ((rd_T29 t192 x11_1).f2))).trans hx198_0
                 replace hx198_1 := (cell_far (p := ⟨gb197, 2, none⟩) (by first | (rw [add_block]; exact hn198_2) | (show (Addr.add _ _).block ≠ _; rw [add_block]; exact hn198_2) | exact hn198_2) (.int .i64 ((rd_T29 t192 x11_1).f2))).trans hx198_1
                 replace hx198_2 := (cell_far (p := ⟨gb197, 2, none⟩) (by first | (rw [add_block]; exact hn198_2) | (show (Addr.add _ _).block ≠ _; rw [add_block]; exact hn198_2) | exact hn198_2) (.int .i64 ((rd_T29 t192 x11_1).f2))).trans hx198_2
                 (try have hy198_0 := fun (n_ : Nat) => (show (((((w14.drewN n_).setCell ⟨gb197, 0, none⟩ (.int .i64 ((rd_T29 t192 x11_1).f0))).setCell ⟨gb197, 1, none⟩ (.int .i64 ((rd_T29 t192 x11_1).f1))).setCell ⟨gb197, 2, none⟩ (.int .i64 ((rd_T29 t192 x11_1).f2)))).cell? _ = some _ from hx198_0))
                 (try have hy198_1 := fun (n_ : Nat) => (show (((((w14.drewN n_).setCell ⟨gb197, 0, none⟩ (.int .i64 ((rd_T29 t192 x11_1).f0))).setCell ⟨gb197, 1, none⟩ (.int .i64 ((rd_T29 t192 x11_1).f1))).setCell ⟨gb197, 2, none⟩ (.int .i64 ((rd_T29 t192 x11_1).f2)))).cell? _ = some _ from hx198_1))
                 (try have hy198_2 := fun (n_ : Nat) => (show (((((w14.drewN n_).setCell ⟨gb197, 0, none⟩ (.int .i64 ((rd_T29 t192 x11_1).f0))).setCell ⟨gb197, 1, none⟩ (.int .i64 ((rd_T29 t192 x11_1).f1))).setCell ⟨gb197, 2, none⟩ (.int .i64 ((rd_T29 t192 x11_1).f2)))).cell? _ = some _ from hx198_2))
                 clear hn198_0
                 clear hn198_1
                 clear hn198_2
                 replace p198 := eq_true p198
                 replace q198 := eq_true q198
                 go_wp2
                 repeat ((with_reducible refine at_region ?_); go_quiet (fail); try go_wp2)
                 go_meet
                 case rel => exact ⟨_, (decide (((rd_T29 t192 (ji29)).f0) ≥ ((rd_T29 t192 x11_1).f0))), (by first | with_reducible rfl | (simp; done) | (simp only [← hji29] <;> (first | rfl | simp)) | (simp [*]; done) | rfl), H', ⟨by have := HK1.out; first | omega | exact Nat.le_refl _⟩, ⟨by (with_reducible repeat (first | apply Kd.R_alloc | apply Kd.R_drewN | apply Kd.R_drew)); exact Kd.R_mono (Kd.R_far (p := ⟨gb197, 2, none⟩) (Kd.R_far (p := ⟨gb197, 1, none⟩) (Kd.R_far (p := ⟨gb197, 0, none⟩) (Kd.R_mono HO_9.out (fun k_ hk => (⟨hk, hk.2⟩ : _ ∧ k_ ≠ gb197))) (fun _ hk => hk.2) (.int .i64 ((rd_T29 t192 x11_1).f0))) (fun _ hk => hk.2) (.int .i64 ((rd_T29 t192 x11_1).f1))) (fun _ hk => hk.2) (.int .i64 ((rd_T29 t192 x11_1).f2))) (fun _ hk => hk.1.2)⟩, ⟨by (with_reducible repeat (first | refine blk_drewN ?_ _ | refine blk_drew ?_ | refine blk_alloc ?_ _)); refine blk_put (cs := #[.int .i64 ((rd_T29 t192 x11_1).f0), .int .i64 ((rd_T29 t192 x11_1).f1), .int .i64 0]) ?_ 2 _ rfl; (with_reducible repeat (first | refine blk_drewN ?_ _ | refine blk_drew ?_ | refine blk_alloc ?_ _)); refine blk_put (cs := #[.int .i64 ((rd_T29 t192 x11_1).f0), .int .i64 0, .int .i64 0]) ?_ 1 _ rfl; (with_reducible repeat (first | refine blk_drewN ?_ _ | refine blk_drew ?_ | refine blk_alloc ?_ _)); refine blk_put (cs := #[.int .i64 0, .int .i64 0, .int .i64 0]) ?_ 0 _ rfl; (with_reducible repeat (first | refine blk_drewN ?_ _ | refine blk_drew ?_ | refine blk_alloc ?_ _)); exact BK197.out⟩, ⟨by repeat (first | (with_reducible first | exact HB.out | apply below_alloc | apply pw_below_drewN | apply below_drew1 | refine below_set ?_ GE197.out) | exact HB.out)⟩⟩
                ·
                 rw [if_neg c31] at H
                 exact absurd H (by simp)
               ·
                rw [if_neg c30] at H
                exact absurd H (by simp)
              ·
               rw [if_neg c28] at H
               have c28b0 : decide (0 < x11_1) = false := decide_eq_false c28
               clear c28
               have H' := Aside0.mk H
               clear H
               have hcz33_0 : w14.cell? ⟨gb197, 0, none⟩ = some (.int .i64 0) := (blk_cell BK197.out 0).trans rfl
               have hcz33_1 : w14.cell? ⟨gb197, 1, none⟩ = some (.int .i64 0) := (blk_cell BK197.out 1).trans rfl
               have hcz33_2 : w14.cell? ⟨gb197, 2, none⟩ = some (.int .i64 0) := (blk_cell BK197.out 2).trans rfl
               have hfz33_0 := blk_frozen BK197.out 0
               have hfz33_1 := blk_frozen BK197.out 1
               have hfz33_2 := blk_frozen BK197.out 2
               go_wp2
               repeat ((with_reducible refine at_region ?_); go_quiet (fail); try go_wp2)
               go_meet
               case rel => exact ⟨_, (false), (by first | with_reducible rfl | (simp; done) | (simp [*]; done) | rfl), H', ⟨by have := HK1.out; first | omega | exact Nat.le_refl _⟩, ⟨by (with_reducible repeat (first | apply Kd.R_alloc | apply Kd.R_drewN | apply Kd.R_drew)); exact Kd.R_mono (Kd.R_far (p := ⟨gb197, 2, none⟩) (Kd.R_far (p := ⟨gb197, 1, none⟩) (Kd.R_far (p := ⟨gb197, 0, none⟩) (Kd.R_mono HO_9.out (fun k_ hk => (⟨hk, hk.2⟩ : _ ∧ k_ ≠ gb197))) (fun _ hk => hk.2) (.int .i64 ((rd_T29 t192 x11_1).f0))) (fun _ hk => hk.2) (.int .i64 ((rd_T29 t192 x11_1).f1))) (fun _ hk => hk.2) (.int .i64 ((rd_T29 t192 x11_1).f2))) (fun _ hk => hk.1.2)⟩, ⟨by (with_reducible repeat (first | refine blk_drewN ?_ _ | refine blk_drew ?_ | refine blk_alloc ?_ _)); refine blk_put (cs := #[.int .i64 ((rd_T29 t192 x11_1).f0), .int .i64 ((rd_T29 t192 x11_1).f1), .int .i64 0]) ?_ 2 _ rfl; (with_reducible repeat (first | refine blk_drewN ?_ _ | refine blk_drew ?_ | refine blk_alloc ?_ _)); refine blk_put (cs := #[.int .i64 ((rd_T29 t192 x11_1).f0), .int .i64 0, .int .i64 0]) ?_ 1 _ rfl; (with_reducible repeat (first | refine blk_drewN ?_ _ | refine blk_drew ?_ | refine blk_alloc ?_ _)); refine blk_put (cs := #[.int .i64 0, .int .i64 0, .int .i64 0]) ?_ 0 _ rfl; (with_reducible repeat (first | refine blk_drewN ?_ _ | refine blk_drew ?_ | refine blk_alloc ?_ _)); exact BK197.out⟩, ⟨by repeat (first | (with_reducible first | exact HB.out | apply below_alloc | apply pw_below_drewN | apply below_drew1 | refine below_set ?_ GE197.out) | exact HB.out)⟩⟩
       case rest =>
        clear HC12
        (try clear c1); (try clear p1); (try clear q1); (try clear hx1); (try clear c2); (try clear p2); (try clear c3); (try clear c5); (try clear p6); (try clear c7); (try clear c7b0); (try clear c7b1); (try clear c10); (try clear c10b0); (try clear c11); (try clear c11b0); (try clear c16); (try clear c16b0); (try clear c18); (try clear c18b0); (try clear p19); (try clear q19); (try clear hx19); (try clear c20)
        (try clear c20b0); (try clear c22); (try clear c22b0); (try clear c24); (try clear c24b0); (try clear c26); (try clear c26b0); (try clear c28); (try clear c28b0); (try clear c30); (try clear c30b0); (try clear c31); (try clear c31b0); (try clear hcz15_0); (try clear hcz15_1); (try clear hcz15_2); (try clear hcz17_0); (try clear hcz17_1); (try clear hcz17_2); (try clear hcz19_0); (try clear hcz19_1)
        (try clear hcz19_2); (try clear hcz21_0); (try clear hcz21_1); (try clear hcz21_2); (try clear hcz23_0); (try clear hcz23_1); (try clear hcz23_2); (try clear hcz25_0); (try clear hcz25_1); (try clear hcz25_2); (try clear hcz27_0); (try clear hcz27_1); (try clear hcz27_2); (try clear hcz32_0); (try clear hcz32_1); (try clear hcz32_2); (try clear hcz33_0); (try clear hcz33_1); (try clear hcz33_2); (try clear hfz15_0)
        (try clear hfz15_1); (try clear hfz15_2); (try clear hfz17_0); (try clear hfz17_1); (try clear hfz17_2); (try clear hfz19_0); (try clear hfz19_1); (try clear hfz19_2); (try clear hfz21_0); (try clear hfz21_1); (try clear hfz21_2); (try clear hfz23_0); (try clear hfz23_1); (try clear hfz23_2); (try clear hfz25_0); (try clear hfz25_1); (try clear hfz25_2); (try clear hfz27_0); (try clear hfz27_1); (try clear hfz27_2)
        (try clear hfz32_0); (try clear hfz32_1); (try clear hfz32_2); (try clear hfz33_0); (try clear hfz33_1); (try clear hfz33_2); (try clear hx196_0); (try clear hx196_1); (try clear hx196_2); (try clear hx198_0); (try clear hx198_1); (try clear hx198_2); (try clear p196); (try clear p198); (try clear p2); (try clear p6); (try clear q196); (try clear q198)
        obtain ⟨kq, x91_11, rfl, HA, HJ11, HO_9, BK197, HB⟩ := hcut
        cases kq with
        | zero => exact absurd HA.out (by simp [locksteplaw18_RingMoves.j1])
        | succ kj11 =>
         have H := HA.out
         clear HA
         simp only [locksteplaw18_RingMoves.j1] at H
         by_cases c34 : x91_11 = true
         ·
          subst c34
          have H1 : (some false) = some r := by rw [if_pos rfl] at H; exact H
          clear H
          have H := H1
          clear H1
          exact absurd (Option.some.inj H) (by rw [HR.out]; simp)
         ·
          replace c34 := Bool.eq_false_iff.mpr c34
          subst c34
          have H1 : (if (wrap64 (1 + (wrap64 (Int.tmod a2 64)))) > (wrap64 (1 + (wrap64 (Int.tmod a1 64)))) then (if ((rd_T29 t192 x11_1).f2) < (wrap64 (1 + (wrap64 (Int.tmod a1 64)))) then (some false) else (if (wrap64 (1 + (wrap64 (Int.tmod a2 64)))) < (wrap64 (1 + (wrap64 (Int.tmod a1 64)))) then (if ((rd_T29 t192 x11_1).f1) < (wrap64 (1 + (wrap64 (Int.tmod a2 64)))) then (some false) else (if (wrap64 (1 + (wrap64 (Int.tmod a1 64)))) = (wrap64 (1 + (wrap64 (Int.tmod a2 64)))) then (some false) else (locksteplaw18_RingMoves.l0 kj11 l0 (wrap64 (1 + (wrap64 (Int.tmod a1 64)))) (wrap64 (1 + (wrap64 (Int.tmod a2 64)))) t192 (wrap64 (x11_1 + 1))))) else (if (wrap64 (1 + (wrap64 (Int.tmod a1 64)))) = (wrap64 (1 + (wrap64 (Int.tmod a2 64)))) then (some false) else (locksteplaw18_RingMoves.l0 kj11 l0 (wrap64 (1 + (wrap64 (Int.tmod a1 64)))) (wrap64 (1 + (wrap64 (Int.tmod a2 64)))) t192 (wrap64 (x11_1 + 1)))))) else (if (wrap64 (1 + (wrap64 (Int.tmod a2 64)))) < (wrap64 (1 + (wrap64 (Int.tmod a1 64)))) then (if ((rd_T29 t192 x11_1).f1) < (wrap64 (1 + (wrap64 (Int.tmod a2 64)))) then (some false) else (if (wrap64 (1 + (wrap64 (Int.tmod a1 64)))) = (wrap64 (1 + (wrap64 (Int.tmod a2 64)))) then (some false) else (locksteplaw18_RingMoves.l0 kj11 l0 (wrap64 (1 + (wrap64 (Int.tmod a1 64)))) (wrap64 (1 + (wrap64 (Int.tmod a2 64)))) t192 (wrap64 (x11_1 + 1))))) else (if (wrap64 (1 + (wrap64 (Int.tmod a1 64)))) = (wrap64 (1 + (wrap64 (Int.tmod a2 64)))) then (some false) else (locksteplaw18_RingMoves.l0 kj11 l0 (wrap64 (1 + (wrap64 (Int.tmod a1 64)))) (wrap64 (1 + (wrap64 (Int.tmod a2 64)))) t192 (wrap64 (x11_1 + 1)))))) = some r := by rw [if_neg (show ¬ (false = true) by decide)] at H; exact H
          clear H
          have H := H1
          clear H1
          by_cases c35 : (wrap64 (1 + (wrap64 (Int.tmod a2 64)))) > (wrap64 (1 + (wrap64 (Int.tmod a1 64))))
          ·
           rw [if_pos c35] at H
           have c35b0 : decide ((wrap64 (1 + (wrap64 (Int.tmod a1 64)))) < (wrap64 (1 + (wrap64 (Int.tmod a2 64))))) = true := decide_eq_true c35
           clear c35
           by_cases c36 : ((rd_T29 t192 x11_1).f2) < (wrap64 (1 + (wrap64 (Int.tmod a1 64))))
           ·
            rw [if_pos c36] at H
            have c36b0 : decide (((rd_T29 t192 x11_1).f2) < (wrap64 (1 + (wrap64 (Int.tmod a1 64))))) = true := decide_eq_true c36
            clear c36
            exact absurd (Option.some.inj H) (by rw [HR.out]; simp)
           ·
            rw [if_neg c36] at H
            have c36b0 : decide (((rd_T29 t192 x11_1).f2) < (wrap64 (1 + (wrap64 (Int.tmod a1 64))))) = false := decide_eq_false c36
            clear c36
            by_cases c37 : (wrap64 (1 + (wrap64 (Int.tmod a2 64)))) < (wrap64 (1 + (wrap64 (Int.tmod a1 64))))
            ·
             rw [if_pos c37] at H
             have c37b0 : decide ((wrap64 (1 + (wrap64 (Int.tmod a2 64)))) < (wrap64 (1 + (wrap64 (Int.tmod a1 64))))) = true := decide_eq_true c37
             clear c37
             by_cases c38 : ((rd_T29 t192 x11_1).f1) < (wrap64 (1 + (wrap64 (Int.tmod a2 64))))
             ·
              rw [if_pos c38] at H
              have c38b0 : decide (((rd_T29 t192 x11_1).f1) < (wrap64 (1 + (wrap64 (Int.tmod a2 64))))) = true := decide_eq_true c38
              clear c38
              exact absurd (Option.some.inj H) (by rw [HR.out]; simp)
             ·
              rw [if_neg c38] at H
              have c38b0 : decide (((rd_T29 t192 x11_1).f1) < (wrap64 (1 + (wrap64 (Int.tmod a2 64))))) = false := decide_eq_false c38
              clear c38
              by_cases c39 : (wrap64 (1 + (wrap64 (Int.tmod a1 64)))) = (wrap64 (1 + (wrap64 (Int.tmod a2 64))))
              ·
               rw [if_pos c39] at H
               have c39b0 : ((wrap64 (1 + (wrap64 (Int.tmod a1 64)))) == (wrap64 (1 + (wrap64 (Int.tmod a2 64))))) = true := beq_iff_eq.mpr c39
               have c39b1 : ((wrap64 (1 + (wrap64 (Int.tmod a1 64)))) != (wrap64 (1 + (wrap64 (Int.tmod a2 64))))) = false := bne_eq_false_iff_eq.mpr c39
               clear c39
               exact absurd (Option.some.inj H) (by rw [HR.out]; simp)
              ·
               rw [if_neg c39] at H
               have c39b0 : ((wrap64 (1 + (wrap64 (Int.tmod a1 64)))) == (wrap64 (1 + (wrap64 (Int.tmod a2 64))))) = false := beq_eq_false_iff_ne.mpr c39
               have c39b1 : ((wrap64 (1 + (wrap64 (Int.tmod a1 64)))) != (wrap64 (1 + (wrap64 (Int.tmod a2 64))))) = true := bne_iff_ne.mpr c39
               have H' := Aside0.mk H
               clear H
               have hcz40_0 : wc.cell? ⟨gb197, 0, none⟩ = some (.int .i64 ((rd_T29 t192 x11_1).f0)) := (blk_cell BK197.out 0).trans rfl
               have hcz40_1 : wc.cell? ⟨gb197, 1, none⟩ = some (.int .i64 ((rd_T29 t192 x11_1).f1)) := (blk_cell BK197.out 1).trans rfl
               have hcz40_2 : wc.cell? ⟨gb197, 2, none⟩ = some (.int .i64 ((rd_T29 t192 x11_1).f2)) := (blk_cell BK197.out 2).trans rfl
               have hfz40_0 := blk_frozen BK197.out 0
               have hfz40_1 := blk_frozen BK197.out 1
               have hfz40_2 := blk_frozen BK197.out 2
               go_wp2
               repeat ((with_reducible refine at_region ?_); go_quiet (fail); try go_wp2)
               go_roundg kj11
               case measure => have := HK1.out; have := HJ11.out; omega
               case rel => exact ⟨(wrap64 (x11_1 + 1)), (by first | rfl | (simp; done) | (simp [*]; done)), H', ⟨by have := HK1.out; have := HJ11.out; omega⟩, ⟨by (with_reducible repeat (first | apply Kd.R_alloc | apply Kd.R_drewN | apply Kd.R_drew)); exact Kd.R_mono HO_9.out (fun _ hk => trivial)⟩, ⟨by repeat (first | (with_reducible first | exact HB.out | apply below_alloc | apply pw_below_drewN | apply below_drew1 | refine below_set ?_ GE197.out) | exact HB.out)⟩⟩
            ·
             rw [if_neg c37] at H
             have c37b0 : decide ((wrap64 (1 + (wrap64 (Int.tmod a2 64)))) < (wrap64 (1 + (wrap64 (Int.tmod a1 64))))) = false := decide_eq_false c37
             clear c37
             by_cases c41 : (wrap64 (1 + (wrap64 (Int.tmod a1 64)))) = (wrap64 (1 + (wrap64 (Int.tmod a2 64))))
             ·
              rw [if_pos c41] at H
              have c41b0 : ((wrap64 (1 + (wrap64 (Int.tmod a1 64)))) == (wrap64 (1 + (wrap64 (Int.tmod a2 64))))) = true := beq_iff_eq.mpr c41
              have c41b1 : ((wrap64 (1 + (wrap64 (Int.tmod a1 64)))) != (wrap64 (1 + (wrap64 (Int.tmod a2 64))))) = false := bne_eq_false_iff_eq.mpr c41
              clear c41
              exact absurd (Option.some.inj H) (by rw [HR.out]; simp)
             ·
              rw [if_neg c41] at H
              have c41b0 : ((wrap64 (1 + (wrap64 (Int.tmod a1 64)))) == (wrap64 (1 + (wrap64 (Int.tmod a2 64))))) = false := beq_eq_false_iff_ne.mpr c41
              have c41b1 : ((wrap64 (1 + (wrap64 (Int.tmod a1 64)))) != (wrap64 (1 + (wrap64 (Int.tmod a2 64))))) = true := bne_iff_ne.mpr c41
              have H' := Aside0.mk H
              clear H
              have hcz42_0 : wc.cell? ⟨gb197, 0, none⟩ = some (.int .i64 ((rd_T29 t192 x11_1).f0)) := (blk_cell BK197.out 0).trans rfl
              have hcz42_1 : wc.cell? ⟨gb197, 1, none⟩ = some (.int .i64 ((rd_T29 t192 x11_1).f1)) := (blk_cell BK197.out 1).trans rfl
              have hcz42_2 : wc.cell? ⟨gb197, 2, none⟩ = some (.int .i64 ((rd_T29 t192 x11_1).f2)) := (blk_cell BK197.out 2).trans rfl
              have hfz42_0 := blk_frozen BK197.out 0
              have hfz42_1 := blk_frozen BK197.out 1
              have hfz42_2 := blk_frozen BK197.out 2
              go_wp2
              repeat ((with_reducible refine at_region ?_); go_quiet (fail); try go_wp2)
              go_roundg kj11
              case measure => have := HK1.out; have := HJ11.out; omega
              case rel => exact ⟨(wrap64 (x11_1 + 1)), (by first | rfl | (simp; done) | (simp [*]; done)), H', ⟨by have := HK1.out; have := HJ11.out; omega⟩, ⟨by (with_reducible repeat (first | apply Kd.R_alloc | apply Kd.R_drewN | apply Kd.R_drew)); exact Kd.R_mono HO_9.out (fun _ hk => trivial)⟩, ⟨by repeat (first | (with_reducible first | exact HB.out | apply below_alloc | apply pw_below_drewN | apply below_drew1 | refine below_set ?_ GE197.out) | exact HB.out)⟩⟩
          ·
           rw [if_neg c35] at H
           have c35b0 : decide ((wrap64 (1 + (wrap64 (Int.tmod a1 64)))) < (wrap64 (1 + (wrap64 (Int.tmod a2 64))))) = false := decide_eq_false c35
           clear c35
           by_cases c43 : (wrap64 (1 + (wrap64 (Int.tmod a2 64)))) < (wrap64 (1 + (wrap64 (Int.tmod a1 64))))
           ·
            rw [if_pos c43] at H
            have c43b0 : decide ((wrap64 (1 + (wrap64 (Int.tmod a2 64)))) < (wrap64 (1 + (wrap64 (Int.tmod a1 64))))) = true := decide_eq_true c43
            clear c43
            by_cases c44 : ((rd_T29 t192 x11_1).f1) < (wrap64 (1 + (wrap64 (Int.tmod a2 64))))
            ·
             rw [if_pos c44] at H
             have c44b0 : decide (((rd_T29 t192 x11_1).f1) < (wrap64 (1 + (wrap64 (Int.tmod a2 64))))) = true := decide_eq_true c44
             clear c44
             exact absurd (Option.some.inj H) (by rw [HR.out]; simp)
            ·
             rw [if_neg c44] at H
             have c44b0 : decide (((rd_T29 t192 x11_1).f1) < (wrap64 (1 + (wrap64 (Int.tmod a2 64))))) = false := decide_eq_false c44
             clear c44
             by_cases c45 : (wrap64 (1 + (wrap64 (Int.tmod a1 64)))) = (wrap64 (1 + (wrap64 (Int.tmod a2 64))))
             ·
              rw [if_pos c45] at H
              have c45b0 : ((wrap64 (1 + (wrap64 (Int.tmod a1 64)))) == (wrap64 (1 + (wrap64 (Int.tmod a2 64))))) = true := beq_iff_eq.mpr c45
              have c45b1 : ((wrap64 (1 + (wrap64 (Int.tmod a1 64)))) != (wrap64 (1 + (wrap64 (Int.tmod a2 64))))) = false := bne_eq_false_iff_eq.mpr c45
              clear c45
              exact absurd (Option.some.inj H) (by rw [HR.out]; simp)
             ·
              rw [if_neg c45] at H
              have c45b0 : ((wrap64 (1 + (wrap64 (Int.tmod a1 64)))) == (wrap64 (1 + (wrap64 (Int.tmod a2 64))))) = false := beq_eq_false_iff_ne.mpr c45
              have c45b1 : ((wrap64 (1 + (wrap64 (Int.tmod a1 64)))) != (wrap64 (1 + (wrap64 (Int.tmod a2 64))))) = true := bne_iff_ne.mpr c45
              have H' := Aside0.mk H
              clear H
              have hcz46_0 : wc.cell? ⟨gb197, 0, none⟩ = some (.int .i64 ((rd_T29 t192 x11_1).f0)) := (blk_cell BK197.out 0).trans rfl
              have hcz46_1 : wc.cell? ⟨gb197, 1, none⟩ = some (.int .i64 ((rd_T29 t192 x11_1).f1)) := (blk_cell BK197.out 1).trans rfl
              have hcz46_2 : wc.cell? ⟨gb197, 2, none⟩ = some (.int .i64 ((rd_T29 t192 x11_1).f2)) := (blk_cell BK197.out 2).trans rfl
              have hfz46_0 := blk_frozen BK197.out 0
              have hfz46_1 := blk_frozen BK197.out 1
              have hfz46_2 := blk_frozen BK197.out 2
              go_wp2
              repeat ((with_reducible refine at_region ?_); go_quiet (fail); try go_wp2)
              go_roundg kj11
              case measure => have := HK1.out; have := HJ11.out; omega
              case rel => exact ⟨(wrap64 (x11_1 + 1)), (by first | rfl | (simp; done) | (simp [*]; done)), H', ⟨by have := HK1.out; have := HJ11.out; omega⟩, ⟨by (with_reducible repeat (first | apply Kd.R_alloc | apply Kd.R_drewN | apply Kd.R_drew)); exact Kd.R_mono HO_9.out (fun _ hk => trivial)⟩, ⟨by repeat (first | (with_reducible first | exact HB.out | apply below_alloc | apply pw_below_drewN | apply below_drew1 | refine below_set ?_ GE197.out) | exact HB.out)⟩⟩
           ·
            rw [if_neg c43] at H
            have c43b0 : decide ((wrap64 (1 + (wrap64 (Int.tmod a2 64)))) < (wrap64 (1 + (wrap64 (Int.tmod a1 64))))) = false := decide_eq_false c43
            clear c43
            by_cases c47 : (wrap64 (1 + (wrap64 (Int.tmod a1 64)))) = (wrap64 (1 + (wrap64 (Int.tmod a2 64))))
            ·
             rw [if_pos c47] at H
             have c47b0 : ((wrap64 (1 + (wrap64 (Int.tmod a1 64)))) == (wrap64 (1 + (wrap64 (Int.tmod a2 64))))) = true := beq_iff_eq.mpr c47
             have c47b1 : ((wrap64 (1 + (wrap64 (Int.tmod a1 64)))) != (wrap64 (1 + (wrap64 (Int.tmod a2 64))))) = false := bne_eq_false_iff_eq.mpr c47
             clear c47
             exact absurd (Option.some.inj H) (by rw [HR.out]; simp)
            ·
             rw [if_neg c47] at H
             have c47b0 : ((wrap64 (1 + (wrap64 (Int.tmod a1 64)))) == (wrap64 (1 + (wrap64 (Int.tmod a2 64))))) = false := beq_eq_false_iff_ne.mpr c47
             have c47b1 : ((wrap64 (1 + (wrap64 (Int.tmod a1 64)))) != (wrap64 (1 + (wrap64 (Int.tmod a2 64))))) = true := bne_iff_ne.mpr c47
             have H' := Aside0.mk H
             clear H
             go_wp2
             repeat ((with_reducible refine at_region ?_); go_quiet (fail); try go_wp2)
             go_roundg kj11
             case measure => have := HK1.out; have := HJ11.out; omega
             case rel => exact ⟨(wrap64 (x11_1 + 1)), (by first | rfl | (simp; done) | (simp [*]; done)), H', ⟨by have := HK1.out; have := HJ11.out; omega⟩, ⟨by (with_reducible repeat (first | apply Kd.R_alloc | apply Kd.R_drewN | apply Kd.R_drew)); exact Kd.R_mono HO_9.out (fun _ hk => trivial)⟩, ⟨by repeat (first | (with_reducible first | exact HB.out | apply below_alloc | apply pw_below_drewN | apply below_drew1 | refine below_set ?_ GE197.out) | exact HB.out)⟩⟩
      ·
       rw [if_neg c11] at H
       exact absurd H (by simp)
     ·
      rw [if_neg c10] at H
      have c10b0 : decide (x11_1 < (t192.length : Int)) = false := decide_eq_false c10
      clear c10
      obtain rfl := Option.some.inj H
      obtain ⟨Ao48, co48, eo48⟩ := Kd.R_slice HO_9.out
      subst eo48
      go_wp2
      repeat ((with_reducible refine at_region ?_); go_quiet (fail); try go_wp2)
      go_ret
      exact ⟨by first | rfl | (simp [errW_none, errW_some] <;> rfl) | (simp [*, errW_none, errW_some] <;> rfl), by repeat (first | (with_reducible first | exact HB.out | apply below_alloc | apply pw_below_drewN | apply below_drew1) | exact HB.out)⟩
  ·
   rw [if_neg c7] at H
   have c7b0 : (t193 == 0) = false := beq_eq_false_iff_ne.mpr c7
   have c7b1 : (t193 != 0) = true := bne_iff_ne.mpr c7
   obtain rfl := Option.some.inj H
   go_enter Tryd.func3, Tryd.ntmps3
   go_wp2_with (first | (go_at_call 6; (with_reducible refine (locksteplaw18_lives.calls k  true _ ?side1 A4.out).mono ?_); (case side1 => exact Tabs.below HT.out (by repeat (first | (with_reducible first | exact HB.out | apply below_alloc | apply pw_below_drewN | apply below_drew1) | exact HB.out))); rintro e w49 ⟨rfl, hb⟩; have n0_ := Aside0.mk (below_step (by repeat (first | (with_reducible first | exact HB.out | apply below_alloc | apply pw_below_drewN | apply below_drew1) | exact HB.out)) hb); clear HB; have HB := n0_; clear n0_; (try clear hb); (try clear hb2); (try clear hk); (try clear hi)) | (go_at_call 7; (with_reducible refine (ring_Moves.calls k _ _ l0 (wrap64 (1 + (wrap64 (Int.tmod a1 64)))) (wrap64 (1 + (wrap64 (Int.tmod a2 64)))) t192 t193 _ ?side1 ?side2 ?side3 A6.out).mono ?_); (case side1 => exact Tabs.below HT.out (by repeat (first | (with_reducible first | exact HB.out | apply below_alloc | apply pw_below_drewN | apply below_drew1) | exact HB.out))); (case side2 => repeat (first | exact (Kd.C_below HR0.out HB.out) | (with_reducible refine Kd.C_alloc ?_ _) | (with_reducible refine Kd.C_drewN ?_ _) | (with_reducible refine Kd.C_drew ?_))); (case side3 => exact HC0.out); rintro e w50 ⟨v194, rfl, ho0, hb⟩; have n0_ := Aside0.mk (Kd.R_lower ho0 (below_size (by repeat (first | (with_reducible first | exact HB.out | apply below_alloc | apply pw_below_drewN | apply below_drew1) | exact HB.out)))); have n1_ := Aside0.mk (below_step (by repeat (first | (with_reducible first | exact HB.out | apply below_alloc | apply pw_below_drewN | apply below_drew1) | exact HB.out)) hb); clear HB; have HO195 := n0_; have HB := n1_; clear n0_ n1_; (try clear hb); (try clear hb2); (try clear hk); (try clear hi); (try clear ho0); obtain ⟨Ao51, co51, eo51⟩ := Kd.R_slice HO195.out; subst eo51))
   repeat ((with_reducible refine at_region ?_); go_quiet (first | (go_at_call 6; (with_reducible refine (locksteplaw18_lives.calls k  true _ ?side1 A4.out).mono ?_); (case side1 => exact Tabs.below HT.out (by repeat (first | (with_reducible first | exact HB.out | apply below_alloc | apply pw_below_drewN | apply below_drew1) | exact HB.out))); rintro e w49 ⟨rfl, hb⟩; have n0_ := Aside0.mk (below_step (by repeat (first | (with_reducible first | exact HB.out | apply below_alloc | apply pw_below_drewN | apply below_drew1) | exact HB.out)) hb); clear HB; have HB := n0_; clear n0_; (try clear hb); (try clear hb2); (try clear hk); (try clear hi)) | (go_at_call 7; (with_reducible refine (ring_Moves.calls k _ _ l0 (wrap64 (1 + (wrap64 (Int.tmod a1 64)))) (wrap64 (1 + (wrap64 (Int.tmod a2 64)))) t192 t193 _ ?side1 ?side2 ?side3 A6.out).mono ?_); (case side1 => exact Tabs.below HT.out (by repeat (first | (with_reducible first | exact HB.out | apply below_alloc | apply pw_below_drewN | apply below_drew1) | exact HB.out))); (case side2 => repeat (first | exact (Kd.C_below HR0.out HB.out) | (with_reducible refine Kd.C_alloc ?_ _) | (with_reducible refine Kd.C_drewN ?_ _) | (with_reducible refine Kd.C_drew ?_))); (case side3 => exact HC0.out); rintro e w50 ⟨v194, rfl, ho0, hb⟩; have n0_ := Aside0.mk (Kd.R_lower ho0 (below_size (by repeat (first | (with_reducible first | exact HB.out | apply below_alloc | apply pw_below_drewN | apply below_drew1) | exact HB.out)))); have n1_ := Aside0.mk (below_step (by repeat (first | (with_reducible first | exact HB.out | apply below_alloc | apply pw_below_drewN | apply below_drew1) | exact HB.out)) hb); clear HB; have HO195 := n0_; have HB := n1_; clear n0_ n1_; (try clear hb); (try clear hb2); (try clear hk); (try clear hi); (try clear ho0); obtain ⟨Ao51, co51, eo51⟩ := Kd.R_slice HO195.out; subst eo51)); try go_wp2_with (first | (go_at_call 6; (with_reducible refine (locksteplaw18_lives.calls k  true _ ?side1 A4.out).mono ?_); (case side1 => exact Tabs.below HT.out (by repeat (first | (with_reducible first | exact HB.out | apply below_alloc | apply pw_below_drewN | apply below_drew1) | exact HB.out))); rintro e w49 ⟨rfl, hb⟩; have n0_ := Aside0.mk (below_step (by repeat (first | (with_reducible first | exact HB.out | apply below_alloc | apply pw_below_drewN | apply below_drew1) | exact HB.out)) hb); clear HB; have HB := n0_; clear n0_; (try clear hb); (try clear hb2); (try clear hk); (try clear hi)) | (go_at_call 7; (with_reducible refine (ring_Moves.calls k _ _ l0 (wrap64 (1 + (wrap64 (Int.tmod a1 64)))) (wrap64 (1 + (wrap64 (Int.tmod a2 64)))) t192 t193 _ ?side1 ?side2 ?side3 A6.out).mono ?_); (case side1 => exact Tabs.below HT.out (by repeat (first | (with_reducible first | exact HB.out | apply below_alloc | apply pw_below_drewN | apply below_drew1) | exact HB.out))); (case side2 => repeat (first | exact (Kd.C_below HR0.out HB.out) | (with_reducible refine Kd.C_alloc ?_ _) | (with_reducible refine Kd.C_drewN ?_ _) | (with_reducible refine Kd.C_drew ?_))); (case side3 => exact HC0.out); rintro e w50 ⟨v194, rfl, ho0, hb⟩; have n0_ := Aside0.mk (Kd.R_lower ho0 (below_size (by repeat (first | (with_reducible first | exact HB.out | apply below_alloc | apply pw_below_drewN | apply below_drew1) | exact HB.out)))); have n1_ := Aside0.mk (below_step (by repeat (first | (with_reducible first | exact HB.out | apply below_alloc | apply pw_below_drewN | apply below_drew1) | exact HB.out)) hb); clear HB; have HO195 := n0_; have HB := n1_; clear n0_ n1_; (try clear hb); (try clear hb2); (try clear hk); (try clear hi); (try clear ho0); obtain ⟨Ao51, co51, eo51⟩ := Kd.R_slice HO195.out; subst eo51)))
   go_ret
   exact ⟨by first | rfl | (simp [errW_none, errW_some] <;> rfl) | (simp [*, errW_none, errW_some] <;> rfl), by repeat (first | (with_reducible first | exact HB.out | apply below_alloc | apply pw_below_drewN | apply below_drew1) | exact HB.out)⟩
 ·
  replace c5 := Bool.eq_false_iff.mpr c5
  subst c5
  have H1 : (some false) = some r := by rw [if_neg (show ¬ (false = true) by decide)] at H; exact H
  clear H
  have H := H1
  clear H1
  exact absurd (Option.some.inj H) (by rw [HR.out]; simp)
end Go.Proofs.YtmphmkclbfoppaaDoor.X
end
section
namespace Go.Proofs.YtmphmkclbfoppaaDoor.X
open Go.RowKit Go.Proofs.YtmphmkclbfoppaaDoorW.PrintWords Go.Proofs.YtmphmkclbfoppaaDoorW.PrintLast Go.Proofs.YtmphmkclbfoppaaDoorW.PrintMore
attribute [local go_sem] max2_int min2_int max_two min_two max_three min_three max_four min_four
end Go.Proofs.YtmphmkclbfoppaaDoor.X
end
section
namespace Go.Proofs.YtmphmkclbfoppaaDoor.X
open Go.RowKit Go.Proofs.YtmphmkclbfoppaaDoorW.PrintWords Go.Proofs.YtmphmkclbfoppaaDoorW.PrintLast Go.Proofs.YtmphmkclbfoppaaDoorW.PrintMore
attribute [local go_sem] max2_int min2_int max_two min_two max_three min_three max_four min_four
end Go.Proofs.YtmphmkclbfoppaaDoor.X
end
section
namespace Go.Proofs.YtmphmkclbfoppaaDoor.X
open Go.RowKit Go.Proofs.YtmphmkclbfoppaaDoorW.PrintWords Go.Proofs.YtmphmkclbfoppaaDoorW.PrintLast Go.Proofs.YtmphmkclbfoppaaDoorW.PrintMore
attribute [local go_sem] max2_int min2_int max_two min_two max_three min_three max_four min_four
end Go.Proofs.YtmphmkclbfoppaaDoor.X
end
section
namespace Go.Proofs.YtmphmkclbfoppaaDoorQ
open Go Go.Lib
theorem len_size (s : ByteArray) : s.data.toList.length = s.size := by simp
theorem extract3 (s : ByteArray) (pos : Nat) (h : pos + 3 ≤ s.size) : (s.extract pos (pos + 3)).data.toList = [s.data.toList.getD pos 0, s.data.toList.getD (pos + 1) 0, s.data.toList.getD (pos + 2) 0] := by
  have hl := len_size s
  apply List.ext_getElem
  · simp; omega
  · intro i h1 h2
    have h1' : i < 3 := by simpa using h2
    have hs : s.data.size = s.size := rfl
    have : i = 0 ∨ i = 1 ∨ i = 2 := by omega
    rcases this with rfl | rfl | rfl <;> simp [List.getD] <;> (rw [Array.getElem?_eq_getElem (by omega)]; simp)
theorem byte_of (a : UInt8) (n : Nat) (hn : n < 256) (h : a.toNat = n) : a = UInt8.ofNat n := by
  apply UInt8.toNat_inj.mp; rw [h]; simp; omega
theorem bad_iff (s : ByteArray) (pos : Nat) (hp : pos < s.size) (hr : (Utf8.decode s pos).1 = 65533) :
    ((Utf8.decode s pos).2 = 1 ↔ (s.size - pos < 3 ∨ (s.extract pos (pos + 3)).data.toList ≠ [239, 191, 189])) := by
  have hl := len_size s
  rw [decode_N, hl] at hr ⊢
  have b0 := (s.data.toList.getD pos 0).toNat_lt
  have b1 := (s.data.toList.getD (pos + 1) 0).toNat_lt
  have b2 := (s.data.toList.getD (pos + 2) 0).toNat_lt
  have b3 := (s.data.toList.getD (pos + 3) 0).toNat_lt
  by_cases h3 : pos + 3 ≤ s.size
  · have hex := extract3 s pos h3
    rw [hex]
    generalize s.data.toList.getD pos 0 = x0 at *
    generalize s.data.toList.getD (pos + 1) 0 = x1 at *
    generalize s.data.toList.getD (pos + 2) 0 = x2 at *
    generalize s.data.toList.getD (pos + 3) 0 = x3 at *
    have hs : ¬ s.size - pos < 3 := by omega
    simp only [hs, false_or]
    have hq : ([x0, x1, x2] ≠ [239, 191, 189]) ↔ ¬ (x0.toNat = 239 ∧ x1.toNat = 191 ∧ x2.toNat = 189) := by
      constructor
      · rintro h ⟨e0, e1, e2⟩
        apply h
        rw [byte_of x0 239 (by omega) e0, byte_of x1 191 (by omega) e1, byte_of x2 189 (by omega) e2]; rfl
      · intro h he
        injection he with e0 he; injection he with e1 he; injection he with e2 _
        exact h ⟨by rw [e0]; rfl, by rw [e1]; rfl, by rw [e2]; rfl⟩
    rw [hq]
    rcases decodeN_shape (s.size - pos) x0.toNat x1.toNat x2.toNat x3.toNat with h | h | h | h | h
    · obtain ⟨h1, h2⟩ := h; rw [h2] at hr; simp at hr; omega
    · obtain ⟨h1, _, _, _, h2⟩ := h; rw [h2] at hr; simp at hr; omega
    · obtain ⟨h1, _, _, _, _, _, h2⟩ := h; rw [h2] at hr ⊢; simp at hr ⊢; omega
    · obtain ⟨h1, _, _, _, _, _, _, h2⟩ := h; rw [h2] at hr; simp at hr; omega
    · have hx : ¬ (x0.toNat = 239 ∧ x1.toNat = 191 ∧ x2.toNat = 189) := by
        rintro ⟨e0, e1, e2⟩
        rw [e0, e1, e2] at h
        have : decodeN (s.size - pos) 239 191 189 x3.toNat = (65533, 3) := by
          simp only [decodeN]
          have : 1 < s.size - pos := by omega
          have : 2 < s.size - pos := by omega
          simp [*]
        rw [this] at h; simp at h
      rw [h]; simp only [hx, not_false_eq_true]
  · have hs : s.size - pos < 3 := by omega
    simp only [hs, true_or, iff_true]
    rcases decodeN_shape (s.size - pos) (s.data.toList.getD pos 0).toNat (s.data.toList.getD (pos + 1) 0).toNat (s.data.toList.getD (pos + 2) 0).toNat (s.data.toList.getD (pos + 3) 0).toNat with h | h | h | h | h
    · obtain ⟨h1, h2⟩ := h; rw [h2]
    · obtain ⟨h1, _, _, _, h2⟩ := h; rw [h2] at hr; simp at hr; omega
    · obtain ⟨h1, h0, _⟩ := h; omega
    · obtain ⟨h1, h0, _⟩ := h; omega
    · rw [h]
theorem validD_at (s : ByteArray) (pos : Nat) (hp : pos < s.size) :
    validD (s.data.toList.drop pos) = if (Utf8.decode s pos).1 = 65533 ∧ (Utf8.decode s pos).2 = 1 then false else validD (s.data.toList.drop (pos + (Utf8.decode s pos).2)) := by
  have hl := len_size s
  rw [validD_step _ (by intro h; have := congrArg List.length h; rw [List.length_drop, hl] at this; simp at this; omega), decodeL_drop, List.drop_drop]
theorem validD_end (s : ByteArray) (pos : Nat) (hp : ¬ pos < s.size) : validD (s.data.toList.drop pos) = true := by
  rw [List.drop_eq_nil_of_le (by rw [len_size]; omega)]; rfl
end Go.Proofs.YtmphmkclbfoppaaDoorQ
end
section
namespace Go.Proofs.YtmphmkclbfoppaaDoor.X
open Go.RowKit Go.Proofs.YtmphmkclbfoppaaDoorW.PrintWords Go.Proofs.YtmphmkclbfoppaaDoorW.PrintLast Go.Proofs.YtmphmkclbfoppaaDoorW.PrintMore Go.Proofs.YtmphmkclbfoppaaDoorQ
set_option linter.unusedVariables false
set_option linter.unusedSimpArgs false
theorem below_iter (w : World) (s : ByteArray) (pos : Nat) : Below w.heap.size w (w.iter s pos) := (Below.refl _ _).alloc (Nat.le_refl _) _
def lockstepref01_valid.f (s : ByteArray) : Option Bool := if s.size ≤ 140737488351232 then some (Lib.validD s.data.toList) else none
set_option maxHeartbeats 4000000 in
set_option maxRecDepth 100000 in
theorem lockstepref01_valid.calls (s : ByteArray) (r : Bool) (w : World) (h : lockstepref01_valid.f s = some r) :
    Calls Tryd.prog 26 #[.string s] w fun e w' => e = .returned (.bool r) ∧ Below w.heap.size w w' := by
  unfold lockstepref01_valid.f at h
  split at h
  · rename_i hs
    obtain rfl := Option.some.inj h
    clear h
    obtain ⟨ANS, hA⟩ : ∃ A, Lib.validD s.data.toList = A := ⟨_, rfl⟩
    have HA : Hid (Lib.validD (s.data.toList.drop 0) = ANS) := by rw [List.drop_zero]; exact hA
    rw [hA]
    clear hA
    have hu9 := Tryd.underlying9
    go_enter Tryd.func26, Tryd.ntmps26
    go_wp2
    go_loopw [] (fun w' => ∃ pos : Nat, w' = w.iter s pos ∧ Hid (Lib.validD (s.data.toList.drop pos) = ANS)) (fun w' => s.size - w'.iterPos w.heap.size)
    case atStart => exact ⟨0, rfl, HA⟩
    case round =>
      obtain ⟨pos, rfl, HV⟩ := hrel
      by_cases hp : pos < s.size
      · have hnx : ∀ ty, (Instr.next (.pointer (some ⟨w.heap.size, 0, none⟩)) true ty).run Tryd.prog (w.iter s pos) = _ := fun ty => run_next_any w s pos ty hp
        have hd1 := decode_le s pos
        have hwd := Lib.width_pos s pos
        have hst := validD_at s pos hp
        have hbi := bad_iff s pos hp
        by_cases hr : (Utf8.decode s pos).1 = 65533
        · by_cases h3 : s.size - pos < 3
          · have h3i : (s.size : Int) - (pos : Int) < 3 := by omega
            have hri : ((Utf8.decode s pos).1 : Int) = 65533 := by omega
            have HF : Hid (ANS = false) := by
              have h1 := (hbi hr).mpr (.inl h3)
              have hv := HV.out
              rw [hst, if_pos ⟨hr, h1⟩] at hv
              exact hv.symm
            clear hst hbi hr h3
            go_wp2
            go_ret
            rw [HF.out]
            exact ⟨rfl, below_iter _ _ _⟩
          · have h3i : ¬ (s.size : Int) - (pos : Int) < 3 := by omega
            have h3j : (pos : Int) + 3 ≤ s.size := by omega
            have hri : ((Utf8.decode s pos).1 : Int) = 65533 := by omega
            have hsl : ∀ W, (Instr.slice 9 (.string s) (some (.int .i64 (pos : Int))) (some (.int .i64 ((pos : Int) + 3))) none).run Tryd.prog W = .ok (.string (s.extract pos (pos + 3))) W := fun W => by
              rw [run_slice_string_if W 9 s .i64 .i64 (pos : Int) ((pos : Int) + 3) hu9, if_pos ⟨by omega, h3j⟩, if_pos ⟨by omega, by omega⟩]
              rfl
            by_cases he : (s.extract pos (pos + 3)).toList = [239, 191, 189]
            · have HN : Hid (Lib.validD (s.data.toList.drop (pos + (Utf8.decode s pos).2)) = ANS) := by
                have hv := HV.out
                rw [hst, if_neg (fun h => (hbi hr).mp h.2 |>.elim h3 (fun hx => hx (by rw [← ByteArray.toList_eq]; exact he)))] at hv
                exact hv
              have heb : (!(s.extract pos (pos + 3)).toList == [239, 191, 189]) = false := by simp [he]
              clear hst hbi hr h3 he
              go_wp2
              go_roundw
              case rel => exact ⟨_, rfl, HN⟩
              case measure =>
                simp
                omega
            · have HF : Hid (ANS = false) := by
                have h1 := (hbi hr).mpr (.inr (fun hx => he (by rw [ByteArray.toList_eq]; exact hx)))
                have hv := HV.out
                rw [hst, if_pos ⟨hr, h1⟩] at hv
                exact hv.symm
              have heb : (!(s.extract pos (pos + 3)).toList == [239, 191, 189]) = true := by simp [he]
              clear hst hbi hr h3 he
              go_wp2
              go_ret
              rw [HF.out]
              exact ⟨rfl, below_iter _ _ _⟩
        · have hri : ¬ ((Utf8.decode s pos).1 : Int) = 65533 := by omega
          have HN : Hid (Lib.validD (s.data.toList.drop (pos + (Utf8.decode s pos).2)) = ANS) := by
            have hv := HV.out
            rw [hst, if_neg (fun h => hr h.1)] at hv
            exact hv
          clear hst hbi hr
          go_wp2
          go_roundw
          case rel => exact ⟨_, rfl, HN⟩
          case measure =>
            simp
            omega
      · have hnx : ∀ ty, (Instr.next (.pointer (some ⟨w.heap.size, 0, none⟩)) true ty).run Tryd.prog (w.iter s pos) = _ := fun ty => run_next_end w s pos ty hp
        go_wp2
        go_ret
        have hv := HV.out
        rw [validD_end s pos hp] at hv
        rw [← hv]
        exact ⟨rfl, below_iter _ _ _⟩
  · cases h
end Go.Proofs.YtmphmkclbfoppaaDoor.X
end
section
namespace Go.Proofs.YtmphmkclbfoppaaDoor.X
open Go.RowKit Go.Proofs.YtmphmkclbfoppaaDoorW.PrintWords Go.Proofs.YtmphmkclbfoppaaDoorW.PrintLast Go.Proofs.YtmphmkclbfoppaaDoorW.PrintMore
attribute [local go_sem] max2_int min2_int max_two min_two max_three min_three max_four min_four
set_option linter.unusedVariables false
set_option linter.unusedSimpArgs false
mutual
def lockstepref01_Check.j0 : Nat → Bool → Int → Int → ByteArray → Option (Int)
 | 0, _, _, _, _ => none
 | k + 1, x25, x204000, x204001, x204002 => if x25 = true then (some 1) else (if x204000 = 3 then (lockstepref01_Check.j1 k (decide ((x204002.size : Int) > 4096)) x204000 x204001 x204002) else (lockstepref01_Check.j1 k false x204000 x204001 x204002))
def lockstepref01_Check.j1 : Nat → Bool → Int → Int → ByteArray → Option (Int)
 | 0, _, _, _, _ => none
 | k + 1, x34, x204000, x204001, x204002 => if x34 = true then (some 2) else (if x204000 = 3 then ((lockstepref01_valid.f x204002).bind fun t204 => (if t204 = true then (some 0) else (some 3))) else (some 0))
end
def lockstepref01_Check.f (k : Nat) (a0_0 : Int) (a0_1 : Int) (a0_2 : ByteArray) : Option (Int) := if a0_0 < 0 then (lockstepref01_Check.j0 k true a0_0 a0_1 a0_2) else (if a0_0 > 4 then (lockstepref01_Check.j0 k true a0_0 a0_1 a0_2) else (if a0_0 = 4 then (if a0_1 = 0 then (lockstepref01_Check.j0 k false a0_0 a0_1 a0_2) else (lockstepref01_Check.j0 k (a0_1 != 1) a0_0 a0_1 a0_2)) else (lockstepref01_Check.j0 k false a0_0 a0_1 a0_2)))
end Go.Proofs.YtmphmkclbfoppaaDoor.X
end
section
namespace Go.Proofs.YtmphmkclbfoppaaDoor.X
open Go.RowKit Go.Proofs.YtmphmkclbfoppaaDoorW.PrintWords Go.Proofs.YtmphmkclbfoppaaDoorW.PrintLast Go.Proofs.YtmphmkclbfoppaaDoorW.PrintMore
attribute [local go_sem] max2_int min2_int max_two min_two max_three min_three max_four min_four
end Go.Proofs.YtmphmkclbfoppaaDoor.X
end
section
namespace Go.Proofs.YtmphmkclbfoppaaDoor.X
open Go.RowKit Go.Proofs.YtmphmkclbfoppaaDoorW.PrintWords Go.Proofs.YtmphmkclbfoppaaDoorW.PrintLast Go.Proofs.YtmphmkclbfoppaaDoorW.PrintMore
attribute [local go_sem] max2_int min2_int max_two min_two max_three min_three max_four min_four
end Go.Proofs.YtmphmkclbfoppaaDoor.X
end
section
namespace Go.Proofs.YtmphmkclbfoppaaDoor.X
open Go.RowKit Go.Proofs.YtmphmkclbfoppaaDoorW.PrintWords Go.Proofs.YtmphmkclbfoppaaDoorW.PrintLast Go.Proofs.YtmphmkclbfoppaaDoorW.PrintMore
attribute [local go_sem] max2_int min2_int max_two min_two max_three min_three max_four min_four
end Go.Proofs.YtmphmkclbfoppaaDoor.X
end
section
namespace Go.Proofs.YtmphmkclbfoppaaDoor.X
open Go.RowKit Go.Proofs.YtmphmkclbfoppaaDoorW.PrintWords Go.Proofs.YtmphmkclbfoppaaDoorW.PrintLast Go.Proofs.YtmphmkclbfoppaaDoorW.PrintMore
attribute [local go_sem] max2_int min2_int max_two min_two max_three min_three max_four min_four
end Go.Proofs.YtmphmkclbfoppaaDoor.X
end
section
namespace Go.Proofs.YtmphmkclbfoppaaDoor.X
open Go.RowKit Go.Proofs.YtmphmkclbfoppaaDoorW.PrintWords Go.Proofs.YtmphmkclbfoppaaDoorW.PrintLast Go.Proofs.YtmphmkclbfoppaaDoorW.PrintMore
attribute [local go_sem] max2_int min2_int max_two min_two max_three min_three max_four min_four
set_option linter.unusedVariables false
set_option linter.unusedSimpArgs false
def lockstepref02_Hash.l0 : Nat → List Int → Int → Int → Option (Int)
 | 0, _, _, _ => none
 | k + 1, x0, x3, x4 => if x4 < (x0.length : Int) then (if 0 ≤ x4 then (lockstepref02_Hash.l0 k x0 (IntKind.u64.wrap ((Go.bits .xor .u64 x3 (IntKind.u64.wrap (rd x0 x4))) * 1099511628211)) (wrap64 (x4 + 1))) else (none)) else (some x3)
def lockstepref02_Hash.f (k : Nat) (l0 : List Int) : Option (Int) := lockstepref02_Hash.l0 k l0 14695981039346656037 0
end Go.Proofs.YtmphmkclbfoppaaDoor.X
end
section
namespace Go.Proofs.YtmphmkclbfoppaaDoor.X
open Go.RowKit Go.Proofs.YtmphmkclbfoppaaDoorW.PrintWords Go.Proofs.YtmphmkclbfoppaaDoorW.PrintLast Go.Proofs.YtmphmkclbfoppaaDoorW.PrintMore
attribute [local go_sem] max2_int min2_int max_two min_two max_three min_three max_four min_four
end Go.Proofs.YtmphmkclbfoppaaDoor.X
end
section
namespace Go.Proofs.YtmphmkclbfoppaaDoor.X
open Go.RowKit Go.Proofs.YtmphmkclbfoppaaDoorW.PrintWords Go.Proofs.YtmphmkclbfoppaaDoorW.PrintLast Go.Proofs.YtmphmkclbfoppaaDoorW.PrintMore
attribute [local go_sem] max2_int min2_int max_two min_two max_three min_three max_four min_four
end Go.Proofs.YtmphmkclbfoppaaDoor.X
end
section
namespace Go.Proofs.YtmphmkclbfoppaaDoor.X
open Go.RowKit Go.Proofs.YtmphmkclbfoppaaDoorW.PrintWords Go.Proofs.YtmphmkclbfoppaaDoorW.PrintLast Go.Proofs.YtmphmkclbfoppaaDoorW.PrintMore
attribute [local go_sem] max2_int min2_int max_two min_two max_three min_three max_four min_four
end Go.Proofs.YtmphmkclbfoppaaDoor.X
end
section
namespace Go.Proofs.YtmphmkclbfoppaaDoor.X
open Go.RowKit Go.Proofs.YtmphmkclbfoppaaDoorW.PrintWords Go.Proofs.YtmphmkclbfoppaaDoorW.PrintLast Go.Proofs.YtmphmkclbfoppaaDoorW.PrintMore
attribute [local go_sem] max2_int min2_int max_two min_two max_three min_three max_four min_four
end Go.Proofs.YtmphmkclbfoppaaDoor.X
end
section
namespace Go.Proofs.YtmphmkclbfoppaaDoor.X
open Go.RowKit Go.Proofs.YtmphmkclbfoppaaDoorW.PrintWords Go.Proofs.YtmphmkclbfoppaaDoorW.PrintLast Go.Proofs.YtmphmkclbfoppaaDoorW.PrintMore
attribute [local go_sem] max2_int min2_int max_two min_two max_three min_three max_four min_four
end Go.Proofs.YtmphmkclbfoppaaDoor.X
end
section
namespace Go.Proofs.YtmphmkclbfoppaaDoor.X
open Go.RowKit Go.Proofs.YtmphmkclbfoppaaDoorW.PrintWords Go.Proofs.YtmphmkclbfoppaaDoorW.PrintLast Go.Proofs.YtmphmkclbfoppaaDoorW.PrintMore
attribute [local go_sem] max2_int min2_int max_two min_two max_three min_three max_four min_four
end Go.Proofs.YtmphmkclbfoppaaDoor.X
end
section
namespace Go.Proofs.YtmphmkclbfoppaaDoor.X
open Go.RowKit Go.Proofs.YtmphmkclbfoppaaDoorW.PrintWords Go.Proofs.YtmphmkclbfoppaaDoorW.PrintLast Go.Proofs.YtmphmkclbfoppaaDoorW.PrintMore
attribute [local go_sem] max2_int min2_int max_two min_two max_three min_three max_four min_four
set_option linter.unusedVariables false
set_option linter.unusedSimpArgs false
attribute [local go_sem high] eqA29 eqA32
end Go.Proofs.YtmphmkclbfoppaaDoor.X
end
section
namespace Go.Proofs.YtmphmkclbfoppaaDoor.X
open Go.RowKit Go.Proofs.YtmphmkclbfoppaaDoorW.PrintWords Go.Proofs.YtmphmkclbfoppaaDoorW.PrintLast Go.Proofs.YtmphmkclbfoppaaDoorW.PrintMore
attribute [local go_sem] max2_int min2_int max_two min_two max_three min_three max_four min_four
set_option linter.unusedVariables false
set_option linter.unusedSimpArgs false
def value_class.j0 : Nat → Int → Bool → Option (Int)
 | 0, _, _ => none
 | k + 1, x4, x7 => if x7 = true then (some 1) else (if x4 = 3 then (some 2) else (if x4 = 4 then (some 3) else (some 4)))
def value_class.f (k : Nat) (a0_0 : Int) (a0_1 : Int) (a0_2 : ByteArray) : Option (Int) := if a0_0 = 0 then (some 0) else (if a0_0 = 1 then (value_class.j0 k a0_0 (a0_0 == 1)) else (value_class.j0 k a0_0 (a0_0 == 2)))
end Go.Proofs.YtmphmkclbfoppaaDoor.X
end
section
namespace Go.Proofs.YtmphmkclbfoppaaDoor.X
open Go.RowKit Go.Proofs.YtmphmkclbfoppaaDoorW.PrintWords Go.Proofs.YtmphmkclbfoppaaDoorW.PrintLast Go.Proofs.YtmphmkclbfoppaaDoorW.PrintMore
attribute [local go_sem] max2_int min2_int max_two min_two max_three min_three max_four min_four
set_option linter.unusedVariables false
set_option linter.unusedSimpArgs false
def cmp_isNaN_int.f (a0 : Int) : Option (Bool) := some (a0 != a0)
end Go.Proofs.YtmphmkclbfoppaaDoor.X
end
section
namespace Go.Proofs.YtmphmkclbfoppaaDoor.X
open Go.RowKit Go.Proofs.YtmphmkclbfoppaaDoorW.PrintWords Go.Proofs.YtmphmkclbfoppaaDoorW.PrintLast Go.Proofs.YtmphmkclbfoppaaDoorW.PrintMore
attribute [local go_sem] max2_int min2_int max_two min_two max_three min_three max_four min_four
set_option linter.unusedVariables false
set_option linter.unusedSimpArgs false
def cmp_Compare_int.f (a0 : Int) (a1 : Int) : Option (Int) := (cmp_isNaN_int.f a0).bind fun t351 => ((cmp_isNaN_int.f a1).bind fun t352 => (if t351 = true then (if t352 = true then (some 0) else (some (-1))) else (if t352 = true then (some 1) else (if a0 < a1 then (some (-1)) else (if a0 > a1 then (some 1) else (some 0))))))
end Go.Proofs.YtmphmkclbfoppaaDoor.X
end
section
namespace Go.Proofs.YtmphmkclbfoppaaDoor.X
open Go.RowKit Go.Proofs.YtmphmkclbfoppaaDoorW.PrintWords Go.Proofs.YtmphmkclbfoppaaDoorW.PrintLast Go.Proofs.YtmphmkclbfoppaaDoorW.PrintMore
attribute [local go_sem] max2_int min2_int max_two min_two max_three min_three max_four min_four
set_option linter.unusedVariables false
set_option linter.unusedSimpArgs false
def value_wide.f (a0_0 : Int) (a0_1 : Int) (a0_2 : ByteArray) : Option (Int × Int) := if a0_0 = 2 then (some (a0_1 / 9223372036854775808, IntKind.u64.wrap (a0_1))) else ((bits_Mul64.f (IntKind.u64.wrap (a0_1)) 10000).bind fun bt354 => (if a0_1 < 0 then (some (wrap64 (IntKind.u64.wrap (bt354.1 - 10000)), bt354.2)) else (some (wrap64 (bt354.1), bt354.2))))
end Go.Proofs.YtmphmkclbfoppaaDoor.X
end
section
namespace Go.Proofs.YtmphmkclbfoppaaDoor.X
open Go.RowKit Go.Proofs.YtmphmkclbfoppaaDoorW.PrintWords Go.Proofs.YtmphmkclbfoppaaDoorW.PrintLast Go.Proofs.YtmphmkclbfoppaaDoorW.PrintMore
attribute [local go_sem] max2_int min2_int max_two min_two max_three min_three max_four min_four
set_option linter.unusedVariables false
set_option linter.unusedSimpArgs false
def cmp_isNaN_int64.f (a0 : Int) : Option (Bool) := some (a0 != a0)
end Go.Proofs.YtmphmkclbfoppaaDoor.X
end
section
namespace Go.Proofs.YtmphmkclbfoppaaDoor.X
open Go.RowKit Go.Proofs.YtmphmkclbfoppaaDoorW.PrintWords Go.Proofs.YtmphmkclbfoppaaDoorW.PrintLast Go.Proofs.YtmphmkclbfoppaaDoorW.PrintMore
attribute [local go_sem] max2_int min2_int max_two min_two max_three min_three max_four min_four
set_option linter.unusedVariables false
set_option linter.unusedSimpArgs false
def cmp_Compare_int64.f (a0 : Int) (a1 : Int) : Option (Int) := (cmp_isNaN_int64.f a0).bind fun t356 => ((cmp_isNaN_int64.f a1).bind fun t357 => (if t356 = true then (if t357 = true then (some 0) else (some (-1))) else (if t357 = true then (some 1) else (if a0 < a1 then (some (-1)) else (if a0 > a1 then (some 1) else (some 0))))))
end Go.Proofs.YtmphmkclbfoppaaDoor.X
end
section
namespace Go.Proofs.YtmphmkclbfoppaaDoor.X
open Go.RowKit Go.Proofs.YtmphmkclbfoppaaDoorW.PrintWords Go.Proofs.YtmphmkclbfoppaaDoorW.PrintLast Go.Proofs.YtmphmkclbfoppaaDoorW.PrintMore
attribute [local go_sem] max2_int min2_int max_two min_two max_three min_three max_four min_four
set_option linter.unusedVariables false
set_option linter.unusedSimpArgs false
def cmp_isNaN_uint64.f (a0 : Int) : Option (Bool) := some (a0 != a0)
end Go.Proofs.YtmphmkclbfoppaaDoor.X
end
section
namespace Go.Proofs.YtmphmkclbfoppaaDoor.X
open Go.RowKit Go.Proofs.YtmphmkclbfoppaaDoorW.PrintWords Go.Proofs.YtmphmkclbfoppaaDoorW.PrintLast Go.Proofs.YtmphmkclbfoppaaDoorW.PrintMore
attribute [local go_sem] max2_int min2_int max_two min_two max_three min_three max_four min_four
set_option linter.unusedVariables false
set_option linter.unusedSimpArgs false
def cmp_Compare_uint64.f (a0 : Int) (a1 : Int) : Option (Int) := (cmp_isNaN_uint64.f a0).bind fun t358 => ((cmp_isNaN_uint64.f a1).bind fun t359 => (if t358 = true then (if t359 = true then (some 0) else (some (-1))) else (if t359 = true then (some 1) else (if a0 < a1 then (some (-1)) else (if a0 > a1 then (some 1) else (some 0))))))
end Go.Proofs.YtmphmkclbfoppaaDoor.X
end
section
namespace Go.Proofs.YtmphmkclbfoppaaDoor.X
open Go.RowKit Go.Proofs.YtmphmkclbfoppaaDoorW.PrintWords Go.Proofs.YtmphmkclbfoppaaDoorW.PrintLast Go.Proofs.YtmphmkclbfoppaaDoorW.PrintMore
attribute [local go_sem] max2_int min2_int max_two min_two max_three min_three max_four min_four
set_option linter.unusedVariables false
set_option linter.unusedSimpArgs false
def cmp_Or_int.l0 : Nat → Int → List Int → Int → Int → Option (Int)
 | 0, _, _, _, _ => none
 | k + 1, x3, x6, x7, x8 => if x8 < x7 then (if 0 ≤ x8 then (if x8 < (x6.length : Int) then (if (rd x6 x8) = x3 then (cmp_Or_int.l0 k x3 x6 x7 (wrap64 (x8 + 1))) else (some (rd x6 x8))) else (none)) else (none)) else (some x3)
def cmp_Or_int.f (k : Nat) (l0 : List Int) : Option (Int) := cmp_Or_int.l0 k 0 l0 (l0.length : Int) 0
end Go.Proofs.YtmphmkclbfoppaaDoor.X
end
section
namespace Go.Proofs.YtmphmkclbfoppaaDoor.X
open Go.RowKit Go.Proofs.YtmphmkclbfoppaaDoorW.PrintWords Go.Proofs.YtmphmkclbfoppaaDoorW.PrintLast Go.Proofs.YtmphmkclbfoppaaDoorW.PrintMore
attribute [local go_sem] max2_int min2_int max_two min_two max_three min_three max_four min_four
set_option linter.unusedVariables false
set_option linter.unusedSimpArgs false
def value_numbers.f (k : Nat) (a0_0 : Int) (a0_1 : Int) (a0_2 : ByteArray) (a1_0 : Int) (a1_1 : Int) (a1_2 : ByteArray) : Option (Int) := (value_wide.f a0_0 a0_1 a0_2).bind fun bt363 => ((value_wide.f a1_0 a1_1 a1_2).bind fun bt365 => ((cmp_Compare_int64.f bt363.1 bt365.1).bind fun t367 => ((cmp_Compare_uint64.f bt363.2 bt365.2).bind fun t368 => ((cmp_Or_int.f k (([t367, t368] : List Int))).bind fun t372 => (some t372)))))
end Go.Proofs.YtmphmkclbfoppaaDoor.X
end
section
namespace Go.Proofs.YtmphmkclbfoppaaDoor.X
open Go.RowKit Go.Proofs.YtmphmkclbfoppaaDoorW.PrintWords Go.Proofs.YtmphmkclbfoppaaDoorW.PrintLast Go.Proofs.YtmphmkclbfoppaaDoorW.PrintMore
attribute [local go_sem] max2_int min2_int max_two min_two max_three min_three max_four min_four
set_option linter.unusedVariables false
set_option linter.unusedSimpArgs false
def cmp_isNaN_string.f (a0 : ByteArray) : Option (Bool) := some (a0.toList != a0.toList)
end Go.Proofs.YtmphmkclbfoppaaDoor.X
end
section
namespace Go.Proofs.YtmphmkclbfoppaaDoor.X
open Go.RowKit Go.Proofs.YtmphmkclbfoppaaDoorW.PrintWords Go.Proofs.YtmphmkclbfoppaaDoorW.PrintLast Go.Proofs.YtmphmkclbfoppaaDoorW.PrintMore
attribute [local go_sem] max2_int min2_int max_two min_two max_three min_three max_four min_four
set_option linter.unusedVariables false
set_option linter.unusedSimpArgs false
def cmp_Compare_string.f (a0 : ByteArray) (a1 : ByteArray) : Option (Int) := (cmp_isNaN_string.f a0).bind fun t373 => ((cmp_isNaN_string.f a1).bind fun t374 => (if t373 = true then (if t374 = true then (some 0) else (some (-1))) else (if t374 = true then (some 1) else (if (Op.bytesLess a0.toList a1.toList) = true then (some (-1)) else (if (!(Op.bytesLess a0.toList a1.toList || a0.toList == a1.toList)) = true then (some 1) else (some 0))))))
end Go.Proofs.YtmphmkclbfoppaaDoor.X
end
section
namespace Go.Proofs.YtmphmkclbfoppaaDoor.X
open Go.RowKit Go.Proofs.YtmphmkclbfoppaaDoorW.PrintWords Go.Proofs.YtmphmkclbfoppaaDoorW.PrintLast Go.Proofs.YtmphmkclbfoppaaDoorW.PrintMore
attribute [local go_sem] max2_int min2_int max_two min_two max_three min_three max_four min_four
set_option linter.unusedVariables false
set_option linter.unusedSimpArgs false
def value_Order.f (k : Nat) (a0_0 : Int) (a0_1 : Int) (a0_2 : ByteArray) (a1_0 : Int) (a1_1 : Int) (a1_2 : ByteArray) : Option (Int) := (value_class.f k a0_0 a0_1 a0_2).bind fun t377 => ((value_class.f k a1_0 a1_1 a1_2).bind fun t378 => ((cmp_Compare_int.f t377 t378).bind fun t379 => (if t379 = 0 then ((value_class.f k a0_0 a0_1 a0_2).bind fun t380 => (if t380 = 0 then (some 0) else (if t380 = 1 then ((value_numbers.f k a0_0 a0_1 a0_2 a1_0 a1_1 a1_2).bind fun t381 => ((cmp_Compare_int.f a0_0 a1_0).bind fun t382 => ((cmp_Or_int.f k (([t381, t382] : List Int))).bind fun t386 => (some t386)))) else (if t380 = 2 then ((cmp_Compare_string.f a0_2 a1_2).bind fun t387 => (some t387)) else (if t380 = 3 then ((cmp_Compare_int64.f a0_1 a1_1).bind fun t388 => (some t388)) else ((cmp_Compare_int.f a0_0 a1_0).bind fun t389 => ((cmp_Compare_int64.f a0_1 a1_1).bind fun t390 => ((cmp_Compare_string.f a0_2 a1_2).bind fun t391 => ((cmp_Or_int.f k (([t389, t390, t391] : List Int))).bind fun t395 => (some t395)))))))))) else (some t379))))
end Go.Proofs.YtmphmkclbfoppaaDoor.X
end
section
namespace Go.Proofs.YtmphmkclbfoppaaDoor.X
open Go.RowKit Go.Proofs.YtmphmkclbfoppaaDoorW.PrintWords Go.Proofs.YtmphmkclbfoppaaDoorW.PrintLast Go.Proofs.YtmphmkclbfoppaaDoorW.PrintMore
attribute [local go_sem] max2_int min2_int max_two min_two max_three min_three max_four min_four
end Go.Proofs.YtmphmkclbfoppaaDoor.X
end
section
namespace Go.Proofs.YtmphmkclbfoppaaDoor.X
open Go.RowKit Go.Proofs.YtmphmkclbfoppaaDoorW.PrintWords Go.Proofs.YtmphmkclbfoppaaDoorW.PrintLast Go.Proofs.YtmphmkclbfoppaaDoorW.PrintMore
attribute [local go_sem] max2_int min2_int max_two min_two max_three min_three max_four min_four
end Go.Proofs.YtmphmkclbfoppaaDoor.X
end
section
namespace Go.Proofs.YtmphmkclbfoppaaDoor.X
set_option linter.unusedVariables false
set_option linter.unusedSimpArgs false
open Go.RowKit Go.Proofs.YtmphmkclbfoppaaDoorW.PrintWords Go.Proofs.YtmphmkclbfoppaaDoorW.PrintLast Go.Proofs.YtmphmkclbfoppaaDoorW.PrintMore
def I64 (n : Int) : Prop := -9223372036854775808 ≤ n ∧ n ≤ 9223372036854775807
namespace Num
theorem maskN (a : Nat) (ha : a < 18446744073709551616) : bits .and .u64 (a : Int) 4294967295 = ((a % 4294967296 : Nat) : Int) := by
  have h := bits_and_u64_nat a 4294967295 ha (by omega)
  have e : a &&& 4294967295 = a % 4294967296 := Nat.and_two_pow_sub_one_eq_mod a 32
  rw [e] at h
  exact h
theorem divN (a : Nat) : (a : Int) / 4294967296 = ((a / 4294967296 : Nat) : Int) := by omega
theorem mulN (a b : Nat) : (a : Int) * (b : Int) = ((a * b : Nat) : Int) := (Int.natCast_mul a b).symm
theorem addN (a b : Nat) : (a : Int) + (b : Int) = ((a + b : Nat) : Int) := (Int.natCast_add a b).symm
theorem wrapN (a : Nat) (ha : a < 18446744073709551616) : IntKind.u64.wrap (a : Int) = (a : Int) := by rw [IntKind.wrap_u64]; omega
theorem wrapM (a : Nat) : IntKind.u64.wrap (a : Int) = ((a % 18446744073709551616 : Nat) : Int) := by rw [IntKind.wrap_u64]; omega
end Num
open Num
theorem bits_Mul64.eq (x y : Nat) (hx : x < 18446744073709551616) (hy : y < 18446744073709551616) :
    bits_Mul64.f x y = some (((x * y / 18446744073709551616 : Nat) : Int), ((x * y % 18446744073709551616 : Nat) : Int)) := by
  obtain ⟨bd, bt, bw, hhi⟩ := Lib.mul64_hi x y hx hy
  have ba := Lib.half_mul_le (a := x / 4294967296) (b := y / 4294967296) (by omega) (by omega)
  have bb := Lib.half_mul_le (a := x / 4294967296) (b := y % 4294967296) (by omega) (by omega)
  have bc := Lib.half_mul_le (a := x % 4294967296) (b := y / 4294967296) (by omega) (by omega)
  have ba' : x / 4294967296 * (y / 4294967296) < 18446744073709551616 := by omega
  have bb' : x / 4294967296 * (y % 4294967296) < 18446744073709551616 := by omega
  have bc' : x % 4294967296 * (y / 4294967296) < 18446744073709551616 := by omega
  have bh1 : x / 4294967296 * (y / 4294967296) + (x / 4294967296 * (y % 4294967296) + x % 4294967296 * (y % 4294967296) / 4294967296) / 4294967296 < 18446744073709551616 := by omega
  have bh : x / 4294967296 * (y / 4294967296) + (x / 4294967296 * (y % 4294967296) + x % 4294967296 * (y % 4294967296) / 4294967296) / 4294967296 + ((x / 4294967296 * (y % 4294967296) + x % 4294967296 * (y % 4294967296) / 4294967296) % 4294967296 + x % 4294967296 * (y / 4294967296)) / 4294967296 < 18446744073709551616 := by omega
  unfold bits_Mul64.f
  simp only [maskN x hx, maskN y hy, divN, mulN, addN, wrapN _ bd, wrapN _ bb', wrapN _ bt, maskN _ bt, wrapN _ bc', wrapN _ bw, wrapN _ ba', wrapN _ bh1, wrapN _ bh, wrapM (x * y)]
  rw [hhi]
def chk (t n : Int) (s : ByteArray) : Int :=
  if t = 0 ∨ t = 1 ∨ t = 2 then 0 else if t = 4 then (if n = 0 ∨ n = 1 then 0 else 1) else if t = 3 then (if (s.size : Int) > 4096 then 2 else if Lib.validD s.data.toList = true then 0 else 3) else 1
theorem value_Check.eq (k : Nat) (t n : Int) (s : ByteArray) : value_Check.f (k + 1) t n s = some (chk t n s) := by
  unfold value_Check.f chk
  simp only [value_Check.j0]
  by_cases h0 : t = 0
  · subst h0; simp
  by_cases h1 : t = 1
  · subst h1; simp
  by_cases h2 : t = 2
  · subst h2; simp
  simp only [h0, h1, h2, if_false, false_or, or_false, beq_eq_false_iff_ne.mpr h2, Bool.false_eq_true]
  by_cases h4 : t = 4
  · subst h4
    simp only [if_true]
    by_cases hn : n = 0
    · simp [hn]
    · by_cases hn1 : n = 1 <;> simp [hn, hn1]
  · simp only [h4, if_false]
    by_cases h3 : t = 3
    · subst h3
      simp only [if_true]
      by_cases hs : (s.size : Int) > 4096
      · simp only [hs, if_true]
      · simp only [hs, if_false]
        unfold utf8_ValidString.f
        rw [if_pos (by omega), Option.bind_some]
        by_cases hv : Lib.validD s.data.toList = true <;> simp only [hv, if_true, if_false, Bool.false_eq_true]
    · simp only [h3, if_false]
theorem lockstepref01_Check.eq (k : Nat) (t n : Int) (s : ByteArray) : lockstepref01_Check.f (k + 2) t n s = some (chk t n s) := by
  unfold lockstepref01_Check.f chk
  simp only [lockstepref01_Check.j0]
  by_cases hlo : t < 0
  · simp only [hlo, if_true]
    rw [if_neg (by omega), if_neg (by omega), if_neg (by omega)]
  by_cases hhi : t > 4
  · simp only [hlo, hhi, if_true, if_false]
    rw [if_neg (by omega), if_neg (by omega), if_neg (by omega)]
  simp only [hlo, hhi, if_false]
  by_cases h4 : t = 4
  · subst h4
    simp only [if_true, lockstepref01_Check.j1]
    by_cases hn : n = 0
    · simp [hn]
    · by_cases hn1 : n = 1 <;> simp [hn, hn1]
  · simp only [h4, if_false, Bool.false_eq_true]
    by_cases h3 : t = 3
    · subst h3
      simp only [if_true, lockstepref01_Check.j1]
      by_cases hs : (s.size : Int) > 4096
      · simp [hs]
      · simp only [hs, decide_false, if_false, Bool.false_eq_true]
        unfold lockstepref01_valid.f
        rw [if_pos (by omega), Option.bind_some]
        by_cases hv : Lib.validD s.data.toList = true <;> simp [hv]
    · simp only [h3, if_false, lockstepref01_Check.j1, Bool.false_eq_true]
      rw [if_pos (by omega)]
end Go.Proofs.YtmphmkclbfoppaaDoor.X
end
section
namespace Go.Proofs.YtmphmkclbfoppaaDoor.X
set_option linter.unusedVariables false
set_option linter.unusedSimpArgs false
open Go.RowKit Go.Proofs.YtmphmkclbfoppaaDoorW.PrintWords Go.Proofs.YtmphmkclbfoppaaDoorW.PrintLast Go.Proofs.YtmphmkclbfoppaaDoorW.PrintMore
open Num
def ci (a b : Int) : Int := if a < b then -1 else if a > b then 1 else 0
def orI (a b : Int) : Int := if a = 0 then b else a
structure Good {α : Type} (C : α → α → Int) : Prop where
  anti : ∀ a b, C b a = - C a b
  trans : ∀ a b c, C a b ≤ 0 → C b c ≤ 0 → C a c ≤ 0
theorem Good.lt {α : Type} {C : α → α → Int} (h : Good C) {a b c : α} (h1 : C a b < 0) (h2 : C b c ≤ 0) : C a c < 0 := by
  have h3 := h.trans a b c (by omega) h2
  by_cases hn : C a c < 0
  · exact hn
  · have e := h.anti a c
    have h5 := h.trans b c a h2 (by omega)
    have := h.anti a b
    omega
theorem Good.key {α β : Type} {C : α → α → Int} (h : Good C) (f : β → α) : Good (fun a b => C (f a) (f b)) := ⟨fun a b => h.anti (f a) (f b), fun a b c => h.trans (f a) (f b) (f c)⟩
theorem ci_zero {a b : Int} : ci a b = 0 ↔ a = b := by
  unfold ci
  by_cases h1 : a < b
  · rw [if_pos h1]; constructor
    · intro h; omega
    · intro h; omega
  · by_cases h2 : a > b
    · rw [if_neg h1, if_pos h2]; constructor
      · intro h; omega
      · intro h; omega
    · rw [if_neg h1, if_neg h2]; constructor
      · intro _; omega
      · intro _; rfl
theorem ci_self (a : Int) : ci a a = 0 := ci_zero.mpr rfl
theorem orI_zero (a : Int) : orI a 0 = a := by unfold orI; split <;> omega
theorem zero_orI (a : Int) : orI 0 a = a := by unfold orI; exact if_pos rfl
def cl : List UInt8 → List UInt8 → Int
  | [], [] => 0
  | [], _ :: _ => -1
  | _ :: _, [] => 1
  | a :: x, b :: y => orI (ci a.toNat b.toNat) (cl x y)
theorem cl_self : ∀ x, cl x x = 0
  | [] => rfl
  | a :: x => by show orI (ci a.toNat a.toNat) (cl x x) = 0; rw [ci_self, cl_self x]; rfl
theorem cl_eq : ∀ x y, cl x y = 0 → x = y
  | [], [] => fun _ => rfl
  | [], _ :: _ => fun h => absurd h (by show ¬ ((-1 : Int) = 0); decide)
  | _ :: _, [] => fun h => absurd h (by show ¬ ((1 : Int) = 0); decide)
  | a :: x, b :: y => by
    intro h
    change orI (ci a.toNat b.toNat) (cl x y) = 0 at h
    unfold orI at h
    by_cases hc : ci (a.toNat : Int) b.toNat = 0
    · rw [if_pos hc] at h
      have h1 := ci_zero.mp hc
      have e : a = b := UInt8.toNat_inj.mp (by omega)
      rw [e, cl_eq x y h]
    · rw [if_neg hc] at h; exact absurd h hc
theorem cl_less : ∀ x y, Op.bytesLess x y = decide (cl x y = -1) ∧ (cl x y = -1 ∨ cl x y = 0 ∨ cl x y = 1)
  | [], [] => ⟨rfl, Or.inr (Or.inl rfl)⟩
  | [], _ :: _ => ⟨rfl, Or.inl rfl⟩
  | _ :: _, [] => ⟨rfl, Or.inr (Or.inr rfl)⟩
  | a :: x, b :: y => by
    obtain ⟨ih, ir⟩ := cl_less x y
    have e1 : (a < b) ↔ (a.toNat : Int) < b.toNat := by rw [UInt8.lt_iff_toNat_lt]; omega
    have e2 : (a = b) ↔ (a.toNat : Int) = b.toNat := by rw [← UInt8.toNat_inj]; omega
    have hd : Op.bytesLess (a :: x) (b :: y) = (decide (a < b) || (a == b && Op.bytesLess x y)) := rfl
    have hc : cl (a :: x) (b :: y) = orI (ci a.toNat b.toNat) (cl x y) := rfl
    rw [hd, hc, ih]
    unfold orI ci
    by_cases h1 : (a.toNat : Int) < b.toNat
    · rw [if_pos h1, if_neg (by decide), decide_eq_true (e1.mpr h1)]
      exact ⟨rfl, Or.inl rfl⟩
    · rw [if_neg h1, decide_eq_false (fun h => h1 (e1.mp h))]
      by_cases h2 : (a.toNat : Int) > b.toNat
      · rw [if_pos h2, if_neg (by decide), beq_eq_false_iff_ne.mpr (fun h => by have := e2.mp h; omega)]
        exact ⟨rfl, Or.inr (Or.inr rfl)⟩
      · rw [if_neg h2, if_pos rfl, beq_iff_eq.mpr (e2.mpr (by omega))]
        exact ⟨by simp, ir⟩
def cs (a b : ByteArray) : Int := cl a.toList b.toList
theorem cs_self (a : ByteArray) : cs a a = 0 := cl_self _
theorem texts_eq (a b : ByteArray) : (if (Op.bytesLess a.toList b.toList) = true then (some (-1)) else (if (!(Op.bytesLess a.toList b.toList || a.toList == b.toList)) = true then (some 1) else (some 0)) : Option Int) = some (cs a b) := by
  unfold cs
  obtain ⟨h1, h2⟩ := cl_less a.toList b.toList
  rw [h1]
  rcases h2 with h2 | h2 | h2
  · rw [h2]; rfl
  · rw [if_neg (by rw [h2]; decide), if_neg (by rw [cl_eq _ _ h2]; simp), h2]
  · have hne : (a.toList == b.toList) = false := by
      rw [beq_eq_false_iff_ne]
      intro h; rw [h, cl_self] at h2; exact absurd h2 (by decide)
    rw [if_neg (by rw [h2]; decide), hne, if_pos (by rw [h2]; decide), h2]
theorem cmps_eq (a b : ByteArray) : cmp_Compare_string.f a b = some (cs a b) := by
  unfold cmp_Compare_string.f cmp_isNaN_string.f
  rw [Option.bind_some, Option.bind_some, bne_self_eq_false, bne_self_eq_false, if_neg (by decide), if_neg (by decide)]
  exact texts_eq a b
theorem ints_eq (a b : Int) : (if a < b then (some (-1)) else (if a > b then (some 1) else (some 0)) : Option Int) = some (ci a b) := by
  unfold ci
  by_cases h1 : a < b
  · rw [if_pos h1, if_pos h1]
  · rw [if_neg h1, if_neg h1]; split <;> rfl
theorem cmpi_eq (a b : Int) : cmp_Compare_int.f a b = some (ci a b) := by
  unfold cmp_Compare_int.f cmp_isNaN_int.f
  rw [Option.bind_some, Option.bind_some, bne_self_eq_false, bne_self_eq_false, if_neg (by decide), if_neg (by decide)]
  exact ints_eq a b
theorem cmpi64_eq (a b : Int) : cmp_Compare_int64.f a b = some (ci a b) := by
  unfold cmp_Compare_int64.f cmp_isNaN_int64.f
  rw [Option.bind_some, Option.bind_some, bne_self_eq_false, bne_self_eq_false, if_neg (by decide), if_neg (by decide)]
  exact ints_eq a b
theorem cmpu64_eq (a b : Int) : cmp_Compare_uint64.f a b = some (ci a b) := by
  unfold cmp_Compare_uint64.f cmp_isNaN_uint64.f
  rw [Option.bind_some, Option.bind_some, bne_self_eq_false, bne_self_eq_false, if_neg (by decide), if_neg (by decide)]
  exact ints_eq a b
theorem or_step (k : Nat) (l : List Int) (n i : Int) : cmp_Or_int.l0 (k + 1) 0 l n i = if i < n then (if 0 ≤ i then (if i < (l.length : Int) then (if (rd l i) = 0 then (cmp_Or_int.l0 k 0 l n (wrap64 (i + 1))) else (some (rd l i))) else (none)) else (none)) else (some 0) := by
  conv => lhs; unfold cmp_Or_int.l0
theorem w01 : wrap64 (0 + 1) = 1 := by unfold wrap64; omega
theorem w12 : wrap64 (1 + 1) = 2 := by unfold wrap64; omega
theorem w23 : wrap64 (2 + 1) = 3 := by unfold wrap64; omega
theorem or_two (k : Nat) (a b : Int) : cmp_Or_int.f (k + 3) [a, b] = some (orI a b) := by
  unfold cmp_Or_int.f orI
  rw [or_step, if_pos (by simp), if_pos (by decide), if_pos (by simp), show rd [a, b] 0 = a from rfl]
  by_cases h : a = 0
  · rw [if_pos h, if_pos h, w01, or_step, if_pos (by simp), if_pos (by decide), if_pos (by simp), show rd [a, b] 1 = b from rfl]
    by_cases h2 : b = 0
    · rw [if_pos h2, w12, or_step, if_neg (by simp), h2]
    · rw [if_neg h2]
  · rw [if_neg h, if_neg h]
theorem or_three (k : Nat) (a b c : Int) : cmp_Or_int.f (k + 4) [a, b, c] = some (orI a (orI b c)) := by
  unfold cmp_Or_int.f orI
  rw [or_step, if_pos (by simp), if_pos (by decide), if_pos (by simp), show rd [a, b, c] 0 = a from rfl]
  by_cases h : a = 0
  · rw [if_pos h, if_pos h, w01, or_step, if_pos (by simp), if_pos (by decide), if_pos (by simp), show rd [a, b, c] 1 = b from rfl]
    by_cases h2 : b = 0
    · rw [if_pos h2, if_pos h2, w12, or_step, if_pos (by simp), if_pos (by decide), if_pos (by simp), show rd [a, b, c] 2 = c from rfl]
      by_cases h3 : c = 0
      · rw [if_pos h3, w23, or_step, if_neg (by simp), h3]
      · rw [if_neg h3]
    · rw [if_neg h2, if_neg h2]
  · rw [if_neg h, if_neg h]
def cls (t : Int) : Int := if t = 0 then 0 else if t = 1 ∨ t = 2 then 1 else if t = 3 then 2 else if t = 4 then 3 else 4
def sv (t n : Int) : Int := if t = 2 then n else n * 10000
def ky1 (v : S32) : Int := if cls v.f0 = 1 then sv v.f0 v.f1 else if cls v.f0 = 3 then v.f1 else if cls v.f0 = 4 then v.f0 else 0
def ky2 (v : S32) : Int := if cls v.f0 = 1 then v.f0 else if cls v.f0 = 4 then v.f1 else 0
def ky3 (v : S32) : ByteArray := if cls v.f0 = 2 ∨ cls v.f0 = 4 then v.f2 else ⟨#[]⟩
def ord (a b : S32) : Int := orI (ci (cls a.f0) (cls b.f0)) (orI (ci (ky1 a) (ky1 b)) (orI (ci (ky2 a) (ky2 b)) (cs (ky3 a) (ky3 b))))
theorem class_eq (k : Nat) (t n : Int) (s : ByteArray) : value_class.f (k + 1) t n s = some (cls t) := by
  unfold value_class.f cls
  by_cases h0 : t = 0
  · rw [if_pos h0, if_pos h0]
  rw [if_neg h0, if_neg h0]
  by_cases h1 : t = 1
  · subst h1; rfl
  by_cases h2 : t = 2
  · subst h2; rfl
  rw [if_neg h1, if_neg (by omega), beq_eq_false_iff_ne.mpr h2]
  simp only [value_class.j0]
  rw [if_neg (by decide)]
  by_cases h3 : t = 3
  · rw [if_pos h3, if_pos h3]
  by_cases h4 : t = 4
  · rw [if_neg h3, if_neg h3, if_pos h4, if_pos h4]
  rw [if_neg h3, if_neg h3, if_neg h4, if_neg h4]
theorem ci_pair {h l h2 l2 : Int} (hl : 0 ≤ l ∧ l < 18446744073709551616) (hl2 : 0 ≤ l2 ∧ l2 < 18446744073709551616) :
    orI (ci h h2) (ci l l2) = ci (h * 18446744073709551616 + l) (h2 * 18446744073709551616 + l2) := by
  by_cases e : h = h2
  · subst e
    rw [ci_self, zero_orI]
    unfold ci
    by_cases c1 : l < l2
    · rw [if_pos c1, if_pos (by omega)]
    by_cases c2 : l > l2
    · rw [if_neg c1, if_pos c2, if_neg (by omega), if_pos (by omega)]
    rw [if_neg c1, if_neg c2, if_neg (by omega), if_neg (by omega)]
  · have hc : ci h h2 ≠ 0 := fun h' => e (ci_zero.mp h')
    unfold orI
    rw [if_neg hc]
    unfold ci
    by_cases c1 : h < h2
    · rw [if_pos c1, if_pos (by omega)]
    rw [if_neg c1, if_pos (by omega), if_neg (by omega), if_pos (by omega)]
theorem wide_eq (t n : Int) (s : ByteArray) (hn : I64 n) : ∃ h l, value_wide.f t n s = some (h, l) ∧ h * 18446744073709551616 + l = sv t n ∧ 0 ≤ l ∧ l < 18446744073709551616 := by
  obtain ⟨hn0, hn1⟩ := hn
  unfold value_wide.f sv
  by_cases h2 : t = 2
  · rw [if_pos h2, if_pos h2]
    refine ⟨_, _, rfl, ?_⟩
    rw [IntKind.wrap_u64]
    omega
  · rw [if_neg h2, if_neg h2]
    have hN : IntKind.u64.wrap n = (((n % 18446744073709551616).toNat : Nat) : Int) := by rw [IntKind.wrap_u64]; omega
    have hm := bits_Mul64.eq (n % 18446744073709551616).toNat 10000 (by omega) (by decide)
    rw [show ((10000 : Nat) : Int) = 10000 from rfl] at hm
    rw [hN, hm, Option.bind_some]
    by_cases hneg : n < 0
    · rw [if_pos hneg]
      refine ⟨_, _, rfl, ?_⟩
      have hw : (n % 18446744073709551616).toNat = (n + 18446744073709551616).toNat := by omega
      rw [hw, IntKind.wrap_u64]
      unfold wrap64
      simp only []
      omega
    · rw [if_neg hneg]
      refine ⟨_, _, rfl, ?_⟩
      have hw : (n % 18446744073709551616).toNat = n.toNat := by omega
      rw [hw]
      unfold wrap64
      simp only []
      omega
theorem numbers_eq (k : Nat) (t n : Int) (s : ByteArray) (t2 n2 : Int) (s2 : ByteArray) (hn : I64 n) (hn2 : I64 n2) :
    value_numbers.f (k + 3) t n s t2 n2 s2 = some (ci (sv t n) (sv t2 n2)) := by
  obtain ⟨h, l, e, hv, hl⟩ := wide_eq t n s hn
  obtain ⟨h', l', e', hv', hl'⟩ := wide_eq t2 n2 s2 hn2
  unfold value_numbers.f
  rw [e, Option.bind_some, e', Option.bind_some, cmpi64_eq, Option.bind_some, cmpu64_eq, Option.bind_some, or_two, Option.bind_some, ci_pair hl hl', hv, hv']
theorem cls_cases (t : Int) : (cls t = 0 ∧ t = 0) ∨ (cls t = 1 ∧ (t = 1 ∨ t = 2)) ∨ (cls t = 2 ∧ t = 3) ∨ (cls t = 3 ∧ t = 4) ∨ cls t = 4 := by
  unfold cls
  by_cases h0 : t = 0
  · left; simp [h0]
  by_cases h1 : t = 1 ∨ t = 2
  · right; left; simp [h0, h1]
  by_cases h3 : t = 3
  · right; right; left; simp [h3]
  by_cases h4 : t = 4
  · right; right; right; left; simp [h4]
  · right; right; right; right; simp [h0, h1, h3, h4]
theorem ord_ne {a b : S32} (h : cls a.f0 ≠ cls b.f0) : ord a b = ci (cls a.f0) (cls b.f0) := by
  unfold ord orI; rw [if_neg (fun e => h (ci_zero.mp e))]
theorem ord_same {a b : S32} (h : cls a.f0 = cls b.f0) : ord a b = orI (ci (ky1 a) (ky1 b)) (orI (ci (ky2 a) (ky2 b)) (cs (ky3 a) (ky3 b))) := by
  unfold ord; rw [h, ci_self, zero_orI]
theorem ord_c0 {a b : S32} (h : cls a.f0 = 0) (h2 : cls b.f0 = 0) : ord a b = 0 := by
  rw [ord_same (h.trans h2.symm)]; simp [ky1, ky2, ky3, h, h2, ci_self, cs_self, zero_orI]
theorem ord_c1 {a b : S32} (h : cls a.f0 = 1) (h2 : cls b.f0 = 1) : ord a b = orI (ci (sv a.f0 a.f1) (sv b.f0 b.f1)) (ci a.f0 b.f0) := by
  rw [ord_same (h.trans h2.symm)]; simp [ky1, ky2, ky3, h, h2, ci_self, cs_self, orI_zero]
theorem ord_c2 {a b : S32} (h : cls a.f0 = 2) (h2 : cls b.f0 = 2) : ord a b = cs a.f2 b.f2 := by
  rw [ord_same (h.trans h2.symm)]; simp [ky1, ky2, ky3, h, h2, ci_self, cs_self, zero_orI]
theorem ord_c3 {a b : S32} (h : cls a.f0 = 3) (h2 : cls b.f0 = 3) : ord a b = ci a.f1 b.f1 := by
  rw [ord_same (h.trans h2.symm)]; simp [ky1, ky2, ky3, h, h2, ci_self, cs_self, orI_zero]
theorem ord_c4 {a b : S32} (h : cls a.f0 = 4) (h2 : cls b.f0 = 4) : ord a b = orI (ci a.f0 b.f0) (orI (ci a.f1 b.f1) (cs a.f2 b.f2)) := by
  rw [ord_same (h.trans h2.symm)]; simp [ky1, ky2, ky3, h, h2]
theorem value_Order.eq (k : Nat) (t n : Int) (s : ByteArray) (t2 n2 : Int) (s2 : ByteArray) (hn : I64 n) (hn2 : I64 n2) :
    value_Order.f (k + 4) t n s t2 n2 s2 = some (ord ⟨t, n, s⟩ ⟨t2, n2, s2⟩) := by
  unfold value_Order.f
  rw [class_eq, Option.bind_some, class_eq, Option.bind_some, cmpi_eq, Option.bind_some]
  by_cases hc : cls t = cls t2
  · rw [if_pos (ci_zero.mpr hc), Option.bind_some]
    rcases cls_cases t with ⟨h, rfl⟩ | ⟨h, ht⟩ | ⟨h, rfl⟩ | ⟨h, rfl⟩ | h
    · rw [if_pos h, ord_c0 h (hc ▸ h)]
    · rw [if_neg (by rw [h]; decide), if_pos h, numbers_eq (k + 1) _ _ _ _ _ _ hn hn2, Option.bind_some, cmpi_eq, Option.bind_some, or_two, Option.bind_some, ord_c1 h (hc ▸ h)]
    · rw [if_neg (by rw [h]; decide), if_neg (by rw [h]; decide), if_pos h, cmps_eq, Option.bind_some, ord_c2 h (hc ▸ h)]
    · rw [if_neg (by rw [h]; decide), if_neg (by rw [h]; decide), if_neg (by rw [h]; decide), if_pos h, cmpi64_eq, Option.bind_some, ord_c3 h (hc ▸ h)]
    · rw [if_neg (by rw [h]; decide), if_neg (by rw [h]; decide), if_neg (by rw [h]; decide), if_neg (by rw [h]; decide), cmpi_eq, Option.bind_some, cmpi64_eq, Option.bind_some, cmps_eq, Option.bind_some, or_three, Option.bind_some, ord_c4 h (hc ▸ h)]
  · rw [if_neg (fun e => hc (ci_zero.mp e)), ord_ne hc]
end Go.Proofs.YtmphmkclbfoppaaDoor.X
end
section
namespace Go.Proofs.YtmphmkclbfoppaaDoor.X
set_option linter.unusedVariables false
set_option linter.unusedSimpArgs false
open Go.RowKit Go.Proofs.YtmphmkclbfoppaaDoorW.PrintWords Go.Proofs.YtmphmkclbfoppaaDoorW.PrintLast Go.Proofs.YtmphmkclbfoppaaDoorW.PrintMore
open Num
def be : Nat → Int → List Int
  | 0, _ => []
  | k + 1, n => (n / 256 ^ k) % 256 :: be k n
def escB : List UInt8 → List Int
  | [] => []
  | b :: l => if b = 0 then 0 :: 255 :: escB l else (b.toNat : Int) :: escB l
def code (v : S32) : List Int :=
  if v.f0 = 1 ∨ v.f0 = 2 then 2 :: (be 10 (sv v.f0 v.f1 + 604462909807314587353088) ++ [v.f0 % 256])
  else if v.f0 = 3 then 3 :: (escB v.f2.data.toList ++ [0, 0])
  else if v.f0 = 4 then [4, v.f1 % 256] else [1]
theorem be_mod : ∀ (k : Nat) (n m : Int) (j : Nat), be j (n * 256 ^ (k + j) + m) = be j m
  | k, n, m, 0 => rfl
  | k, n, m, j + 1 => by
    have e : n * 256 ^ (k + (j + 1)) = n * 256 ^ (k + 1 + j) := by rw [Nat.add_comm j 1, ← Nat.add_assoc]
    have e2 : n * 256 ^ (k + (j + 1)) = (n * 256 ^ k * 256) * 256 ^ j := by rw [Int.pow_add, Int.pow_add]; simp only [Int.pow_succ, Int.pow_zero, Int.one_mul, Int.mul_assoc]; rw [Int.mul_comm (256 ^ j) 256]
    show (((n * 256 ^ (k + (j + 1)) + m) / 256 ^ j) % 256 :: be j (n * 256 ^ (k + (j + 1)) + m)) = (m / 256 ^ j) % 256 :: be j m
    have h1 : ((n * 256 ^ (k + (j + 1)) + m) / 256 ^ j) % 256 = (m / 256 ^ j) % 256 := by
      rw [e2, Int.add_comm, Int.add_mul_ediv_right _ _ (Int.ne_of_gt (Int.pow_pos (by decide)))]
      omega
    rw [h1, e, be_mod (k + 1) n m j]
structure Can (v : S32) : Prop where
  chk : chk v.f0 v.f1 v.f2 = 0
  num : I64 v.f1
theorem Can.typ {v : S32} (h : Can v) : (v.f0 = 0) ∨ (v.f0 = 1 ∨ v.f0 = 2) ∨ (v.f0 = 3 ∧ v.f2.size ≤ 4096) ∨ (v.f0 = 4 ∧ (v.f1 = 0 ∨ v.f1 = 1)) := by
  have h1 := h.chk
  unfold X.chk at h1
  by_cases h0 : v.f0 = 0 ∨ v.f0 = 1 ∨ v.f0 = 2
  · omega
  · rw [if_neg h0] at h1
    by_cases h4 : v.f0 = 4
    · rw [if_pos h4] at h1
      right; right; right
      refine ⟨h4, ?_⟩
      by_cases hn : v.f1 = 0 ∨ v.f1 = 1
      · exact hn
      · rw [if_neg hn] at h1; omega
    · rw [if_neg h4] at h1
      by_cases h3 : v.f0 = 3
      · rw [if_pos h3] at h1
        right; right; left
        refine ⟨h3, ?_⟩
        by_cases hs : (v.f2.size : Int) > 4096
        · rw [if_pos hs] at h1; omega
        · omega
      · rw [if_neg h3] at h1; omega
theorem code_num {v : S32} (h : v.f0 = 1 ∨ v.f0 = 2) : code v = 2 :: (be 10 (sv v.f0 v.f1 + 604462909807314587353088) ++ [v.f0 % 256]) := by unfold code; rw [if_pos h]
theorem code_text {v : S32} (h : v.f0 = 3) : code v = 3 :: (escB v.f2.data.toList ++ [0, 0]) := by unfold code; rw [if_neg (by omega), if_pos h]
theorem code_bool {v : S32} (h : v.f0 = 4) : code v = [4, v.f1 % 256] := by unfold code; rw [if_neg (by omega), if_neg (by omega), if_pos h]
theorem code_null {v : S32} (h : v.f0 = 0) : code v = [1] := by unfold code; rw [if_neg (by omega), if_neg (by omega), if_neg (by omega)]
end Go.Proofs.YtmphmkclbfoppaaDoor.X
end
section
namespace Go.Proofs.YtmphmkclbfoppaaDoor.X
set_option linter.unusedVariables false
set_option linter.unusedSimpArgs false
open Go.RowKit Go.Proofs.YtmphmkclbfoppaaDoorW.PrintWords Go.Proofs.YtmphmkclbfoppaaDoorW.PrintLast Go.Proofs.YtmphmkclbfoppaaDoorW.PrintMore
open Num
def escU : List UInt8 → List UInt8
  | [] => []
  | b :: l => if b = 0 then 0 :: 255 :: escU l else b :: escU l
theorem escB_eq : ∀ l, escB l = (escU l).map fun b => (b.toNat : Int)
  | [] => rfl
  | b :: l => by
    unfold escB escU
    split
    · rw [escB_eq l]; rfl
    · rw [escB_eq l]; rfl
theorem idx_cons {b : UInt8} (hb : b ≠ 0) (l : List UInt8) : Lib.index (b :: l) [0] = if Lib.index l [0] == -1 then -1 else Lib.index l [0] + 1 := by
  conv => lhs; unfold Lib.index
  rw [if_neg]
  simp only [List.isPrefixOf]
  intro h
  simp at h
  exact hb h.symm
theorem idx_zero (l : List UInt8) : Lib.index (0 :: l) [0] = 0 := by
  unfold Lib.index
  rw [if_pos (by simp [List.isPrefixOf])]
theorem count_zero (l : List UInt8) : Lib.count (0 :: l) [0] = 1 + Lib.count l [0] := Lib.count_hit (i := 0) (by simp) (idx_zero l)
theorem count_cons {b : UInt8} (hb : b ≠ 0) (l : List UInt8) : Lib.count (b :: l) [0] = Lib.count l [0] := by
  have h := idx_cons hb l
  by_cases hm : Lib.index l [0] = -1
  · rw [hm] at h
    rw [Lib.count_miss (by simpa using h), Lib.count_miss hm]
  · have hge := Lib.index_ge l [0]
    obtain ⟨i, hi⟩ : ∃ i : Nat, Lib.index l [0] = i := ⟨(Lib.index l [0]).toNat, by omega⟩
    rw [if_neg (by simpa using hm), hi] at h
    rw [Lib.count_hit (i := i + 1) (by simp) (by rw [h]; rfl), Lib.count_hit (i := i) (by simp) hi]
    rfl
theorem repK_esc : ∀ (l : List UInt8) (k : Nat), Lib.count l [0] ≤ k → Lib.replaceK [0] [0, 255] k l = escU l
  | [], 0, _ => rfl
  | [], k + 1, _ => by unfold Lib.replaceK; rw [if_pos (by decide)]; rfl
  | b :: l, k, h => by
    by_cases hb : b = 0
    · subst hb
      rw [count_zero] at h
      obtain ⟨k, rfl⟩ : ∃ m, k = m + 1 := ⟨k - 1, by omega⟩
      rw [Lib.replaceK_hit [0] [0, 255] k (0 :: l) 0 (idx_zero l)]
      show 0 :: 255 :: Lib.replaceK [0] [0, 255] k l = escU (0 :: l)
      rw [repK_esc l k (by omega)]
      rfl
    · rw [count_cons hb] at h
      have ih := repK_esc l k h
      have hx := idx_cons hb l
      unfold escU
      rw [if_neg hb, ← ih]
      cases k with
      | zero => rfl
      | succ k =>
        by_cases hm : Lib.index l [0] = -1
        · rw [hm] at hx
          conv => lhs; unfold Lib.replaceK
          conv => rhs; unfold Lib.replaceK
          rw [if_pos (by rw [hx]; rfl), if_pos (by rw [hm]; rfl)]
        · have hge := Lib.index_ge l [0]
          obtain ⟨i, hi⟩ : ∃ i : Nat, Lib.index l [0] = i := ⟨(Lib.index l [0]).toNat, by omega⟩
          rw [if_neg (by simpa using hm), hi] at hx
          rw [Lib.replaceK_hit [0] [0, 255] k (b :: l) (i + 1) (by rw [hx]; rfl), Lib.replaceK_hit [0] [0, 255] k l i hi]
          rfl
theorem rep_esc (l : List UInt8) : Lib.replaceAll l [0] [0, 255] = escU l := by
  unfold Lib.replaceAll Lib.replace
  rw [if_neg (by decide)]
  apply repK_esc
  unfold Lib.replaceNum
  rw [if_pos (Or.inl (by decide))]
  exact Nat.le_refl _
theorem escU_len : ∀ l, (escU l).length ≤ 2 * l.length
  | [] => Nat.le_refl _
  | b :: l => by
    have := escU_len l
    unfold escU
    split <;> simp <;> omega
theorem reps_eq (s : ByteArray) (hs : s.size ≤ 4096) : ∃ t, strings_ReplaceAll.f s (⟨#[0]⟩ : ByteArray) (⟨#[0, 255]⟩ : ByteArray) = some t ∧ bytesOf t = escB s.data.toList ∧ t.size ≤ 8192 := by
  have hl : s.data.toList.length = s.size := by simp
  have hc := Lib.count_le s.data.toList [0]
  refine ⟨⟨(escU s.data.toList).toArray⟩, ?_, ?_, ?_⟩
  · unfold strings_ReplaceAll.f
    rw [if_pos]
    · show some (⟨(Lib.replaceAll s.data.toList [0] [0, 255]).toArray⟩ : ByteArray) = _
      rw [rep_esc]
    · refine ⟨by omega, by decide, ?_⟩
      show s.size + Lib.count s.data.toList [0] * 2 ≤ 140737488355328
      omega
  · unfold bytesOf
    rw [escB_eq]
  · show (escU s.data.toList).toArray.size ≤ 8192
    have := escU_len s.data.toList
    rw [List.size_toArray]
    omega
theorem parts_eq (k : Nat) (t n : Int) (s : ByteArray) (ht : t = 1 ∨ t = 2) (hn : I64 n) :
    ∃ hi lo, rowcode_parts.f (k + 1) t n s = some (hi, lo) ∧ hi * 18446744073709551616 + lo = sv t n + 604462909807314587353088 ∧ 0 ≤ hi ∧ hi < 65536 ∧ 0 ≤ lo ∧ lo < 18446744073709551616 := by
  obtain ⟨hn0, hn1⟩ := hn
  unfold rowcode_parts.f sv
  by_cases h1 : t = 1
  · have hm := bits_Mul64.eq (n % 18446744073709551616).toNat 10000 (by omega) (by decide)
    rw [show ((10000 : Nat) : Int) = 10000 from rfl] at hm
    have hN : IntKind.u64.wrap n = (((n % 18446744073709551616).toNat : Nat) : Int) := by rw [IntKind.wrap_u64]; omega
    rw [if_neg (show ¬ t = 2 by omega)]
    by_cases hneg : n < 0
    · rw [if_pos hneg, rowcode_parts.j0, if_pos h1, hN, hm, Option.bind_some, if_pos hneg]
      have hw : (n % 18446744073709551616).toNat = (n + 18446744073709551616).toNat := by omega
      refine ⟨_, _, rfl, ?_⟩
      rw [hw, IntKind.wrap_u16, IntKind.wrap_u64]
      unfold wrap64
      simp only []
      omega
    · rw [if_neg hneg, rowcode_parts.j0, if_pos h1, hN, hm, Option.bind_some, if_neg hneg]
      have hw : (n % 18446744073709551616).toNat = n.toNat := by omega
      refine ⟨_, _, rfl, ?_⟩
      rw [hw, IntKind.wrap_u16]
      unfold wrap64
      simp only []
      omega
  · have h2 : t = 2 := by omega
    rw [if_pos h2]
    by_cases hneg : n < 0
    · rw [if_pos hneg, rowcode_parts.j0, if_neg h1]
      refine ⟨_, _, rfl, ?_⟩
      rw [IntKind.wrap_u16, IntKind.wrap_u64]
      unfold wrap64
      omega
    · rw [if_neg hneg, rowcode_parts.j0, if_neg h1]
      refine ⟨_, _, rfl, ?_⟩
      rw [IntKind.wrap_u16, IntKind.wrap_u64]
      unfold wrap64
      omega
theorem shr_be (low : Int) (j : Nat) (hj : j ≤ 7) : shr .u64 low ((8 * (j : Int))) = low / 256 ^ j := by
  unfold shr
  have es : min ((8 * (j : Int)).toNat) IntKind.u64.bits = 8 * j := by simp [IntKind.bits]; omega
  rw [es, Int.pow_mul]
  rfl
theorem app_loop (low : Int) (t n : Int) (s : ByteArray) : ∀ (j : Nat), j ≤ 8 → ∀ (x : List Int), x.length + j < 140737488355328 → ∀ k,
    rowcode_appended.l0 (k + j + 1) x low (8 * (j : Int) - 8) t n s = some (x ++ (be j low ++ [t % 256]))
  | 0, _, x, hl, k => by
    rw [rowcode_appended.l0, if_neg (by omega), if_pos (by omega)]; rfl
  | j + 1, hj, x, hl, k => by
    rw [show k + (j + 1) + 1 = (k + j + 1) + 1 by omega, rowcode_appended.l0]
    rw [show (8 * ((j + 1 : Nat) : Int) - 8) = 8 * (j : Int) by omega]
    rw [if_pos (by omega), if_pos (by omega), if_pos (by omega), shr_be low j (by omega)]
    rw [show wrap64 (8 * (j : Int) - 8) = 8 * (j : Int) - 8 by unfold wrap64; omega]
    rw [app_loop low t n s j (by omega) _ (by rw [List.length_append, List.length_singleton]; omega) k, List.append_assoc]
    rfl
theorem be_len : ∀ (k : Nat) (n : Int), (be k n).length = k
  | 0, _ => rfl
  | k + 1, n => by show (be k n).length + 1 = k + 1; rw [be_len k n]
theorem be_ten (hi lo : Int) (h0 : 0 ≤ hi) (h1 : hi < 65536) (h2 : 0 ≤ lo) (h3 : lo < 18446744073709551616) :
    be 10 (hi * 18446744073709551616 + lo) = (hi / 256) % 256 :: hi % 256 :: be 8 lo := by
  show ((hi * 18446744073709551616 + lo) / 256 ^ 9) % 256 :: ((hi * 18446744073709551616 + lo) / 256 ^ 8) % 256 :: be 8 (hi * 18446744073709551616 + lo) = _
  have e := be_mod 0 hi lo 8
  rw [Nat.zero_add, show (256 : Int) ^ 8 = 18446744073709551616 by decide] at e
  rw [e, show (256 : Int) ^ 9 = 4722366482869645213696 by decide, show (256 : Int) ^ 8 = 18446744073709551616 by decide]
  have a1 : ((hi * 18446744073709551616 + lo) / 4722366482869645213696) % 256 = (hi / 256) % 256 := by omega
  have a2 : ((hi * 18446744073709551616 + lo) / 18446744073709551616) % 256 = hi % 256 := by omega
  rw [a1, a2]
theorem escB_len (l : List UInt8) : (escB l).length ≤ 2 * l.length := by
  rw [escB_eq, List.length_map]
  exact escU_len l
theorem code_len {v : S32} (h : Can v) : (code v).length ≤ 8195 := by
  rcases h.typ with e | e | e | e
  · rw [code_null e]; decide
  · rw [code_num e]
    simp [be_len]
  · rw [code_text e.1]
    have := escB_len v.f2.data.toList
    have hl : v.f2.data.toList.length = v.f2.size := by simp
    simp only [List.length_cons, List.length_append, List.length_nil]
    omega
  · rw [code_bool e.1]; simp
theorem app_eq {v : S32} (h : Can v) (k : Nat) (x : List Int) (hx : x.length + 8200 < 140737488355328) :
    rowcode_appended.f (k + 10) x v.f0 v.f1 v.f2 = some (x ++ code v) := by
  unfold rowcode_appended.f
  have hj : (if v.f0 = 1 then (rowcode_appended.j0 (k + 10) x v.f0 (v.f0 == 1) v.f0 v.f1 v.f2) else (rowcode_appended.j0 (k + 10) x v.f0 (v.f0 == 2) v.f0 v.f1 v.f2)) = rowcode_appended.j0 (k + 10) x v.f0 (decide (v.f0 = 1 ∨ v.f0 = 2)) v.f0 v.f1 v.f2 := by
    by_cases h1 : v.f0 = 1
    · rw [if_pos h1, h1]; rfl
    · rw [if_neg h1]
      congr 1
      rw [Bool.eq_iff_iff]
      simp [h1]
  rw [hj, rowcode_appended.j0]
  rcases h.typ with e | e | e | e
  · rw [code_null e, decide_eq_false (show ¬ (v.f0 = 1 ∨ v.f0 = 2) by omega), if_neg (by decide), if_neg (by omega), if_neg (by omega), if_pos (by omega)]
  · obtain ⟨hi, lo, hp, hs, b0, b1, b2, b3⟩ := parts_eq (k + 8) v.f0 v.f1 v.f2 e h.num
    rw [code_num e, decide_eq_true e, if_pos rfl, hp, Option.bind_some, Option.bind_some, if_pos (by simp; omega), ← hs, be_ten hi lo b0 b1 b2 b3]
    have hl := app_loop lo v.f0 v.f1 v.f2 8 (Nat.le_refl _) (x ++ [2, hi / 256 % 256, hi % 256]) (by simp; omega) k
    rw [show (8 * ((8 : Nat) : Int) - 8) = 56 by decide] at hl
    rw [hl]
    simp
  · obtain ⟨t, ht, hb, hsz⟩ := reps_eq v.f2 e.2
    have hbl : (bytesOf t).length = t.size := bytesOf_length t
    rw [code_text e.1, decide_eq_false (show ¬ (v.f0 = 1 ∨ v.f0 = 2) by omega), if_neg (by decide), if_pos e.1, if_pos (by omega), Option.bind_some, ht, Option.bind_some, if_pos (by simp; omega), Option.bind_some, Option.bind_some,
      if_pos (by simp only [List.length_append, List.length_cons, List.length_nil]; omega), hb]
    simp
  · rw [code_bool e.1, decide_eq_false (show ¬ (v.f0 = 1 ∨ v.f0 = 2) by omega), if_neg (by decide), if_neg (show ¬ v.f0 = 3 by omega), if_pos e.1, Option.bind_some, if_pos (by simp; omega)]
end Go.Proofs.YtmphmkclbfoppaaDoor.X
end
section
namespace Go.Proofs.YtmphmkclbfoppaaDoor.X
set_option linter.unusedVariables false
set_option linter.unusedSimpArgs false
open Go.RowKit Go.Proofs.YtmphmkclbfoppaaDoorW.PrintWords Go.Proofs.YtmphmkclbfoppaaDoorW.PrintLast Go.Proofs.YtmphmkclbfoppaaDoorW.PrintMore
open Num
theorem getD_drop {r : List S32} {i : Nat} (hi : i < r.length) : r.drop i = rd_T32 r (i : Int) :: r.drop (i + 1) := by
  unfold rd_T32
  rw [List.drop_eq_getElem_cons hi, List.getD_eq_getElem?_getD, Int.toNat_natCast, List.getElem?_eq_getElem hi]
  rfl
theorem mem_rd {r : List S32} {i : Nat} (hi : i < r.length) : rd_T32 r (i : Int) ∈ r := by
  unfold rd_T32
  rw [List.getD_eq_getElem?_getD, Int.toNat_natCast, List.getElem?_eq_getElem hi]
  exact List.getElem_mem hi
def valOut (v : S32) : List Int × Int := if chk v.f0 v.f1 v.f2 = 0 then (code v, 0) else ([], chk v.f0 v.f1 v.f2)
theorem val_eq (v : S32) (hn : I64 v.f1) (k : Nat) (hk : 10 ≤ k) : rowcode_Value.f k v.f0 v.f1 v.f2 = some (valOut v) := by
  obtain ⟨k, rfl⟩ : ∃ m, k = m + 10 := ⟨k - 10, by omega⟩
  unfold rowcode_Value.f valOut
  rw [show k + 10 = (k + 9) + 1 by omega, value_Check.eq, Option.bind_some]
  by_cases hc : chk v.f0 v.f1 v.f2 = 0
  · rw [if_pos hc, if_pos hc, app_eq ⟨hc, hn⟩ k [] (by simp), Option.bind_some]; rfl
  · rw [if_neg hc, if_neg hc]
end Go.Proofs.YtmphmkclbfoppaaDoor.X
end
section
namespace Go.Proofs.YtmphmkclbfoppaaDoor.X
set_option linter.unusedVariables false
set_option linter.unusedSimpArgs false
open Go.RowKit Go.Proofs.YtmphmkclbfoppaaDoorW.PrintWords Go.Proofs.YtmphmkclbfoppaaDoorW.PrintLast Go.Proofs.YtmphmkclbfoppaaDoorW.PrintMore
open Num
theorem rd_getD (l : List Int) (i : Nat) : rd l (i : Int) = l.getD i 0 := by unfold rd; rw [Int.toNat_natCast]
end Go.Proofs.YtmphmkclbfoppaaDoor.X
end
section
namespace Go.Proofs.YtmphmkclbfoppaaDoor.X
set_option linter.unusedVariables false
set_option linter.unusedSimpArgs false
open Go.RowKit Go.Proofs.YtmphmkclbfoppaaDoorW.PrintWords Go.Proofs.YtmphmkclbfoppaaDoorW.PrintLast Go.Proofs.YtmphmkclbfoppaaDoorW.PrintMore
open Num
def hstep (a x : Int) : Int := IntKind.u64.wrap ((Go.bits .xor .u64 a (IntKind.u64.wrap x)) * 1099511628211)
def hs (a : Int) (l : List Int) : Int := l.foldl hstep a
theorem rd_cons {l : List Int} {i : Nat} (hi : i < l.length) : l.drop i = rd l (i : Int) :: l.drop (i + 1) := by
  rw [rd_getD, List.drop_eq_getElem_cons hi, List.getD_eq_getElem?_getD, List.getElem?_eq_getElem hi]
  rfl
theorem hs_loop (l : List Int) (hm : l.length ≤ 9223372036854775807) : ∀ (d i : Nat), i + d = l.length → ∀ (a : Int) (k : Nat), d + 1 ≤ k →
    rowcode_hash.l0 k a l (l.length : Int) (i : Int) = some (hs a (l.drop i)) ∧ lockstepref02_Hash.l0 k l a (i : Int) = some (hs a (l.drop i))
  | 0, i, h, a, k, hk => by
    obtain ⟨k, rfl⟩ : ∃ m, k = m + 1 := ⟨k - 1, by omega⟩
    rw [rowcode_hash.l0, lockstepref02_Hash.l0, if_neg (by omega), if_neg (by omega), List.drop_eq_nil_of_le (by omega)]
    exact ⟨rfl, rfl⟩
  | d + 1, i, h, a, k, hk => by
    obtain ⟨k, rfl⟩ : ∃ m, k = m + 1 := ⟨k - 1, by omega⟩
    rw [rowcode_hash.l0, lockstepref02_Hash.l0, if_pos (by omega), if_pos (by omega), if_pos (by omega), if_pos (by omega), if_pos (by omega), show wrap64 ((i : Int) + 1) = ((i + 1 : Nat) : Int) by unfold wrap64; omega, rd_cons (show i < l.length by omega)]
    exact hs_loop l hm d (i + 1) (by omega) _ k (by omega)
theorem Hash_hs (l : List Int) (hm : l.length ≤ 9223372036854775807) (k : Nat) (hk : l.length + 1 ≤ k) : rowcode_Hash.f k l = some (hs 14695981039346656037 l) ∧ lockstepref02_Hash.f k l = some (hs 14695981039346656037 l) := by
  obtain ⟨h1, h2⟩ := hs_loop l hm l.length 0 (by omega) 14695981039346656037 k hk
  rw [List.drop_zero] at h1 h2
  refine ⟨?_, h2⟩
  unfold rowcode_Hash.f rowcode_hash.f
  rw [show ((0 : Int)) = ((0 : Nat) : Int) from rfl, h1, Option.bind_some]
def mix (t : Int) : Int := (ring_mixed.f t).getD 0
theorem mix_eq (t : Int) : ring_mixed.f t = some (mix t) := rfl
def wt (b : List Int) (p : Int) : Int := mix (hs 14695981039346656037 (b ++ [p % 256]))
theorem weight_eq (b : List Int) (hb : b.length < 140737488355328) (p : Int) (k : Nat) (hk : b.length + 2 ≤ k) : ring_weight.f k b p = some (wt b p) := by
  unfold ring_weight.f wt
  rw [if_pos hb, (Hash_hs (b ++ [p % 256]) (by rw [List.length_append]; simp; omega) k (by rw [List.length_append]; simp; omega)).1, Option.bind_some, mix_eq, Option.bind_some]
def best (w : Nat → Int) : Nat → Nat × Int
  | 0 => (0, 0)
  | i + 1 => if i = 0 then (0, w 0) else if w i > (best w i).2 then (i, w i) else best w i
theorem best_spec (w : Nat → Int) : ∀ n, 1 ≤ n → (best w n).1 < n ∧ (best w n).2 = w (best w n).1 ∧ (∀ j, j < n → w j ≤ (best w n).2) ∧ (∀ j, j < (best w n).1 → w j < (best w n).2)
  | 0, h => absurd h (by decide)
  | 1, _ => by
    refine ⟨Nat.zero_lt_one, rfl, fun j hj => ?_, fun j hj => absurd hj (Nat.not_lt_zero _)⟩
    obtain rfl : j = 0 := by omega
    exact Int.le_refl _
  | n + 2, _ => by
    obtain ⟨h1, h2, h3, h4⟩ := best_spec w (n + 1) (by omega)
    rw [best, if_neg (by omega)]
    by_cases hc : w (n + 1) > (best w (n + 1)).2
    · rw [if_pos hc]
      refine ⟨by show n + 1 < n + 2; omega, rfl, fun j hj => ?_, fun j hj => ?_⟩
      · by_cases hjn : j = n + 1
        · rw [hjn]; exact Int.le_refl _
        · have := h3 j (by omega); show w j ≤ w (n + 1); omega
      · have hj' : j < n + 1 := hj
        have := h3 j hj'
        show w j < w (n + 1); omega
    · rw [if_neg hc]
      refine ⟨by omega, h2, fun j hj => ?_, h4⟩
      by_cases hjn : j = n + 1
      · rw [hjn]; omega
      · exact h3 j (by omega)
theorem best_less (w : Nat → Int) {a b : Nat} (ha : 1 ≤ a) (hab : a ≤ b) (h : (best w b).1 < a) : (best w a).1 = (best w b).1 := by
  obtain ⟨a1, a2, a3, a4⟩ := best_spec w a ha
  obtain ⟨b1, b2, b3, b4⟩ := best_spec w b (by omega)
  generalize best w a = x at *
  generalize best w b = y at *
  obtain ⟨p, m⟩ := x
  obtain ⟨q, n⟩ := y
  simp only [] at *
  have e1 := a3 q h
  have e2 := b3 p (by omega)
  rcases Nat.lt_trichotomy p q with hlt | heq | hgt
  · have := b4 p hlt; omega
  · exact heq
  · have := a4 q hgt; omega
def ofp (v : S32) (n : Nat) : Nat := if v.f0 = 0 then 0 else (best (fun j => wt (code v) (j : Int)) n).1
theorem ofp_lt (v : S32) {n : Nat} (hn : 1 ≤ n) : ofp v n < n := by
  unfold ofp
  split
  · omega
  · exact (best_spec _ n hn).1
theorem ofp_less (v : S32) {a b : Nat} (ha : 1 ≤ a) (hab : a ≤ b) (h : ofp v b < a) : ofp v a = ofp v b := by
  unfold ofp at *
  split
  · rfl
  · rename_i h0
    rw [if_neg h0] at h
    exact best_less _ ha hab h
theorem of_loop (b : List Int) (hb : b.length ≤ 8195) (n : Nat) (hn : n ≤ 64) : ∀ (d i : Nat), i + d = n → ∀ k, b.length + d + 4 ≤ k →
    ring_of.l0 k b ((best (fun j => wt b (j : Int)) i).1 : Int) (best (fun j => wt b (j : Int)) i).2 (n : Int) (i : Int) = some (((best (fun j => wt b (j : Int)) n).1 : Int), 0)
  | 0, i, h, k, hk => by
    obtain ⟨k, rfl⟩ : ∃ m, k = m + 1 := ⟨k - 1, by omega⟩
    obtain rfl : i = n := by omega
    rw [ring_of.l0, if_neg (by omega)]
  | d + 1, i, h, k, hk => by
    obtain ⟨k, rfl⟩ : ∃ m, k = m + 1 := ⟨k - 1, by omega⟩
    have ih := of_loop b hb n hn d (i + 1) (by omega) k (by omega)
    rw [ring_of.l0, if_pos (by omega), if_pos (by omega), if_pos (by omega), Int.toNat_natCast, List.take_length, weight_eq b (by omega) _ k (by omega), Option.bind_some, show wrap64 ((i : Int) + 1) = ((i + 1 : Nat) : Int) by unfold wrap64; omega]
    rw [best] at ih
    by_cases h0 : i = 0
    · subst h0
      rw [if_pos rfl] at ih
      rw [if_pos (by rfl)]
      exact ih
    · rw [if_neg h0] at ih
      rw [if_neg (by omega)]
      by_cases hc : wt b (i : Int) > (best (fun j => wt b (j : Int)) i).2
      · rw [if_pos hc] at ih
        rw [if_pos hc]
        exact ih
      · rw [if_neg hc] at ih
        rw [if_neg hc]
        exact ih
theorem of_eq (v : S32) (hv : I64 v.f1) (n : Nat) (hn : n ≤ 64) (k : Nat) (hk : 8300 ≤ k) : ring_of.f k v.f0 v.f1 v.f2 (n : Int) = some (if chk v.f0 v.f1 v.f2 = 0 then ((ofp v n : Int), 0) else (0, chk v.f0 v.f1 v.f2)) := by
  obtain ⟨k, rfl⟩ : ∃ m, k = m + 1 := ⟨k - 1, by omega⟩
  unfold ring_of.f
  rw [val_eq v hv (k + 1) (by omega), Option.bind_some]
  unfold valOut
  by_cases hc : chk v.f0 v.f1 v.f2 = 0
  · rw [if_pos hc, if_pos hc, if_pos rfl, ring_of.j0]
    unfold ofp
    by_cases h0 : v.f0 = 0
    · rw [if_pos (by rw [h0]; rfl), if_pos h0]; rfl
    · rw [if_neg (by simpa using h0), if_neg h0]
      have hl := code_len (v := v) ⟨hc, hv⟩
      exact of_loop (code v) hl n hn n 0 (by omega) k (by omega)
  · rw [if_neg hc, if_neg hc]
    rw [if_neg hc, ring_of.j0, if_pos rfl]
def okp (n : Int) : Bool := decide (1 ≤ n ∧ n ≤ 64)
theorem some_eq (n : Int) : ring_some.f n = some (okp n) := by
  unfold ring_some.f okp
  by_cases h : n ≥ 1
  · rw [if_pos h]
    congr 1
    rw [decide_eq_decide]
    omega
  · rw [if_neg h, decide_eq_false (by omega)]
theorem okp_nat {n : Int} (h : okp n = true) : ∃ m : Nat, n = (m : Int) ∧ 1 ≤ m ∧ m ≤ 64 := by
  have := of_decide_eq_true h
  exact ⟨n.toNat, by omega, by omega, by omega⟩
def lErr : List S32 → Int
  | [] => 0
  | v :: r => if chk v.f0 v.f1 v.f2 = 0 then lErr r else chk v.f0 v.f1 v.f2
def cnt (c : List Int) : List Nat → List Int
  | [] => c
  | p :: ps => cnt (c.set p (wrap64 (c.getD p 0 + 1))) ps
def spreadOut (l : List S32) (n : Int) : List Int × Int := if okp n = true then (if l.length > 65536 then ([], 2) else if lErr l = 0 then (cnt (List.replicate n.toNat 0) (l.map fun v => ofp v n.toNat), 0) else ([], lErr l)) else ([], 1)
theorem Spread_loop (l : List S32) (hl : l.length ≤ 65536) (hv : ∀ v ∈ l, I64 v.f1) (n : Nat) (h1 : 1 ≤ n) (hn : n ≤ 64) : ∀ (d i : Nat), i + d = l.length → ∀ (c : List Int) (k : Nat), c.length = n → d + 8301 ≤ k →
    ring_Spread.l0 k (n : Int) c l (l.length : Int) (i : Int) = some (if lErr (l.drop i) = 0 then (cnt c ((l.drop i).map fun v => ofp v n), 0) else ([], lErr (l.drop i)))
  | 0, i, h, c, k, hc, hk => by
    obtain ⟨k, rfl⟩ : ∃ m, k = m + 1 := ⟨k - 1, by omega⟩
    rw [ring_Spread.l0, if_neg (by omega), List.drop_eq_nil_of_le (by omega)]
    rfl
  | d + 1, i, h, c, k, hc, hk => by
    obtain ⟨k, rfl⟩ : ∃ m, k = m + 1 := ⟨k - 1, by omega⟩
    have hi : i < l.length := by omega
    have hm := mem_rd hi
    rw [ring_Spread.l0, if_pos (by omega), if_pos (by omega), if_pos (by omega), getD_drop hi]
    generalize rd_T32 l (i : Int) = v at *
    rw [of_eq v (hv v hm) n hn k (by omega), Option.bind_some, List.map_cons]
    unfold lErr
    by_cases he : chk v.f0 v.f1 v.f2 = 0
    · have hlt := ofp_lt v h1
      rw [if_pos he, if_pos he, if_pos rfl, if_pos (by show (0 : Int) ≤ (ofp v n : Int); omega), if_pos (by show (ofp v n : Int) < _; omega), show wrap64 ((i : Int) + 1) = ((i + 1 : Nat) : Int) by unfold wrap64; omega]
      show ring_Spread.l0 k (n : Int) (c.set (((ofp v n : Nat) : Int)).toNat (wrap64 (rd c ((ofp v n : Nat) : Int) + 1))) l (l.length : Int) ((i + 1 : Nat) : Int) = _
      rw [Int.toNat_natCast, rd_getD, Spread_loop l hl hv n h1 hn d (i + 1) (by omega) _ k (by rw [List.length_set]; exact hc) (by omega)]
      rfl
    · rw [if_neg he, if_neg he, if_neg he]
      rw [if_neg he]
theorem Spread_eq (l : List S32) (hv : ∀ v ∈ l, I64 v.f1) (n : Int) (k : Nat) (hk : 80000 ≤ k) : ring_Spread.f k l n = some (spreadOut l n) := by
  unfold ring_Spread.f spreadOut
  rw [some_eq, Option.bind_some]
  by_cases h : okp n = true
  · obtain ⟨m, rfl, m1, m2⟩ := okp_nat h
    rw [if_pos h, if_pos h]
    by_cases hl : l.length > 65536
    · rw [if_pos (by omega), if_pos hl]
    · rw [if_neg (by omega), if_neg hl, if_pos (by omega), if_pos (by omega), Int.toNat_natCast]
      have := Spread_loop l (by omega) hv m m1 m2 l.length 0 (by omega) (List.replicate m 0) k (by simp) (by omega)
      rw [List.drop_zero] at this
      exact this
  · rw [if_neg h, if_neg h]
def mv (a b : Nat) : Nat → List S32 → List S29
  | _, [] => []
  | i, v :: l => if ofp v a = ofp v b then mv a b (i + 1) l else ⟨(i : Int), (ofp v a : Int), (ofp v b : Int)⟩ :: mv a b (i + 1) l
def movesOut (l : List S32) (a b : Int) : List S29 × Int := if okp a = true ∧ okp b = true then (if l.length > 65536 then ([], 2) else if lErr l = 0 then (mv a.toNat b.toNat 0 l, 0) else ([], lErr l)) else ([], 1)
theorem Moves_loop (l : List S32) (hl : l.length ≤ 65536) (hv : ∀ v ∈ l, I64 v.f1) (a b : Nat) (a1 : 1 ≤ a) (a2 : a ≤ 64) (b1 : 1 ≤ b) (b2 : b ≤ 64) : ∀ (d i : Nat), i + d = l.length → ∀ (acc : List S29) (k : Nat), acc.length ≤ i → d + 8301 ≤ k →
    ring_Moves.l0 k (a : Int) (b : Int) acc l (l.length : Int) (i : Int) = some (if lErr (l.drop i) = 0 then (acc ++ mv a b i (l.drop i), 0) else ([], lErr (l.drop i)))
  | 0, i, h, acc, k, ha, hk => by
    obtain ⟨k, rfl⟩ : ∃ m, k = m + 1 := ⟨k - 1, by omega⟩
    rw [ring_Moves.l0, if_neg (by omega), List.drop_eq_nil_of_le (by omega)]
    unfold mv lErr
    rw [if_pos rfl, List.append_nil]
  | d + 1, i, h, acc, k, ha, hk => by
    obtain ⟨k, rfl⟩ : ∃ m, k = m + 1 := ⟨k - 1, by omega⟩
    have hi : i < l.length := by omega
    have hm := mem_rd hi
    rw [ring_Moves.l0, if_pos (by omega), if_pos (by omega), if_pos (by omega), getD_drop hi]
    generalize rd_T32 l (i : Int) = v at *
    rw [of_eq v (hv v hm) a a2 k (by omega), Option.bind_some, of_eq v (hv v hm) b b2 k (by omega)]
    unfold lErr mv
    by_cases he : chk v.f0 v.f1 v.f2 = 0
    · rw [if_pos he, if_pos he, if_pos he, if_pos rfl, Option.bind_some, show wrap64 ((i : Int) + 1) = ((i + 1 : Nat) : Int) by unfold wrap64; omega]
      by_cases hq : ofp v a = ofp v b
      · rw [if_pos (by show (ofp v a : Int) = (ofp v b : Int); omega), if_pos hq]
        exact Moves_loop l hl hv a b a1 a2 b1 b2 d (i + 1) (by omega) acc k (by omega) (by omega)
      · rw [if_neg (by show ¬ (ofp v a : Int) = (ofp v b : Int); omega), if_neg hq, if_pos (by omega)]
        have := Moves_loop l hl hv a b a1 a2 b1 b2 d (i + 1) (by omega) (acc ++ [⟨(i : Int), (ofp v a : Int), (ofp v b : Int)⟩]) k (by rw [List.length_append]; simp; omega) (by omega)
        rw [List.append_assoc] at this
        exact this
    · rw [if_neg he, if_neg he, if_neg he]
      rw [if_neg he]
theorem Moves_eq (l : List S32) (hv : ∀ v ∈ l, I64 v.f1) (a b : Int) (k : Nat) (hk : 80000 ≤ k) : ring_Moves.f k l a b = some (movesOut l a b) := by
  obtain ⟨k, rfl⟩ : ∃ m, k = m + 1 := ⟨k - 1, by omega⟩
  unfold ring_Moves.f movesOut
  rw [some_eq, Option.bind_some]
  by_cases h : okp a = true
  · rw [if_pos h, some_eq, Option.bind_some, ring_Moves.j0]
    by_cases h' : okp b = true
    · rw [if_pos (show okp a = true ∧ okp b = true from ⟨h, h'⟩), h', if_neg (by decide)]
      obtain ⟨m, rfl, m1, m2⟩ := okp_nat h
      obtain ⟨n, rfl, n1, n2⟩ := okp_nat h'
      by_cases hl : l.length > 65536
      · rw [if_pos (by omega), if_pos hl]
      · rw [if_neg (by omega), if_neg hl, Int.toNat_natCast, Int.toNat_natCast]
        have := Moves_loop l (by omega) hv m n m1 m2 n1 n2 l.length 0 (by omega) [] k (by simp) (by omega)
        rw [List.drop_zero] at this
        exact this
    · have : okp b = false := by simpa using h'
      rw [this, if_pos (by decide), if_neg (by simp)]
  · rw [if_neg h, ring_Moves.j0, if_pos rfl, if_neg (fun q => h q.1)]
end Go.Proofs.YtmphmkclbfoppaaDoor.X
end
section
namespace Go.Proofs.YtmphmkclbfoppaaDoor.X
set_option linter.unusedVariables false
set_option linter.unusedSimpArgs false
open Go.RowKit Go.Proofs.YtmphmkclbfoppaaDoorW.PrintWords Go.Proofs.YtmphmkclbfoppaaDoorW.PrintLast Go.Proofs.YtmphmkclbfoppaaDoorW.PrintMore
open Num
def ch (s n : Nat) : List S32 := (List.range n).map fun i => ⟨1, ((s + i : Nat) : Int), (⟨#[]⟩ : ByteArray)⟩
def run (c : List Int) (s n : Nat) : List Int := cnt c ((ch s n).map fun v => ofp v 4)
theorem ch_add (s a b : Nat) : ch s (a + b) = ch s a ++ ch (s + a) b := by
  unfold ch
  rw [List.range_add, List.map_append, List.map_map]
  congr 1
  apply List.map_congr_left
  intro x _
  show (⟨1, ((s + (a + x) : Nat) : Int), (⟨#[]⟩ : ByteArray)⟩ : S32) = _
  rw [Nat.add_assoc]
theorem cnt_append : ∀ (ps qs : List Nat) (c : List Int), cnt c (ps ++ qs) = cnt (cnt c ps) qs
  | [], qs, c => rfl
  | p :: ps, qs, c => cnt_append ps qs _
theorem run_add (c : List Int) (s a b : Nat) : run c s (a + b) = run (run c s a) (s + a) b := by
  unfold run
  rw [ch_add, List.map_append, cnt_append]
theorem run0 : run [0, 0, 0, 0] 0 50 = [16, 8, 10, 16] := by decide +kernel
theorem run1 : run [16, 8, 10, 16] 50 50 = [28, 24, 22, 26] := by decide +kernel
theorem run2 : run [28, 24, 22, 26] 100 50 = [42, 33, 37, 38] := by decide +kernel
theorem run3 : run [42, 33, 37, 38] 150 50 = [55, 50, 51, 44] := by decide +kernel
theorem run4 : run [55, 50, 51, 44] 200 50 = [71, 60, 63, 56] := by decide +kernel
theorem run5 : run [71, 60, 63, 56] 250 50 = [84, 77, 74, 65] := by decide +kernel
theorem run6 : run [84, 77, 74, 65] 300 50 = [100, 91, 85, 74] := by decide +kernel
theorem run7 : run [100, 91, 85, 74] 350 50 = [113, 102, 95, 90] := by decide +kernel
theorem run8 : run [113, 102, 95, 90] 400 50 = [129, 114, 105, 102] := by decide +kernel
theorem run9 : run [129, 114, 105, 102] 450 50 = [136, 126, 121, 117] := by decide +kernel
theorem run10 : run [136, 126, 121, 117] 500 50 = [147, 143, 134, 126] := by decide +kernel
theorem run11 : run [147, 143, 134, 126] 550 50 = [160, 156, 147, 137] := by decide +kernel
theorem run12 : run [160, 156, 147, 137] 600 50 = [166, 172, 160, 152] := by decide +kernel
theorem run13 : run [166, 172, 160, 152] 650 50 = [177, 184, 171, 168] := by decide +kernel
theorem run14 : run [177, 184, 171, 168] 700 50 = [190, 198, 187, 175] := by decide +kernel
theorem run15 : run [190, 198, 187, 175] 750 50 = [203, 209, 200, 188] := by decide +kernel
theorem run16 : run [203, 209, 200, 188] 800 50 = [216, 227, 203, 204] := by decide +kernel
theorem run17 : run [216, 227, 203, 204] 850 50 = [227, 241, 216, 216] := by decide +kernel
theorem run18 : run [227, 241, 216, 216] 900 50 = [240, 253, 229, 228] := by decide +kernel
theorem run19 : run [240, 253, 229, 228] 950 50 = [247, 266, 247, 240] := by decide +kernel
theorem upto0 : run [0, 0, 0, 0] 0 0 = [0, 0, 0, 0] := rfl
theorem upto50 : run [0, 0, 0, 0] 0 50 = [16, 8, 10, 16] := (run_add [0, 0, 0, 0] 0 0 50).trans (by rw [upto0]; exact run0)
theorem upto100 : run [0, 0, 0, 0] 0 100 = [28, 24, 22, 26] := (run_add [0, 0, 0, 0] 0 50 50).trans (by rw [upto50]; exact run1)
theorem upto150 : run [0, 0, 0, 0] 0 150 = [42, 33, 37, 38] := (run_add [0, 0, 0, 0] 0 100 50).trans (by rw [upto100]; exact run2)
theorem upto200 : run [0, 0, 0, 0] 0 200 = [55, 50, 51, 44] := (run_add [0, 0, 0, 0] 0 150 50).trans (by rw [upto150]; exact run3)
theorem upto250 : run [0, 0, 0, 0] 0 250 = [71, 60, 63, 56] := (run_add [0, 0, 0, 0] 0 200 50).trans (by rw [upto200]; exact run4)
theorem upto300 : run [0, 0, 0, 0] 0 300 = [84, 77, 74, 65] := (run_add [0, 0, 0, 0] 0 250 50).trans (by rw [upto250]; exact run5)
theorem upto350 : run [0, 0, 0, 0] 0 350 = [100, 91, 85, 74] := (run_add [0, 0, 0, 0] 0 300 50).trans (by rw [upto300]; exact run6)
theorem upto400 : run [0, 0, 0, 0] 0 400 = [113, 102, 95, 90] := (run_add [0, 0, 0, 0] 0 350 50).trans (by rw [upto350]; exact run7)
theorem upto450 : run [0, 0, 0, 0] 0 450 = [129, 114, 105, 102] := (run_add [0, 0, 0, 0] 0 400 50).trans (by rw [upto400]; exact run8)
theorem upto500 : run [0, 0, 0, 0] 0 500 = [136, 126, 121, 117] := (run_add [0, 0, 0, 0] 0 450 50).trans (by rw [upto450]; exact run9)
theorem upto550 : run [0, 0, 0, 0] 0 550 = [147, 143, 134, 126] := (run_add [0, 0, 0, 0] 0 500 50).trans (by rw [upto500]; exact run10)
theorem upto600 : run [0, 0, 0, 0] 0 600 = [160, 156, 147, 137] := (run_add [0, 0, 0, 0] 0 550 50).trans (by rw [upto550]; exact run11)
theorem upto650 : run [0, 0, 0, 0] 0 650 = [166, 172, 160, 152] := (run_add [0, 0, 0, 0] 0 600 50).trans (by rw [upto600]; exact run12)
theorem upto700 : run [0, 0, 0, 0] 0 700 = [177, 184, 171, 168] := (run_add [0, 0, 0, 0] 0 650 50).trans (by rw [upto650]; exact run13)
theorem upto750 : run [0, 0, 0, 0] 0 750 = [190, 198, 187, 175] := (run_add [0, 0, 0, 0] 0 700 50).trans (by rw [upto700]; exact run14)
theorem upto800 : run [0, 0, 0, 0] 0 800 = [203, 209, 200, 188] := (run_add [0, 0, 0, 0] 0 750 50).trans (by rw [upto750]; exact run15)
theorem upto850 : run [0, 0, 0, 0] 0 850 = [216, 227, 203, 204] := (run_add [0, 0, 0, 0] 0 800 50).trans (by rw [upto800]; exact run16)
theorem upto900 : run [0, 0, 0, 0] 0 900 = [227, 241, 216, 216] := (run_add [0, 0, 0, 0] 0 850 50).trans (by rw [upto850]; exact run17)
theorem upto950 : run [0, 0, 0, 0] 0 950 = [240, 253, 229, 228] := (run_add [0, 0, 0, 0] 0 900 50).trans (by rw [upto900]; exact run18)
theorem upto1000 : run [0, 0, 0, 0] 0 1000 = [247, 266, 247, 240] := (run_add [0, 0, 0, 0] 0 950 50).trans (by rw [upto950]; exact run19)
theorem lErr_zero : ∀ (l : List S32), (∀ v ∈ l, chk v.f0 v.f1 v.f2 = 0) → lErr l = 0
  | [], _ => rfl
  | v :: r, h => by
    unfold lErr
    rw [if_pos (h v List.mem_cons_self)]
    exact lErr_zero r (fun w hw => h w (List.mem_cons_of_mem _ hw))
theorem ch_len (s n : Nat) : (ch s n).length = n := by unfold ch; rw [List.length_map, List.length_range]
theorem ch_mem {s n : Nat} {v : S32} (h : v ∈ ch s n) : v.f0 = 1 ∧ 0 ≤ v.f1 ∧ v.f1 < (s + n : Nat) := by
  unfold ch at h
  obtain ⟨i, hi, rfl⟩ := List.mem_map.mp h
  have := List.mem_range.mp hi
  exact ⟨rfl, by show (0 : Int) ≤ ((s + i : Nat) : Int); omega, by show ((s + i : Nat) : Int) < _; omega⟩
theorem lives_loop : ∀ (d i : Nat), i + d = 1000 → ∀ k, 80001 + d ≤ k → locksteplaw18_lives.l0 k (ch 0 i) (i : Int) = some true
  | 0, i, h, k, hk => by
    obtain ⟨k, rfl⟩ : ∃ m, k = m + 1 := ⟨k - 1, by omega⟩
    obtain rfl : i = 1000 := by omega
    have hs : spreadOut (ch 0 1000) 4 = ([247, 266, 247, 240], 0) := by
      unfold spreadOut
      rw [if_pos (show okp 4 = true by decide), if_neg (by rw [ch_len]; decide), if_pos (lErr_zero _ (fun v hv => by have := (ch_mem hv).1; rw [this]; rfl))]
      have := upto1000
      unfold run at this
      exact congrArg (fun c => (c, (0 : Int))) this
    have hI : ∀ v ∈ ch 0 1000, I64 v.f1 := by
      intro v hv
      obtain ⟨_, q1, q2⟩ := ch_mem hv
      unfold I64
      omega
    rw [locksteplaw18_lives.l0, if_neg (by omega), Spread_eq (ch 0 1000) hI 4 k (by omega), Option.bind_some, hs]
    decide +kernel
  | d + 1, i, h, k, hk => by
    obtain ⟨k, rfl⟩ : ∃ m, k = m + 1 := ⟨k - 1, by omega⟩
    have ih := lives_loop d (i + 1) (by omega) k (by omega)
    rw [locksteplaw18_lives.l0, if_pos (by omega), if_pos (by rw [ch_len]; omega), show wrap64 ((i : Int) + 1) = ((i + 1 : Nat) : Int) by unfold wrap64; omega]
    rw [ch_add 0 i 1] at ih
    have e : ch (0 + i) 1 = [⟨1, (i : Int), (⟨#[]⟩ : ByteArray)⟩] := by rw [Nat.zero_add]; rfl
    rw [e] at ih
    exact ih
theorem lives_true (k : Nat) (hk : 81001 ≤ k) : locksteplaw18_lives.f k = some true := lives_loop 1000 0 (by decide) k (by omega)
end Go.Proofs.YtmphmkclbfoppaaDoor.X
end
section
namespace Go.Proofs.YtmphmkclbfoppaaDoor.X
set_option linter.unusedVariables false
set_option linter.unusedSimpArgs false
open Go.RowKit Go.Proofs.YtmphmkclbfoppaaDoorW.PrintWords Go.Proofs.YtmphmkclbfoppaaDoorW.PrintLast Go.Proofs.YtmphmkclbfoppaaDoorW.PrintMore
open Num
theorem mv_len (a b : Nat) : ∀ (l : List S32) (i : Nat), (mv a b i l).length ≤ l.length
  | [], i => Nat.le_refl _
  | v :: l, i => by
    unfold mv
    split
    · exact Nat.le_trans (mv_len a b l (i + 1)) (Nat.le_succ _)
    · exact Nat.succ_le_succ (mv_len a b l (i + 1))
end Go.Proofs.YtmphmkclbfoppaaDoor.X
end
section
namespace Go.Proofs.YtmphmkclbfoppaaDoor.X
set_option linter.unusedVariables false
set_option linter.unusedSimpArgs false
open Go.RowKit Go.Proofs.YtmphmkclbfoppaaDoorW.PrintWords Go.Proofs.YtmphmkclbfoppaaDoorW.PrintLast Go.Proofs.YtmphmkclbfoppaaDoorW.PrintMore
open Num
theorem mv_mem {a b : Nat} : ∀ {l : List S32} {i : Nat} {x : S29}, x ∈ mv a b i l → ∃ (j : Nat) (v : S32), x = ⟨(j : Int), (ofp v a : Int), (ofp v b : Int)⟩ ∧ i ≤ j ∧ j < i + l.length ∧ ofp v a ≠ ofp v b
  | [], i, x, h => by unfold mv at h; simp at h
  | v :: l, i, x, h => by
    unfold mv at h
    by_cases hq : ofp v a = ofp v b
    · rw [if_pos hq] at h
      obtain ⟨j, w, e, h1, h2, h3⟩ := mv_mem h
      exact ⟨j, w, e, by omega, by rw [List.length_cons]; omega, h3⟩
    · rw [if_neg hq] at h
      rcases List.mem_cons.mp h with h | h
      · exact ⟨i, v, h, Nat.le_refl _, by rw [List.length_cons]; omega, hq⟩
      · obtain ⟨j, w, e, h1, h2, h3⟩ := mv_mem h
        exact ⟨j, w, e, by omega, by rw [List.length_cons]; omega, h3⟩
theorem mv_pair (a b : Nat) : ∀ (l : List S32) (i : Nat), (mv a b i l).Pairwise fun x y => x.f0 < y.f0
  | [], i => by unfold mv; exact List.Pairwise.nil
  | v :: l, i => by
    unfold mv
    by_cases hq : ofp v a = ofp v b
    · rw [if_pos hq]; exact mv_pair a b l (i + 1)
    · rw [if_neg hq]
      refine List.Pairwise.cons (fun x hx => ?_) (mv_pair a b l (i + 1))
      obtain ⟨j, w, e, h1, _⟩ := mv_mem hx
      rw [e]
      show (i : Int) < (j : Int)
      omega
theorem rd29 {m : List S29} {i : Nat} (hi : i < m.length) : rd_T29 m (i : Int) = m[i] := by
  unfold rd_T29
  rw [List.getD_eq_getElem?_getD, Int.toNat_natCast, List.getElem?_eq_getElem hi]
  rfl
theorem prev_of {i : Nat} (h : 0 < i) (hm : i ≤ 65536) : wrap64 ((i : Int) - 1) = ((i - 1 : Nat) : Int) := by unfold wrap64; omega
theorem conds {x : S29} {j a b p q : Nat} (n : Nat) (g0 : x.f0 = (j : Int)) (g1 : x.f1 = (p : Int)) (g2 : x.f2 = (q : Int)) (hj : j < n) (hp : p < a) (hq : q < b) :
    ¬ x.f0 < 0 ∧ ¬ x.f0 ≥ (n : Int) ∧ ¬ x.f1 < 0 ∧ ¬ x.f1 ≥ (a : Int) ∧ ¬ x.f2 < 0 ∧ ¬ x.f2 ≥ (b : Int) := by
  rw [g0, g1, g2]
  omega
theorem Moves_l0 (l : List S32) (hl : l.length ≤ 65536) (a b : Nat) (a1 : 1 ≤ a) (a2 : a ≤ 64) (b1 : 1 ≤ b) (b2 : b ≤ 64) (m : List S29) (hm : m = mv a b 0 l) : ∀ (d i : Nat), i + d = m.length → ∀ k, 2 * d + 2 ≤ k →
    locksteplaw18_RingMoves.l0 k l (a : Int) (b : Int) m (i : Int) = some true
  | 0, i, h, k, hk => by
    obtain ⟨k, rfl⟩ : ∃ m, k = m + 1 := ⟨k - 1, by omega⟩
    rw [locksteplaw18_RingMoves.l0, if_neg (by omega)]
  | d + 1, i, h, k, hk => by
    obtain ⟨k, rfl⟩ : ∃ m, k = m + 2 := ⟨k - 2, by omega⟩
    have hi : i < m.length := by omega
    have hlen : m.length ≤ 65536 := by rw [hm]; exact Nat.le_trans (mv_len a b l 0) hl
    have hmem : rd_T29 m (i : Int) ∈ mv a b 0 l := by rw [rd29 hi, ← hm]; exact List.getElem_mem hi
    have hprev : 0 < i → (rd_T29 m ((i - 1 : Nat) : Int)).f0 < (rd_T29 m (i : Int)).f0 := by
      intro h0
      have hp := mv_pair a b l 0
      rw [← hm] at hp
      rw [rd29 hi, rd29 (show i - 1 < m.length by omega)]
      exact List.pairwise_iff_getElem.mp hp (i - 1) i (by omega) hi (by omega)
    obtain ⟨j, v, e, h1, h2, h3⟩ := mv_mem hmem
    have la := ofp_lt v a1
    have lb := ofp_lt v b1
    have ih := Moves_l0 l hl a b a1 a2 b1 b2 m hm d (i + 1) (by omega) k (by omega)
    have hw : wrap64 ((i : Int) + 1) = ((i + 1 : Nat) : Int) := by unfold wrap64; omega
    have g0 : (rd_T29 m (i : Int)).f0 = (j : Int) := by rw [e]
    have g1 : (rd_T29 m (i : Int)).f1 = (ofp v a : Int) := by rw [e]
    have g2 : (rd_T29 m (i : Int)).f2 = (ofp v b : Int) := by rw [e]
    have key : locksteplaw18_RingMoves.j1 (k + 1) l (a : Int) (b : Int) m (i : Int) false (rd_T29 m (i : Int)).f0 (rd_T29 m (i : Int)).f1 (rd_T29 m (i : Int)).f2 = some true := by
      rw [locksteplaw18_RingMoves.j1, if_neg (by decide), g1, g2, hw]
      by_cases hab : b > a
      · have hto : ¬ ofp v b < a := fun hlt => h3 (ofp_less v a1 (by omega) hlt)
        rw [if_pos (by omega), if_neg (by omega), if_neg (by omega), if_neg (by omega)]
        exact ih
      · rw [if_neg (by omega)]
        by_cases hba : b < a
        · have hfrom : ¬ ofp v a < b := fun hlt => h3 (ofp_less v b1 (by omega) hlt).symm
          rw [if_pos (by omega), if_neg (by omega), if_neg (by omega)]
          exact ih
        · have hq : a = b := by omega
          exact absurd (by rw [hq]) h3
    obtain ⟨c1, c2, c3, c4, c5, c6⟩ := conds (l.length) g0 g1 g2 (by omega) la lb
    rw [locksteplaw18_RingMoves.l0, if_pos (Int.ofNat_lt.mpr hi), if_pos (Int.natCast_nonneg i), if_neg c1, if_neg c2, if_neg c3, if_neg c4, if_neg c5, if_neg c6]
    by_cases h0 : 0 < i
    · rw [if_pos (show (i : Int) > 0 from Int.ofNat_lt.mpr h0), prev_of h0 (show i ≤ 65536 from Nat.le_trans (Nat.le_of_lt hi) hlen), if_pos (Int.natCast_nonneg _), if_pos (Int.ofNat_lt.mpr (Nat.lt_of_le_of_lt (Nat.sub_le i 1) hi)), decide_eq_false (show ¬ (rd_T29 m ((i - 1 : Nat) : Int)).f0 ≥ (rd_T29 m (i : Int)).f0 from Int.not_le.mpr (hprev h0))]
      exact key
    · rw [if_neg (show ¬ (i : Int) > 0 from fun q => h0 (Int.ofNat_lt.mp q))]
      exact key
theorem part_of {a : Int} (h0 : 0 ≤ a) (h1 : a < 256) : ∃ m : Nat, wrap64 (1 + wrap64 (Int.tmod a 64)) = (m : Int) ∧ 1 ≤ m ∧ m ≤ 64 := by
  refine ⟨1 + (a % 64).toNat, ?_, by omega, by omega⟩
  rw [Int.tmod_eq_emod_of_nonneg h0]
  unfold wrap64
  omega
theorem okp_of {m : Nat} (h1 : 1 ≤ m) (h2 : m ≤ 64) : okp (m : Int) = true := decide_eq_true ⟨by omega, by omega⟩
theorem RingMoves_K (l : List S32) (a b : Int) (hv : ∀ v ∈ l, I64 v.f1) (ha : 0 ≤ a ∧ a < 256) (hb : 0 ≤ b ∧ b < 256) (K : Nat) (hK : 300000 ≤ K) : locksteplaw18_RingMoves.f K l a b = some true := by
  unfold locksteplaw18_RingMoves.f
  rw [lives_true K (by omega), Option.bind_some, if_pos rfl]
  obtain ⟨m, em, m1, m2⟩ := part_of ha.1 ha.2
  obtain ⟨n, en, n1, n2⟩ := part_of hb.1 hb.2
  rw [em, en, Moves_eq l hv _ _ K (by omega), Option.bind_some]
  unfold movesOut
  rw [if_pos (show okp (m : Int) = true ∧ okp (n : Int) = true from ⟨okp_of m1 m2, okp_of n1 n2⟩)]
  by_cases hl : l.length > 65536
  · rw [if_pos hl]; rfl
  rw [if_neg hl]
  by_cases he : lErr l = 0
  · rw [if_pos he, if_pos rfl, Int.toNat_natCast, Int.toNat_natCast]
    have hlen := mv_len m n l 0
    exact Moves_l0 l (by omega) m n m1 m2 n1 n2 _ rfl _ 0 (Nat.zero_add _) K (by omega)
  · rw [if_neg he, if_neg he]; rfl
theorem RingMoves_true (l : List S32) (a b : Int) (hv : ∀ v ∈ l, I64 v.f1) (ha : 0 ≤ a ∧ a < 256) (hb : 0 ≤ b ∧ b < 256) : ∃ k, locksteplaw18_RingMoves.f k l a b = some true := ⟨300000, RingMoves_K l a b hv ha hb 300000 (Nat.le_refl _)⟩
end Go.Proofs.YtmphmkclbfoppaaDoor.X
end
section
namespace Go.Proofs.YtmphmkclbfoppaaDoorW.PrintWords
open Go Go.RowKit Go.ChangeShapes Go.WideShapes Go.Deep
set_option linter.unusedVariables false
set_option linter.unusedSimpArgs false
def Opens {α : Type} (P : Program) (d : Kd α) (t : TypeId) (g : α → Prop) : Prop :=
  ∀ {H : Type} (enc : TypeId × Value → H) (W : World) (base : Nat) (spare : Nat → Bool) (held : Bool) (fuel : Nat) (cs : List Value) (x : DataW H × List MemPlace),
    DataW.trod enc P W base spare held fuel t cs = some x → ∃ a, d.K W a cs ∧ g a
def inKind (k : IntKind) (n : Int) : Prop := k.min ≤ n ∧ n ≤ k.max
section
variable {P : Program} {α β : Type}
theorem opens_int {t : TypeId} {k : IntKind} (ht : P.underlying t = some (.int k)) : Opens P (Kd.int k) t (inKind k) := by
  intro H enc W base spare held fuel cs x h
  obtain ⟨n, rfl, _, hw⟩ := DataW.trod_int ht h
  refine ⟨n, rfl, ?_⟩
  simpa [Lit.wf, inKind] using hw
theorem opens_string {t : TypeId} (ht : P.underlying t = some .string) : Opens P Kd.string t (fun s => s.size ≤ 9223372036854775807) := by
  intro H enc W base spare held fuel cs x h
  obtain ⟨n, rfl, _, hw⟩ := DataW.trod_string ht h
  exact ⟨n, rfl, by simpa [maxLen] using hw⟩
theorem Opens.imp {d : Kd α} {t : TypeId} {g g' : α → Prop} (h : Opens P d t g) (hg : ∀ a, g a → g' a) : Opens P d t g' := by
  intro H enc W base spare held fuel cs x hx
  obtain ⟨a, h1, h2⟩ := h enc W base spare held fuel cs x hx
  exact ⟨a, h1, hg a h2⟩
theorem opens_iso {d : Kd α} {t : TypeId} {g : α → Prop} (h : Opens P d t g) (f : β → α) (b : α → β) (hf : ∀ a, f (b a) = a) : Opens P (Kd.iso d f) t (fun x => g (f x)) := by
  intro H enc W base spare held fuel cs x hx
  obtain ⟨a, h1, h2⟩ := h enc W base spare held fuel cs x hx
  exact ⟨b a, by show d.K W (f (b a)) cs; rw [hf]; exact h1, by show g (f (b a)); rw [hf]; exact h2⟩
theorem elems_of {γ : Type} {n : Nat} {p : Nat → γ → Prop} (h : ∀ i, i < n → ∃ a, p i a) : ∃ xs : List γ, xs.length = n ∧ ∀ i a, xs[i]? = some a → p i a := by
  induction n with
  | zero => exact ⟨[], rfl, fun i a h => by simp at h⟩
  | succ n ih =>
    obtain ⟨xs, hl, hx⟩ := ih (fun i hi => h i (by omega))
    obtain ⟨a, ha⟩ := h n (by omega)
    refine ⟨xs ++ [a], by simp [hl], fun i b hb => ?_⟩
    by_cases hi : i < xs.length
    · rw [List.getElem?_append_left hi] at hb
      exact hx i b hb
    · rw [List.getElem?_append_right (by omega)] at hb
      have : i = n := by
        have := (List.getElem?_eq_some_iff.1 hb).1
        simp at this
        omega
      subst this
      rw [hl, Nat.sub_self] at hb
      injection hb with hb
      exact hb ▸ ha
theorem opens_slice {d : Kd α} {t e : TypeId} {g : α → Prop} (ht : P.underlying t = some (.slice e)) (hs : P.cellsOf e = d.sz) (h : Opens P d e g) :
    Opens P (Kd.slice e d) t (fun xs => ∀ x ∈ xs, g x) := by
  intro H enc W base spare held fuel cs x hx
  rcases open_slice ht hx with ⟨rfl, rfl⟩ | ⟨a, len, cap, m, n, D, Pl, rfl, hb, hl, hm, hmm, rfl, hel⟩
  · exact ⟨[], ⟨none, 0, rfl, Nat.le_refl _, ⟨rfl, by simp, fun h => absurd h (by simp)⟩⟩, fun x hx => by simp at hx⟩
  · obtain ⟨xs, hlen, hxs⟩ := elems_of (n := len) (p := fun i y => ∃ cs', W.cells? base (a.add (i * P.cellsOf e)) (P.cellsOf e) = some cs' ∧ d.K W y cs' ∧ g y) (fun i hi => by
      obtain ⟨cs', h1, h2⟩ := hel i (by rw [hmm]; split <;> omega)
      obtain ⟨y, h3, h4⟩ := h enc W base spare held n cs' _ h2
      exact ⟨y, cs', h1, h3, h4⟩)
    refine ⟨xs, ⟨some a, cap, by rw [hlen], by rw [hlen]; exact hl, ⟨rfl, by rw [hlen]; simp only [maxLen] at hm; omega, fun hp => ⟨a, rfl, fun j p hj => ?_⟩⟩⟩, fun x hx => ?_⟩
    · obtain ⟨cs', h1, h2, _⟩ := hxs j p hj
      refine ⟨cs', d.K_len h2, h2, fun i u hu => ?_⟩
      obtain ⟨_, hcl, hcc⟩ := World.cells?_some h1
      have hi : i < cs'.length := (List.getElem?_eq_some_iff.1 hu).1
      have h5 := hcc i (by rw [← hcl]; exact hi)
      rw [hu, Addr.add_add, hs] at h5
      exact h5
    · obtain ⟨i, hi⟩ := List.getElem?_of_mem hx
      obtain ⟨_, _, _, h4⟩ := hxs i x hi
      exact h4
theorem open_arg_slice {d : Kd α} {t e : TypeId} {g : α → Prop} (ht : P.underlying t = some (.slice e)) (hs : P.cellsOf e = d.sz) (h : Opens P d e g) {H : Type} {enc : TypeId × Value → H} {W : World} {base b0 : Nat} {spare : Nat → Bool} {held : Bool} {r : Reach} {v : Value} {D : DataW H} {p : List MemPlace}
    (hv : Value.okWide P W r b0 t v) (hd : DataW.Trod enc P W base spare held t v D p) : ∃ A c xs, v = .slice A xs.length c ∧ xs.length ≤ c ∧ d.C W A xs.length xs ∧ ∀ x ∈ xs, g x := by
  obtain ⟨A, n, c, rfl⟩ := okWide_slice ht hv
  obtain ⟨fuel, hf⟩ := hd
  obtain ⟨xs, ⟨A', c', he, hl, hC⟩, hg⟩ := opens_slice ht hs h enc W base spare held fuel _ _ hf
  have he' : Value.slice A n c = .slice A' xs.length c' := by simpa [Value.cells] using he
  injection he' with h1 h2 h3
  subst h1 h2 h3
  exact ⟨A, c, xs, rfl, hl, hC, hg⟩
theorem opens_three {α β γ : Type} {a : Kd α} {b : Kd β} {c : Kd γ} {t : TypeId} {f0 f1 f2 : Field} {g0 : α → Prop} {g1 : β → Prop} {g2 : γ → Prop} (ht : P.underlying t = some (.struct #[f0, f1, f2]))
    (ho : f0.offset = 0 ∧ f1.offset = a.sz ∧ f2.offset = a.sz + b.sz) (hc : P.cellsOf t = a.sz + (b.sz + c.sz)) (h0 : P.cellsOf f0.type = a.sz) (h1 : P.cellsOf f1.type = b.sz) (h2 : P.cellsOf f2.type = c.sz)
    (k0 : Opens P a f0.type g0) (k1 : Opens P b f1.type g1) (k2 : Opens P c f2.type g2) : Opens P (Kd.pair a (Kd.pair b c)) t (fun x => g0 x.1 ∧ g1 x.2.1 ∧ g2 x.2.2) := by
  intro H enc W base spare held fuel cs x hx
  obtain ⟨y0, y1, y2, n, _, hl, e0, e1, e2⟩ := trod_struct3 ht hx
  rw [ho.1, h0, List.drop_zero] at e0
  rw [ho.2.1, h1] at e1
  rw [ho.2.2, h2] at e2
  obtain ⟨p0, q0, r0⟩ := k0 enc W base spare held n _ _ e0
  obtain ⟨p1, q1, r1⟩ := k1 enc W base spare held n _ _ e1
  obtain ⟨p2, q2, r2⟩ := k2 enc W base spare held n _ _ e2
  refine ⟨(p0, p1, p2), ⟨_, _, ?_, q0, ⟨_, _, rfl, q1, q2⟩⟩, r0, r1, r2⟩
  rw [hc] at hl
  rw [List.take_of_length_le (l := cs.drop (a.sz + b.sz)) (by rw [List.length_drop]; omega)]
  conv => lhs; rw [← List.take_append_drop a.sz cs]
  congr 1
  conv => lhs; rw [← List.take_append_drop b.sz (cs.drop a.sz)]
  rw [List.drop_drop]
end
end Go.Proofs.YtmphmkclbfoppaaDoorW.PrintWords
end
section
namespace Go.Proofs.YtmphmkclbfoppaaDoor.X
set_option linter.unusedVariables false
set_option linter.unusedSimpArgs false
open Go.RowKit Go.Lib Go.ChangeShapes Go.WideShapes Go.ChangeAt Go.Joins Go.Proofs.YtmphmkclbfoppaaDoorW.PrintWords Go Go.Deep
open Go.ChangeMaps (open_string shut_string)
set_option maxRecDepth 100000
theorem own : ownKnob Tryd.prog.godebug = none := by kernel_rfl
theorem u8extra : U8Extra Tryd.prog Tryd.laysValid_ren := ⟨by kernel_rfl, by kernel_rfl, by kernel_rfl, by kernel_rfl, by kernel_rfl, by kernel_rfl, by kernel_rfl⟩
theorem most_of {w : World} (h : w.ShapedOpen Tryd.prog) : ∃ m : Int, w.cell? ⟨2, 0, none⟩ = some (.int .i64 m) :=
  cell_of_shapedOpen_int (zero := #[.int .i64 0]) (t := 3) h (of_decide_eq_true (by kernel_rfl)) (by kernel_rfl) rfl (by kernel_rfl) (by kernel_rfl) Tryd.underlying3
def two : List (String × DataW Unit) := [("unicode/utf8.acceptRanges", Rows.laid_unicode_utf8_acceptRanges), ("unicode/utf8.first", Rows.laid_unicode_utf8_first)]
theorem tabs_of {w : World} (h : laidMetH Tryd.prog two w) (hs : w.ShapedOpen Tryd.prog) : Tabs w := by
  have h' : laidMet Tryd.prog two w := h
  refine ⟨?_, most_of hs⟩
  have h3 := Go.Lib.laidMet.reads h' (n := "unicode/utf8.first") (d := Rows.laid_unicode_utf8_first) (by simp [two])
  have h4 := Go.Lib.laidMet.reads h' (n := "unicode/utf8.acceptRanges") (d := Rows.laid_unicode_utf8_acceptRanges) (by simp [two])
  rw [show (Rows.laid_unicode_utf8_first : DataW Unit) = firstData by kernel_rfl] at h3
  rw [show (Rows.laid_unicode_utf8_acceptRanges : DataW Unit) = acceptData by kernel_rfl] at h4
  exact utf8Tabs_of_readsT (U8Types.of196 Tryd.laysValid) u8extra h3 h4
theorem u8_of {x : Int} (h : inKind .u8 x) : 0 ≤ x ∧ x < 256 := by
  unfold inKind at h
  simp only [IntKind.min, IntKind.max, IntKind.signed, IntKind.bits, Bool.false_eq_true, if_false] at h
  omega
theorem laidOut : laidOutB Tryd.prog = true := by kernel_rfl
theorem i64_of {n : Int} (h : inKind .i64 n) : I64 n := by
  unfold inKind at h
  simp only [IntKind.min, IntKind.max, IntKind.signed, IntKind.bits, if_true] at h
  exact ⟨by omega, by omega⟩
def okV (x : S32) : Prop := I64 x.f0 ∧ I64 x.f1 ∧ x.f2.size ≤ 9223372036854775807
theorem opens_value : Opens Tryd.prog k32 32 okV :=
  Opens.imp (opens_iso (opens_three Tryd.underlying32 ⟨rfl, rfl, rfl⟩ (by kernel_rfl) (by kernel_rfl) (by kernel_rfl) (by kernel_rfl) (opens_int Tryd.underlying3) (opens_int Tryd.underlying2) (opens_string Tryd.underlying9)) (fun x : S32 => (x.f0, (x.f1, x.f2))) (fun p => ⟨p.1, p.2.1, p.2.2⟩) (fun _ => rfl))
    (fun x h => ⟨i64_of h.1, i64_of h.2.1, h.2.2⟩)
section
variable {H : Type} {enc : TypeId × Value → H} {W : World} {base b0 : Nat} {spare : Nat → Bool} {held : Bool} {r : Reach} {v : Value} {D : DataW H} {p : List MemPlace}
theorem open_vrow (hv : Value.okWide Tryd.prog W r b0 22 v) (hd : DataW.Trod enc Tryd.prog W base spare held 22 v D p) : ∃ A c xs, v = .slice A xs.length c ∧ xs.length ≤ c ∧ k32.C W A xs.length xs ∧ ∀ x ∈ xs, okV x :=
  open_arg_slice Tryd.underlying22 (by kernel_rfl) opens_value hv hd
theorem sized_any {ts : List TypeId} {ds : List (DataW H)} {j : Nat} {t e : TypeId} {a : Option Addr} {len cap : Nat} {d : DataW H} {ps : List MemPlace}
    (hsz : (DataW.weightsEach Tryd.prog ts ds).all (· ≤ reachBytes) = true) (ht : ts[j]? = some t) (hd : ds[j]? = some d) (hu : Tryd.prog.underlying t = some (.slice e))
    (h : DataW.Trod enc Tryd.prog W base spare held t (.slice a len cap) d ps) : len * Tryd.prog.bytesOf e ≤ 140737488351232 := by
  obtain ⟨fuel, hf⟩ := h
  rcases open_slice hu hf with ⟨hcs, _⟩ | ⟨a', len', cap', m, n, D, Pl, hcs, hb, hl, hm, hmm, hx, hel⟩
  · simp [Value.cells] at hcs
    obtain ⟨rfl, rfl, rfl⟩ := hcs
    simp
  · simp [Value.cells] at hcs
    obtain ⟨rfl, rfl, rfl⟩ := hcs
    obtain ⟨hx, _⟩ := Prod.mk.inj hx
    subst hx
    have z := sized_slice hsz ht hd hu
    refine Nat.le_trans (Nat.mul_le_mul_right _ ?_) z
    simp
end
noncomputable def laidWorld (os : Os) : World :=
  { World.doorLaid Tryd.prog 200 os with heap := (World.doorLaid Tryd.prog 200 os).heap.modify 0 fun
      | .cells _ t frozen => .cells (Go.Pinned.utf8FirstZ.map fun (n : Nat) => Value.int .u8 (n : Int)).toArray t frozen
      | o => o }
theorem laid_met (os : Os) (args : Array Value) : laidMetH Tryd.prog two ((laidWorld os).forCall (fun _ _ => 0) ⟨#[], args, []⟩).memory :=
  laidMet_of_run' 8 (by kernel_rfl) (by kernel_rfl)
end Go.Proofs.YtmphmkclbfoppaaDoor.X
end
section
namespace Go.Proofs.YtmphmkclbfoppaaDoor.ringMoves
open Go.ChangeShapes Go.WideShapes Go.ChangeAt Go.RowKit Go.Proofs.YtmphmkclbfoppaaDoor.X Go.Proofs.YtmphmkclbfoppaaDoorW.PrintWords
open Go.ChangeMaps (open_string shut_string)
set_option linter.unusedVariables false
set_option linter.unusedSimpArgs false
theorem u8_wf {x : Int} (h : (Lit.int .u8 x).wf = true) : 0 ≤ x ∧ x < 256 := by
  have h' : inKind .u8 x := by
    first
    | exact of_decide_eq_true h
    | (simp only [Lit.wf, decide_eq_true_eq] at h; exact h)
    | simpa [Lit.wf, inKind] using h
  exact u8_of h'
set_option maxRecDepth 100000 in
theorem reads (os : Os) {H : Type} (enc : TypeId × Value → H) : ∃ places, DataW.whole enc Tryd.prog ((laidWorld os).forCall (fun _ _ => 0) ⟨#[], #[.slice none 0 0, .int .u8 0, .int .u8 0], []⟩).memory Tryd.f3.params.toList Rows.ringMovesSpec.vars false
    #[Value.slice none 0 0, .int .u8 0, .int .u8 0].toList 8 =
    some ([.nil, .lit (.int .u8 0), .lit (.int .u8 0)], [], places) :=
  ⟨[], by kernel_rfl⟩
set_option maxRecDepth 100000 in
theorem lifted (os : Os) (started : os.Started) (H : Type) (enc : TypeId × Value → H) (F : Stop.Interp) :
    ReturnsInHanded {} Tryd.checked os 3 .any ((OpenSpec.ofChange Rows.ringMovesSpec).preRow enc Tryd.prog Tryd.f3 Rows.ringMovesRow.domain false Rows.ringMovesRow.laid) (((OpenSpec.ofChange Rows.ringMovesSpec).at F).post enc Tryd.prog Tryd.f3 false true false false) := by
  obtain ⟨places, hx⟩ := reads os enc
  refine returnsInHanded_of_row (C := Tryd.checked) (s := (OpenSpec.ofChange Rows.ringMovesSpec)) own started (by kernel_rfl) Tryd.func3
    (witness_row_at (enc := enc) (C := Tryd.checked) false (laidWorld os) #[.slice none 0 0, .int .u8 0, .int .u8 0] rfl (by kernel_rfl) (by kernel_rfl) (by kernel_rfl)
      (OpenSpec.preRow_of_cond 8 hx (by kernel_rfl) (fun k hk => by cases hk) (by kernel_rfl) (laid_met os _))) ?_
  intro W base args ds gs before hval0 hW _ hcond hsz0 hL hsh _
  have hT : Tabs W := tabs_of hL hsh
  have hval : ∀ (j : Nat) t v, Tryd.f3.params[j]? = some t → args[j]? = some v → Value.okWide Tryd.prog W .any base t v := hval0
  have hW' := hW
  have hlt0 := fun x hx => hW'.lt x hx
  obtain ⟨p, q, hA0, hV, rfl, hfz, hnd⟩ := hW
  have hA : DataW.TrodAll enc Tryd.prog W 0 (fun _ => true) true Tryd.f3.params.toList args.toList ds p := hA0
  rw [Tryd.params3] at hA hval
  obtain ⟨v0, vs0, d0, ds0, p0, q0, hargs, rfl, rfl, h0, r0⟩ := trodAll_cons hA
  obtain ⟨v1, vs1, d1, ds1, p1, q1, rfl, rfl, rfl, h1, r1⟩ := trodAll_cons r0
  obtain ⟨v2, vs2, d2, ds2, p2, q2, rfl, rfl, rfl, h2, r2⟩ := trodAll_cons r1
  obtain ⟨rfl, rfl, rfl⟩ := trodAll_nil r2
  obtain rfl : args = #[v0, v1, v2] := by cases args; simp_all
  obtain ⟨rfl, rfl⟩ := trodVars_none hV
  have k0 := h0
  have lt0 : ∀ x ∈ p0, x.block < W.heap.size := fun x hx => by have := hlt0 x (by simp [hx]); simpa using this
  obtain ⟨A0, c0, a0, rfl, hc0, hr0, g0⟩ := open_vrow (hval 0 22 v0 rfl rfl) h0
  have z0 := sized_any (j := 0) hsz0 rfl rfl Tryd.underlying22 k0
  rw [show Tryd.prog.bytesOf 32 = 32 by kernel_rfl] at z0
  have k1 := h1
  have lt1 : ∀ x ∈ p1, x.block < W.heap.size := fun x hx => by have := hlt0 x (by simp [hx]); simpa using this
  obtain ⟨a1, rfl, rfl, rfl, g1⟩ := open_int Tryd.underlying5 (hval 1 5 v1 rfl rfl) h1
  have k2 := h2
  have lt2 : ∀ x ∈ p2, x.block < W.heap.size := fun x hx => by have := hlt0 x (by simp [hx]); simpa using this
  obtain ⟨a2, rfl, rfl, rfl, g2⟩ := open_int Tryd.underlying5 (hval 2 5 v2 rfl rfl) h2
  have hE := RingMoves_true a0 a1 a2 (fun v hv => (g0 v hv).2.1) (u8_wf g1) (u8_wf g2)
  obtain ⟨kk, hP⟩ := hE
  refine (locksteplaw18_RingMoves.calls kk A0 c0 a0 a1 a2 true W hT hr0 hc0 (hP) rfl).mono fun e W' ⟨he, bel⟩ => ?_
  subst he
  exact ⟨_, rfl, _, _, _, [], _, [], hW', trodAll_mk1 (shut_bool Tryd.underlying4 _), (trodAll_cons_mk (Below.trod laidOut (by kernel_rfl) (of_decide_eq_true (by kernel_rfl)) k0 bel lt0) (trodAll_cons_mk (Below.trod laidOut (by kernel_rfl) (of_decide_eq_true (by kernel_rfl)) k1 bel lt1) (trodAll_cons_mk (Below.trod laidOut (by kernel_rfl) (of_decide_eq_true (by kernel_rfl)) k2 bel lt2) trodAll_mk0))), rfl, bel.frame _, fun h => by cases h⟩
theorem said : Rows.RingMovesSaid :=
  OpenClaim.holds_of_cond 3 Tryd.f3 rfl rfl rfl rfl rfl rfl rfl ⟨rfl, rfl, rfl, rfl, rfl⟩ rfl rfl rfl rfl rfl (by kernel_rfl) Tryd.func3 (by kernel_rfl)
    (of_decide_eq_true (by kernel_rfl)) (by unfold Func.isWrapper; first | (rw [if_pos (by decide +kernel)]; kernel_rfl) | (rw [if_neg (by decide +kernel)]; exact ⟨rfl, rfl⟩))
    (fun os started H enc _ F => by rw [OpenClaim.pre_eq_preRow]; exact lifted os started H enc F)
theorem plain (f : FuncId) (fn : Func) (hf : Tryd.pinned.checked.prog.funcNamed "lockstep/locksteplaw18.RingMoves" = some f) (hfn : Tryd.pinned.checked.prog.funcs[f]? = some fn) :
    false = Tryd.pinned.checked.prog.looks [] ∧ ∀ (j : Nat) t, fn.params[j]? = some t → Tryd.pinned.checked.prog.wantsStandIn t = false := by
  obtain rfl : f = 3 := Option.some.inj ((show Tryd.prog.funcNamed "lockstep/locksteplaw18.RingMoves" = some 3 by kernel_rfl).symm.trans hf) |>.symm
  obtain rfl : fn = Tryd.f3 := (Option.some.inj (Tryd.func3.symm.trans hfn)).symm
  refine ⟨by kernel_rfl, fun j t ht => ?_⟩
  rw [Tryd.params3] at ht
  have hm := Array.mem_of_getElem? ht
  have ht' : t = 22 ∨ t = 5 := by simpa using hm
  rcases ht' with rfl | rfl
  · exact (show Tryd.prog.wantsStandIn 22 = false by kernel_rfl)
  · exact (show Tryd.prog.wantsStandIn 5 = false by kernel_rfl)
theorem card : Rows.RingMovesCardSaid :=
  Claim7.holds_tied_plain_at .later [] _ _ _ _ said (fun _ h => by cases h) (by kernel_rfl) (fun _ h => by cases h) ringMoves_row_tie rfl ⟨rfl, rfl⟩ (by kernel_rfl) rfl plain (by kernel_rfl)
end Go.Proofs.YtmphmkclbfoppaaDoor.ringMoves
end

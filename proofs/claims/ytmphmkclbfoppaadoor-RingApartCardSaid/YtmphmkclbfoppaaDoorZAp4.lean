/- Part 4 of a claim of this seat: texts merged by a program of the claim's session (wip/bundle.py). -/
import Derived.Test.YtmphmkclbfoppaaDoorZAp1
import Derived.Test.YtmphmkclbfoppaaDoorZAp2
import Derived.Test.YtmphmkclbfoppaaDoorZAp3
import Derived.Lib.Mul64
import Derived.Laws.Bits64b
import Derived.Lib.Replace
import Derived.Laws.BitsAllLaws
section
namespace Go.Proofs.YtmphmkclbfoppaaDoor.X
open Go.RowKit Go.Proofs.YtmphmkclbfoppaaDoorW.PrintWords Go.Proofs.YtmphmkclbfoppaaDoorW.PrintLast Go.Proofs.YtmphmkclbfoppaaDoorW.PrintMore
attribute [local go_sem] max2_int min2_int max_two min_two max_three min_three max_four min_four
set_option linter.unusedVariables false
set_option linter.unusedSimpArgs false
mutual
def locksteplaw18_RingApart.l0 : Nat → List (S32) → Int → List Int → List Int → Int → Option (Bool)
 | 0, _, _, _, _, _ => none
 | k + 1, x0, x5, x6, x8, x9 => if x9 < (x0.length : Int) then (if 0 ≤ x9 then ((ring_Of.f k ((rd_T32 x0 x9).f0) ((rd_T32 x0 x9).f1) ((rd_T32 x0 x9).f2) x5).bind fun bt408 => (if bt408.2 = 0 then (if bt408.1 < 0 then (locksteplaw18_RingApart.j1 k x0 x5 x6 x8 x9 bt408.1 true) else (locksteplaw18_RingApart.j1 k x0 x5 x6 x8 x9 bt408.1 (decide (bt408.1 ≥ x5)))) else (locksteplaw18_RingApart.j1 k x0 x5 x6 x8 x9 bt408.1 true))) else (none)) else (locksteplaw18_RingApart.l3 k x5 x6 0)
def locksteplaw18_RingApart.j1 : Nat → List (S32) → Int → List Int → List Int → Int → Int → Bool → Option (Bool)
 | 0, _, _, _, _, _, _, _ => none
 | k + 1, x0, x5, x6, x8, x9, x10, x68 => if x68 = true then (some false) else (if 0 ≤ x9 then (if x9 < (x8.length : Int) then (if 0 ≤ x10 then (if x10 < (x6.length : Int) then (locksteplaw18_RingApart.l1 k x0 x5 (x6.set (x10 : Int).toNat (wrap64 ((rd x6 x10) - 1))) (x8.set (x9 : Int).toNat x10) x9 x10 0) else (none)) else (none)) else (none)) else (none))
def locksteplaw18_RingApart.l1 : Nat → List (S32) → Int → List Int → List Int → Int → Int → Int → Option (Bool)
 | 0, _, _, _, _, _, _, _ => none
 | k + 1, x0, x5, x6, x8, x9, x10, x12 => if x12 < x9 then (if 0 ≤ x12 then (if x12 < (x0.length : Int) then (if 0 ≤ x9 then (if x9 < (x0.length : Int) then ((value_Same.f k ((rd_T32 x0 x12).f0) ((rd_T32 x0 x12).f1) ((rd_T32 x0 x12).f2) ((rd_T32 x0 x9).f0) ((rd_T32 x0 x9).f1) ((rd_T32 x0 x9).f2)).bind fun t415 => (if t415 = true then (if x12 < (x8.length : Int) then (if (rd x8 x12) = x10 then (locksteplaw18_RingApart.l1 k x0 x5 x6 x8 x9 x10 (wrap64 (x12 + 1))) else (some false)) else (none)) else (locksteplaw18_RingApart.l1 k x0 x5 x6 x8 x9 x10 (wrap64 (x12 + 1))))) else (none)) else (none)) else (none)) else (none)) else (if 0 ≤ x9 then (if x9 < (x0.length : Int) then (if ((rd_T32 x0 x9).f0) = 0 then (locksteplaw18_RingApart.l0 k x0 x5 x6 x8 (wrap64 (x9 + 1))) else ((ring_Weight.f k ((rd_T32 x0 x9).f0) ((rd_T32 x0 x9).f1) ((rd_T32 x0 x9).f2) x10).bind fun bt419 => (locksteplaw18_RingApart.l2 k x0 x5 x6 x8 x9 x10 bt419.1 bt419.2 0))) else (none)) else (none))
def locksteplaw18_RingApart.l2 : Nat → List (S32) → Int → List Int → List Int → Int → Int → Int → Int → Int → Option (Bool)
 | 0, _, _, _, _, _, _, _, _, _ => none
 | k + 1, x0, x5, x6, x8, x9, x10, x13, x14, x15 => if x15 < x5 then (if 0 ≤ x9 then (if x9 < (x0.length : Int) then ((ring_Weight.f k ((rd_T32 x0 x9).f0) ((rd_T32 x0 x9).f1) ((rd_T32 x0 x9).f2) x15).bind fun bt422 => (if x14 = 0 then (if bt422.2 = 0 then (if bt422.1 > x13 then (some false) else (if bt422.1 = x13 then (if x15 < x10 then (some false) else (locksteplaw18_RingApart.l2 k x0 x5 x6 x8 x9 x10 x13 x14 (wrap64 (x15 + 1)))) else (locksteplaw18_RingApart.l2 k x0 x5 x6 x8 x9 x10 x13 x14 (wrap64 (x15 + 1))))) else (some false)) else (some false))) else (none)) else (none)) else (locksteplaw18_RingApart.l0 k x0 x5 x6 x8 (wrap64 (x9 + 1)))
def locksteplaw18_RingApart.l3 : Nat → Int → List Int → Int → Option (Bool)
 | 0, _, _, _ => none
 | k + 1, x5, x6, x18 => if x18 < x5 then (if 0 ≤ x18 then (if x18 < (x6.length : Int) then (if (rd x6 x18) = 0 then (locksteplaw18_RingApart.l3 k x5 x6 (wrap64 (x18 + 1))) else (some false)) else (none)) else (none)) else (some true)
end
def locksteplaw18_RingApart.f (k : Nat) (l0 : List (S32)) (a1 : Int) : Option (Bool) := (locksteplaw18_lives.f k).bind fun t399 => (if t399 = true then ((ring_Spread.f k l0 (wrap64 (1 + (wrap64 (Int.tmod a1 64))))).bind fun bt400 => (if bt400.2 = 0 then (if (bt400.1.length : Int) = (wrap64 (1 + (wrap64 (Int.tmod a1 64)))) then (if 0 ≤ (l0.length : Int) then (if ((l0.length : Int) : Int).toNat ≤ 35184372088832 then (locksteplaw18_RingApart.l0 k l0 (wrap64 (1 + (wrap64 (Int.tmod a1 64)))) bt400.1 (List.replicate ((l0.length : Int) : Int).toNat 0) 0) else (none)) else (none)) else (some false)) else (some ((bt400.1.length : Int) == 0)))) else (some false))
def locksteplaw18_RingApart.T21 : Bool × List (List Nat × List Nat) := (true, [([], []), ([], []), ([0, 1], [0, 1]), ([2], [2]), ([], []), ([], []), ([4, 5], [4, 5]), ([6], [6]), ([3, 7], [3, 7]), ([8, 8], [8]), ([9], [9]), ([9], [9]), ([10, 11, 9], [9, 10, 11]), ([12, 9], [9, 12]), ([9], [9]), ([13, 14, 9], [9, 13, 14]), ([9, 15], [9, 15])])
def locksteplaw18_RingApart.B21 : List Nat := [0, 0, 3, 7, 0, 0, 48, 112, 255, 511, 1023, 1023, 4095, 8191, 1023, 32767, 65535]
theorem locksteplaw18_RingApart.tab21 : rtab .any (opsOf Tryd.f5 21) = locksteplaw18_RingApart.T21 := by kernel_rfl
theorem locksteplaw18_RingApart.bits21 : waitsOk locksteplaw18_RingApart.T21.2 locksteplaw18_RingApart.B21 = true := by kernel_rfl
set_option maxHeartbeats 8000000 in
set_option maxRecDepth 100000 in
theorem locksteplaw18_RingApart.calls (k : Nat) (A0 : Option Addr) (c0 : Nat) (l0 : List (S32)) (a1 : Int) (r : Bool) (w : World) (hT : Tabs w) (hr0 : Kd.C k32 w A0 l0.length l0) (hc0 : l0.length ≤ c0) (h : locksteplaw18_RingApart.f k l0 a1 = some r) (hr : r = true) :
  Calls Tryd.prog 5 #[.slice A0 l0.length c0, .int .u8 a1] w fun e w' => e = .returned (.bool r) ∧ Below w.heap.size w w' := by
 have HR := Aside0.mk hr
 clear hr
 have hu32 := Tryd.underlying32
 have HT := Aside0.mk hT
 clear hT
 have HR0 := Aside0.mk hr0
 have HC0 := Aside0.mk hc0
 clear hr0 hc0
 have HB := Aside0.mk (Below.refl w.heap.size w)
 have H : ((locksteplaw18_lives.f k).bind fun t399 => (if t399 = true then ((ring_Spread.f k l0 (wrap64 (1 + (wrap64 (Int.tmod a1 64))))).bind fun bt400 => (if bt400.2 = 0 then (if (bt400.1.length : Int) = (wrap64 (1 + (wrap64 (Int.tmod a1 64)))) then (if 0 ≤ (l0.length : Int) then (if ((l0.length : Int) : Int).toNat ≤ 35184372088832 then (locksteplaw18_RingApart.l0 k l0 (wrap64 (1 + (wrap64 (Int.tmod a1 64)))) bt400.1 (List.replicate ((l0.length : Int) : Int).toNat 0) 0) else (none)) else (none)) else (some false)) else (some ((bt400.1.length : Int) == 0)))) else (some false))) = some r := h
 clear h
 replace H := Option.bind_eq_some_iff.mp H
 obtain ⟨t399, A30, H⟩ := H
 replace H : (if t399 = true then ((ring_Spread.f k l0 (wrap64 (1 + (wrap64 (Int.tmod a1 64))))).bind fun bt400 => (if bt400.2 = 0 then (if (bt400.1.length : Int) = (wrap64 (1 + (wrap64 (Int.tmod a1 64)))) then (if 0 ≤ (l0.length : Int) then (if ((l0.length : Int) : Int).toNat ≤ 35184372088832 then (locksteplaw18_RingApart.l0 k l0 (wrap64 (1 + (wrap64 (Int.tmod a1 64)))) bt400.1 (List.replicate ((l0.length : Int) : Int).toNat 0) 0) else (none)) else (none)) else (some false)) else (some ((bt400.1.length : Int) == 0)))) else (some false)) = some r := H
 have A3 := Aside0.mk A30
 clear A30
 by_cases c4 : t399 = true
 ·
  subst c4
  have H1 : ((ring_Spread.f k l0 (wrap64 (1 + (wrap64 (Int.tmod a1 64))))).bind fun bt400 => (if bt400.2 = 0 then (if (bt400.1.length : Int) = (wrap64 (1 + (wrap64 (Int.tmod a1 64)))) then (if 0 ≤ (l0.length : Int) then (if ((l0.length : Int) : Int).toNat ≤ 35184372088832 then (locksteplaw18_RingApart.l0 k l0 (wrap64 (1 + (wrap64 (Int.tmod a1 64)))) bt400.1 (List.replicate ((l0.length : Int) : Int).toNat 0) 0) else (none)) else (none)) else (some false)) else (some ((bt400.1.length : Int) == 0)))) = some r := by rw [if_pos rfl] at H; exact H
  clear H
  have H := H1
  clear H1
  replace H := Option.bind_eq_some_iff.mp H
  obtain ⟨⟨t400, t401⟩, A50, H⟩ := H
  replace H : (if t401 = 0 then (if (t400.length : Int) = (wrap64 (1 + (wrap64 (Int.tmod a1 64)))) then (if 0 ≤ (l0.length : Int) then (if ((l0.length : Int) : Int).toNat ≤ 35184372088832 then (locksteplaw18_RingApart.l0 k l0 (wrap64 (1 + (wrap64 (Int.tmod a1 64)))) t400 (List.replicate ((l0.length : Int) : Int).toNat 0) 0) else (none)) else (none)) else (some false)) else (some ((t400.length : Int) == 0))) = some r := H
  have A5 := Aside0.mk A50
  clear A50
  by_cases c6 : t401 = 0
  ·
   rw [if_pos c6] at H
   have c6b0 : (t401 == 0) = true := beq_iff_eq.mpr c6
   have c6b1 : (t401 != 0) = false := bne_eq_false_iff_eq.mpr c6
   clear c6
   by_cases c7 : (t400.length : Int) = (wrap64 (1 + (wrap64 (Int.tmod a1 64))))
   ·
    rw [if_pos c7] at H
    have c7b0 : ((t400.length : Int) == (wrap64 (1 + (wrap64 (Int.tmod a1 64))))) = true := beq_iff_eq.mpr c7
    have c7b1 : ((t400.length : Int) != (wrap64 (1 + (wrap64 (Int.tmod a1 64))))) = false := bne_eq_false_iff_eq.mpr c7
    clear c7
    by_cases c8 : 0 ≤ (l0.length : Int)
    ·
     rw [if_pos c8] at H
     have c8b0 := eq_true c8
     have c8b1 : decide (0 ≤ (l0.length : Int)) = true := decide_eq_true c8
     clear c8
     by_cases c9 : ((l0.length : Int) : Int).toNat ≤ 35184372088832
     ·
      rw [if_pos c9] at H
      have c9b0 := eq_true c9
      have c9b1 : decide (((l0.length : Int) : Int).toNat ≤ 35184372088832) = true := decide_eq_true c9
      clear c9
      obtain ⟨y404, hy404⟩ : ∃ y_ : List Int, y_ = (List.replicate ((l0.length : Int) : Int).toNat 0) := ⟨_, rfl⟩
      replace H : (locksteplaw18_RingApart.l0 k l0 (wrap64 (1 + (wrap64 (Int.tmod a1 64)))) t400 y404 0) = some r := by first | (rw [hy404]; with_reducible exact H) | (have H2_ := (Option.bind_some _ _).symm.trans H; rw [hy404]; with_reducible exact H2_) | (have H2_ := (Option.bind_some _ _).symm.trans H; with_reducible exact H2_) | with_reducible exact H | (rw [hy404]; exact H) | exact H
      have Ny404 := Aside0.mk hy404
      clear hy404
      have H' := Aside0.mk H
      clear H
      go_enter Tryd.func5, Tryd.ntmps5
      go_wp2_with (first | ((with_reducible refine gate_callee (f := 6) rfl ?_); refine goesL_ (some 19) rfl rfl Tryd.func6 (by kernel_rfl) rfl #[] rfl (by (try simp only [List.map_toArray, List.map_cons, List.map_nil]); first | done | rfl | (simp only [List.length_drop, List.length_take]; rfl)) ?_; (with_reducible refine (locksteplaw18_lives.calls k  true _ ?side1 A3.out).mono ?_); (case side1 => exact Tabs.below HT.out (by repeat (first | (with_reducible first | exact HB.out | apply below_alloc | apply pw_below_drewN | apply below_drew1) | exact HB.out))); rintro e w10 ⟨rfl, hb⟩; refine ⟨_, rfl, ?_⟩; have n0_ := Aside0.mk (below_step (by repeat (first | (with_reducible first | exact HB.out | apply below_alloc | apply pw_below_drewN | apply below_drew1) | exact HB.out)) hb); clear HB; have HB := n0_; clear n0_; (try clear hb); (try clear hb2); (try clear hk); (try clear hi)) | ((with_reducible refine gate_callee (f := 12) rfl ?_); refine goesL_ (some 28) rfl rfl Tryd.func12 (by kernel_rfl) rfl #[.slice A0 l0.length c0, .int .i64 (wrap64 (1 + (wrap64 (Int.tmod a1 64))))] rfl (by (try simp only [List.map_toArray, List.map_cons, List.map_nil]); first | done | rfl | (simp only [List.length_drop, List.length_take]; rfl)) ?_; (with_reducible refine (ring_Spread.calls k _ _ l0 (wrap64 (1 + (wrap64 (Int.tmod a1 64)))) t400 t401 _ ?side1 ?side2 ?side3 A5.out).mono ?_); (case side1 => exact Tabs.below HT.out (by repeat (first | (with_reducible first | exact HB.out | apply below_alloc | apply pw_below_drewN | apply below_drew1) | exact HB.out))); (case side2 => repeat (first | exact (Kd.C_below HR0.out HB.out) | (with_reducible refine Kd.C_alloc ?_ _) | (with_reducible refine Kd.C_drewN ?_ _) | (with_reducible refine Kd.C_drew ?_))); (case side3 => exact HC0.out); rintro e w11 ⟨v402, rfl, ho0, hb⟩; refine ⟨_, rfl, ?_⟩; have n0_ := Aside0.mk (Kd.R_lower ho0 (below_size (by repeat (first | (with_reducible first | exact HB.out | apply below_alloc | apply pw_below_drewN | apply below_drew1) | exact HB.out)))); have n1_ := Aside0.mk (below_step (by repeat (first | (with_reducible first | exact HB.out | apply below_alloc | apply pw_below_drewN | apply below_drew1) | exact HB.out)) hb); clear HB; have HO403 := n0_; have HB := n1_; clear n0_ n1_; (try clear hb); (try clear hb2); (try clear hk); (try clear hi); (try clear ho0); obtain ⟨Ao12, co12, eo12⟩ := Kd.R_slice HO403.out; subst eo12) | ((with_reducible refine gate_dst (N := 42) rfl ?_); refine Kd.R_make (Kd.int .i64) _ 3 rfl (N := 42) rfl 38 _ _ rfl (l0.length : Int) rfl rfl Tryd.underlying38 (.int .i64 0) 8 info3 rfl (by decide) (by omega) 0 (ok := fun _ => True) (okp := fun _ => True) rfl (fun _ hk => hk) trivial (of_decide_eq_true (by first | (with_reducible assumption) | assumption)) (Nat.le_trans (Nat.mul_le_mul_right _ (of_decide_eq_true (by first | (with_reducible assumption) | assumption) : (l0.length : Int).toNat ≤ 35184372088832)) (by omega)) (Below.refl _ _) (Nat.le_refl _) ?_; intro v405 w13 ho14 hb hg_ hnew_; clear hg_ hnew_; (first | rw [← Ny404.out] at ho14 | (simp only [Int.reduceToNat] at ho14; rw [← Ny404.out] at ho14)); have n0_ := Aside0.mk (Kd.R_elder' (by (with_reducible repeat (first | apply Kd.R_alloc | apply Kd.R_drewN | apply Kd.R_drew)); exact HO403.out) (Kd.R_base ho14) hb); have n1_ := Aside0.mk (Kd.R_lower (Kd.R_new' ho14 (Kd.R_lt (by (with_reducible repeat (first | apply Kd.R_alloc | apply Kd.R_drewN | apply Kd.R_drew)); exact HO403.out))) (below_size (by repeat (first | (with_reducible first | exact HB.out | apply below_alloc | apply pw_below_drewN | apply below_drew1) | exact HB.out)))); have n2_ := Aside0.mk (below_step (by repeat (first | (with_reducible first | exact HB.out | apply below_alloc | apply pw_below_drewN | apply below_drew1) | exact HB.out)) hb); clear HO403; clear HB; have HO403 := n0_; have HO406 := n1_; have HB := n2_; clear n0_ n1_ n2_; clear hb ho14))
      go_loopg [9] k (fun kq v9 w' => ∃ (x6_1 : List Int) (x8_1 : List Int) (x9_1 : Int), v9 = .int .i64 x9_1 ∧ Aside0 (locksteplaw18_RingApart.l0 kq l0 (wrap64 (1 + (wrap64 (Int.tmod a1 64)))) x6_1 x8_1 x9_1 = some r) ∧ Aside0 (kq ≤ k) ∧ Aside0 (Kd.R (Kd.int .i64) 3 w' w.heap.size (fun k_ => some k_ ≠ (v405 : Value).ownBlock) (.slice Ao12 t400.length co12) x6_1) ∧ Aside0 (Kd.R (Kd.int .i64) 3 w' w.heap.size (fun k_ => some k_ ≠ ((.slice Ao12 t400.length co12) : Value).ownBlock) v405 x8_1) ∧ Aside0 (Below w.heap.size w w'))
      case atStart => exact ⟨(t400), (y404), (0), (by first | rfl | (simp; done) | (simp [*]; done)), H', ⟨Nat.le_refl _⟩, ⟨by (with_reducible repeat (first | apply Kd.R_alloc | apply Kd.R_drewN | apply Kd.R_drew)); exact Kd.R_mono HO403.out (fun _ hk => hk.2)⟩, ⟨by (with_reducible repeat (first | apply Kd.R_alloc | apply Kd.R_drewN | apply Kd.R_drew)); exact Kd.R_mono HO406.out (fun _ hk => hk.2)⟩, ⟨by repeat (first | (with_reducible first | exact HB.out | apply below_alloc | apply pw_below_drewN | apply below_drew1) | exact HB.out)⟩⟩
      case round =>
       clear H'
       (try clear c1); (try clear p2); (try clear c4); (try clear c5); (try clear c6); (try clear c6b0); (try clear c6b1); (try clear p6); (try clear c7); (try clear c7b0); (try clear c7b1); (try clear c8); (try clear c8b0); (try clear c8b1); (try clear c9); (try clear c9b0); (try clear c9b1); (try clear c12)
       obtain ⟨x6_1, x8_1, x9_1, rfl, HA, HK1, HO_6, HO_8, HB⟩ := hrel
       have hl6_1 := (Kd.R_reads' HO_6.out).1
       rw [hl6_1] at HO_6
       (try simp only [hl6_1])
       (try simp only [hl6_1] at HO_8)
       cases gk with
       | zero => exact absurd HA.out (by simp [locksteplaw18_RingApart.l0])
       | succ k1 =>
        have H := HA.out
        clear HA
        simp only [locksteplaw18_RingApart.l0] at H
        by_cases c15 : x9_1 < (l0.length : Int)
        ·
         rw [if_pos c15] at H
         have c15b0 : decide (x9_1 < (l0.length : Int)) = true := decide_eq_true c15
         clear c15
         by_cases c16 : 0 ≤ x9_1
         ·
          rw [if_pos c16] at H
          have c16b0 : decide (0 ≤ x9_1) = true := decide_eq_true c16
          clear c16
          replace H := Option.bind_eq_some_iff.mp H
          obtain ⟨⟨t408, t409⟩, A170, H⟩ := H
          replace H : (if t409 = 0 then (if t408 < 0 then (locksteplaw18_RingApart.j1 k1 l0 (wrap64 (1 + (wrap64 (Int.tmod a1 64)))) x6_1 x8_1 x9_1 t408 true) else (locksteplaw18_RingApart.j1 k1 l0 (wrap64 (1 + (wrap64 (Int.tmod a1 64)))) x6_1 x8_1 x9_1 t408 (decide (t408 ≥ (wrap64 (1 + (wrap64 (Int.tmod a1 64)))))))) else (locksteplaw18_RingApart.j1 k1 l0 (wrap64 (1 + (wrap64 (Int.tmod a1 64)))) x6_1 x8_1 x9_1 t408 true)) = some r := H
          have A17 := Aside0.mk A170
          clear A170
          have HC18 := Aside0.mk H
          clear H
          have p407 : 0 ≤ (x9_1 : Int) := of_decide_eq_true (by first | (with_reducible assumption) | assumption)
          have q407 : x9_1 < (l0.length : Int) := of_decide_eq_true (by first | (with_reducible assumption) | assumption)
          obtain ⟨ad407, e407, hx407_0, hx407_1, hx407_2⟩ := at_T32 HR0.out x9_1 p407 q407
          cases e407
          replace hx407_0 := (HB.out.cell (World.block_lt_of_cell? w _ hx407_0)).trans hx407_0
          replace hx407_1 := (HB.out.cell (World.block_lt_of_cell? w _ hx407_1)).trans hx407_1
          replace hx407_2 := (HB.out.cell (World.block_lt_of_cell? w _ hx407_2)).trans hx407_2
          replace p407 := eq_true p407
          replace q407 := eq_true q407
          go_upto_region 14 with (first | ((with_reducible refine gate_callee (f := 8) rfl ?_); refine goesL_ (some 55) rfl rfl Tryd.func8 (by kernel_rfl) rfl #[.agg #[.int .i64 ((rd_T32 l0 x9_1).f0), .int .i64 ((rd_T32 l0 x9_1).f1), .string ((rd_T32 l0 x9_1).f2)], .int .i64 (wrap64 (1 + (wrap64 (Int.tmod a1 64))))] rfl (by (try simp only [List.map_toArray, List.map_cons, List.map_nil]); first | done | rfl | (simp only [List.length_drop, List.length_take]; rfl)) ?_; (with_reducible refine (ring_Of.calls k1 ((rd_T32 l0 x9_1).f0) ((rd_T32 l0 x9_1).f1) ((rd_T32 l0 x9_1).f2) (wrap64 (1 + (wrap64 (Int.tmod a1 64)))) t408 t409 _ ?side1 A17.out).mono ?_); (case side1 => exact Tabs.below HT.out (by repeat (first | (with_reducible first | exact HB.out | apply below_alloc | apply pw_below_drewN | apply below_drew1) | exact HB.out))); rintro e w19 ⟨rfl, hb⟩; refine ⟨_, rfl, ?_⟩; have n0_ := Aside0.mk (Kd.R_below (by (with_reducible repeat (first | apply Kd.R_alloc | apply Kd.R_drewN | apply Kd.R_drew)); exact HO_6.out) hb); have n1_ := Aside0.mk (Kd.R_below (by (with_reducible repeat (first | apply Kd.R_alloc | apply Kd.R_drewN | apply Kd.R_drew)); exact HO_8.out) hb); have n2_ := Aside0.mk (below_step (by repeat (first | (with_reducible first | exact HB.out | apply below_alloc | apply pw_below_drewN | apply below_drew1) | exact HB.out)) hb); clear HO_6; clear HO_8; clear HB; have HO_6 := n0_; have HO_8 := n1_; have HB := n2_; clear n0_ n1_ n2_; (try clear hb); (try clear hb2); (try clear hk); (try clear hi)))
          (try simp only [Act.put, List.setIfInBounds_toArray, List.set_cons_zero, List.set_cons_succ])
          go_cut [68] (fun v68 wc => ∃ (kq : Nat) (x68_17 : Bool), v68 = .bool x68_17 ∧ Aside0 (locksteplaw18_RingApart.j1 kq l0 (wrap64 (1 + (wrap64 (Int.tmod a1 64)))) x6_1 x8_1 x9_1 t408 x68_17 = some r) ∧ Aside0 (kq ≤ k1) ∧ Aside0 (Kd.R (Kd.int .i64) 3 wc w.heap.size (fun k_ => some k_ ≠ (v405 : Value).ownBlock) (.slice Ao12 x6_1.length co12) x6_1) ∧ Aside0 (Kd.R (Kd.int .i64) 3 wc w.heap.size (fun k_ => some k_ ≠ ((.slice Ao12 x6_1.length co12) : Value).ownBlock) v405 x8_1) ∧ Aside0 (Below w.heap.size w wc))
          case first =>
           have H := HC18.out
           clear HC18
           by_cases c20 : t409 = 0
           ·
            rw [if_pos c20] at H
            have c20b0 : (t409 == 0) = true := beq_iff_eq.mpr c20
            have c20b1 : (t409 != 0) = false := bne_eq_false_iff_eq.mpr c20
            clear c20
            (first | rw [c20b0] | (simp only [i64_w, i32_w]; rw [c20b0]) | skip)
            by_cases c21 : t408 < 0
            ·
             rw [if_pos c21] at H
             have c21b0 : decide (t408 < 0) = true := decide_eq_true c21
             clear c21
             have H' := Aside0.mk H
             clear H
             go_wp2
             go_meet
             case rel => exact ⟨_, (true), (by first | with_reducible rfl | (simp; done) | (simp [*]; done) | rfl), H', ⟨by have := HK1.out; first | omega | exact Nat.le_refl _⟩, ⟨by (try simp only [hl6_1]); (with_reducible repeat (first | apply Kd.R_alloc | apply Kd.R_drewN | apply Kd.R_drew)); exact HO_6.out⟩, ⟨by (try simp only [hl6_1]); (with_reducible repeat (first | apply Kd.R_alloc | apply Kd.R_drewN | apply Kd.R_drew)); exact HO_8.out⟩, ⟨by repeat (first | (with_reducible first | exact HB.out | apply below_alloc | apply pw_below_drewN | apply below_drew1) | exact HB.out)⟩⟩
            ·
             rw [if_neg c21] at H
             have c21b0 : decide (t408 < 0) = false := decide_eq_false c21
             clear c21
             have H' := Aside0.mk H
             clear H
             go_wp2
             go_meet
             case rel => exact ⟨_, (decide (t408 ≥ (wrap64 (1 + (wrap64 (Int.tmod a1 64)))))), (by first | with_reducible rfl | (simp; done) | (simp [*]; done) | rfl), H', ⟨by have := HK1.out; first | omega | exact Nat.le_refl _⟩, ⟨by (try simp only [hl6_1]); (with_reducible repeat (first | apply Kd.R_alloc | apply Kd.R_drewN | apply Kd.R_drew)); exact HO_6.out⟩, ⟨by (try simp only [hl6_1]); (with_reducible repeat (first | apply Kd.R_alloc | apply Kd.R_drewN | apply Kd.R_drew)); exact HO_8.out⟩, ⟨by repeat (first | (with_reducible first | exact HB.out | apply below_alloc | apply pw_below_drewN | apply below_drew1) | exact HB.out)⟩⟩
           ·
            rw [if_neg c20] at H
            have c20b0 : (t409 == 0) = false := beq_eq_false_iff_ne.mpr c20
            have c20b1 : (t409 != 0) = true := bne_iff_ne.mpr c20
            (first | rw [c20b0] | (simp only [i64_w, i32_w]; rw [c20b0]) | skip)
            have H' := Aside0.mk H
            clear H
            go_wp2
            go_meet
            case rel => exact ⟨_, (true), (by first | with_reducible rfl | (simp; done) | (simp [*]; done) | rfl), H', ⟨by have := HK1.out; first | omega | exact Nat.le_refl _⟩, ⟨by (try simp only [hl6_1]); (with_reducible repeat (first | apply Kd.R_alloc | apply Kd.R_drewN | apply Kd.R_drew)); exact HO_6.out⟩, ⟨by (try simp only [hl6_1]); (with_reducible repeat (first | apply Kd.R_alloc | apply Kd.R_drewN | apply Kd.R_drew)); exact HO_8.out⟩, ⟨by repeat (first | (with_reducible first | exact HB.out | apply below_alloc | apply pw_below_drewN | apply below_drew1) | exact HB.out)⟩⟩
          case rest =>
           clear HC18
           (try clear c1); (try clear c2); (try clear p2); (try clear c4); (try clear p4); (try clear q4); (try clear hx4); (try clear c5); (try clear c6); (try clear c6b0); (try clear c6b1); (try clear p6); (try clear c7); (try clear c7b0); (try clear c7b1); (try clear c8); (try clear c8b0); (try clear c8b1); (try clear c9); (try clear c9b0); (try clear c9b1); (try clear c12); (try clear c15); (try clear c15b0)
           (try clear c16); (try clear c16b0); (try clear c20); (try clear c20b0); (try clear c20b1); (try clear c21); (try clear c21b0); (try clear hx407_0); (try clear hx407_1); (try clear hx407_2); (try clear p2); (try clear p407); (try clear p6); (try clear q407)
           obtain ⟨kq, x68_17, rfl, HA, HJ17, HO_6, HO_8, HB⟩ := hcut
           cases kq with
           | zero => exact absurd HA.out (by simp [locksteplaw18_RingApart.j1])
           | succ kj17 =>
            have H := HA.out
            clear HA
            simp only [locksteplaw18_RingApart.j1] at H
            by_cases c22 : x68_17 = true
            ·
             subst c22
             have H1 : (some false) = some r := by rw [if_pos rfl] at H; exact H
             clear H
             have H := H1
             clear H1
             exact absurd (Option.some.inj H) (by rw [HR.out]; simp)
            ·
             replace c22 := Bool.eq_false_iff.mpr c22
             subst c22
             have H1 : (if 0 ≤ x9_1 then (if x9_1 < (x8_1.length : Int) then (if 0 ≤ t408 then (if t408 < (x6_1.length : Int) then (locksteplaw18_RingApart.l1 kj17 l0 (wrap64 (1 + (wrap64 (Int.tmod a1 64)))) (x6_1.set (t408 : Int).toNat (wrap64 ((rd x6_1 t408) - 1))) (x8_1.set (x9_1 : Int).toNat t408) x9_1 t408 0) else (none)) else (none)) else (none)) else (none)) = some r := by rw [if_neg (show ¬ (false = true) by decide)] at H; exact H
             clear H
             have H := H1
             clear H1
             by_cases c23 : 0 ≤ x9_1
             ·
              rw [if_pos c23] at H
              have c23b0 : decide (0 ≤ x9_1) = true := decide_eq_true c23
              clear c23
              by_cases c24 : x9_1 < (x8_1.length : Int)
              ·
               rw [if_pos c24] at H
               have c24b0 : decide (x9_1 < (x8_1.length : Int)) = true := decide_eq_true c24
               clear c24
               obtain ⟨y410, hy410⟩ : ∃ y_ : List Int, y_ = (x8_1.set (x9_1 : Int).toNat t408) := ⟨_, rfl⟩
               replace H : (if 0 ≤ t408 then (if t408 < (x6_1.length : Int) then (locksteplaw18_RingApart.l1 kj17 l0 (wrap64 (1 + (wrap64 (Int.tmod a1 64)))) (x6_1.set (t408 : Int).toNat (wrap64 ((rd x6_1 t408) - 1))) y410 x9_1 t408 0) else (none)) else (none)) = some r := by first | (rw [hy410]; with_reducible exact H) | (have H2_ := (Option.bind_some _ _).symm.trans H; rw [hy410]; with_reducible exact H2_) | (have H2_ := (Option.bind_some _ _).symm.trans H; with_reducible exact H2_) | with_reducible exact H | (rw [hy410]; exact H) | exact H
               have Ny410 := Aside0.mk hy410
               clear hy410
               by_cases c26 : 0 ≤ t408
               ·
                rw [if_pos c26] at H
                have c26b0 : decide (0 ≤ t408) = true := decide_eq_true c26
                clear c26
                by_cases c27 : t408 < (x6_1.length : Int)
                ·
                 rw [if_pos c27] at H
                 have c27b0 : decide (t408 < (x6_1.length : Int)) = true := decide_eq_true c27
                 clear c27
                 obtain ⟨y412, hy412⟩ : ∃ y_ : List Int, y_ = (x6_1.set (t408 : Int).toNat (wrap64 ((rd x6_1 t408) - 1))) := ⟨_, rfl⟩
                 replace H : (locksteplaw18_RingApart.l1 kj17 l0 (wrap64 (1 + (wrap64 (Int.tmod a1 64)))) y412 y410 x9_1 t408 0) = some r := by first | (rw [hy412]; with_reducible exact H) | (have H2_ := (Option.bind_some _ _).symm.trans H; rw [hy412]; with_reducible exact H2_) | (have H2_ := (Option.bind_some _ _).symm.trans H; with_reducible exact H2_) | with_reducible exact H | (rw [hy412]; exact H) | exact H
                 have Ny412 := Aside0.mk hy412
                 clear hy412
                 have H' := Aside0.mk H
                 clear H
                 have p25 : 0 ≤ (x9_1 : Int) := of_decide_eq_true (by first | (with_reducible assumption) | assumption)
                 have q25 : (x9_1 : Int) < ((x8_1.length : Int) : Int) := of_decide_eq_true (by first | (with_reducible assumption) | assumption)
                 obtain ⟨go25, co25, eo25, gb25, gl25, cl25, HG25⟩ := Kd.R_form HO_8.out (by omega)
                 (first | cases eo25 | (injection eo25 with ea_ en_ ec_; (first | subst ea_ | (injection ea_ with ea_; subst ea_)); subst ec_; clear en_))
                 have GB25 := Aside0.mk gb25
                 have GG25 := Aside0.mk HG25
                 clear gb25 gl25 HG25
                 obtain ⟨hx25_0, hf25_0⟩ := Kd.R_celln 0 HO_8.out (x9_1 : Int) p25 q25
                 replace p25 := eq_true p25
                 replace q25 := eq_true q25
                 have HP29 := Kd.R_putg HO_8.out (x9_1 : Int) t408
                 go_wp2_with (first | ((with_reducible refine gate_store (t := 3) (p := 72) rfl ?_); refine store_event (t := 3) (p := 72) (v := ?vo_w30) (w1 := (wc.setCell ⟨go25, (x9_1 : Int).toNat, none⟩ (.int .i64 t408))) ?hg ?ho ?hn ?hr ?_; (case ho => rfl); (case hg => rfl); (case hn => rfl); (case hr => first | (go_simp; done) | (go_simp; rfl)); intro w30 hw; have hg : wc.grownBy w30 (some go25) := (by rw [hw]; exact HP29.2); have hp_ : Kd.R (Kd.int .i64) 3 w30 w.heap.size (fun k_ => some k_ ≠ (.slice Ao12 x6_1.length co12 : Value).ownBlock) (.slice (some ⟨go25, 0, none⟩) x8_1.length co25) y410 := (by rw [hw, Ny410.out]; exact HP29.1); clear HP29; have n0_ := Aside0.mk (Kd.R_after (v := (.slice (some ⟨go25, 0, none⟩) x8_1.length co25)) (v1 := (.slice (some ⟨go25, 0, none⟩) x8_1.length co25)) (ok := (fun _ => True)) (by (with_reducible repeat (first | apply Kd.R_alloc | apply Kd.R_drewN | apply Kd.R_drew)); exact Kd.R_mono HO_6.out (fun _ hk => ⟨trivial, hk⟩)) hg (.inl rfl)); have n1_ := Aside0.mk (hp_); have n2_ := Aside0.mk ((by rw [hw]; exact below_set (HB.out) GB25.out : Below w.heap.size w w30)); clear HO_6; clear HO_8; clear HB; have HO_6 := n0_; have HO_8 := n1_; have HB := n2_; clear n0_ n1_ n2_; clear hg hw hp_; have p411 : 0 ≤ (t408 : Int) := of_decide_eq_true (by first | (with_reducible assumption) | assumption); have q411 : t408 < (x6_1.length : Int) := of_decide_eq_true (by first | (with_reducible assumption) | assumption); obtain ⟨ad411, e411, hx411_0⟩ := Kd.at_int (Kd.R_reads' HO_6.out).2.2 t408 p411 q411; cases e411; replace p411 := eq_true p411; replace q411 := eq_true q411; have p28 : 0 ≤ (t408 : Int) := of_decide_eq_true (by first | (with_reducible assumption) | assumption); have q28 : (t408 : Int) < ((x6_1.length : Int) : Int) := of_decide_eq_true (by first | (with_reducible assumption) | assumption); obtain ⟨go28, co28, eo28, gb28, gl28, cl28, HG28⟩ := Kd.R_form HO_6.out (by omega); (first | cases eo28 | (injection eo28 with ea_ en_ ec_; (first | subst ea_ | (injection ea_ with ea_; subst ea_)); subst ec_; clear en_)); have GB28 := Aside0.mk gb28; have GG28 := Aside0.mk HG28; clear gb28 gl28 HG28; (first | simp only [add_plain] at hx411_0 | skip); obtain ⟨hx28_0, hf28_0⟩ := Kd.R_celln 0 HO_6.out (t408 : Int) p28 q28; replace p28 := eq_true p28; replace q28 := eq_true q28; have n_ := Aside0.mk (Kd.R_mono (ok' := (fun k_ => some k_ ≠ (.slice (some ⟨go25, 0, none⟩) x8_1.length co25 : Value).ownBlock)) HO_6.out (fun k_ hk => hk.2)); clear HO_6; have HO_6 := n_; clear n_; obtain ⟨hy31_, hz31_⟩ := Kd.R_celln 0 HO_6.out (t408 : Int) (of_decide_eq_true (by first | (with_reducible assumption) | assumption)) (of_decide_eq_true (by first | (with_reducible assumption) | assumption)); have HP31 := Kd.R_putg HO_6.out (t408 : Int) (wrap64 ((rd x6_1 t408) - 1))) | ((with_reducible refine gate_store (t := 3) (p := 78) rfl ?_); refine store_event (t := 3) (p := 78) (v := ?vo_w32) (w1 := (w30.setCell ⟨go28, (t408 : Int).toNat, none⟩ (.int .i64 (wrap64 ((rd x6_1 t408) - 1))))) ?hg ?ho ?hn ?hr ?_; (case ho => rfl); (case hg => rfl); (case hn => rfl); (case hr => first | (go_simp; done) | (go_simp; rfl)); intro w32 hw; have hg : w30.grownBy w32 (some go28) := (by rw [hw]; exact HP31.2); have hp_ : Kd.R (Kd.int .i64) 3 w32 w.heap.size (fun k_ => some k_ ≠ (.slice (some ⟨go25, 0, none⟩) x8_1.length co25 : Value).ownBlock) (.slice (some ⟨go28, 0, none⟩) x6_1.length co12) y412 := (by rw [hw, Ny412.out]; exact HP31.1); clear HP31; have n0_ := Aside0.mk (hp_); have n1_ := Aside0.mk (Kd.R_after (v := (.slice (some ⟨go28, 0, none⟩) x6_1.length co12)) (v1 := (.slice (some ⟨go28, 0, none⟩) x6_1.length co12)) (ok := (fun _ => True)) (by (with_reducible repeat (first | apply Kd.R_alloc | apply Kd.R_drewN | apply Kd.R_drew)); exact Kd.R_mono HO_8.out (fun _ hk => ⟨trivial, hk⟩)) hg (.inl rfl)); have n2_ := Aside0.mk ((by rw [hw]; exact below_set (HB.out) GB28.out : Below w.heap.size w w32)); clear HO_6; clear HO_8; clear HB; have HO_6 := n0_; have HO_8 := n1_; have HB := n2_; clear n0_ n1_ n2_; clear hg hw hp_))
                 go_loopg [12] kj17 (fun kq v12 w' => ∃ (x12_3 : Int), v12 = .int .i64 x12_3 ∧ Aside0 (locksteplaw18_RingApart.l1 kq l0 (wrap64 (1 + (wrap64 (Int.tmod a1 64)))) y412 y410 x9_1 t408 x12_3 = some r) ∧ Aside0 (kq ≤ kj17) ∧ Aside0 (Kd.R (Kd.int .i64) 3 w' w.heap.size (fun k_ => some k_ ≠ ((.slice (some ⟨go25, 0, none⟩) x8_1.length co25) : Value).ownBlock) (.slice (some ⟨go28, 0, none⟩) x6_1.length co12) y412) ∧ Aside0 (Kd.R (Kd.int .i64) 3 w' w.heap.size (fun k_ => some k_ ≠ ((.slice (some ⟨go28, 0, none⟩) x6_1.length co12) : Value).ownBlock) (.slice (some ⟨go25, 0, none⟩) x8_1.length co25) y410) ∧ Aside0 (Below w.heap.size w w'))
                 case atStart => exact ⟨(0), (by first | rfl | (simp; done) | (simp [*]; done)), H', ⟨Nat.le_refl _⟩, ⟨by (try simp only [hl6_1]); (with_reducible repeat (first | apply Kd.R_alloc | apply Kd.R_drewN | apply Kd.R_drew)); exact HO_6.out⟩, ⟨by (try simp only [hl6_1]); (with_reducible repeat (first | apply Kd.R_alloc | apply Kd.R_drewN | apply Kd.R_drew)); exact Kd.R_mono HO_8.out (fun _ hk => hk.2)⟩, ⟨by repeat (first | (with_reducible first | exact HB.out | apply below_alloc | apply pw_below_drewN | apply below_drew1) | exact HB.out)⟩⟩
                 case round =>
                  clear H'
                  (try clear c1); (try clear c2); (try clear p2); (try clear q2); (try clear hx2); (try clear hf2); (try clear c4); (try clear p4); (try clear q4); (try clear hx4); (try clear c5); (try clear c6); (try clear c6b0); (try clear c6b1); (try clear p6); (try clear c7); (try clear c7b0); (try clear c7b1); (try clear c8); (try clear c8b0); (try clear c8b1); (try clear c9); (try clear c9b0); (try clear c9b1)
                  (try clear c12); (try clear c15); (try clear c15b0); (try clear c16); (try clear c16b0); (try clear c20); (try clear c20b0); (try clear c20b1); (try clear c21); (try clear c21b0); (try clear c22); (try clear c23); (try clear c23b0); (try clear c24); (try clear c24b0); (try clear p25); (try clear q25); (try clear hx25); (try clear hf25); (try clear c26); (try clear c26b0); (try clear c27); (try clear c27b0)
                  (try clear p28); (try clear q28); (try clear hx28); (try clear hf28); (try clear hx25_0); (try clear hx28_0); (try clear hx407_0); (try clear hx407_1); (try clear hx407_2); (try clear hx411_0); (try clear p2); (try clear p25); (try clear p28); (try clear p4); (try clear p407); (try clear p411); (try clear p6); (try clear q25); (try clear q28); (try clear q4); (try clear q407); (try clear q411)
                  obtain ⟨x12_3, rfl, HA, HK3, HO_6, HO_8, HB⟩ := hrel
                  have hl6_3 := (Kd.R_reads' HO_6.out).1
                  rw [hl6_3] at HO_6
                  (try simp only [hl6_3])
                  (try simp only [hl6_3] at HO_8)
                  have hl8_3 := (Kd.R_reads' HO_8.out).1
                  rw [hl8_3] at HO_8
                  (try simp only [hl8_3])
                  (try simp only [hl8_3] at HO_6)
                  cases gk with
                  | zero => exact absurd HA.out (by simp [locksteplaw18_RingApart.l1])
                  | succ k3 =>
                   have H := HA.out
                   clear HA
                   simp only [locksteplaw18_RingApart.l1] at H
                   by_cases c33 : x12_3 < x9_1
                   ·
                    rw [if_pos c33] at H
                    have c33b0 : decide (x12_3 < x9_1) = true := decide_eq_true c33
                    clear c33
                    by_cases c34 : 0 ≤ x12_3
                    ·
                     rw [if_pos c34] at H
                     have c34b0 : decide (0 ≤ x12_3) = true := decide_eq_true c34
                     clear c34
                     by_cases c35 : x12_3 < (l0.length : Int)
                     ·
                      rw [if_pos c35] at H
                      have c35b0 : decide (x12_3 < (l0.length : Int)) = true := decide_eq_true c35
                      clear c35
                      by_cases c36 : 0 ≤ x9_1
                      ·
                       rw [if_pos c36] at H
                       have c36b0 : decide (0 ≤ x9_1) = true := decide_eq_true c36
                       clear c36
                       by_cases c37 : x9_1 < (l0.length : Int)
                       ·
                        rw [if_pos c37] at H
                        have c37b0 : decide (x9_1 < (l0.length : Int)) = true := decide_eq_true c37
                        clear c37
                        replace H := Option.bind_eq_some_iff.mp H
                        obtain ⟨t415, A380, H⟩ := H
                        replace H : (if t415 = true then (if x12_3 < (y410.length : Int) then (if (rd y410 x12_3) = t408 then (locksteplaw18_RingApart.l1 k3 l0 (wrap64 (1 + (wrap64 (Int.tmod a1 64)))) y412 y410 x9_1 t408 (wrap64 (x12_3 + 1))) else (some false)) else (none)) else (locksteplaw18_RingApart.l1 k3 l0 (wrap64 (1 + (wrap64 (Int.tmod a1 64)))) y412 y410 x9_1 t408 (wrap64 (x12_3 + 1)))) = some r := H
                        have A38 := Aside0.mk A380
                        clear A380
                        by_cases c39 : t415 = true
                        ·
                         subst c39
                         have H1 : (if x12_3 < (y410.length : Int) then (if (rd y410 x12_3) = t408 then (locksteplaw18_RingApart.l1 k3 l0 (wrap64 (1 + (wrap64 (Int.tmod a1 64)))) y412 y410 x9_1 t408 (wrap64 (x12_3 + 1))) else (some false)) else (none)) = some r := by rw [if_pos rfl] at H; exact H
                         clear H
                         have H := H1
                         clear H1
                         by_cases c40 : x12_3 < (y410.length : Int)
                         ·
                          rw [if_pos c40] at H
                          have c40b0 : decide (x12_3 < (y410.length : Int)) = true := decide_eq_true c40
                          clear c40
                          by_cases c41 : (rd y410 x12_3) = t408
                          ·
                           rw [if_pos c41] at H
                           have c41b0 : ((rd y410 x12_3) == t408) = true := beq_iff_eq.mpr c41
                           have c41b1 : ((rd y410 x12_3) != t408) = false := bne_eq_false_iff_eq.mpr c41
                           clear c41
                           have H' := Aside0.mk H
                           clear H
                           try go_wp2
                           have n0_ := Aside0.mk (Kd.R_drew HO_6.out)
                           have n1_ := Aside0.mk (Kd.R_drew HO_8.out)
                           have n2_ := Aside0.mk (below_drew1 HB.out)
                           clear HO_6
                           clear HO_8
                           clear HB
                           have HO_6 := n0_
                           have HO_8 := n1_
                           have HB := n2_
                           clear n0_ n1_ n2_
                           have p413 : 0 ≤ (x12_3 : Int) := of_decide_eq_true (by first | (with_reducible assumption) | assumption)
                           have q413 : x12_3 < (l0.length : Int) := of_decide_eq_true (by first | (with_reducible assumption) | assumption)
                           obtain ⟨ad413, e413, hx413_0, hx413_1, hx413_2⟩ := at_T32 HR0.out x12_3 p413 q413
                           have hw413_2 := hx413_2
                           have hw413_1 := hx413_1
                           have hw413_0 := hx413_0
                           obtain rfl : ad407 = ad413 := (by injection e413)
                           replace hx413_0 := (HB.out.cell (World.block_lt_of_cell? w _ hx413_0)).trans hx413_0
                           replace hx413_1 := (HB.out.cell (World.block_lt_of_cell? w _ hx413_1)).trans hx413_1
                           replace hx413_2 := (HB.out.cell (World.block_lt_of_cell? w _ hx413_2)).trans hx413_2
                           replace p413 := eq_true p413
                           replace q413 := eq_true q413
                           have p414 : 0 ≤ (x9_1 : Int) := of_decide_eq_true (by first | (with_reducible assumption) | assumption)
                           have q414 : x9_1 < (l0.length : Int) := of_decide_eq_true (by first | (with_reducible assumption) | assumption)
                           obtain ⟨ad414, e414, hx414_0, hx414_1, hx414_2⟩ := at_T32 HR0.out x9_1 p414 q414
                           have hw414_2 := hx414_2
                           have hw414_1 := hx414_1
                           have hw414_0 := hx414_0
                           obtain rfl : ad407 = ad414 := (by injection e414)
                           replace hx414_0 := (HB.out.cell (World.block_lt_of_cell? w _ hx414_0)).trans hx414_0
                           replace hx414_1 := (HB.out.cell (World.block_lt_of_cell? w _ hx414_1)).trans hx414_1
                           replace hx414_2 := (HB.out.cell (World.block_lt_of_cell? w _ hx414_2)).trans hx414_2
                           replace p414 := eq_true p414
                           replace q414 := eq_true q414
                           have p416 : 0 ≤ (x12_3 : Int) := of_decide_eq_true (by first | (with_reducible assumption) | assumption)
                           have q416 : x12_3 < (y410.length : Int) := of_decide_eq_true (by first | (with_reducible assumption) | assumption)
                           obtain ⟨ad416, e416, hx416_0⟩ := Kd.at_int (Kd.R_reads' HO_8.out).2.2 x12_3 p416 q416
                           obtain rfl : (⟨go25, 0, none⟩ : Addr) = ad416 := (by injection e416)
                           (first | simp only [add_plain] at hx416_0 | simp only [add_at] at hx416_0 | simp only [Addr.add, Nat.zero_add] at hx416_0 | skip)
                           replace p416 := eq_true p416
                           replace q416 := eq_true q416
                           refine start_ (n := 17) (S := fun w' => w'.cell? (ad407.add ((x12_3).toNat * 3)) = some (.int .i64 ((rd_T32 l0 x12_3).f0)) ∧ w'.cell? ⟨(ad407.add ((x12_3).toNat * 3)).block, (ad407.add ((x12_3).toNat * 3)).off + 1, none⟩ = some (.int .i64 ((rd_T32 l0 x12_3).f1)) ∧ w'.cell? ⟨(ad407.add ((x12_3).toNat * 3)).block, (ad407.add ((x12_3).toNat * 3)).off + 2, none⟩ = some (.string ((rd_T32 l0 x12_3).f2)) ∧ w'.cell? (ad407.add ((x9_1).toNat * 3)) = some (.int .i64 ((rd_T32 l0 x9_1).f0)) ∧ w'.cell? ⟨(ad407.add ((x9_1).toNat * 3)).block, (ad407.add ((x9_1).toNat * 3)).off + 1, none⟩ = some (.int .i64 ((rd_T32 l0 x9_1).f1)) ∧ w'.cell? ⟨(ad407.add ((x9_1).toNat * 3)).block, (ad407.add ((x9_1).toNat * 3)).off + 2, none⟩ = some (.string ((rd_T32 l0 x9_1).f2)) ∧ w'.cell? ⟨go25, (x12_3).toNat, none⟩ = some (.int .i64 (rd y410 x12_3))) (ds := []) #[false, false, false, false, false, false, false, false, false, false, false, false, false, false, false, false, false] (by kernel_rfl) rfl rfl ⟨((HB.out.cell (World.block_lt_of_cell? w _ hw413_0)).trans hw413_0), ((HB.out.cell (World.block_lt_of_cell? w _ hw413_1)).trans hw413_1), ((HB.out.cell (World.block_lt_of_cell? w _ hw413_2)).trans hw413_2), ((HB.out.cell (World.block_lt_of_cell? w _ hw414_0)).trans hw414_0), ((HB.out.cell (World.block_lt_of_cell? w _ hw414_1)).trans hw414_1), ((HB.out.cell (World.block_lt_of_cell? w _ hw414_2)).trans hw414_2), hx416_0⟩ (fun hHeld => ?_); refine with_tabW locksteplaw18_RingApart.tab21 locksteplaw18_RingApart.bits21 (fun HT_ HW_ => ?_)
                           generalize wr.drew = w42 at HO_6 HO_8 HB hx413_0 hx413_1 hx413_2 hx414_0 hx414_1 hx414_2 hx416_0 hHeld ⊢
                           refine pure_ (i := 0) (N := some 84) (v := ?_) (a' := ?_) #[true, false, false, false, false, false, false, false, false, false, false, false, false, false, false, false, false] rfl rfl (any_of HT_.out (by kernel_rfl)) (fun _ _ _ h => h) (Or.inl ⟨by rfl, ?_⟩) ?_ ?_
                           rotate_left
                           ·
                            intro w'
                            go_simp
                            with_reducible rfl
                           rotate_left
                           ·
                            simp only [Act.put, List.setIfInBounds_toArray, List.set_cons_zero, List.set_cons_succ, i64_w, i32_w]
                            rfl
                           refine pure_ (i := 1) (N := some 85) (v := ?_) (a' := ?_) #[true, true, false, false, false, false, false, false, false, false, false, false, false, false, false, false, false] rfl rfl (any_of HT_.out (by kernel_rfl)) (fun _ _ _ h => h) (Or.inl ⟨by rfl, ?_⟩) ?_ ?_
                           rotate_left
                           ·
                            intro w'
                            go_simp
                            with_reducible rfl
                           rotate_left
                           ·
                            simp only [Act.put, List.setIfInBounds_toArray, List.set_cons_zero, List.set_cons_succ, i64_w, i32_w]
                            rfl
                           refine pure_ (i := 2) (N := some 86) (v := ?_) (a' := ?_) #[true, true, true, false, false, false, false, false, false, false, false, false, false, false, false, false, false] rfl rfl (any_of HT_.out (by kernel_rfl)) (fun _ _ _ h => h) (Or.inl ⟨by rfl, ?_⟩) ?_ ?_
                           rotate_left
                           ·
                            intro w'
                            go_simp
                            with_reducible rfl
                           rotate_left
                           ·
                            simp only [Act.put, List.setIfInBounds_toArray, List.set_cons_zero, List.set_cons_succ, i64_w, i32_w]
                            rfl
                           refine pure_ (i := 4) (N := some 88) (v := ?_) (a' := ?_) #[true, true, true, false, true, false, false, false, false, false, false, false, false, false, false, false, false] rfl rfl (any_of HT_.out (by kernel_rfl)) (fun _ _ _ h => h) (Or.inl ⟨by rfl, ?_⟩) ?_ ?_
                           rotate_left
                           ·
                            intro w'
                            go_simp
                            with_reducible rfl
                           rotate_left
                           ·
                            simp only [Act.put, List.setIfInBounds_toArray, List.set_cons_zero, List.set_cons_succ, i64_w, i32_w]
                            rfl
                           refine pure_ (i := 5) (N := some 89) (v := ?_) (a' := ?_) #[true, true, true, false, true, true, false, false, false, false, false, false, false, false, false, false, false] rfl rfl (any_of HT_.out (by kernel_rfl)) (fun _ _ _ h => h) (Or.inl ⟨by rfl, ?_⟩) ?_ ?_
                           rotate_left
                           ·
                            intro w'
                            go_simp
                            with_reducible rfl
                           rotate_left
                           ·
                            simp only [Act.put, List.setIfInBounds_toArray, List.set_cons_zero, List.set_cons_succ, i64_w, i32_w]
                            rfl
                           refine pure_ (i := 6) (N := some 90) (v := ?_) (a' := ?_) #[true, true, true, false, true, true, true, false, false, false, false, false, false, false, false, false, false] rfl rfl (any_of HT_.out (by kernel_rfl)) (fun _ _ _ h => h) (Or.inl ⟨by rfl, ?_⟩) ?_ ?_
                           rotate_left
                           ·
                            intro w'
                            go_simp
                            with_reducible rfl
                           rotate_left
                           ·
                            simp only [Act.put, List.setIfInBounds_toArray, List.set_cons_zero, List.set_cons_succ, i64_w, i32_w]
                            rfl
                           refine take_ (i := 3) (N := some 87) (v := ?_) (a' := ?_) #[true, true, true, true, true, true, true, false, false, false, false, false, false, false, false, false, false] rfl rfl (take_ofW HT_.out HW_.out (by kernel_rfl)) (fun _ _ _ h => h) (Or.inl ⟨by rfl, ?_⟩) hHeld ?_ ?_
                           rotate_left
                           ·
                            rintro w' ⟨s0, s1, s2, s3, s4, s5, s6⟩
                            go_simp
                            with_reducible rfl
                           rotate_left
                           ·
                            simp only [Act.put, List.setIfInBounds_toArray, List.set_cons_zero, List.set_cons_succ, i64_w, i32_w]
                            rfl
                           refine take_ (i := 7) (N := some 91) (v := ?_) (a' := ?_) #[true, true, true, true, true, true, true, true, false, false, false, false, false, false, false, false, false] rfl rfl (take_ofW HT_.out HW_.out (by kernel_rfl)) (fun _ _ _ h => h) (Or.inl ⟨by rfl, ?_⟩) hHeld ?_ ?_
                           rotate_left
                           ·
                            rintro w' ⟨s0, s1, s2, s3, s4, s5, s6⟩
                            go_simp
                            with_reducible rfl
                           rotate_left
                           ·
                            simp only [Act.put, List.setIfInBounds_toArray, List.set_cons_zero, List.set_cons_succ, i64_w, i32_w]
                            rfl
                           refine one_ (i := 8) (N := some 92) #[true, true, true, true, true, true, true, true, true, false, false, false, false, false, false, false, false] rfl rfl (one_of HT_.out (by kernel_rfl)) (by decide) (fun K hK => ?_)
                           refine goes_ Tryd.func15 (by kernel_rfl) rfl #[.agg #[.int .i64 ((rd_T32 l0 x12_3).f0), .int .i64 ((rd_T32 l0 x12_3).f1), .string ((rd_T32 l0 x12_3).f2)], .agg #[.int .i64 ((rd_T32 l0 x9_1).f0), .int .i64 ((rd_T32 l0 x9_1).f1), .string ((rd_T32 l0 x9_1).f2)]] (by rfl) rfl rfl (by (try simp only [List.map_toArray, List.map_cons, List.map_nil]); first | done | rfl | (simp only [List.length_drop, List.length_take]; rfl)) ?_
                           with_reducible refine (value_Same.calls k3 ((rd_T32 l0 x12_3).f0) ((rd_T32 l0 x12_3).f1) ((rd_T32 l0 x12_3).f2) ((rd_T32 l0 x9_1).f0) ((rd_T32 l0 x9_1).f1) ((rd_T32 l0 x9_1).f2) true _ A38.out).mono ?_
                           rintro e w43 ⟨rfl, hb⟩
                           have HS6_ := (hb.cell (World.block_lt_of_cell? _ _ (hHeld.2.2.2.2.2.2))).trans (hHeld.2.2.2.2.2.2)
                           refine ⟨_, rfl, ?_⟩
                           have n0_ := Aside0.mk (Kd.R_below (by (with_reducible repeat (first | apply Kd.R_alloc | apply Kd.R_drewN | apply Kd.R_drew)); exact HO_6.out) hb)
                           have n1_ := Aside0.mk (Kd.R_below (by (with_reducible repeat (first | apply Kd.R_alloc | apply Kd.R_drewN | apply Kd.R_drew)); exact HO_8.out) hb)
                           have n2_ := Aside0.mk (below_step (by repeat (first | (with_reducible first | exact HB.out | apply below_alloc | apply pw_below_drewN | apply below_drew1) | exact HB.out)) hb)
                           clear HO_6
                           clear HO_8
                           clear HB
                           have HO_6 := n0_
                           have HO_8 := n1_
                           have HB := n2_
                           clear n0_ n1_ n2_
                           (try clear hb)
                           (try clear hb2)
                           (try clear hk)
                           (try clear hi)
                           refine hK.out _ _ ⟨((HB.out.cell (World.block_lt_of_cell? w _ hw413_0)).trans hw413_0), ((HB.out.cell (World.block_lt_of_cell? w _ hw413_1)).trans hw413_1), ((HB.out.cell (World.block_lt_of_cell? w _ hw413_2)).trans hw413_2), ((HB.out.cell (World.block_lt_of_cell? w _ hw414_0)).trans hw414_0), ((HB.out.cell (World.block_lt_of_cell? w _ hw414_1)).trans hw414_1), ((HB.out.cell (World.block_lt_of_cell? w _ hw414_2)).trans hw414_2), HS6_⟩ (fun hHeld => ?_)
                           clear hK K
                           refine norm_ (a' := ?_) ?_ ?_
                           rotate_left
                           ·
                            show Act.put _ (some 92) _ = _
                            simp only [Act.put, List.setIfInBounds_toArray, List.set_cons_zero, List.set_cons_succ, i64_w, i32_w]
                            rfl
                           refine pure_ (i := 9) (N := some 93) (v := ?_) (a' := ?_) #[true, true, true, true, true, true, true, true, true, true, false, false, false, false, false, false, false] rfl rfl (any_of HT_.out (by kernel_rfl)) (fun _ _ _ h => h) (Or.inl ⟨by rfl, ?_⟩) ?_ ?_
                           rotate_left
                           ·
                            intro w'
                            go_simp
                            with_reducible rfl
                           rotate_left
                           ·
                            simp only [Act.put, List.setIfInBounds_toArray, List.set_cons_zero, List.set_cons_succ, i64_w, i32_w]
                            rfl
                           refine pure_ (i := 10) (N := some 94) (v := ?_) (a' := ?_) #[true, true, true, true, true, true, true, true, true, true, true, false, false, false, false, false, false] rfl rfl (any_of HT_.out (by kernel_rfl)) (fun _ _ _ h => h) (Or.inl ⟨by rfl, ?_⟩) ?_ ?_
                           rotate_left
                           ·
                            intro w'
                            go_simp
                            with_reducible rfl
                           rotate_left
                           ·
                            simp only [Act.put, List.setIfInBounds_toArray, List.set_cons_zero, List.set_cons_succ, i64_w, i32_w]
                            rfl
                           refine pure_ (i := 11) (N := some 95) (v := ?_) (a' := ?_) #[true, true, true, true, true, true, true, true, true, true, true, true, false, false, false, false, false] rfl rfl (any_of HT_.out (by kernel_rfl)) (fun _ _ _ h => h) (Or.inl ⟨by rfl, ?_⟩) ?_ ?_
                           rotate_left
                           ·
                            intro w'
                            go_simp
                            with_reducible rfl
                           rotate_left
                           ·
                            simp only [Act.put, List.setIfInBounds_toArray, List.set_cons_zero, List.set_cons_succ, i64_w, i32_w]
                            rfl
                           refine pure_ (i := 12) (N := some 96) (v := ?_) (a' := ?_) #[true, true, true, true, true, true, true, true, true, true, true, true, true, false, false, false, false] rfl rfl (any_of HT_.out (by kernel_rfl)) (fun _ _ _ h => h) (Or.inl ⟨by rfl, ?_⟩) ?_ ?_
                           rotate_left
                           ·
                            intro w'
                            go_simp
                            with_reducible rfl
                           rotate_left
                           ·
                            simp only [Act.put, List.setIfInBounds_toArray, List.set_cons_zero, List.set_cons_succ, i64_w, i32_w]
                            rfl
                           refine pure_ (i := 14) (N := some 98) (v := ?_) (a' := ?_) #[true, true, true, true, true, true, true, true, true, true, true, true, true, false, true, false, false] rfl rfl (any_of HT_.out (by kernel_rfl)) (fun _ _ _ h => h) (Or.inl ⟨by rfl, ?_⟩) ?_ ?_
                           rotate_left
                           ·
                            intro w'
                            go_simp
                            with_reducible rfl
                           rotate_left
                           ·
                            simp only [Act.put, List.setIfInBounds_toArray, List.set_cons_zero, List.set_cons_succ, i64_w, i32_w]
                            rfl
                           refine take_ (i := 13) (N := some 97) (v := ?_) (a' := ?_) #[true, true, true, true, true, true, true, true, true, true, true, true, true, true, true, false, false] rfl rfl (take_ofW HT_.out HW_.out (by kernel_rfl)) (fun _ _ _ h => h) (Or.inl ⟨by rfl, ?_⟩) hHeld ?_ ?_
                           rotate_left
                           ·
                            rintro w' ⟨s0, s1, s2, s3, s4, s5, s6⟩
                            go_simp
                            with_reducible rfl
                           rotate_left
                           ·
                            simp only [Act.put, List.setIfInBounds_toArray, List.set_cons_zero, List.set_cons_succ, i64_w, i32_w]
                            rfl
                           refine pure_ (i := 15) (N := some 99) (v := ?_) (a' := ?_) #[true, true, true, true, true, true, true, true, true, true, true, true, true, true, true, true, false] rfl rfl (any_of HT_.out (by kernel_rfl)) (fun _ _ _ h => h) (Or.inl ⟨by rfl, ?_⟩) ?_ ?_
                           rotate_left
                           ·
                            intro w'
                            go_simp
                            with_reducible rfl
                           rotate_left
                           ·
                            simp only [Act.put, List.setIfInBounds_toArray, List.set_cons_zero, List.set_cons_succ, i64_w, i32_w]
                            rfl
                           refine pure_ (i := 16) (N := some 100) (v := ?_) (a' := ?_) #[true, true, true, true, true, true, true, true, true, true, true, true, true, true, true, true, true] rfl rfl (any_of HT_.out (by kernel_rfl)) (fun _ _ _ h => h) (Or.inl ⟨by rfl, ?_⟩) ?_ ?_
                           rotate_left
                           ·
                            intro w'
                            go_simp
                            with_reducible rfl
                           rotate_left
                           ·
                            simp only [Act.put, List.setIfInBounds_toArray, List.set_cons_zero, List.set_cons_succ, i64_w, i32_w]
                            rfl
                           refine done_ (done_of HT_.out (by kernel_rfl)) ?_
                           try go_wp2
                           (try simp only [← hl6_3, ← hl8_3])
                           go_roundg k3
                           case measure => have := HK1.out; have := HJ17.out; have := HK3.out; omega
                           case rel => exact ⟨(wrap64 (x12_3 + 1)), (by first | rfl | (simp; done) | (simp [*]; done)), H', ⟨by have := HK1.out; have := HJ17.out; have := HK3.out; omega⟩, ⟨by (try simp only [hl6_1]); (try simp only [hl6_3]); (try simp only [hl8_3]); (with_reducible repeat (first | apply Kd.R_alloc | apply Kd.R_drewN | apply Kd.R_drew)); exact HO_6.out⟩, ⟨by (try simp only [hl6_1]); (try simp only [hl6_3]); (try simp only [hl8_3]); (with_reducible repeat (first | apply Kd.R_alloc | apply Kd.R_drewN | apply Kd.R_drew)); exact HO_8.out⟩, ⟨by repeat (first | (with_reducible first | exact HB.out | apply below_alloc | apply pw_below_drewN | apply below_drew1) | exact HB.out)⟩⟩
                          ·
                           rw [if_neg c41] at H
                           have c41b0 : ((rd y410 x12_3) == t408) = false := beq_eq_false_iff_ne.mpr c41
                           have c41b1 : ((rd y410 x12_3) != t408) = true := bne_iff_ne.mpr c41
                           exact absurd (Option.some.inj H) (by rw [HR.out]; simp)
                         ·
                          rw [if_neg c40] at H
                          exact absurd H (by simp)
                        ·
                         replace c39 := Bool.eq_false_iff.mpr c39
                         subst c39
                         have H1 : (locksteplaw18_RingApart.l1 k3 l0 (wrap64 (1 + (wrap64 (Int.tmod a1 64)))) y412 y410 x9_1 t408 (wrap64 (x12_3 + 1))) = some r := by rw [if_neg (show ¬ (false = true) by decide)] at H; exact H
                         clear H
                         have H := H1
                         clear H1
                         have H' := Aside0.mk H
                         clear H
                         try go_wp2
                         have n0_ := Aside0.mk (Kd.R_drew HO_6.out)
                         have n1_ := Aside0.mk (Kd.R_drew HO_8.out)
                         have n2_ := Aside0.mk (below_drew1 HB.out)
                         clear HO_6
                         clear HO_8
                         clear HB
                         have HO_6 := n0_
                         have HO_8 := n1_
                         have HB := n2_
                         clear n0_ n1_ n2_
                         have p413 : 0 ≤ (x12_3 : Int) := of_decide_eq_true (by first | (with_reducible assumption) | assumption)
                         have q413 : x12_3 < (l0.length : Int) := of_decide_eq_true (by first | (with_reducible assumption) | assumption)
                         obtain ⟨ad413, e413, hx413_0, hx413_1, hx413_2⟩ := at_T32 HR0.out x12_3 p413 q413
                         have hw413_2 := hx413_2
                         have hw413_1 := hx413_1
                         have hw413_0 := hx413_0
                         obtain rfl : ad407 = ad413 := (by injection e413)
                         replace hx413_0 := (HB.out.cell (World.block_lt_of_cell? w _ hx413_0)).trans hx413_0
                         replace hx413_1 := (HB.out.cell (World.block_lt_of_cell? w _ hx413_1)).trans hx413_1
                         replace hx413_2 := (HB.out.cell (World.block_lt_of_cell? w _ hx413_2)).trans hx413_2
                         replace p413 := eq_true p413
                         replace q413 := eq_true q413
                         have p414 : 0 ≤ (x9_1 : Int) := of_decide_eq_true (by first | (with_reducible assumption) | assumption)
                         have q414 : x9_1 < (l0.length : Int) := of_decide_eq_true (by first | (with_reducible assumption) | assumption)
                         obtain ⟨ad414, e414, hx414_0, hx414_1, hx414_2⟩ := at_T32 HR0.out x9_1 p414 q414
                         have hw414_2 := hx414_2
                         have hw414_1 := hx414_1
                         have hw414_0 := hx414_0
                         obtain rfl : ad407 = ad414 := (by injection e414)
                         replace hx414_0 := (HB.out.cell (World.block_lt_of_cell? w _ hx414_0)).trans hx414_0
                         replace hx414_1 := (HB.out.cell (World.block_lt_of_cell? w _ hx414_1)).trans hx414_1
                         replace hx414_2 := (HB.out.cell (World.block_lt_of_cell? w _ hx414_2)).trans hx414_2
                         replace p414 := eq_true p414
                         replace q414 := eq_true q414
                         refine start_ (n := 17) (S := fun w' => w'.cell? (ad407.add ((x12_3).toNat * 3)) = some (.int .i64 ((rd_T32 l0 x12_3).f0)) ∧ w'.cell? ⟨(ad407.add ((x12_3).toNat * 3)).block, (ad407.add ((x12_3).toNat * 3)).off + 1, none⟩ = some (.int .i64 ((rd_T32 l0 x12_3).f1)) ∧ w'.cell? ⟨(ad407.add ((x12_3).toNat * 3)).block, (ad407.add ((x12_3).toNat * 3)).off + 2, none⟩ = some (.string ((rd_T32 l0 x12_3).f2)) ∧ w'.cell? (ad407.add ((x9_1).toNat * 3)) = some (.int .i64 ((rd_T32 l0 x9_1).f0)) ∧ w'.cell? ⟨(ad407.add ((x9_1).toNat * 3)).block, (ad407.add ((x9_1).toNat * 3)).off + 1, none⟩ = some (.int .i64 ((rd_T32 l0 x9_1).f1)) ∧ w'.cell? ⟨(ad407.add ((x9_1).toNat * 3)).block, (ad407.add ((x9_1).toNat * 3)).off + 2, none⟩ = some (.string ((rd_T32 l0 x9_1).f2))) (ds := []) #[false, false, false, false, false, false, false, false, false, false, false, false, false, false, false, false, false] (by kernel_rfl) rfl rfl ⟨((HB.out.cell (World.block_lt_of_cell? w _ hw413_0)).trans hw413_0), ((HB.out.cell (World.block_lt_of_cell? w _ hw413_1)).trans hw413_1), ((HB.out.cell (World.block_lt_of_cell? w _ hw413_2)).trans hw413_2), ((HB.out.cell (World.block_lt_of_cell? w _ hw414_0)).trans hw414_0), ((HB.out.cell (World.block_lt_of_cell? w _ hw414_1)).trans hw414_1), ((HB.out.cell (World.block_lt_of_cell? w _ hw414_2)).trans hw414_2)⟩ (fun hHeld => ?_); refine with_tabW locksteplaw18_RingApart.tab21 locksteplaw18_RingApart.bits21 (fun HT_ HW_ => ?_)
                         generalize wr.drew = w44 at HO_6 HO_8 HB hx413_0 hx413_1 hx413_2 hx414_0 hx414_1 hx414_2 hHeld ⊢
                         refine pure_ (i := 0) (N := some 84) (v := ?_) (a' := ?_) #[true, false, false, false, false, false, false, false, false, false, false, false, false, false, false, false, false] rfl rfl (any_of HT_.out (by kernel_rfl)) (fun _ _ _ h => h) (Or.inl ⟨by rfl, ?_⟩) ?_ ?_
                         rotate_left
                         ·
                          intro w'
                          go_simp
                          with_reducible rfl
                         rotate_left
                         ·
                          simp only [Act.put, List.setIfInBounds_toArray, List.set_cons_zero, List.set_cons_succ, i64_w, i32_w]
                          rfl
                         refine pure_ (i := 1) (N := some 85) (v := ?_) (a' := ?_) #[true, true, false, false, false, false, false, false, false, false, false, false, false, false, false, false, false] rfl rfl (any_of HT_.out (by kernel_rfl)) (fun _ _ _ h => h) (Or.inl ⟨by rfl, ?_⟩) ?_ ?_
                         rotate_left
                         ·
                          intro w'
                          go_simp
                          with_reducible rfl
                         rotate_left
                         ·
                          simp only [Act.put, List.setIfInBounds_toArray, List.set_cons_zero, List.set_cons_succ, i64_w, i32_w]
                          rfl
                         refine pure_ (i := 2) (N := some 86) (v := ?_) (a' := ?_) #[true, true, true, false, false, false, false, false, false, false, false, false, false, false, false, false, false] rfl rfl (any_of HT_.out (by kernel_rfl)) (fun _ _ _ h => h) (Or.inl ⟨by rfl, ?_⟩) ?_ ?_
                         rotate_left
                         ·
                          intro w'
                          go_simp
                          with_reducible rfl
                         rotate_left
                         ·
                          simp only [Act.put, List.setIfInBounds_toArray, List.set_cons_zero, List.set_cons_succ, i64_w, i32_w]
                          rfl
                         refine pure_ (i := 4) (N := some 88) (v := ?_) (a' := ?_) #[true, true, true, false, true, false, false, false, false, false, false, false, false, false, false, false, false] rfl rfl (any_of HT_.out (by kernel_rfl)) (fun _ _ _ h => h) (Or.inl ⟨by rfl, ?_⟩) ?_ ?_
                         rotate_left
                         ·
                          intro w'
                          go_simp
                          with_reducible rfl
                         rotate_left
                         ·
                          simp only [Act.put, List.setIfInBounds_toArray, List.set_cons_zero, List.set_cons_succ, i64_w, i32_w]
                          rfl
                         refine pure_ (i := 5) (N := some 89) (v := ?_) (a' := ?_) #[true, true, true, false, true, true, false, false, false, false, false, false, false, false, false, false, false] rfl rfl (any_of HT_.out (by kernel_rfl)) (fun _ _ _ h => h) (Or.inl ⟨by rfl, ?_⟩) ?_ ?_
                         rotate_left
                         ·
                          intro w'
                          go_simp
                          with_reducible rfl
                         rotate_left
                         ·
                          simp only [Act.put, List.setIfInBounds_toArray, List.set_cons_zero, List.set_cons_succ, i64_w, i32_w]
                          rfl
                         refine pure_ (i := 6) (N := some 90) (v := ?_) (a' := ?_) #[true, true, true, false, true, true, true, false, false, false, false, false, false, false, false, false, false] rfl rfl (any_of HT_.out (by kernel_rfl)) (fun _ _ _ h => h) (Or.inl ⟨by rfl, ?_⟩) ?_ ?_
                         rotate_left
                         ·
                          intro w'
                          go_simp
                          with_reducible rfl
                         rotate_left
                         ·
                          simp only [Act.put, List.setIfInBounds_toArray, List.set_cons_zero, List.set_cons_succ, i64_w, i32_w]
                          rfl
                         refine take_ (i := 3) (N := some 87) (v := ?_) (a' := ?_) #[true, true, true, true, true, true, true, false, false, false, false, false, false, false, false, false, false] rfl rfl (take_ofW HT_.out HW_.out (by kernel_rfl)) (fun _ _ _ h => h) (Or.inl ⟨by rfl, ?_⟩) hHeld ?_ ?_
                         rotate_left
                         ·
                          rintro w' ⟨s0, s1, s2, s3, s4, s5⟩
                          go_simp
                          with_reducible rfl
                         rotate_left
                         ·
                          simp only [Act.put, List.setIfInBounds_toArray, List.set_cons_zero, List.set_cons_succ, i64_w, i32_w]
                          rfl
                         refine take_ (i := 7) (N := some 91) (v := ?_) (a' := ?_) #[true, true, true, true, true, true, true, true, false, false, false, false, false, false, false, false, false] rfl rfl (take_ofW HT_.out HW_.out (by kernel_rfl)) (fun _ _ _ h => h) (Or.inl ⟨by rfl, ?_⟩) hHeld ?_ ?_
                         rotate_left
                         ·
                          rintro w' ⟨s0, s1, s2, s3, s4, s5⟩
                          go_simp
                          with_reducible rfl
                         rotate_left
                         ·
                          simp only [Act.put, List.setIfInBounds_toArray, List.set_cons_zero, List.set_cons_succ, i64_w, i32_w]
                          rfl
                         refine one_ (i := 8) (N := some 92) #[true, true, true, true, true, true, true, true, true, false, false, false, false, false, false, false, false] rfl rfl (one_of HT_.out (by kernel_rfl)) (by decide) (fun K hK => ?_)
                         refine goes_ Tryd.func15 (by kernel_rfl) rfl #[.agg #[.int .i64 ((rd_T32 l0 x12_3).f0), .int .i64 ((rd_T32 l0 x12_3).f1), .string ((rd_T32 l0 x12_3).f2)], .agg #[.int .i64 ((rd_T32 l0 x9_1).f0), .int .i64 ((rd_T32 l0 x9_1).f1), .string ((rd_T32 l0 x9_1).f2)]] (by rfl) rfl rfl (by (try simp only [List.map_toArray, List.map_cons, List.map_nil]); first | done | rfl | (simp only [List.length_drop, List.length_take]; rfl)) ?_
                         with_reducible refine (value_Same.calls k3 ((rd_T32 l0 x12_3).f0) ((rd_T32 l0 x12_3).f1) ((rd_T32 l0 x12_3).f2) ((rd_T32 l0 x9_1).f0) ((rd_T32 l0 x9_1).f1) ((rd_T32 l0 x9_1).f2) false _ A38.out).mono ?_
                         rintro e w45 ⟨rfl, hb⟩
                         refine ⟨_, rfl, ?_⟩
                         have n0_ := Aside0.mk (Kd.R_below (by (with_reducible repeat (first | apply Kd.R_alloc | apply Kd.R_drewN | apply Kd.R_drew)); exact HO_6.out) hb)
                         have n1_ := Aside0.mk (Kd.R_below (by (with_reducible repeat (first | apply Kd.R_alloc | apply Kd.R_drewN | apply Kd.R_drew)); exact HO_8.out) hb)
                         have n2_ := Aside0.mk (below_step (by repeat (first | (with_reducible first | exact HB.out | apply below_alloc | apply pw_below_drewN | apply below_drew1) | exact HB.out)) hb)
                         clear HO_6
                         clear HO_8
                         clear HB
                         have HO_6 := n0_
                         have HO_8 := n1_
                         have HB := n2_
                         clear n0_ n1_ n2_
                         (try clear hb)
                         (try clear hb2)
                         (try clear hk)
                         (try clear hi)
                         refine hK.out _ _ ⟨((HB.out.cell (World.block_lt_of_cell? w _ hw413_0)).trans hw413_0), ((HB.out.cell (World.block_lt_of_cell? w _ hw413_1)).trans hw413_1), ((HB.out.cell (World.block_lt_of_cell? w _ hw413_2)).trans hw413_2), ((HB.out.cell (World.block_lt_of_cell? w _ hw414_0)).trans hw414_0), ((HB.out.cell (World.block_lt_of_cell? w _ hw414_1)).trans hw414_1), ((HB.out.cell (World.block_lt_of_cell? w _ hw414_2)).trans hw414_2)⟩ (fun hHeld => ?_)
                         clear hK K
                         refine norm_ (a' := ?_) ?_ ?_
                         rotate_left
                         ·
                          show Act.put _ (some 92) _ = _
                          simp only [Act.put, List.setIfInBounds_toArray, List.set_cons_zero, List.set_cons_succ, i64_w, i32_w]
                          rfl
                         refine pure_ (i := 9) (N := some 93) (v := ?_) (a' := ?_) #[true, true, true, true, true, true, true, true, true, true, false, false, false, false, false, false, false] rfl rfl (any_of HT_.out (by kernel_rfl)) (fun _ _ _ h => h) (Or.inl ⟨by rfl, ?_⟩) ?_ ?_
                         rotate_left
                         ·
                          intro w'
                          go_simp
                          with_reducible rfl
                         rotate_left
                         ·
                          simp only [Act.put, List.setIfInBounds_toArray, List.set_cons_zero, List.set_cons_succ, i64_w, i32_w]
                          rfl
                         refine pure_ (i := 10) (N := some 94) (v := undef) (a' := ?_) #[true, true, true, true, true, true, true, true, true, true, true, false, false, false, false, false, false] rfl rfl (any_of HT_.out (by kernel_rfl)) (fun _ _ _ h => h) (Or.inr ⟨by rfl, rfl⟩) ?_ ?_
                         rotate_left
                         ·
                          simp only [Act.put, List.setIfInBounds_toArray, List.set_cons_zero, List.set_cons_succ, i64_w, i32_w]
                          rfl
                         refine pure_ (i := 11) (N := some 95) (v := undef) (a' := ?_) #[true, true, true, true, true, true, true, true, true, true, true, true, false, false, false, false, false] rfl rfl (any_of HT_.out (by kernel_rfl)) (fun _ _ _ h => h) (Or.inr ⟨by rfl, rfl⟩) ?_ ?_
                         rotate_left
                         ·
                          simp only [Act.put, List.setIfInBounds_toArray, List.set_cons_zero, List.set_cons_succ, i64_w, i32_w]
                          rfl
                         refine pure_ (i := 12) (N := some 96) (v := undef) (a' := ?_) #[true, true, true, true, true, true, true, true, true, true, true, true, true, false, false, false, false] rfl rfl (any_of HT_.out (by kernel_rfl)) (fun _ _ _ h => h) (Or.inr ⟨by rfl, rfl⟩) ?_ ?_
                         rotate_left
                         ·
                          simp only [Act.put, List.setIfInBounds_toArray, List.set_cons_zero, List.set_cons_succ, i64_w, i32_w]
                          rfl
                         refine pure_ (i := 13) (N := some 97) (v := undef) (a' := ?_) #[true, true, true, true, true, true, true, true, true, true, true, true, true, true, false, false, false] rfl rfl (any_of HT_.out (by kernel_rfl)) (fun _ _ _ h => h) (Or.inr ⟨by rfl, rfl⟩) ?_ ?_
                         rotate_left
                         ·
                          simp only [Act.put, List.setIfInBounds_toArray, List.set_cons_zero, List.set_cons_succ, i64_w, i32_w]
                          rfl
                         refine pure_ (i := 14) (N := some 98) (v := undef) (a' := ?_) #[true, true, true, true, true, true, true, true, true, true, true, true, true, true, true, false, false] rfl rfl (any_of HT_.out (by kernel_rfl)) (fun _ _ _ h => h) (Or.inr ⟨by rfl, rfl⟩) ?_ ?_
                         rotate_left
                         ·
                          simp only [Act.put, List.setIfInBounds_toArray, List.set_cons_zero, List.set_cons_succ, i64_w, i32_w]
                          rfl
                         refine pure_ (i := 15) (N := some 99) (v := undef) (a' := ?_) #[true, true, true, true, true, true, true, true, true, true, true, true, true, true, true, true, false] rfl rfl (any_of HT_.out (by kernel_rfl)) (fun _ _ _ h => h) (Or.inr ⟨by rfl, rfl⟩) ?_ ?_
                         rotate_left
                         ·
                          simp only [Act.put, List.setIfInBounds_toArray, List.set_cons_zero, List.set_cons_succ, i64_w, i32_w]
                          rfl
                         refine pure_ (i := 16) (N := some 100) (v := ?_) (a' := ?_) #[true, true, true, true, true, true, true, true, true, true, true, true, true, true, true, true, true] rfl rfl (any_of HT_.out (by kernel_rfl)) (fun _ _ _ h => h) (Or.inl ⟨by rfl, ?_⟩) ?_ ?_
                         rotate_left
                         ·
                          intro w'
                          go_simp
                          with_reducible rfl
                         rotate_left
                         ·
                          simp only [Act.put, List.setIfInBounds_toArray, List.set_cons_zero, List.set_cons_succ, i64_w, i32_w]
                          rfl
                         refine done_ (done_of HT_.out (by kernel_rfl)) ?_
                         try go_wp2
                         (try simp only [← hl6_3, ← hl8_3])
                         go_roundg k3
                         case measure => have := HK1.out; have := HJ17.out; have := HK3.out; omega
                         case rel => exact ⟨(wrap64 (x12_3 + 1)), (by first | rfl | (simp; done) | (simp [*]; done)), H', ⟨by have := HK1.out; have := HJ17.out; have := HK3.out; omega⟩, ⟨by (try simp only [hl6_1]); (try simp only [hl6_3]); (try simp only [hl8_3]); (with_reducible repeat (first | apply Kd.R_alloc | apply Kd.R_drewN | apply Kd.R_drew)); exact HO_6.out⟩, ⟨by (try simp only [hl6_1]); (try simp only [hl6_3]); (try simp only [hl8_3]); (with_reducible repeat (first | apply Kd.R_alloc | apply Kd.R_drewN | apply Kd.R_drew)); exact HO_8.out⟩, ⟨by repeat (first | (with_reducible first | exact HB.out | apply below_alloc | apply pw_below_drewN | apply below_drew1) | exact HB.out)⟩⟩
                       ·
                        rw [if_neg c37] at H
                        exact absurd H (by simp)
                      ·
                       rw [if_neg c36] at H
                       exact absurd H (by simp)
                     ·
                      rw [if_neg c35] at H
                      exact absurd H (by simp)
                    ·
                     rw [if_neg c34] at H
                     exact absurd H (by simp)
                   ·
                    rw [if_neg c33] at H
                    have c33b0 : decide (x12_3 < x9_1) = false := decide_eq_false c33
                    clear c33
                    by_cases c46 : 0 ≤ x9_1
                    ·
                     rw [if_pos c46] at H
                     have c46b0 : decide (0 ≤ x9_1) = true := decide_eq_true c46
                     clear c46
                     by_cases c47 : x9_1 < (l0.length : Int)
                     ·
                      rw [if_pos c47] at H
                      have c47b0 : decide (x9_1 < (l0.length : Int)) = true := decide_eq_true c47
                      clear c47
                      by_cases c48 : ((rd_T32 l0 x9_1).f0) = 0
                      ·
                       rw [if_pos c48] at H
                       have c48b0 : (((rd_T32 l0 x9_1).f0) == 0) = true := beq_iff_eq.mpr c48
                       have c48b1 : (((rd_T32 l0 x9_1).f0) != 0) = false := bne_eq_false_iff_eq.mpr c48
                       clear c48
                       have H' := Aside0.mk H
                       clear H
                       have p417 : 0 ≤ (x9_1 : Int) := of_decide_eq_true (by first | (with_reducible assumption) | assumption)
                       have q417 : x9_1 < (l0.length : Int) := of_decide_eq_true (by first | (with_reducible assumption) | assumption)
                       obtain ⟨ad417, e417, hx417_0, hx417_1, hx417_2⟩ := at_T32 HR0.out x9_1 p417 q417
                       obtain rfl : ad407 = ad417 := (by injection e417)
                       replace hx417_0 := (HB.out.cell (World.block_lt_of_cell? w _ hx417_0)).trans hx417_0
                       replace hx417_1 := (HB.out.cell (World.block_lt_of_cell? w _ hx417_1)).trans hx417_1
                       replace hx417_2 := (HB.out.cell (World.block_lt_of_cell? w _ hx417_2)).trans hx417_2
                       replace p417 := eq_true p417
                       replace q417 := eq_true q417
                       go_wp2
                       (try simp only [← hl6_1, ← hl6_3, ← hl8_3])
                       go_roundg k3
                       case measure => have := HK1.out; have := HJ17.out; have := HK3.out; omega
                       case rel => exact ⟨(y412), (y410), (wrap64 (x9_1 + 1)), (by first | rfl | (simp; done) | (simp [*]; done)), H', ⟨by have := HK1.out; have := HJ17.out; have := HK3.out; omega⟩, ⟨by (try simp only [hl6_1]); (try simp only [hl6_3]); (try simp only [hl8_3]); (with_reducible repeat (first | apply Kd.R_alloc | apply Kd.R_drewN | apply Kd.R_drew)); exact HO_6.out⟩, ⟨by (try simp only [hl6_1]); (try simp only [hl6_3]); (try simp only [hl8_3]); (with_reducible repeat (first | apply Kd.R_alloc | apply Kd.R_drewN | apply Kd.R_drew)); exact HO_8.out⟩, ⟨by repeat (first | (with_reducible first | exact HB.out | apply below_alloc | apply pw_below_drewN | apply below_drew1) | exact HB.out)⟩⟩
                      ·
                       rw [if_neg c48] at H
                       have c48b0 : (((rd_T32 l0 x9_1).f0) == 0) = false := beq_eq_false_iff_ne.mpr c48
                       have c48b1 : (((rd_T32 l0 x9_1).f0) != 0) = true := bne_iff_ne.mpr c48
                       replace H := Option.bind_eq_some_iff.mp H
                       obtain ⟨⟨t419, t420⟩, A490, H⟩ := H
                       replace H : (locksteplaw18_RingApart.l2 k3 l0 (wrap64 (1 + (wrap64 (Int.tmod a1 64)))) y412 y410 x9_1 t408 t419 t420 0) = some r := H
                       have A49 := Aside0.mk A490
                       clear A490
                       have H' := Aside0.mk H
                       clear H
                       have p417 : 0 ≤ (x9_1 : Int) := of_decide_eq_true (by first | (with_reducible assumption) | assumption)
                       have q417 : x9_1 < (l0.length : Int) := of_decide_eq_true (by first | (with_reducible assumption) | assumption)
                       obtain ⟨ad417, e417, hx417_0, hx417_1, hx417_2⟩ := at_T32 HR0.out x9_1 p417 q417
                       obtain rfl : ad407 = ad417 := (by injection e417)
                       replace hx417_0 := (HB.out.cell (World.block_lt_of_cell? w _ hx417_0)).trans hx417_0
                       replace hx417_1 := (HB.out.cell (World.block_lt_of_cell? w _ hx417_1)).trans hx417_1
                       replace hx417_2 := (HB.out.cell (World.block_lt_of_cell? w _ hx417_2)).trans hx417_2
                       replace p417 := eq_true p417
                       replace q417 := eq_true q417
                       have p418 : 0 ≤ (x9_1 : Int) := of_decide_eq_true (by first | (with_reducible assumption) | assumption)
                       have q418 : x9_1 < (l0.length : Int) := of_decide_eq_true (by first | (with_reducible assumption) | assumption)
                       obtain ⟨ad418, e418, hx418_0, hx418_1, hx418_2⟩ := at_T32 HR0.out x9_1 p418 q418
                       obtain rfl : ad407 = ad418 := (by injection e418)
                       replace hx418_0 := (HB.out.cell (World.block_lt_of_cell? w _ hx418_0)).trans hx418_0
                       replace hx418_1 := (HB.out.cell (World.block_lt_of_cell? w _ hx418_1)).trans hx418_1
                       replace hx418_2 := (HB.out.cell (World.block_lt_of_cell? w _ hx418_2)).trans hx418_2
                       replace p418 := eq_true p418
                       replace q418 := eq_true q418
                       go_wp2_with (first | ((with_reducible refine gate_callee (f := 10) rfl ?_); refine goesL_ (some 113) rfl rfl Tryd.func10 (by kernel_rfl) rfl #[.agg #[.int .i64 ((rd_T32 l0 x9_1).f0), .int .i64 ((rd_T32 l0 x9_1).f1), .string ((rd_T32 l0 x9_1).f2)], .int .i64 t408] rfl (by (try simp only [List.map_toArray, List.map_cons, List.map_nil]); first | done | rfl | (simp only [List.length_drop, List.length_take]; rfl)) ?_; (with_reducible refine (ring_Weight.calls k3 ((rd_T32 l0 x9_1).f0) ((rd_T32 l0 x9_1).f1) ((rd_T32 l0 x9_1).f2) t408 t419 t420 _ ?side1 A49.out).mono ?_); (case side1 => exact Tabs.below HT.out (by repeat (first | (with_reducible first | exact HB.out | apply below_alloc | apply pw_below_drewN | apply below_drew1) | exact HB.out))); rintro e w50 ⟨rfl, hb⟩; refine ⟨_, rfl, ?_⟩; have n0_ := Aside0.mk (Kd.R_below (by (with_reducible repeat (first | apply Kd.R_alloc | apply Kd.R_drewN | apply Kd.R_drew)); exact HO_6.out) hb); have n1_ := Aside0.mk (Kd.R_below (by (with_reducible repeat (first | apply Kd.R_alloc | apply Kd.R_drewN | apply Kd.R_drew)); exact HO_8.out) hb); have n2_ := Aside0.mk (below_step (by repeat (first | (with_reducible first | exact HB.out | apply below_alloc | apply pw_below_drewN | apply below_drew1) | exact HB.out)) hb); clear HO_6; clear HO_8; clear HB; have HO_6 := n0_; have HO_8 := n1_; have HB := n2_; clear n0_ n1_ n2_; (try clear hb); (try clear hb2); (try clear hk); (try clear hi)))
                       go_loopg [15] k3 (fun kq v15 w' => ∃ (x15_4 : Int), v15 = .int .i64 x15_4 ∧ Aside0 (locksteplaw18_RingApart.l2 kq l0 (wrap64 (1 + (wrap64 (Int.tmod a1 64)))) y412 y410 x9_1 t408 t419 t420 x15_4 = some r) ∧ Aside0 (kq ≤ k3) ∧ Aside0 (Kd.R (Kd.int .i64) 3 w' w.heap.size (fun k_ => some k_ ≠ ((.slice (some ⟨go25, 0, none⟩) y410.length co25) : Value).ownBlock) (.slice (some ⟨go28, 0, none⟩) y412.length co12) y412) ∧ Aside0 (Kd.R (Kd.int .i64) 3 w' w.heap.size (fun k_ => some k_ ≠ ((.slice (some ⟨go28, 0, none⟩) y412.length co12) : Value).ownBlock) (.slice (some ⟨go25, 0, none⟩) y410.length co25) y410) ∧ Aside0 (Below w.heap.size w w'))
                       case atStart => exact ⟨(0), (by first | rfl | (simp; done) | (simp [*]; done)), H', ⟨Nat.le_refl _⟩, ⟨by (try simp only [hl6_1]); (try simp only [hl6_3]); (try simp only [hl8_3]); (with_reducible repeat (first | apply Kd.R_alloc | apply Kd.R_drewN | apply Kd.R_drew)); exact HO_6.out⟩, ⟨by (try simp only [hl6_1]); (try simp only [hl6_3]); (try simp only [hl8_3]); (with_reducible repeat (first | apply Kd.R_alloc | apply Kd.R_drewN | apply Kd.R_drew)); exact HO_8.out⟩, ⟨by repeat (first | (with_reducible first | exact HB.out | apply below_alloc | apply pw_below_drewN | apply below_drew1) | exact HB.out)⟩⟩
                       case round =>
                        clear H'
                        (try clear c1); (try clear c2); (try clear p2); (try clear q2); (try clear hx2); (try clear hf2); (try clear c3); (try clear c4); (try clear p4); (try clear q4); (try clear hx4); (try clear c5); (try clear c6); (try clear c6b0); (try clear c6b1); (try clear p6); (try clear c7); (try clear c7b0); (try clear c7b1); (try clear c8); (try clear c8b0); (try clear c8b1); (try clear c9); (try clear c9b0); (try clear c9b1)
                        (try clear c10); (try clear c12); (try clear c15); (try clear c15b0); (try clear c16); (try clear c16b0); (try clear c20); (try clear c20b0); (try clear c20b1); (try clear c21); (try clear c21b0); (try clear c22); (try clear c23); (try clear c23b0); (try clear c24); (try clear c24b0); (try clear p25); (try clear q25); (try clear hx25); (try clear hf25); (try clear c26); (try clear c26b0); (try clear c27)
                        (try clear c27b0); (try clear p28); (try clear q28); (try clear hx28); (try clear hf28); (try clear c33); (try clear c33b0); (try clear c34); (try clear c34b0); (try clear c35); (try clear c35b0); (try clear c36); (try clear c36b0); (try clear c37); (try clear c37b0); (try clear c39); (try clear c40); (try clear c40b0); (try clear p40); (try clear q40); (try clear hx40); (try clear c41); (try clear c41b0)
                        (try clear c41b1); (try clear p41); (try clear q41); (try clear hx41); (try clear c46); (try clear c46b0); (try clear c47); (try clear c47b0); (try clear c48); (try clear c48b0); (try clear c48b1); (try clear hx25_0); (try clear hx28_0); (try clear hx407_0); (try clear hx407_1); (try clear hx407_2); (try clear hx411_0); (try clear hx413_0); (try clear hx413_1); (try clear hx413_2); (try clear hx414_0)
                        (try clear hx414_1); (try clear hx414_2); (try clear hx416_0); (try clear hx417_0); (try clear hx417_1); (try clear hx417_2); (try clear hx418_0); (try clear hx418_1); (try clear hx418_2); (try clear p2); (try clear p25); (try clear p28); (try clear p4); (try clear p407); (try clear p411); (try clear p413); (try clear p414); (try clear p416); (try clear p417); (try clear p418); (try clear p6); (try clear q2)
                        (try clear q25); (try clear q28); (try clear q4); (try clear q407); (try clear q411); (try clear q413); (try clear q414); (try clear q416); (try clear q417); (try clear q418)
                        obtain ⟨x15_4, rfl, HA, HK4, HO_6, HO_8, HB⟩ := hrel
                        cases gk with
                        | zero => exact absurd HA.out (by simp [locksteplaw18_RingApart.l2])
                        | succ k4 =>
                         have H := HA.out
                         clear HA
                         simp only [locksteplaw18_RingApart.l2] at H
                         by_cases c51 : x15_4 < (wrap64 (1 + (wrap64 (Int.tmod a1 64))))
                         ·
                          rw [if_pos c51] at H
                          have c51b0 : decide (x15_4 < (wrap64 (1 + (wrap64 (Int.tmod a1 64))))) = true := decide_eq_true c51
                          clear c51
                          by_cases c52 : 0 ≤ x9_1
                          ·
                           rw [if_pos c52] at H
                           have c52b0 : decide (0 ≤ x9_1) = true := decide_eq_true c52
                           clear c52
                           by_cases c53 : x9_1 < (l0.length : Int)
                           ·
                            rw [if_pos c53] at H
                            have c53b0 : decide (x9_1 < (l0.length : Int)) = true := decide_eq_true c53
                            clear c53
                            replace H := Option.bind_eq_some_iff.mp H
                            obtain ⟨⟨t422, t423⟩, A540, H⟩ := H
                            replace H : (if t420 = 0 then (if t423 = 0 then (if t422 > t419 then (some false) else (if t422 = t419 then (if x15_4 < t408 then (some false) else (locksteplaw18_RingApart.l2 k4 l0 (wrap64 (1 + (wrap64 (Int.tmod a1 64)))) y412 y410 x9_1 t408 t419 t420 (wrap64 (x15_4 + 1)))) else (locksteplaw18_RingApart.l2 k4 l0 (wrap64 (1 + (wrap64 (Int.tmod a1 64)))) y412 y410 x9_1 t408 t419 t420 (wrap64 (x15_4 + 1))))) else (some false)) else (some false)) = some r := H
                            have A54 := Aside0.mk A540
                            clear A540
                            by_cases c55 : t420 = 0
                            ·
                             rw [if_pos c55] at H
                             have c55b0 : (t420 == 0) = true := beq_iff_eq.mpr c55
                             have c55b1 : (t420 != 0) = false := bne_eq_false_iff_eq.mpr c55
                             clear c55
                             by_cases c56 : t423 = 0
                             ·
                              rw [if_pos c56] at H
                              have c56b0 : (t423 == 0) = true := beq_iff_eq.mpr c56
                              have c56b1 : (t423 != 0) = false := bne_eq_false_iff_eq.mpr c56
                              clear c56
                              by_cases c57 : t422 > t419
                              ·
                               rw [if_pos c57] at H
                               have c57b0 : decide (t419 < t422) = true := decide_eq_true c57
                               clear c57
                               exact absurd (Option.some.inj H) (by rw [HR.out]; simp)
                              ·
                               rw [if_neg c57] at H
                               have c57b0 : decide (t419 < t422) = false := decide_eq_false c57
                               clear c57
                               by_cases c58 : t422 = t419
                               ·
                                rw [if_pos c58] at H
                                have c58b0 : (t422 == t419) = true := beq_iff_eq.mpr c58
                                have c58b1 : (t422 != t419) = false := bne_eq_false_iff_eq.mpr c58
                                clear c58
                                by_cases c59 : x15_4 < t408
                                ·
                                 rw [if_pos c59] at H
                                 have c59b0 : decide (x15_4 < t408) = true := decide_eq_true c59
                                 clear c59
                                 exact absurd (Option.some.inj H) (by rw [HR.out]; simp)
                                ·
                                 rw [if_neg c59] at H
                                 have c59b0 : decide (x15_4 < t408) = false := decide_eq_false c59
                                 clear c59
                                 have H' := Aside0.mk H
                                 clear H
                                 have p421 : 0 ≤ (x9_1 : Int) := of_decide_eq_true (by first | (with_reducible assumption) | assumption)
                                 have q421 : x9_1 < (l0.length : Int) := of_decide_eq_true (by first | (with_reducible assumption) | assumption)
                                 obtain ⟨ad421, e421, hx421_0, hx421_1, hx421_2⟩ := at_T32 HR0.out x9_1 p421 q421
                                 obtain rfl : ad407 = ad421 := (by injection e421)
                                 replace hx421_0 := (HB.out.cell (World.block_lt_of_cell? w _ hx421_0)).trans hx421_0
                                 replace hx421_1 := (HB.out.cell (World.block_lt_of_cell? w _ hx421_1)).trans hx421_1
                                 replace hx421_2 := (HB.out.cell (World.block_lt_of_cell? w _ hx421_2)).trans hx421_2
                                 replace p421 := eq_true p421
                                 replace q421 := eq_true q421
                                 go_wp2_with (first | ((with_reducible refine gate_callee (f := 10) rfl ?_); refine goesL_ (some 127) rfl rfl Tryd.func10 (by kernel_rfl) rfl #[.agg #[.int .i64 ((rd_T32 l0 x9_1).f0), .int .i64 ((rd_T32 l0 x9_1).f1), .string ((rd_T32 l0 x9_1).f2)], .int .i64 x15_4] rfl (by (try simp only [List.map_toArray, List.map_cons, List.map_nil]); first | done | rfl | (simp only [List.length_drop, List.length_take]; rfl)) ?_; (with_reducible refine (ring_Weight.calls k4 ((rd_T32 l0 x9_1).f0) ((rd_T32 l0 x9_1).f1) ((rd_T32 l0 x9_1).f2) x15_4 t422 t423 _ ?side1 A54.out).mono ?_); (case side1 => exact Tabs.below HT.out (by repeat (first | (with_reducible first | exact HB.out | apply below_alloc | apply pw_below_drewN | apply below_drew1) | exact HB.out))); rintro e w60 ⟨rfl, hb⟩; refine ⟨_, rfl, ?_⟩; have n0_ := Aside0.mk (Kd.R_below (by (with_reducible repeat (first | apply Kd.R_alloc | apply Kd.R_drewN | apply Kd.R_drew)); exact HO_6.out) hb); have n1_ := Aside0.mk (Kd.R_below (by (with_reducible repeat (first | apply Kd.R_alloc | apply Kd.R_drewN | apply Kd.R_drew)); exact HO_8.out) hb); have n2_ := Aside0.mk (below_step (by repeat (first | (with_reducible first | exact HB.out | apply below_alloc | apply pw_below_drewN | apply below_drew1) | exact HB.out)) hb); clear HO_6; clear HO_8; clear HB; have HO_6 := n0_; have HO_8 := n1_; have HB := n2_; clear n0_ n1_ n2_; (try clear hb); (try clear hb2); (try clear hk); (try clear hi)))
                                 go_roundg k4
                                 case measure => have := HK1.out; have := HJ17.out; have := HK3.out; have := HK4.out; omega
                                 case rel => exact ⟨(wrap64 (x15_4 + 1)), (by first | rfl | (simp; done) | (simp [*]; done)), H', ⟨by have := HK1.out; have := HJ17.out; have := HK3.out; have := HK4.out; omega⟩, ⟨by (try simp only [hl6_1]); (try simp only [hl6_3]); (try simp only [hl8_3]); (with_reducible repeat (first | apply Kd.R_alloc | apply Kd.R_drewN | apply Kd.R_drew)); exact HO_6.out⟩, ⟨by (try simp only [hl6_1]); (try simp only [hl6_3]); (try simp only [hl8_3]); (with_reducible repeat (first | apply Kd.R_alloc | apply Kd.R_drewN | apply Kd.R_drew)); exact HO_8.out⟩, ⟨by repeat (first | (with_reducible first | exact HB.out | apply below_alloc | apply pw_below_drewN | apply below_drew1) | exact HB.out)⟩⟩
                               ·
                                rw [if_neg c58] at H
                                have c58b0 : (t422 == t419) = false := beq_eq_false_iff_ne.mpr c58
                                have c58b1 : (t422 != t419) = true := bne_iff_ne.mpr c58
                                have H' := Aside0.mk H
                                clear H
                                have p421 : 0 ≤ (x9_1 : Int) := of_decide_eq_true (by first | (with_reducible assumption) | assumption)
                                have q421 : x9_1 < (l0.length : Int) := of_decide_eq_true (by first | (with_reducible assumption) | assumption)
                                obtain ⟨ad421, e421, hx421_0, hx421_1, hx421_2⟩ := at_T32 HR0.out x9_1 p421 q421
                                obtain rfl : ad407 = ad421 := (by injection e421)
                                replace hx421_0 := (HB.out.cell (World.block_lt_of_cell? w _ hx421_0)).trans hx421_0
                                replace hx421_1 := (HB.out.cell (World.block_lt_of_cell? w _ hx421_1)).trans hx421_1
                                replace hx421_2 := (HB.out.cell (World.block_lt_of_cell? w _ hx421_2)).trans hx421_2
                                replace p421 := eq_true p421
                                replace q421 := eq_true q421
                                go_wp2_with (first | ((with_reducible refine gate_callee (f := 10) rfl ?_); refine goesL_ (some 127) rfl rfl Tryd.func10 (by kernel_rfl) rfl #[.agg #[.int .i64 ((rd_T32 l0 x9_1).f0), .int .i64 ((rd_T32 l0 x9_1).f1), .string ((rd_T32 l0 x9_1).f2)], .int .i64 x15_4] rfl (by (try simp only [List.map_toArray, List.map_cons, List.map_nil]); first | done | rfl | (simp only [List.length_drop, List.length_take]; rfl)) ?_; (with_reducible refine (ring_Weight.calls k4 ((rd_T32 l0 x9_1).f0) ((rd_T32 l0 x9_1).f1) ((rd_T32 l0 x9_1).f2) x15_4 t422 t423 _ ?side1 A54.out).mono ?_); (case side1 => exact Tabs.below HT.out (by repeat (first | (with_reducible first | exact HB.out | apply below_alloc | apply pw_below_drewN | apply below_drew1) | exact HB.out))); rintro e w61 ⟨rfl, hb⟩; refine ⟨_, rfl, ?_⟩; have n0_ := Aside0.mk (Kd.R_below (by (with_reducible repeat (first | apply Kd.R_alloc | apply Kd.R_drewN | apply Kd.R_drew)); exact HO_6.out) hb); have n1_ := Aside0.mk (Kd.R_below (by (with_reducible repeat (first | apply Kd.R_alloc | apply Kd.R_drewN | apply Kd.R_drew)); exact HO_8.out) hb); have n2_ := Aside0.mk (below_step (by repeat (first | (with_reducible first | exact HB.out | apply below_alloc | apply pw_below_drewN | apply below_drew1) | exact HB.out)) hb); clear HO_6; clear HO_8; clear HB; have HO_6 := n0_; have HO_8 := n1_; have HB := n2_; clear n0_ n1_ n2_; (try clear hb); (try clear hb2); (try clear hk); (try clear hi)))
                                go_roundg k4
                                case measure => have := HK1.out; have := HJ17.out; have := HK3.out; have := HK4.out; omega
                                case rel => exact ⟨(wrap64 (x15_4 + 1)), (by first | rfl | (simp; done) | (simp [*]; done)), H', ⟨by have := HK1.out; have := HJ17.out; have := HK3.out; have := HK4.out; omega⟩, ⟨by (try simp only [hl6_1]); (try simp only [hl6_3]); (try simp only [hl8_3]); (with_reducible repeat (first | apply Kd.R_alloc | apply Kd.R_drewN | apply Kd.R_drew)); exact HO_6.out⟩, ⟨by (try simp only [hl6_1]); (try simp only [hl6_3]); (try simp only [hl8_3]); (with_reducible repeat (first | apply Kd.R_alloc | apply Kd.R_drewN | apply Kd.R_drew)); exact HO_8.out⟩, ⟨by repeat (first | (with_reducible first | exact HB.out | apply below_alloc | apply pw_below_drewN | apply below_drew1) | exact HB.out)⟩⟩
                             ·
                              rw [if_neg c56] at H
                              have c56b0 : (t423 == 0) = false := beq_eq_false_iff_ne.mpr c56
                              have c56b1 : (t423 != 0) = true := bne_iff_ne.mpr c56
                              exact absurd (Option.some.inj H) (by rw [HR.out]; simp)
                            ·
                             rw [if_neg c55] at H
                             have c55b0 : (t420 == 0) = false := beq_eq_false_iff_ne.mpr c55
                             have c55b1 : (t420 != 0) = true := bne_iff_ne.mpr c55
                             exact absurd (Option.some.inj H) (by rw [HR.out]; simp)
                           ·
                            rw [if_neg c53] at H
                            exact absurd H (by simp)
                          ·
                           rw [if_neg c52] at H
                           exact absurd H (by simp)
                         ·
                          rw [if_neg c51] at H
                          have c51b0 : decide (x15_4 < (wrap64 (1 + (wrap64 (Int.tmod a1 64))))) = false := decide_eq_false c51
                          clear c51
                          have H' := Aside0.mk H
                          clear H
                          go_wp2
                          (try simp only [← hl6_1, ← hl6_3, ← hl8_3])
                          go_roundg k4
                          case measure => have := HK1.out; have := HJ17.out; have := HK3.out; have := HK4.out; omega
                          case rel => exact ⟨(y412), (y410), (wrap64 (x9_1 + 1)), (by first | rfl | (simp; done) | (simp [*]; done)), H', ⟨by have := HK1.out; have := HJ17.out; have := HK3.out; have := HK4.out; omega⟩, ⟨by (try simp only [hl6_1]); (try simp only [hl6_3]); (try simp only [hl8_3]); (with_reducible repeat (first | apply Kd.R_alloc | apply Kd.R_drewN | apply Kd.R_drew)); exact HO_6.out⟩, ⟨by (try simp only [hl6_1]); (try simp only [hl6_3]); (try simp only [hl8_3]); (with_reducible repeat (first | apply Kd.R_alloc | apply Kd.R_drewN | apply Kd.R_drew)); exact HO_8.out⟩, ⟨by repeat (first | (with_reducible first | exact HB.out | apply below_alloc | apply pw_below_drewN | apply below_drew1) | exact HB.out)⟩⟩
                     ·
                      rw [if_neg c47] at H
                      exact absurd H (by simp)
                    ·
                     rw [if_neg c46] at H
                     exact absurd H (by simp)
                ·
                 rw [if_neg c27] at H
                 exact absurd H (by simp)
               ·
                rw [if_neg c26] at H
                exact absurd H (by simp)
              ·
               rw [if_neg c24] at H
               exact absurd H (by simp)
             ·
              rw [if_neg c23] at H
              exact absurd H (by simp)
         ·
          rw [if_neg c16] at H
          exact absurd H (by simp)
        ·
         rw [if_neg c15] at H
         have c15b0 : decide (x9_1 < (l0.length : Int)) = false := decide_eq_false c15
         clear c15
         have H' := Aside0.mk H
         clear H
         go_wp2
         go_loopg [18] k1 (fun kq v18 w' => ∃ (x18_2 : Int), v18 = .int .i64 x18_2 ∧ Aside0 (locksteplaw18_RingApart.l3 kq (wrap64 (1 + (wrap64 (Int.tmod a1 64)))) x6_1 x18_2 = some r) ∧ Aside0 (kq ≤ k1) ∧ Aside0 (Kd.R (Kd.int .i64) 3 w' w.heap.size (fun _ => True) (.slice Ao12 x6_1.length co12) x6_1) ∧ Aside0 (Below w.heap.size w w'))
         case atStart => exact ⟨(0), (by first | rfl | (simp; done) | (simp [*]; done)), H', ⟨Nat.le_refl _⟩, ⟨by (try simp only [hl6_1]); (with_reducible repeat (first | apply Kd.R_alloc | apply Kd.R_drewN | apply Kd.R_drew)); exact Kd.R_mono HO_6.out (fun _ hk => trivial)⟩, ⟨by repeat (first | (with_reducible first | exact HB.out | apply below_alloc | apply pw_below_drewN | apply below_drew1) | exact HB.out)⟩⟩
         case round =>
          clear H'
          (try clear c1); (try clear c2); (try clear p2); (try clear q2); (try clear hx2); (try clear hf2); (try clear c3); (try clear c4); (try clear p4); (try clear q4); (try clear hx4); (try clear c5); (try clear c6); (try clear c6b0); (try clear c6b1); (try clear p6); (try clear c7); (try clear c7b0); (try clear c7b1); (try clear c8); (try clear c8b0); (try clear c8b1); (try clear c9); (try clear c9b0); (try clear c9b1)
          (try clear c10); (try clear c12); (try clear c15); (try clear c15b0); (try clear c16); (try clear c16b0); (try clear c20); (try clear c20b0); (try clear c20b1); (try clear c21); (try clear c21b0); (try clear c22); (try clear c23); (try clear c23b0); (try clear c24); (try clear c24b0); (try clear p25); (try clear q25); (try clear hx25); (try clear hf25); (try clear c26); (try clear c26b0); (try clear c27)
          (try clear c27b0); (try clear p28); (try clear q28); (try clear hx28); (try clear hf28); (try clear c33); (try clear c33b0); (try clear c34); (try clear c34b0); (try clear c35); (try clear c35b0); (try clear c36); (try clear c36b0); (try clear c37); (try clear c37b0); (try clear c39); (try clear c40); (try clear c40b0); (try clear p40); (try clear q40); (try clear hx40); (try clear c41); (try clear c41b0)
          (try clear c41b1); (try clear p41); (try clear q41); (try clear hx41); (try clear p42); (try clear q42); (try clear hx42); (try clear c46); (try clear c46b0); (try clear c47); (try clear c47b0); (try clear c48); (try clear c48b0); (try clear c48b1); (try clear c51); (try clear c51b0); (try clear c52); (try clear c52b0); (try clear c53); (try clear c53b0); (try clear c55); (try clear c55b0); (try clear c55b1)
          (try clear c56); (try clear c56b0); (try clear c56b1); (try clear c57); (try clear c57b0); (try clear c58); (try clear c58b0); (try clear c58b1); (try clear c59); (try clear c59b0); (try clear hx25_0); (try clear hx28_0); (try clear hx407_0); (try clear hx407_1); (try clear hx407_2); (try clear hx411_0); (try clear hx413_0); (try clear hx413_1); (try clear hx413_2); (try clear hx414_0); (try clear hx414_1)
          (try clear hx414_2); (try clear hx416_0); (try clear hx417_0); (try clear hx417_1); (try clear hx417_2); (try clear hx418_0); (try clear hx418_1); (try clear hx418_2); (try clear hx421_0); (try clear hx421_1); (try clear hx421_2); (try clear p2); (try clear p25); (try clear p28); (try clear p4); (try clear p40); (try clear p407); (try clear p41); (try clear p411); (try clear p413); (try clear p414)
          (try clear p416); (try clear p417); (try clear p418); (try clear p421); (try clear p6); (try clear q2); (try clear q25); (try clear q28); (try clear q4); (try clear q40); (try clear q407); (try clear q41); (try clear q411); (try clear q413); (try clear q414); (try clear q416); (try clear q417); (try clear q418); (try clear q421)
          obtain ⟨x18_2, rfl, HA, HK2, HO_6, HB⟩ := hrel
          cases gk with
          | zero => exact absurd HA.out (by simp [locksteplaw18_RingApart.l3])
          | succ k2 =>
           have H := HA.out
           clear HA
           simp only [locksteplaw18_RingApart.l3] at H
           by_cases c62 : x18_2 < (wrap64 (1 + (wrap64 (Int.tmod a1 64))))
           ·
            rw [if_pos c62] at H
            have c62b0 : decide (x18_2 < (wrap64 (1 + (wrap64 (Int.tmod a1 64))))) = true := decide_eq_true c62
            clear c62
            by_cases c63 : 0 ≤ x18_2
            ·
             rw [if_pos c63] at H
             have c63b0 : decide (0 ≤ x18_2) = true := decide_eq_true c63
             clear c63
             by_cases c64 : x18_2 < (x6_1.length : Int)
             ·
              rw [if_pos c64] at H
              have c64b0 : decide (x18_2 < (x6_1.length : Int)) = true := decide_eq_true c64
              clear c64
              by_cases c65 : (rd x6_1 x18_2) = 0
              ·
               rw [if_pos c65] at H
               have c65b0 : ((rd x6_1 x18_2) == 0) = true := beq_iff_eq.mpr c65
               have c65b1 : ((rd x6_1 x18_2) != 0) = false := bne_eq_false_iff_eq.mpr c65
               clear c65
               have H' := Aside0.mk H
               clear H
               have p424 : 0 ≤ (x18_2 : Int) := of_decide_eq_true (by first | (with_reducible assumption) | assumption)
               have q424 : x18_2 < (x6_1.length : Int) := of_decide_eq_true (by first | (with_reducible assumption) | assumption)
               obtain ⟨ad424, e424, hx424_0⟩ := Kd.at_int (Kd.R_reads' HO_6.out).2.2 x18_2 p424 q424
               cases e424
               replace p424 := eq_true p424
               replace q424 := eq_true q424
               go_wp2
               go_roundg k2
               case measure => have := HK1.out; have := HK2.out; omega
               case rel => exact ⟨(wrap64 (x18_2 + 1)), (by first | rfl | (simp; done) | (simp [*]; done)), H', ⟨by have := HK1.out; have := HK2.out; omega⟩, ⟨by (try simp only [hl6_1]); (with_reducible repeat (first | apply Kd.R_alloc | apply Kd.R_drewN | apply Kd.R_drew)); exact HO_6.out⟩, ⟨by repeat (first | (with_reducible first | exact HB.out | apply below_alloc | apply pw_below_drewN | apply below_drew1) | exact HB.out)⟩⟩
              ·
               rw [if_neg c65] at H
               have c65b0 : ((rd x6_1 x18_2) == 0) = false := beq_eq_false_iff_ne.mpr c65
               have c65b1 : ((rd x6_1 x18_2) != 0) = true := bne_iff_ne.mpr c65
               exact absurd (Option.some.inj H) (by rw [HR.out]; simp)
             ·
              rw [if_neg c64] at H
              exact absurd H (by simp)
            ·
             rw [if_neg c63] at H
             exact absurd H (by simp)
           ·
            rw [if_neg c62] at H
            have c62b0 : decide (x18_2 < (wrap64 (1 + (wrap64 (Int.tmod a1 64))))) = false := decide_eq_false c62
            clear c62
            obtain rfl := Option.some.inj H
            go_wp2
            go_ret
            exact ⟨by first | rfl | (simp [errW_none, errW_some] <;> rfl) | (simp [*, errW_none, errW_some] <;> rfl), by repeat (first | (with_reducible first | exact HB.out | apply below_alloc | apply pw_below_drewN | apply below_drew1) | exact HB.out)⟩
     ·
      rw [if_neg c9] at H
      exact absurd H (by simp)
    ·
     rw [if_neg c8] at H
     exact absurd H (by simp)
   ·
    rw [if_neg c7] at H
    have c7b0 : ((t400.length : Int) == (wrap64 (1 + (wrap64 (Int.tmod a1 64))))) = false := beq_eq_false_iff_ne.mpr c7
    have c7b1 : ((t400.length : Int) != (wrap64 (1 + (wrap64 (Int.tmod a1 64))))) = true := bne_iff_ne.mpr c7
    exact absurd (Option.some.inj H) (by rw [HR.out]; simp)
  ·
   rw [if_neg c6] at H
   have c6b0 : (t401 == 0) = false := beq_eq_false_iff_ne.mpr c6
   have c6b1 : (t401 != 0) = true := bne_iff_ne.mpr c6
   obtain rfl := Option.some.inj H
   go_enter Tryd.func5, Tryd.ntmps5
   go_wp2_with (first | ((with_reducible refine gate_callee (f := 6) rfl ?_); refine goesL_ (some 19) rfl rfl Tryd.func6 (by kernel_rfl) rfl #[] rfl (by (try simp only [List.map_toArray, List.map_cons, List.map_nil]); first | done | rfl | (simp only [List.length_drop, List.length_take]; rfl)) ?_; (with_reducible refine (locksteplaw18_lives.calls k  true _ ?side1 A3.out).mono ?_); (case side1 => exact Tabs.below HT.out (by repeat (first | (with_reducible first | exact HB.out | apply below_alloc | apply pw_below_drewN | apply below_drew1) | exact HB.out))); rintro e w66 ⟨rfl, hb⟩; refine ⟨_, rfl, ?_⟩; have n0_ := Aside0.mk (below_step (by repeat (first | (with_reducible first | exact HB.out | apply below_alloc | apply pw_below_drewN | apply below_drew1) | exact HB.out)) hb); clear HB; have HB := n0_; clear n0_; (try clear hb); (try clear hb2); (try clear hk); (try clear hi)) | ((with_reducible refine gate_callee (f := 12) rfl ?_); refine goesL_ (some 28) rfl rfl Tryd.func12 (by kernel_rfl) rfl #[.slice A0 l0.length c0, .int .i64 (wrap64 (1 + (wrap64 (Int.tmod a1 64))))] rfl (by (try simp only [List.map_toArray, List.map_cons, List.map_nil]); first | done | rfl | (simp only [List.length_drop, List.length_take]; rfl)) ?_; (with_reducible refine (ring_Spread.calls k _ _ l0 (wrap64 (1 + (wrap64 (Int.tmod a1 64)))) t400 t401 _ ?side1 ?side2 ?side3 A5.out).mono ?_); (case side1 => exact Tabs.below HT.out (by repeat (first | (with_reducible first | exact HB.out | apply below_alloc | apply pw_below_drewN | apply below_drew1) | exact HB.out))); (case side2 => repeat (first | exact (Kd.C_below HR0.out HB.out) | (with_reducible refine Kd.C_alloc ?_ _) | (with_reducible refine Kd.C_drewN ?_ _) | (with_reducible refine Kd.C_drew ?_))); (case side3 => exact HC0.out); rintro e w67 ⟨v402, rfl, ho0, hb⟩; refine ⟨_, rfl, ?_⟩; have n0_ := Aside0.mk (Kd.R_lower ho0 (below_size (by repeat (first | (with_reducible first | exact HB.out | apply below_alloc | apply pw_below_drewN | apply below_drew1) | exact HB.out)))); have n1_ := Aside0.mk (below_step (by repeat (first | (with_reducible first | exact HB.out | apply below_alloc | apply pw_below_drewN | apply below_drew1) | exact HB.out)) hb); clear HB; have HO403 := n0_; have HB := n1_; clear n0_ n1_; (try clear hb); (try clear hb2); (try clear hk); (try clear hi); (try clear ho0); obtain ⟨Ao68, co68, eo68⟩ := Kd.R_slice HO403.out; subst eo68))
   go_ret
   exact ⟨by first | rfl | (simp [errW_none, errW_some] <;> rfl) | (simp [*, errW_none, errW_some] <;> rfl), by repeat (first | (with_reducible first | exact HB.out | apply below_alloc | apply pw_below_drewN | apply below_drew1) | exact HB.out)⟩
 ·
  replace c4 := Bool.eq_false_iff.mpr c4
  subst c4
  have H1 : (some false) = some r := by rw [if_neg (show ¬ (false = true) by decide)] at H; exact H
  clear H
  have H := H1
  clear H1
  exact absurd (Option.some.inj H) (by rw [HR.out]; simp)
end Go.Proofs.YtmphmkclbfoppaaDoor.X
end
section
namespace Go.Proofs.YtmphmkclbfoppaaDoor.X
set_option linter.unusedVariables false
set_option linter.unusedSimpArgs false
open Go.RowKit Go.Proofs.YtmphmkclbfoppaaDoorW.PrintWords Go.Proofs.YtmphmkclbfoppaaDoorW.PrintLast Go.Proofs.YtmphmkclbfoppaaDoorW.PrintMore
def I64 (n : Int) : Prop := -9223372036854775808 ≤ n ∧ n ≤ 9223372036854775807
namespace Num
theorem maskN (a : Nat) (ha : a < 18446744073709551616) : bits .and .u64 (a : Int) 4294967295 = ((a % 4294967296 : Nat) : Int) := by
  have h := bits_and_u64_nat a 4294967295 ha (by omega)
  have e : a &&& 4294967295 = a % 4294967296 := Nat.and_two_pow_sub_one_eq_mod a 32
  rw [e] at h
  exact h
theorem divN (a : Nat) : (a : Int) / 4294967296 = ((a / 4294967296 : Nat) : Int) := by omega
theorem mulN (a b : Nat) : (a : Int) * (b : Int) = ((a * b : Nat) : Int) := (Int.natCast_mul a b).symm
theorem addN (a b : Nat) : (a : Int) + (b : Int) = ((a + b : Nat) : Int) := (Int.natCast_add a b).symm
theorem wrapN (a : Nat) (ha : a < 18446744073709551616) : IntKind.u64.wrap (a : Int) = (a : Int) := by rw [IntKind.wrap_u64]; omega
theorem wrapM (a : Nat) : IntKind.u64.wrap (a : Int) = ((a % 18446744073709551616 : Nat) : Int) := by rw [IntKind.wrap_u64]; omega
end Num
open Num
theorem bits_Mul64.eq (x y : Nat) (hx : x < 18446744073709551616) (hy : y < 18446744073709551616) :
    bits_Mul64.f x y = some (((x * y / 18446744073709551616 : Nat) : Int), ((x * y % 18446744073709551616 : Nat) : Int)) := by
  obtain ⟨bd, bt, bw, hhi⟩ := Lib.mul64_hi x y hx hy
  have ba := Lib.half_mul_le (a := x / 4294967296) (b := y / 4294967296) (by omega) (by omega)
  have bb := Lib.half_mul_le (a := x / 4294967296) (b := y % 4294967296) (by omega) (by omega)
  have bc := Lib.half_mul_le (a := x % 4294967296) (b := y / 4294967296) (by omega) (by omega)
  have ba' : x / 4294967296 * (y / 4294967296) < 18446744073709551616 := by omega
  have bb' : x / 4294967296 * (y % 4294967296) < 18446744073709551616 := by omega
  have bc' : x % 4294967296 * (y / 4294967296) < 18446744073709551616 := by omega
  have bh1 : x / 4294967296 * (y / 4294967296) + (x / 4294967296 * (y % 4294967296) + x % 4294967296 * (y % 4294967296) / 4294967296) / 4294967296 < 18446744073709551616 := by omega
  have bh : x / 4294967296 * (y / 4294967296) + (x / 4294967296 * (y % 4294967296) + x % 4294967296 * (y % 4294967296) / 4294967296) / 4294967296 + ((x / 4294967296 * (y % 4294967296) + x % 4294967296 * (y % 4294967296) / 4294967296) % 4294967296 + x % 4294967296 * (y / 4294967296)) / 4294967296 < 18446744073709551616 := by omega
  unfold bits_Mul64.f
  simp only [maskN x hx, maskN y hy, divN, mulN, addN, wrapN _ bd, wrapN _ bb', wrapN _ bt, maskN _ bt, wrapN _ bc', wrapN _ bw, wrapN _ ba', wrapN _ bh1, wrapN _ bh, wrapM (x * y)]
  rw [hhi]
def chk (t n : Int) (s : ByteArray) : Int :=
  if t = 0 ∨ t = 1 ∨ t = 2 then 0 else if t = 4 then (if n = 0 ∨ n = 1 then 0 else 1) else if t = 3 then (if (s.size : Int) > 4096 then 2 else if Lib.validD s.data.toList = true then 0 else 3) else 1
theorem value_Check.eq (k : Nat) (t n : Int) (s : ByteArray) : value_Check.f (k + 1) t n s = some (chk t n s) := by
  unfold value_Check.f chk
  simp only [value_Check.j0]
  by_cases h0 : t = 0
  · subst h0; simp
  by_cases h1 : t = 1
  · subst h1; simp
  by_cases h2 : t = 2
  · subst h2; simp
  simp only [h0, h1, h2, if_false, false_or, or_false, beq_eq_false_iff_ne.mpr h2, Bool.false_eq_true]
  by_cases h4 : t = 4
  · subst h4
    simp only [if_true]
    by_cases hn : n = 0
    · simp [hn]
    · by_cases hn1 : n = 1 <;> simp [hn, hn1]
  · simp only [h4, if_false]
    by_cases h3 : t = 3
    · subst h3
      simp only [if_true]
      by_cases hs : (s.size : Int) > 4096
      · simp only [hs, if_true]
      · simp only [hs, if_false]
        unfold utf8_ValidString.f
        rw [if_pos (by omega), Option.bind_some]
        by_cases hv : Lib.validD s.data.toList = true <;> simp only [hv, if_true, if_false, Bool.false_eq_true]
    · simp only [h3, if_false]
theorem lockstepref01_Check.eq (k : Nat) (t n : Int) (s : ByteArray) : lockstepref01_Check.f (k + 2) t n s = some (chk t n s) := by
  unfold lockstepref01_Check.f chk
  simp only [lockstepref01_Check.j0]
  by_cases hlo : t < 0
  · simp only [hlo, if_true]
    rw [if_neg (by omega), if_neg (by omega), if_neg (by omega)]
  by_cases hhi : t > 4
  · simp only [hlo, hhi, if_true, if_false]
    rw [if_neg (by omega), if_neg (by omega), if_neg (by omega)]
  simp only [hlo, hhi, if_false]
  by_cases h4 : t = 4
  · subst h4
    simp only [if_true, lockstepref01_Check.j1]
    by_cases hn : n = 0
    · simp [hn]
    · by_cases hn1 : n = 1 <;> simp [hn, hn1]
  · simp only [h4, if_false, Bool.false_eq_true]
    by_cases h3 : t = 3
    · subst h3
      simp only [if_true, lockstepref01_Check.j1]
      by_cases hs : (s.size : Int) > 4096
      · simp [hs]
      · simp only [hs, decide_false, if_false, Bool.false_eq_true]
        unfold lockstepref01_valid.f
        rw [if_pos (by omega), Option.bind_some]
        by_cases hv : Lib.validD s.data.toList = true <;> simp [hv]
    · simp only [h3, if_false, lockstepref01_Check.j1, Bool.false_eq_true]
      rw [if_pos (by omega)]
end Go.Proofs.YtmphmkclbfoppaaDoor.X
end
section
namespace Go.Proofs.YtmphmkclbfoppaaDoor.X
set_option linter.unusedVariables false
set_option linter.unusedSimpArgs false
open Go.RowKit Go.Proofs.YtmphmkclbfoppaaDoorW.PrintWords Go.Proofs.YtmphmkclbfoppaaDoorW.PrintLast Go.Proofs.YtmphmkclbfoppaaDoorW.PrintMore
open Num
def ci (a b : Int) : Int := if a < b then -1 else if a > b then 1 else 0
def orI (a b : Int) : Int := if a = 0 then b else a
structure Good {α : Type} (C : α → α → Int) : Prop where
  anti : ∀ a b, C b a = - C a b
  trans : ∀ a b c, C a b ≤ 0 → C b c ≤ 0 → C a c ≤ 0
theorem Good.lt {α : Type} {C : α → α → Int} (h : Good C) {a b c : α} (h1 : C a b < 0) (h2 : C b c ≤ 0) : C a c < 0 := by
  have h3 := h.trans a b c (by omega) h2
  by_cases hn : C a c < 0
  · exact hn
  · have e := h.anti a c
    have h5 := h.trans b c a h2 (by omega)
    have := h.anti a b
    omega
theorem Good.key {α β : Type} {C : α → α → Int} (h : Good C) (f : β → α) : Good (fun a b => C (f a) (f b)) := ⟨fun a b => h.anti (f a) (f b), fun a b c => h.trans (f a) (f b) (f c)⟩
theorem ci_zero {a b : Int} : ci a b = 0 ↔ a = b := by
  unfold ci
  by_cases h1 : a < b
  · rw [if_pos h1]; constructor
    · intro h; omega
    · intro h; omega
  · by_cases h2 : a > b
    · rw [if_neg h1, if_pos h2]; constructor
      · intro h; omega
      · intro h; omega
    · rw [if_neg h1, if_neg h2]; constructor
      · intro _; omega
      · intro _; rfl
theorem ci_self (a : Int) : ci a a = 0 := ci_zero.mpr rfl
theorem orI_zero (a : Int) : orI a 0 = a := by unfold orI; split <;> omega
theorem zero_orI (a : Int) : orI 0 a = a := by unfold orI; exact if_pos rfl
def cl : List UInt8 → List UInt8 → Int
  | [], [] => 0
  | [], _ :: _ => -1
  | _ :: _, [] => 1
  | a :: x, b :: y => orI (ci a.toNat b.toNat) (cl x y)
theorem cl_self : ∀ x, cl x x = 0
  | [] => rfl
  | a :: x => by show orI (ci a.toNat a.toNat) (cl x x) = 0; rw [ci_self, cl_self x]; rfl
theorem cl_eq : ∀ x y, cl x y = 0 → x = y
  | [], [] => fun _ => rfl
  | [], _ :: _ => fun h => absurd h (by show ¬ ((-1 : Int) = 0); decide)
  | _ :: _, [] => fun h => absurd h (by show ¬ ((1 : Int) = 0); decide)
  | a :: x, b :: y => by
    intro h
    change orI (ci a.toNat b.toNat) (cl x y) = 0 at h
    unfold orI at h
    by_cases hc : ci (a.toNat : Int) b.toNat = 0
    · rw [if_pos hc] at h
      have h1 := ci_zero.mp hc
      have e : a = b := UInt8.toNat_inj.mp (by omega)
      rw [e, cl_eq x y h]
    · rw [if_neg hc] at h; exact absurd h hc
theorem cl_less : ∀ x y, Op.bytesLess x y = decide (cl x y = -1) ∧ (cl x y = -1 ∨ cl x y = 0 ∨ cl x y = 1)
  | [], [] => ⟨rfl, Or.inr (Or.inl rfl)⟩
  | [], _ :: _ => ⟨rfl, Or.inl rfl⟩
  | _ :: _, [] => ⟨rfl, Or.inr (Or.inr rfl)⟩
  | a :: x, b :: y => by
    obtain ⟨ih, ir⟩ := cl_less x y
    have e1 : (a < b) ↔ (a.toNat : Int) < b.toNat := by rw [UInt8.lt_iff_toNat_lt]; omega
    have e2 : (a = b) ↔ (a.toNat : Int) = b.toNat := by rw [← UInt8.toNat_inj]; omega
    have hd : Op.bytesLess (a :: x) (b :: y) = (decide (a < b) || (a == b && Op.bytesLess x y)) := rfl
    have hc : cl (a :: x) (b :: y) = orI (ci a.toNat b.toNat) (cl x y) := rfl
    rw [hd, hc, ih]
    unfold orI ci
    by_cases h1 : (a.toNat : Int) < b.toNat
    · rw [if_pos h1, if_neg (by decide), decide_eq_true (e1.mpr h1)]
      exact ⟨rfl, Or.inl rfl⟩
    · rw [if_neg h1, decide_eq_false (fun h => h1 (e1.mp h))]
      by_cases h2 : (a.toNat : Int) > b.toNat
      · rw [if_pos h2, if_neg (by decide), beq_eq_false_iff_ne.mpr (fun h => by have := e2.mp h; omega)]
        exact ⟨rfl, Or.inr (Or.inr rfl)⟩
      · rw [if_neg h2, if_pos rfl, beq_iff_eq.mpr (e2.mpr (by omega))]
        exact ⟨by simp, ir⟩
def cs (a b : ByteArray) : Int := cl a.toList b.toList
theorem cs_self (a : ByteArray) : cs a a = 0 := cl_self _
theorem texts_eq (a b : ByteArray) : (if (Op.bytesLess a.toList b.toList) = true then (some (-1)) else (if (!(Op.bytesLess a.toList b.toList || a.toList == b.toList)) = true then (some 1) else (some 0)) : Option Int) = some (cs a b) := by
  unfold cs
  obtain ⟨h1, h2⟩ := cl_less a.toList b.toList
  rw [h1]
  rcases h2 with h2 | h2 | h2
  · rw [h2]; rfl
  · rw [if_neg (by rw [h2]; decide), if_neg (by rw [cl_eq _ _ h2]; simp), h2]
  · have hne : (a.toList == b.toList) = false := by
      rw [beq_eq_false_iff_ne]
      intro h; rw [h, cl_self] at h2; exact absurd h2 (by decide)
    rw [if_neg (by rw [h2]; decide), hne, if_pos (by rw [h2]; decide), h2]
theorem cmps_eq (a b : ByteArray) : cmp_Compare_string.f a b = some (cs a b) := by
  unfold cmp_Compare_string.f cmp_isNaN_string.f
  rw [Option.bind_some, Option.bind_some, bne_self_eq_false, bne_self_eq_false, if_neg (by decide), if_neg (by decide)]
  exact texts_eq a b
theorem ints_eq (a b : Int) : (if a < b then (some (-1)) else (if a > b then (some 1) else (some 0)) : Option Int) = some (ci a b) := by
  unfold ci
  by_cases h1 : a < b
  · rw [if_pos h1, if_pos h1]
  · rw [if_neg h1, if_neg h1]; split <;> rfl
theorem cmpi_eq (a b : Int) : cmp_Compare_int.f a b = some (ci a b) := by
  unfold cmp_Compare_int.f cmp_isNaN_int.f
  rw [Option.bind_some, Option.bind_some, bne_self_eq_false, bne_self_eq_false, if_neg (by decide), if_neg (by decide)]
  exact ints_eq a b
theorem cmpi64_eq (a b : Int) : cmp_Compare_int64.f a b = some (ci a b) := by
  unfold cmp_Compare_int64.f cmp_isNaN_int64.f
  rw [Option.bind_some, Option.bind_some, bne_self_eq_false, bne_self_eq_false, if_neg (by decide), if_neg (by decide)]
  exact ints_eq a b
theorem cmpu64_eq (a b : Int) : cmp_Compare_uint64.f a b = some (ci a b) := by
  unfold cmp_Compare_uint64.f cmp_isNaN_uint64.f
  rw [Option.bind_some, Option.bind_some, bne_self_eq_false, bne_self_eq_false, if_neg (by decide), if_neg (by decide)]
  exact ints_eq a b
theorem or_step (k : Nat) (l : List Int) (n i : Int) : cmp_Or_int.l0 (k + 1) 0 l n i = if i < n then (if 0 ≤ i then (if i < (l.length : Int) then (if (rd l i) = 0 then (cmp_Or_int.l0 k 0 l n (wrap64 (i + 1))) else (some (rd l i))) else (none)) else (none)) else (some 0) := by
  conv => lhs; unfold cmp_Or_int.l0
theorem w01 : wrap64 (0 + 1) = 1 := by unfold wrap64; omega
theorem w12 : wrap64 (1 + 1) = 2 := by unfold wrap64; omega
theorem w23 : wrap64 (2 + 1) = 3 := by unfold wrap64; omega
theorem or_two (k : Nat) (a b : Int) : cmp_Or_int.f (k + 3) [a, b] = some (orI a b) := by
  unfold cmp_Or_int.f orI
  rw [or_step, if_pos (by simp), if_pos (by decide), if_pos (by simp), show rd [a, b] 0 = a from rfl]
  by_cases h : a = 0
  · rw [if_pos h, if_pos h, w01, or_step, if_pos (by simp), if_pos (by decide), if_pos (by simp), show rd [a, b] 1 = b from rfl]
    by_cases h2 : b = 0
    · rw [if_pos h2, w12, or_step, if_neg (by simp), h2]
    · rw [if_neg h2]
  · rw [if_neg h, if_neg h]
theorem or_three (k : Nat) (a b c : Int) : cmp_Or_int.f (k + 4) [a, b, c] = some (orI a (orI b c)) := by
  unfold cmp_Or_int.f orI
  rw [or_step, if_pos (by simp), if_pos (by decide), if_pos (by simp), show rd [a, b, c] 0 = a from rfl]
  by_cases h : a = 0
  · rw [if_pos h, if_pos h, w01, or_step, if_pos (by simp), if_pos (by decide), if_pos (by simp), show rd [a, b, c] 1 = b from rfl]
    by_cases h2 : b = 0
    · rw [if_pos h2, if_pos h2, w12, or_step, if_pos (by simp), if_pos (by decide), if_pos (by simp), show rd [a, b, c] 2 = c from rfl]
      by_cases h3 : c = 0
      · rw [if_pos h3, w23, or_step, if_neg (by simp), h3]
      · rw [if_neg h3]
    · rw [if_neg h2, if_neg h2]
  · rw [if_neg h, if_neg h]
def cls (t : Int) : Int := if t = 0 then 0 else if t = 1 ∨ t = 2 then 1 else if t = 3 then 2 else if t = 4 then 3 else 4
def sv (t n : Int) : Int := if t = 2 then n else n * 10000
def ky1 (v : S32) : Int := if cls v.f0 = 1 then sv v.f0 v.f1 else if cls v.f0 = 3 then v.f1 else if cls v.f0 = 4 then v.f0 else 0
def ky2 (v : S32) : Int := if cls v.f0 = 1 then v.f0 else if cls v.f0 = 4 then v.f1 else 0
def ky3 (v : S32) : ByteArray := if cls v.f0 = 2 ∨ cls v.f0 = 4 then v.f2 else ⟨#[]⟩
def ord (a b : S32) : Int := orI (ci (cls a.f0) (cls b.f0)) (orI (ci (ky1 a) (ky1 b)) (orI (ci (ky2 a) (ky2 b)) (cs (ky3 a) (ky3 b))))
theorem class_eq (k : Nat) (t n : Int) (s : ByteArray) : value_class.f (k + 1) t n s = some (cls t) := by
  unfold value_class.f cls
  by_cases h0 : t = 0
  · rw [if_pos h0, if_pos h0]
  rw [if_neg h0, if_neg h0]
  by_cases h1 : t = 1
  · subst h1; rfl
  by_cases h2 : t = 2
  · subst h2; rfl
  rw [if_neg h1, if_neg (by omega), beq_eq_false_iff_ne.mpr h2]
  simp only [value_class.j0]
  rw [if_neg (by decide)]
  by_cases h3 : t = 3
  · rw [if_pos h3, if_pos h3]
  by_cases h4 : t = 4
  · rw [if_neg h3, if_neg h3, if_pos h4, if_pos h4]
  rw [if_neg h3, if_neg h3, if_neg h4, if_neg h4]
theorem ci_pair {h l h2 l2 : Int} (hl : 0 ≤ l ∧ l < 18446744073709551616) (hl2 : 0 ≤ l2 ∧ l2 < 18446744073709551616) :
    orI (ci h h2) (ci l l2) = ci (h * 18446744073709551616 + l) (h2 * 18446744073709551616 + l2) := by
  by_cases e : h = h2
  · subst e
    rw [ci_self, zero_orI]
    unfold ci
    by_cases c1 : l < l2
    · rw [if_pos c1, if_pos (by omega)]
    by_cases c2 : l > l2
    · rw [if_neg c1, if_pos c2, if_neg (by omega), if_pos (by omega)]
    rw [if_neg c1, if_neg c2, if_neg (by omega), if_neg (by omega)]
  · have hc : ci h h2 ≠ 0 := fun h' => e (ci_zero.mp h')
    unfold orI
    rw [if_neg hc]
    unfold ci
    by_cases c1 : h < h2
    · rw [if_pos c1, if_pos (by omega)]
    rw [if_neg c1, if_pos (by omega), if_neg (by omega), if_pos (by omega)]
theorem wide_eq (t n : Int) (s : ByteArray) (hn : I64 n) : ∃ h l, value_wide.f t n s = some (h, l) ∧ h * 18446744073709551616 + l = sv t n ∧ 0 ≤ l ∧ l < 18446744073709551616 := by
  obtain ⟨hn0, hn1⟩ := hn
  unfold value_wide.f sv
  by_cases h2 : t = 2
  · rw [if_pos h2, if_pos h2]
    refine ⟨_, _, rfl, ?_⟩
    rw [IntKind.wrap_u64]
    omega
  · rw [if_neg h2, if_neg h2]
    have hN : IntKind.u64.wrap n = (((n % 18446744073709551616).toNat : Nat) : Int) := by rw [IntKind.wrap_u64]; omega
    have hm := bits_Mul64.eq (n % 18446744073709551616).toNat 10000 (by omega) (by decide)
    rw [show ((10000 : Nat) : Int) = 10000 from rfl] at hm
    rw [hN, hm, Option.bind_some]
    by_cases hneg : n < 0
    · rw [if_pos hneg]
      refine ⟨_, _, rfl, ?_⟩
      have hw : (n % 18446744073709551616).toNat = (n + 18446744073709551616).toNat := by omega
      rw [hw, IntKind.wrap_u64]
      unfold wrap64
      simp only []
      omega
    · rw [if_neg hneg]
      refine ⟨_, _, rfl, ?_⟩
      have hw : (n % 18446744073709551616).toNat = n.toNat := by omega
      rw [hw]
      unfold wrap64
      simp only []
      omega
theorem numbers_eq (k : Nat) (t n : Int) (s : ByteArray) (t2 n2 : Int) (s2 : ByteArray) (hn : I64 n) (hn2 : I64 n2) :
    value_numbers.f (k + 3) t n s t2 n2 s2 = some (ci (sv t n) (sv t2 n2)) := by
  obtain ⟨h, l, e, hv, hl⟩ := wide_eq t n s hn
  obtain ⟨h', l', e', hv', hl'⟩ := wide_eq t2 n2 s2 hn2
  unfold value_numbers.f
  rw [e, Option.bind_some, e', Option.bind_some, cmpi64_eq, Option.bind_some, cmpu64_eq, Option.bind_some, or_two, Option.bind_some, ci_pair hl hl', hv, hv']
theorem cls_cases (t : Int) : (cls t = 0 ∧ t = 0) ∨ (cls t = 1 ∧ (t = 1 ∨ t = 2)) ∨ (cls t = 2 ∧ t = 3) ∨ (cls t = 3 ∧ t = 4) ∨ cls t = 4 := by
  unfold cls
  by_cases h0 : t = 0
  · left; simp [h0]
  by_cases h1 : t = 1 ∨ t = 2
  · right; left; simp [h0, h1]
  by_cases h3 : t = 3
  · right; right; left; simp [h3]
  by_cases h4 : t = 4
  · right; right; right; left; simp [h4]
  · right; right; right; right; simp [h0, h1, h3, h4]
theorem ord_ne {a b : S32} (h : cls a.f0 ≠ cls b.f0) : ord a b = ci (cls a.f0) (cls b.f0) := by
  unfold ord orI; rw [if_neg (fun e => h (ci_zero.mp e))]
theorem ord_same {a b : S32} (h : cls a.f0 = cls b.f0) : ord a b = orI (ci (ky1 a) (ky1 b)) (orI (ci (ky2 a) (ky2 b)) (cs (ky3 a) (ky3 b))) := by
  unfold ord; rw [h, ci_self, zero_orI]
theorem ord_c0 {a b : S32} (h : cls a.f0 = 0) (h2 : cls b.f0 = 0) : ord a b = 0 := by
  rw [ord_same (h.trans h2.symm)]; simp [ky1, ky2, ky3, h, h2, ci_self, cs_self, zero_orI]
theorem ord_c1 {a b : S32} (h : cls a.f0 = 1) (h2 : cls b.f0 = 1) : ord a b = orI (ci (sv a.f0 a.f1) (sv b.f0 b.f1)) (ci a.f0 b.f0) := by
  rw [ord_same (h.trans h2.symm)]; simp [ky1, ky2, ky3, h, h2, ci_self, cs_self, orI_zero]
theorem ord_c2 {a b : S32} (h : cls a.f0 = 2) (h2 : cls b.f0 = 2) : ord a b = cs a.f2 b.f2 := by
  rw [ord_same (h.trans h2.symm)]; simp [ky1, ky2, ky3, h, h2, ci_self, cs_self, zero_orI]
theorem ord_c3 {a b : S32} (h : cls a.f0 = 3) (h2 : cls b.f0 = 3) : ord a b = ci a.f1 b.f1 := by
  rw [ord_same (h.trans h2.symm)]; simp [ky1, ky2, ky3, h, h2, ci_self, cs_self, orI_zero]
theorem ord_c4 {a b : S32} (h : cls a.f0 = 4) (h2 : cls b.f0 = 4) : ord a b = orI (ci a.f0 b.f0) (orI (ci a.f1 b.f1) (cs a.f2 b.f2)) := by
  rw [ord_same (h.trans h2.symm)]; simp [ky1, ky2, ky3, h, h2]
theorem value_Order.eq (k : Nat) (t n : Int) (s : ByteArray) (t2 n2 : Int) (s2 : ByteArray) (hn : I64 n) (hn2 : I64 n2) :
    value_Order.f (k + 4) t n s t2 n2 s2 = some (ord ⟨t, n, s⟩ ⟨t2, n2, s2⟩) := by
  unfold value_Order.f
  rw [class_eq, Option.bind_some, class_eq, Option.bind_some, cmpi_eq, Option.bind_some]
  by_cases hc : cls t = cls t2
  · rw [if_pos (ci_zero.mpr hc), Option.bind_some]
    rcases cls_cases t with ⟨h, rfl⟩ | ⟨h, ht⟩ | ⟨h, rfl⟩ | ⟨h, rfl⟩ | h
    · rw [if_pos h, ord_c0 h (hc ▸ h)]
    · rw [if_neg (by rw [h]; decide), if_pos h, numbers_eq (k + 1) _ _ _ _ _ _ hn hn2, Option.bind_some, cmpi_eq, Option.bind_some, or_two, Option.bind_some, ord_c1 h (hc ▸ h)]
    · rw [if_neg (by rw [h]; decide), if_neg (by rw [h]; decide), if_pos h, cmps_eq, Option.bind_some, ord_c2 h (hc ▸ h)]
    · rw [if_neg (by rw [h]; decide), if_neg (by rw [h]; decide), if_neg (by rw [h]; decide), if_pos h, cmpi64_eq, Option.bind_some, ord_c3 h (hc ▸ h)]
    · rw [if_neg (by rw [h]; decide), if_neg (by rw [h]; decide), if_neg (by rw [h]; decide), if_neg (by rw [h]; decide), cmpi_eq, Option.bind_some, cmpi64_eq, Option.bind_some, cmps_eq, Option.bind_some, or_three, Option.bind_some, ord_c4 h (hc ▸ h)]
  · rw [if_neg (fun e => hc (ci_zero.mp e)), ord_ne hc]
end Go.Proofs.YtmphmkclbfoppaaDoor.X
end
section
namespace Go.Proofs.YtmphmkclbfoppaaDoor.X
set_option linter.unusedVariables false
set_option linter.unusedSimpArgs false
open Go.RowKit Go.Proofs.YtmphmkclbfoppaaDoorW.PrintWords Go.Proofs.YtmphmkclbfoppaaDoorW.PrintLast Go.Proofs.YtmphmkclbfoppaaDoorW.PrintMore
open Num
def be : Nat → Int → List Int
  | 0, _ => []
  | k + 1, n => (n / 256 ^ k) % 256 :: be k n
def escB : List UInt8 → List Int
  | [] => []
  | b :: l => if b = 0 then 0 :: 255 :: escB l else (b.toNat : Int) :: escB l
def code (v : S32) : List Int :=
  if v.f0 = 1 ∨ v.f0 = 2 then 2 :: (be 10 (sv v.f0 v.f1 + 604462909807314587353088) ++ [v.f0 % 256])
  else if v.f0 = 3 then 3 :: (escB v.f2.data.toList ++ [0, 0])
  else if v.f0 = 4 then [4, v.f1 % 256] else [1]
def cli : List Int → List Int → Int
  | [], [] => 0
  | [], _ :: _ => -1
  | _ :: _, [] => 1
  | a :: x, b :: y => orI (ci a b) (cli x y)
theorem cli_eq : ∀ x y, cli x y = 0 → x = y
  | [], [] => fun _ => rfl
  | [], _ :: _ => fun h => absurd h (by show ¬ ((-1 : Int) = 0); decide)
  | _ :: _, [] => fun h => absurd h (by show ¬ ((1 : Int) = 0); decide)
  | a :: x, b :: y => by
    intro h
    change orI (ci a b) (cli x y) = 0 at h
    unfold orI at h
    by_cases hc : ci a b = 0
    · rw [if_pos hc] at h
      rw [ci_zero.mp hc, cli_eq x y h]
    · rw [if_neg hc] at h; exact absurd h hc
theorem orI_assoc (a b c : Int) : orI (orI a b) c = orI a (orI b c) := by
  unfold orI
  by_cases h : a = 0
  · rw [if_pos h, if_pos h]
  · rw [if_neg h, if_neg h, if_neg h]
theorem be_mod : ∀ (k : Nat) (n m : Int) (j : Nat), be j (n * 256 ^ (k + j) + m) = be j m
  | k, n, m, 0 => rfl
  | k, n, m, j + 1 => by
    have e : n * 256 ^ (k + (j + 1)) = n * 256 ^ (k + 1 + j) := by rw [Nat.add_comm j 1, ← Nat.add_assoc]
    have e2 : n * 256 ^ (k + (j + 1)) = (n * 256 ^ k * 256) * 256 ^ j := by rw [Int.pow_add, Int.pow_add]; simp only [Int.pow_succ, Int.pow_zero, Int.one_mul, Int.mul_assoc]; rw [Int.mul_comm (256 ^ j) 256]
    show (((n * 256 ^ (k + (j + 1)) + m) / 256 ^ j) % 256 :: be j (n * 256 ^ (k + (j + 1)) + m)) = (m / 256 ^ j) % 256 :: be j m
    have h1 : ((n * 256 ^ (k + (j + 1)) + m) / 256 ^ j) % 256 = (m / 256 ^ j) % 256 := by
      rw [e2, Int.add_comm, Int.add_mul_ediv_right _ _ (Int.ne_of_gt (Int.pow_pos (by decide)))]
      omega
    rw [h1, e, be_mod (k + 1) n m j]
theorem be_cut (k : Nat) (n : Int) : be k n = be k (n % 256 ^ k) := by
  have h := be_mod 0 (n / 256 ^ k) (n % 256 ^ k) k
  rw [Nat.zero_add] at h
  rw [← h]
  congr 1
  have := Int.mul_ediv_add_emod n (256 ^ k)
  rw [Int.mul_comm] at this
  omega
theorem be_cmp : ∀ (k : Nat) (a b : Int), 0 ≤ a → a < 256 ^ k → 0 ≤ b → b < 256 ^ k → ∀ x y, cli (be k a ++ x) (be k b ++ y) = orI (ci a b) (cli x y)
  | 0, a, b, h0, h1, h2, h3, x, y => by
    have ea : a = 0 := by rw [Int.pow_zero] at h1; omega
    have eb : b = 0 := by rw [Int.pow_zero] at h3; omega
    rw [ea, eb, ci_self, zero_orI]; rfl
  | k + 1, a, b, h0, h1, h2, h3, x, y => by
    have hp : (0 : Int) < 256 ^ k := Int.pow_pos (by decide)
    rw [Int.pow_succ] at h1 h3
    have d1 := Int.mul_ediv_add_emod a (256 ^ k)
    have d2 := Int.mul_ediv_add_emod b (256 ^ k)
    have m1 := Int.emod_nonneg a (Int.ne_of_gt hp)
    have m2 := Int.emod_nonneg b (Int.ne_of_gt hp)
    have l1 := Int.emod_lt_of_pos a hp
    have l2 := Int.emod_lt_of_pos b hp
    have q1 : 0 ≤ a / 256 ^ k ∧ a / 256 ^ k < 256 := ⟨Int.ediv_nonneg h0 (Int.le_of_lt hp), Int.ediv_lt_of_lt_mul hp (by rw [Int.mul_comm]; exact h1)⟩
    have q2 : 0 ≤ b / 256 ^ k ∧ b / 256 ^ k < 256 := ⟨Int.ediv_nonneg h2 (Int.le_of_lt hp), Int.ediv_lt_of_lt_mul hp (by rw [Int.mul_comm]; exact h3)⟩
    show orI (ci ((a / 256 ^ k) % 256) ((b / 256 ^ k) % 256)) (cli (be k a ++ x) (be k b ++ y)) = orI (ci a b) (cli x y)
    rw [be_cut k a, be_cut k b, be_cmp k _ _ m1 l1 m2 l2 x y, ← orI_assoc, Int.emod_eq_of_lt q1.1 q1.2, Int.emod_eq_of_lt q2.1 q2.2]
    congr 1
    generalize ha : a / 256 ^ k = A at *
    generalize hb : b / 256 ^ k = B at *
    generalize ha' : a % 256 ^ k = A' at *
    generalize hb' : b % 256 ^ k = B' at *
    generalize hP : (256 : Int) ^ k = P at *
    by_cases e : A = B
    · subst e
      rw [ci_self, zero_orI]
      unfold ci
      by_cases c1 : A' < B'
      · rw [if_pos c1, if_pos (by omega)]
      by_cases c2 : A' > B'
      · rw [if_neg c1, if_pos c2, if_neg (by omega), if_pos (by omega)]
      rw [if_neg c1, if_neg c2, if_neg (by omega), if_neg (by omega)]
    · have hc : ci A B ≠ 0 := fun h' => e (ci_zero.mp h')
      have hlt : ∀ {A B A' B' a b : Int}, P * A + A' = a → P * B + B' = b → A' < P → 0 ≤ B' → A < B → a < b := by
        intro A B A' B' a b e1 e2 h1 h2 h
        have := Int.mul_le_mul_of_nonneg_left (show A + 1 ≤ B by omega) (Int.le_of_lt hp)
        rw [Int.mul_add, Int.mul_one] at this
        omega
      unfold orI
      rw [if_neg hc]
      unfold ci
      by_cases c1 : A < B
      · rw [if_pos c1, if_pos (hlt d1 d2 l1 m2 c1)]
      · have c2 : B < A := by omega
        have := hlt d2 d1 l2 m1 c2
        rw [if_neg c1, if_pos (by omega), if_neg (by omega), if_pos (by omega)]
theorem escB_z (l : List UInt8) : escB (0 :: l) = 0 :: 255 :: escB l := by
  conv => lhs; unfold escB
  exact if_pos rfl
theorem escB_n {b : UInt8} (hb : b ≠ 0) (l : List UInt8) : escB (b :: l) = (b.toNat : Int) :: escB l := by
  conv => lhs; unfold escB
  exact if_neg hb
theorem u8_pos {b : UInt8} (hb : b ≠ 0) : (0 : Int) < b.toNat := by
  have h2 : 0 < b.toNat := Nat.pos_of_ne_zero fun e => hb (UInt8.toNat_inj.mp e)
  omega
theorem ci_lt {a b : Int} (h : a < b) : ci a b = -1 := by unfold ci; rw [if_pos h]
theorem ci_gt {a b : Int} (h : b < a) : ci a b = 1 := by unfold ci; rw [if_neg (by omega), if_pos h]
theorem orI_neg1 (a : Int) : orI (-1) a = -1 := rfl
theorem orI_one (a : Int) : orI 1 a = 1 := rfl
theorem cli_cons (a b : Int) (x y : List Int) : cli (a :: x) (b :: y) = orI (ci a b) (cli x y) := rfl
theorem escB_cmp : ∀ (a b : List UInt8) (x y : List Int), cli (escB a ++ 0 :: 0 :: x) (escB b ++ 0 :: 0 :: y) = orI (cl a b) (cli x y)
  | [], [], x, y => by
    show cli (0 :: 0 :: x) (0 :: 0 :: y) = orI 0 (cli x y)
    rw [cli_cons, cli_cons, ci_self, zero_orI, zero_orI]
  | [], b :: m, x, y => by
    show cli (0 :: 0 :: x) (escB (b :: m) ++ 0 :: 0 :: y) = orI (-1) (cli x y)
    by_cases hb : b = 0
    · subst hb
      rw [escB_z, List.cons_append, List.cons_append, cli_cons, cli_cons, ci_self, zero_orI, ci_lt (by decide)]
      rfl
    · rw [escB_n hb, List.cons_append, cli_cons, ci_lt (u8_pos hb)]
      rfl
  | a :: l, [], x, y => by
    show cli (escB (a :: l) ++ 0 :: 0 :: x) (0 :: 0 :: y) = orI 1 (cli x y)
    by_cases ha : a = 0
    · subst ha
      rw [escB_z, List.cons_append, List.cons_append, cli_cons, cli_cons, ci_self, zero_orI, ci_gt (by decide)]
      rfl
    · rw [escB_n ha, List.cons_append, cli_cons, ci_gt (u8_pos ha)]
      rfl
  | a :: l, b :: m, x, y => by
    have ih := escB_cmp l m x y
    show _ = orI (orI (ci a.toNat b.toNat) (cl l m)) (cli x y)
    rw [orI_assoc, ← ih]
    by_cases ha : a = 0
    · subst ha
      by_cases hb : b = 0
      · subst hb
        rw [escB_z, escB_z, List.cons_append, List.cons_append, List.cons_append, List.cons_append, cli_cons, cli_cons, ci_self, ci_self, zero_orI, zero_orI, ci_self, zero_orI]
      · rw [escB_z, escB_n hb, List.cons_append, List.cons_append, List.cons_append, cli_cons, ci_lt (u8_pos hb), orI_neg1, show ((0 : UInt8).toNat : Int) = 0 from rfl, ci_lt (u8_pos hb), orI_neg1]
    · by_cases hb : b = 0
      · subst hb
        rw [escB_z, escB_n ha, List.cons_append, List.cons_append, List.cons_append, cli_cons, ci_gt (u8_pos ha), orI_one, show ((0 : UInt8).toNat : Int) = 0 from rfl, ci_gt (u8_pos ha), orI_one]
      · rw [escB_n ha, escB_n hb, List.cons_append, List.cons_append, cli_cons]
structure Can (v : S32) : Prop where
  chk : chk v.f0 v.f1 v.f2 = 0
  num : I64 v.f1
theorem Can.typ {v : S32} (h : Can v) : (v.f0 = 0) ∨ (v.f0 = 1 ∨ v.f0 = 2) ∨ (v.f0 = 3 ∧ v.f2.size ≤ 4096) ∨ (v.f0 = 4 ∧ (v.f1 = 0 ∨ v.f1 = 1)) := by
  have h1 := h.chk
  unfold X.chk at h1
  by_cases h0 : v.f0 = 0 ∨ v.f0 = 1 ∨ v.f0 = 2
  · omega
  · rw [if_neg h0] at h1
    by_cases h4 : v.f0 = 4
    · rw [if_pos h4] at h1
      right; right; right
      refine ⟨h4, ?_⟩
      by_cases hn : v.f1 = 0 ∨ v.f1 = 1
      · exact hn
      · rw [if_neg hn] at h1; omega
    · rw [if_neg h4] at h1
      by_cases h3 : v.f0 = 3
      · rw [if_pos h3] at h1
        right; right; left
        refine ⟨h3, ?_⟩
        by_cases hs : (v.f2.size : Int) > 4096
        · rw [if_pos hs] at h1; omega
        · omega
      · rw [if_neg h3] at h1; omega
theorem sv_bound {t n : Int} (h : I64 n) : 0 ≤ sv t n + 604462909807314587353088 ∧ sv t n + 604462909807314587353088 < 256 ^ 10 := by
  obtain ⟨h0, h1⟩ := h
  rw [show (256 : Int) ^ 10 = 1208925819614629174706176 by decide]
  unfold sv
  split <;> omega
theorem ci_add (a b c : Int) : ci (a + c) (b + c) = ci a b := by
  unfold ci
  by_cases c1 : a < b
  · rw [if_pos c1, if_pos (by omega)]
  by_cases c2 : a > b
  · rw [if_neg c1, if_pos c2, if_neg (by omega), if_pos (by omega)]
  rw [if_neg c1, if_neg c2, if_neg (by omega), if_neg (by omega)]
theorem code_num {v : S32} (h : v.f0 = 1 ∨ v.f0 = 2) : code v = 2 :: (be 10 (sv v.f0 v.f1 + 604462909807314587353088) ++ [v.f0 % 256]) := by unfold code; rw [if_pos h]
theorem code_text {v : S32} (h : v.f0 = 3) : code v = 3 :: (escB v.f2.data.toList ++ [0, 0]) := by unfold code; rw [if_neg (by omega), if_pos h]
theorem code_bool {v : S32} (h : v.f0 = 4) : code v = [4, v.f1 % 256] := by unfold code; rw [if_neg (by omega), if_neg (by omega), if_pos h]
theorem code_null {v : S32} (h : v.f0 = 0) : code v = [1] := by unfold code; rw [if_neg (by omega), if_neg (by omega), if_neg (by omega)]
theorem code_tag {v : S32} (h : Can v) : ∃ l, code v = (cls v.f0 + 1) :: l := by
  unfold cls
  rcases h.typ with e | e | e | e
  · rw [code_null e, e]; exact ⟨_, rfl⟩
  · rw [code_num e, if_neg (by omega), if_pos e]; exact ⟨_, rfl⟩
  · rw [code_text e.1, e.1]; exact ⟨_, rfl⟩
  · rw [code_bool e.1, e.1]; exact ⟨_, rfl⟩
theorem code_cmp {v w : S32} (hv : Can v) (hw : Can w) (x y : List Int) : cli (code v ++ x) (code w ++ y) = orI (ord v w) (cli x y) := by
  by_cases hc : cls v.f0 = cls w.f0
  · have typ2 := hw.typ
    rcases hv.typ with e | e | e | e
    · have c1 : cls v.f0 = 0 := by rw [e]; rfl
      have e2 : w.f0 = 0 := by
        rcases cls_cases w.f0 with ⟨h, h'⟩ | ⟨h, h'⟩ | ⟨h, h'⟩ | ⟨h, h'⟩ | h
        · exact h'
        all_goals rw [← hc, c1] at h; exact absurd h (by decide)
      rw [ord_c0 c1 (hc ▸ c1), zero_orI]
      rw [code_null e, code_null e2]
      show orI (ci 1 1) (cli x y) = _
      rw [ci_self, zero_orI]
    · have c1 : cls v.f0 = 1 := by unfold cls; rw [if_neg (by omega), if_pos e]
      have e2 : w.f0 = 1 ∨ w.f0 = 2 := by
        rcases cls_cases w.f0 with ⟨h, h'⟩ | ⟨h, h'⟩ | ⟨h, h'⟩ | ⟨h, h'⟩ | h
        · rw [← hc, c1] at h; exact absurd h (by decide)
        · exact h'
        all_goals rw [← hc, c1] at h; exact absurd h (by decide)
      obtain ⟨b1, b2⟩ := sv_bound (t := v.f0) hv.num
      obtain ⟨b3, b4⟩ := sv_bound (t := w.f0) hw.num
      rw [ord_c1 c1 (hc ▸ c1), orI_assoc]
      rw [code_num e, code_num e2]
      show orI (ci 2 2) (cli ((be 10 _ ++ [v.f0 % 256]) ++ x) ((be 10 _ ++ [w.f0 % 256]) ++ y)) = _
      rw [ci_self, zero_orI, List.append_assoc, List.append_assoc, be_cmp 10 _ _ b1 b2 b3 b4, ci_add]
      congr 1
      show orI (ci (v.f0 % 256) (w.f0 % 256)) (cli x y) = _
      rw [show v.f0 % 256 = v.f0 by omega, show w.f0 % 256 = w.f0 by omega]
    · have c1 : cls v.f0 = 2 := by rw [e.1]; rfl
      have e2 : w.f0 = 3 := by
        rcases cls_cases w.f0 with ⟨h, h'⟩ | ⟨h, h'⟩ | ⟨h, h'⟩ | ⟨h, h'⟩ | h
        · rw [← hc, c1] at h; exact absurd h (by decide)
        · rw [← hc, c1] at h; exact absurd h (by decide)
        · exact h'
        all_goals rw [← hc, c1] at h; exact absurd h (by decide)
      rw [ord_c2 c1 (hc ▸ c1)]
      rw [code_text e.1, code_text e2]
      show orI (ci 3 3) (cli ((escB _ ++ [0, 0]) ++ x) ((escB _ ++ [0, 0]) ++ y)) = _
      rw [ci_self, zero_orI, List.append_assoc, List.append_assoc]
      show cli (escB _ ++ 0 :: 0 :: x) (escB _ ++ 0 :: 0 :: y) = _
      rw [escB_cmp]
      unfold cs
      rw [ByteArray.toList_eq, ByteArray.toList_eq]
    · have c1 : cls v.f0 = 3 := by rw [e.1]; rfl
      have e2 : w.f0 = 4 ∧ (w.f1 = 0 ∨ w.f1 = 1) := by
        rcases typ2 with h | h | h | h
        · rw [h, c1] at hc; exact absurd hc (by decide)
        · have : cls w.f0 = 1 := by unfold cls; rw [if_neg (by omega), if_pos h]
          rw [this, c1] at hc; exact absurd hc (by decide)
        · rw [h.1, c1] at hc; exact absurd hc (by decide)
        · exact h
      rw [ord_c3 c1 (hc ▸ c1)]
      rw [code_bool e.1, code_bool e2.1]
      show orI (ci 4 4) (orI (ci (v.f1 % 256) (w.f1 % 256)) (cli x y)) = _
      rw [ci_self, zero_orI, show v.f1 % 256 = v.f1 by omega, show w.f1 % 256 = w.f1 by omega]
  · obtain ⟨l, hl⟩ := code_tag hv
    obtain ⟨m, hm⟩ := code_tag hw
    have hne : ci (cls v.f0) (cls w.f0) ≠ 0 := fun e => hc (ci_zero.mp e)
    rw [hl, hm, ord_ne hc]
    show orI (ci (cls v.f0 + 1) (cls w.f0 + 1)) _ = _
    rw [ci_add]
    unfold orI
    rw [if_neg hne, if_neg hne]
end Go.Proofs.YtmphmkclbfoppaaDoor.X
end
section
namespace Go.Proofs.YtmphmkclbfoppaaDoor.X
set_option linter.unusedVariables false
set_option linter.unusedSimpArgs false
open Go.RowKit Go.Proofs.YtmphmkclbfoppaaDoorW.PrintWords Go.Proofs.YtmphmkclbfoppaaDoorW.PrintLast Go.Proofs.YtmphmkclbfoppaaDoorW.PrintMore
open Num
def escU : List UInt8 → List UInt8
  | [] => []
  | b :: l => if b = 0 then 0 :: 255 :: escU l else b :: escU l
theorem escB_eq : ∀ l, escB l = (escU l).map fun b => (b.toNat : Int)
  | [] => rfl
  | b :: l => by
    unfold escB escU
    split
    · rw [escB_eq l]; rfl
    · rw [escB_eq l]; rfl
theorem idx_cons {b : UInt8} (hb : b ≠ 0) (l : List UInt8) : Lib.index (b :: l) [0] = if Lib.index l [0] == -1 then -1 else Lib.index l [0] + 1 := by
  conv => lhs; unfold Lib.index
  rw [if_neg]
  simp only [List.isPrefixOf]
  intro h
  simp at h
  exact hb h.symm
theorem idx_zero (l : List UInt8) : Lib.index (0 :: l) [0] = 0 := by
  unfold Lib.index
  rw [if_pos (by simp [List.isPrefixOf])]
theorem count_zero (l : List UInt8) : Lib.count (0 :: l) [0] = 1 + Lib.count l [0] := Lib.count_hit (i := 0) (by simp) (idx_zero l)
theorem count_cons {b : UInt8} (hb : b ≠ 0) (l : List UInt8) : Lib.count (b :: l) [0] = Lib.count l [0] := by
  have h := idx_cons hb l
  by_cases hm : Lib.index l [0] = -1
  · rw [hm] at h
    rw [Lib.count_miss (by simpa using h), Lib.count_miss hm]
  · have hge := Lib.index_ge l [0]
    obtain ⟨i, hi⟩ : ∃ i : Nat, Lib.index l [0] = i := ⟨(Lib.index l [0]).toNat, by omega⟩
    rw [if_neg (by simpa using hm), hi] at h
    rw [Lib.count_hit (i := i + 1) (by simp) (by rw [h]; rfl), Lib.count_hit (i := i) (by simp) hi]
    rfl
theorem repK_esc : ∀ (l : List UInt8) (k : Nat), Lib.count l [0] ≤ k → Lib.replaceK [0] [0, 255] k l = escU l
  | [], 0, _ => rfl
  | [], k + 1, _ => by unfold Lib.replaceK; rw [if_pos (by decide)]; rfl
  | b :: l, k, h => by
    by_cases hb : b = 0
    · subst hb
      rw [count_zero] at h
      obtain ⟨k, rfl⟩ : ∃ m, k = m + 1 := ⟨k - 1, by omega⟩
      rw [Lib.replaceK_hit [0] [0, 255] k (0 :: l) 0 (idx_zero l)]
      show 0 :: 255 :: Lib.replaceK [0] [0, 255] k l = escU (0 :: l)
      rw [repK_esc l k (by omega)]
      rfl
    · rw [count_cons hb] at h
      have ih := repK_esc l k h
      have hx := idx_cons hb l
      unfold escU
      rw [if_neg hb, ← ih]
      cases k with
      | zero => rfl
      | succ k =>
        by_cases hm : Lib.index l [0] = -1
        · rw [hm] at hx
          conv => lhs; unfold Lib.replaceK
          conv => rhs; unfold Lib.replaceK
          rw [if_pos (by rw [hx]; rfl), if_pos (by rw [hm]; rfl)]
        · have hge := Lib.index_ge l [0]
          obtain ⟨i, hi⟩ : ∃ i : Nat, Lib.index l [0] = i := ⟨(Lib.index l [0]).toNat, by omega⟩
          rw [if_neg (by simpa using hm), hi] at hx
          rw [Lib.replaceK_hit [0] [0, 255] k (b :: l) (i + 1) (by rw [hx]; rfl), Lib.replaceK_hit [0] [0, 255] k l i hi]
          rfl
theorem rep_esc (l : List UInt8) : Lib.replaceAll l [0] [0, 255] = escU l := by
  unfold Lib.replaceAll Lib.replace
  rw [if_neg (by decide)]
  apply repK_esc
  unfold Lib.replaceNum
  rw [if_pos (Or.inl (by decide))]
  exact Nat.le_refl _
theorem escU_len : ∀ l, (escU l).length ≤ 2 * l.length
  | [] => Nat.le_refl _
  | b :: l => by
    have := escU_len l
    unfold escU
    split <;> simp <;> omega
theorem reps_eq (s : ByteArray) (hs : s.size ≤ 4096) : ∃ t, strings_ReplaceAll.f s (⟨#[0]⟩ : ByteArray) (⟨#[0, 255]⟩ : ByteArray) = some t ∧ bytesOf t = escB s.data.toList ∧ t.size ≤ 8192 := by
  have hl : s.data.toList.length = s.size := by simp
  have hc := Lib.count_le s.data.toList [0]
  refine ⟨⟨(escU s.data.toList).toArray⟩, ?_, ?_, ?_⟩
  · unfold strings_ReplaceAll.f
    rw [if_pos]
    · show some (⟨(Lib.replaceAll s.data.toList [0] [0, 255]).toArray⟩ : ByteArray) = _
      rw [rep_esc]
    · refine ⟨by omega, by decide, ?_⟩
      show s.size + Lib.count s.data.toList [0] * 2 ≤ 140737488355328
      omega
  · unfold bytesOf
    rw [escB_eq]
  · show (escU s.data.toList).toArray.size ≤ 8192
    have := escU_len s.data.toList
    rw [List.size_toArray]
    omega
theorem parts_eq (k : Nat) (t n : Int) (s : ByteArray) (ht : t = 1 ∨ t = 2) (hn : I64 n) :
    ∃ hi lo, rowcode_parts.f (k + 1) t n s = some (hi, lo) ∧ hi * 18446744073709551616 + lo = sv t n + 604462909807314587353088 ∧ 0 ≤ hi ∧ hi < 65536 ∧ 0 ≤ lo ∧ lo < 18446744073709551616 := by
  obtain ⟨hn0, hn1⟩ := hn
  unfold rowcode_parts.f sv
  by_cases h1 : t = 1
  · have hm := bits_Mul64.eq (n % 18446744073709551616).toNat 10000 (by omega) (by decide)
    rw [show ((10000 : Nat) : Int) = 10000 from rfl] at hm
    have hN : IntKind.u64.wrap n = (((n % 18446744073709551616).toNat : Nat) : Int) := by rw [IntKind.wrap_u64]; omega
    rw [if_neg (show ¬ t = 2 by omega)]
    by_cases hneg : n < 0
    · rw [if_pos hneg, rowcode_parts.j0, if_pos h1, hN, hm, Option.bind_some, if_pos hneg]
      have hw : (n % 18446744073709551616).toNat = (n + 18446744073709551616).toNat := by omega
      refine ⟨_, _, rfl, ?_⟩
      rw [hw, IntKind.wrap_u16, IntKind.wrap_u64]
      unfold wrap64
      simp only []
      omega
    · rw [if_neg hneg, rowcode_parts.j0, if_pos h1, hN, hm, Option.bind_some, if_neg hneg]
      have hw : (n % 18446744073709551616).toNat = n.toNat := by omega
      refine ⟨_, _, rfl, ?_⟩
      rw [hw, IntKind.wrap_u16]
      unfold wrap64
      simp only []
      omega
  · have h2 : t = 2 := by omega
    rw [if_pos h2]
    by_cases hneg : n < 0
    · rw [if_pos hneg, rowcode_parts.j0, if_neg h1]
      refine ⟨_, _, rfl, ?_⟩
      rw [IntKind.wrap_u16, IntKind.wrap_u64]
      unfold wrap64
      omega
    · rw [if_neg hneg, rowcode_parts.j0, if_neg h1]
      refine ⟨_, _, rfl, ?_⟩
      rw [IntKind.wrap_u16, IntKind.wrap_u64]
      unfold wrap64
      omega
theorem shr_be (low : Int) (j : Nat) (hj : j ≤ 7) : shr .u64 low ((8 * (j : Int))) = low / 256 ^ j := by
  unfold shr
  have es : min ((8 * (j : Int)).toNat) IntKind.u64.bits = 8 * j := by simp [IntKind.bits]; omega
  rw [es, Int.pow_mul]
  rfl
theorem app_loop (low : Int) (t n : Int) (s : ByteArray) : ∀ (j : Nat), j ≤ 8 → ∀ (x : List Int), x.length + j < 140737488355328 → ∀ k,
    rowcode_appended.l0 (k + j + 1) x low (8 * (j : Int) - 8) t n s = some (x ++ (be j low ++ [t % 256]))
  | 0, _, x, hl, k => by
    rw [rowcode_appended.l0, if_neg (by omega), if_pos (by omega)]; rfl
  | j + 1, hj, x, hl, k => by
    rw [show k + (j + 1) + 1 = (k + j + 1) + 1 by omega, rowcode_appended.l0]
    rw [show (8 * ((j + 1 : Nat) : Int) - 8) = 8 * (j : Int) by omega]
    rw [if_pos (by omega), if_pos (by omega), if_pos (by omega), shr_be low j (by omega)]
    rw [show wrap64 (8 * (j : Int) - 8) = 8 * (j : Int) - 8 by unfold wrap64; omega]
    rw [app_loop low t n s j (by omega) _ (by rw [List.length_append, List.length_singleton]; omega) k, List.append_assoc]
    rfl
theorem be_len : ∀ (k : Nat) (n : Int), (be k n).length = k
  | 0, _ => rfl
  | k + 1, n => by show (be k n).length + 1 = k + 1; rw [be_len k n]
theorem be_ten (hi lo : Int) (h0 : 0 ≤ hi) (h1 : hi < 65536) (h2 : 0 ≤ lo) (h3 : lo < 18446744073709551616) :
    be 10 (hi * 18446744073709551616 + lo) = (hi / 256) % 256 :: hi % 256 :: be 8 lo := by
  show ((hi * 18446744073709551616 + lo) / 256 ^ 9) % 256 :: ((hi * 18446744073709551616 + lo) / 256 ^ 8) % 256 :: be 8 (hi * 18446744073709551616 + lo) = _
  have e := be_mod 0 hi lo 8
  rw [Nat.zero_add, show (256 : Int) ^ 8 = 18446744073709551616 by decide] at e
  rw [e, show (256 : Int) ^ 9 = 4722366482869645213696 by decide, show (256 : Int) ^ 8 = 18446744073709551616 by decide]
  have a1 : ((hi * 18446744073709551616 + lo) / 4722366482869645213696) % 256 = (hi / 256) % 256 := by omega
  have a2 : ((hi * 18446744073709551616 + lo) / 18446744073709551616) % 256 = hi % 256 := by omega
  rw [a1, a2]
theorem escB_len (l : List UInt8) : (escB l).length ≤ 2 * l.length := by
  rw [escB_eq, List.length_map]
  exact escU_len l
theorem code_len {v : S32} (h : Can v) : (code v).length ≤ 8195 := by
  rcases h.typ with e | e | e | e
  · rw [code_null e]; decide
  · rw [code_num e]
    simp [be_len]
  · rw [code_text e.1]
    have := escB_len v.f2.data.toList
    have hl : v.f2.data.toList.length = v.f2.size := by simp
    simp only [List.length_cons, List.length_append, List.length_nil]
    omega
  · rw [code_bool e.1]; simp
theorem app_eq {v : S32} (h : Can v) (k : Nat) (x : List Int) (hx : x.length + 8200 < 140737488355328) :
    rowcode_appended.f (k + 10) x v.f0 v.f1 v.f2 = some (x ++ code v) := by
  unfold rowcode_appended.f
  have hj : (if v.f0 = 1 then (rowcode_appended.j0 (k + 10) x v.f0 (v.f0 == 1) v.f0 v.f1 v.f2) else (rowcode_appended.j0 (k + 10) x v.f0 (v.f0 == 2) v.f0 v.f1 v.f2)) = rowcode_appended.j0 (k + 10) x v.f0 (decide (v.f0 = 1 ∨ v.f0 = 2)) v.f0 v.f1 v.f2 := by
    by_cases h1 : v.f0 = 1
    · rw [if_pos h1, h1]; rfl
    · rw [if_neg h1]
      congr 1
      rw [Bool.eq_iff_iff]
      simp [h1]
  rw [hj, rowcode_appended.j0]
  rcases h.typ with e | e | e | e
  · rw [code_null e, decide_eq_false (show ¬ (v.f0 = 1 ∨ v.f0 = 2) by omega), if_neg (by decide), if_neg (by omega), if_neg (by omega), if_pos (by omega)]
  · obtain ⟨hi, lo, hp, hs, b0, b1, b2, b3⟩ := parts_eq (k + 8) v.f0 v.f1 v.f2 e h.num
    rw [code_num e, decide_eq_true e, if_pos rfl, hp, Option.bind_some, Option.bind_some, if_pos (by simp; omega), ← hs, be_ten hi lo b0 b1 b2 b3]
    have hl := app_loop lo v.f0 v.f1 v.f2 8 (Nat.le_refl _) (x ++ [2, hi / 256 % 256, hi % 256]) (by simp; omega) k
    rw [show (8 * ((8 : Nat) : Int) - 8) = 56 by decide] at hl
    rw [hl]
    simp
  · obtain ⟨t, ht, hb, hsz⟩ := reps_eq v.f2 e.2
    have hbl : (bytesOf t).length = t.size := bytesOf_length t
    rw [code_text e.1, decide_eq_false (show ¬ (v.f0 = 1 ∨ v.f0 = 2) by omega), if_neg (by decide), if_pos e.1, if_pos (by omega), Option.bind_some, ht, Option.bind_some, if_pos (by simp; omega), Option.bind_some, Option.bind_some,
      if_pos (by simp only [List.length_append, List.length_cons, List.length_nil]; omega), hb]
    simp
  · rw [code_bool e.1, decide_eq_false (show ¬ (v.f0 = 1 ∨ v.f0 = 2) by omega), if_neg (by decide), if_neg (show ¬ v.f0 = 3 by omega), if_pos e.1, Option.bind_some, if_pos (by simp; omega)]
end Go.Proofs.YtmphmkclbfoppaaDoor.X
end
section
namespace Go.Proofs.YtmphmkclbfoppaaDoor.X
set_option linter.unusedVariables false
set_option linter.unusedSimpArgs false
open Go.RowKit Go.Proofs.YtmphmkclbfoppaaDoorW.PrintWords Go.Proofs.YtmphmkclbfoppaaDoorW.PrintLast Go.Proofs.YtmphmkclbfoppaaDoorW.PrintMore
open Num
theorem getD_drop {r : List S32} {i : Nat} (hi : i < r.length) : r.drop i = rd_T32 r (i : Int) :: r.drop (i + 1) := by
  unfold rd_T32
  rw [List.drop_eq_getElem_cons hi, List.getD_eq_getElem?_getD, Int.toNat_natCast, List.getElem?_eq_getElem hi]
  rfl
theorem mem_rd {r : List S32} {i : Nat} (hi : i < r.length) : rd_T32 r (i : Int) ∈ r := by
  unfold rd_T32
  rw [List.getD_eq_getElem?_getD, Int.toNat_natCast, List.getElem?_eq_getElem hi]
  exact List.getElem_mem hi
def valOut (v : S32) : List Int × Int := if chk v.f0 v.f1 v.f2 = 0 then (code v, 0) else ([], chk v.f0 v.f1 v.f2)
theorem val_eq (v : S32) (hn : I64 v.f1) (k : Nat) (hk : 10 ≤ k) : rowcode_Value.f k v.f0 v.f1 v.f2 = some (valOut v) := by
  obtain ⟨k, rfl⟩ : ∃ m, k = m + 10 := ⟨k - 10, by omega⟩
  unfold rowcode_Value.f valOut
  rw [show k + 10 = (k + 9) + 1 by omega, value_Check.eq, Option.bind_some]
  by_cases hc : chk v.f0 v.f1 v.f2 = 0
  · rw [if_pos hc, if_pos hc, app_eq ⟨hc, hn⟩ k [] (by simp), Option.bind_some]; rfl
  · rw [if_neg hc, if_neg hc]
theorem code_ord {v w : S32} (hv : Can v) (hw : Can w) : cli (code v) (code w) = ord v w := by
  have h := code_cmp hv hw [] []
  rw [List.append_nil, List.append_nil] at h
  rw [h]
  exact orI_zero _
end Go.Proofs.YtmphmkclbfoppaaDoor.X
end
section
namespace Go.Proofs.YtmphmkclbfoppaaDoor.X
set_option linter.unusedVariables false
set_option linter.unusedSimpArgs false
open Go.RowKit Go.Proofs.YtmphmkclbfoppaaDoorW.PrintWords Go.Proofs.YtmphmkclbfoppaaDoorW.PrintLast Go.Proofs.YtmphmkclbfoppaaDoorW.PrintMore
open Num
theorem rd_getD (l : List Int) (i : Nat) : rd l (i : Int) = l.getD i 0 := by unfold rd; rw [Int.toNat_natCast]
end Go.Proofs.YtmphmkclbfoppaaDoor.X
end
section
namespace Go.Proofs.YtmphmkclbfoppaaDoor.X
set_option linter.unusedVariables false
set_option linter.unusedSimpArgs false
open Go.RowKit Go.Proofs.YtmphmkclbfoppaaDoorW.PrintWords Go.Proofs.YtmphmkclbfoppaaDoorW.PrintLast Go.Proofs.YtmphmkclbfoppaaDoorW.PrintMore
open Num
def hstep (a x : Int) : Int := IntKind.u64.wrap ((Go.bits .xor .u64 a (IntKind.u64.wrap x)) * 1099511628211)
def hs (a : Int) (l : List Int) : Int := l.foldl hstep a
theorem rd_cons {l : List Int} {i : Nat} (hi : i < l.length) : l.drop i = rd l (i : Int) :: l.drop (i + 1) := by
  rw [rd_getD, List.drop_eq_getElem_cons hi, List.getD_eq_getElem?_getD, List.getElem?_eq_getElem hi]
  rfl
theorem hs_loop (l : List Int) (hm : l.length ≤ 9223372036854775807) : ∀ (d i : Nat), i + d = l.length → ∀ (a : Int) (k : Nat), d + 1 ≤ k →
    rowcode_hash.l0 k a l (l.length : Int) (i : Int) = some (hs a (l.drop i)) ∧ lockstepref02_Hash.l0 k l a (i : Int) = some (hs a (l.drop i))
  | 0, i, h, a, k, hk => by
    obtain ⟨k, rfl⟩ : ∃ m, k = m + 1 := ⟨k - 1, by omega⟩
    rw [rowcode_hash.l0, lockstepref02_Hash.l0, if_neg (by omega), if_neg (by omega), List.drop_eq_nil_of_le (by omega)]
    exact ⟨rfl, rfl⟩
  | d + 1, i, h, a, k, hk => by
    obtain ⟨k, rfl⟩ : ∃ m, k = m + 1 := ⟨k - 1, by omega⟩
    rw [rowcode_hash.l0, lockstepref02_Hash.l0, if_pos (by omega), if_pos (by omega), if_pos (by omega), if_pos (by omega), if_pos (by omega), show wrap64 ((i : Int) + 1) = ((i + 1 : Nat) : Int) by unfold wrap64; omega, rd_cons (show i < l.length by omega)]
    exact hs_loop l hm d (i + 1) (by omega) _ k (by omega)
theorem Hash_hs (l : List Int) (hm : l.length ≤ 9223372036854775807) (k : Nat) (hk : l.length + 1 ≤ k) : rowcode_Hash.f k l = some (hs 14695981039346656037 l) ∧ lockstepref02_Hash.f k l = some (hs 14695981039346656037 l) := by
  obtain ⟨h1, h2⟩ := hs_loop l hm l.length 0 (by omega) 14695981039346656037 k hk
  rw [List.drop_zero] at h1 h2
  refine ⟨?_, h2⟩
  unfold rowcode_Hash.f rowcode_hash.f
  rw [show ((0 : Int)) = ((0 : Nat) : Int) from rfl, h1, Option.bind_some]
def mix (t : Int) : Int := (ring_mixed.f t).getD 0
theorem mix_eq (t : Int) : ring_mixed.f t = some (mix t) := rfl
def wt (b : List Int) (p : Int) : Int := mix (hs 14695981039346656037 (b ++ [p % 256]))
theorem weight_eq (b : List Int) (hb : b.length < 140737488355328) (p : Int) (k : Nat) (hk : b.length + 2 ≤ k) : ring_weight.f k b p = some (wt b p) := by
  unfold ring_weight.f wt
  rw [if_pos hb, (Hash_hs (b ++ [p % 256]) (by rw [List.length_append]; simp; omega) k (by rw [List.length_append]; simp; omega)).1, Option.bind_some, mix_eq, Option.bind_some]
def best (w : Nat → Int) : Nat → Nat × Int
  | 0 => (0, 0)
  | i + 1 => if i = 0 then (0, w 0) else if w i > (best w i).2 then (i, w i) else best w i
theorem best_spec (w : Nat → Int) : ∀ n, 1 ≤ n → (best w n).1 < n ∧ (best w n).2 = w (best w n).1 ∧ (∀ j, j < n → w j ≤ (best w n).2) ∧ (∀ j, j < (best w n).1 → w j < (best w n).2)
  | 0, h => absurd h (by decide)
  | 1, _ => by
    refine ⟨Nat.zero_lt_one, rfl, fun j hj => ?_, fun j hj => absurd hj (Nat.not_lt_zero _)⟩
    obtain rfl : j = 0 := by omega
    exact Int.le_refl _
  | n + 2, _ => by
    obtain ⟨h1, h2, h3, h4⟩ := best_spec w (n + 1) (by omega)
    rw [best, if_neg (by omega)]
    by_cases hc : w (n + 1) > (best w (n + 1)).2
    · rw [if_pos hc]
      refine ⟨by show n + 1 < n + 2; omega, rfl, fun j hj => ?_, fun j hj => ?_⟩
      · by_cases hjn : j = n + 1
        · rw [hjn]; exact Int.le_refl _
        · have := h3 j (by omega); show w j ≤ w (n + 1); omega
      · have hj' : j < n + 1 := hj
        have := h3 j hj'
        show w j < w (n + 1); omega
    · rw [if_neg hc]
      refine ⟨by omega, h2, fun j hj => ?_, h4⟩
      by_cases hjn : j = n + 1
      · rw [hjn]; omega
      · exact h3 j (by omega)
def ofp (v : S32) (n : Nat) : Nat := if v.f0 = 0 then 0 else (best (fun j => wt (code v) (j : Int)) n).1
theorem ofp_lt (v : S32) {n : Nat} (hn : 1 ≤ n) : ofp v n < n := by
  unfold ofp
  split
  · omega
  · exact (best_spec _ n hn).1
theorem of_loop (b : List Int) (hb : b.length ≤ 8195) (n : Nat) (hn : n ≤ 64) : ∀ (d i : Nat), i + d = n → ∀ k, b.length + d + 4 ≤ k →
    ring_of.l0 k b ((best (fun j => wt b (j : Int)) i).1 : Int) (best (fun j => wt b (j : Int)) i).2 (n : Int) (i : Int) = some (((best (fun j => wt b (j : Int)) n).1 : Int), 0)
  | 0, i, h, k, hk => by
    obtain ⟨k, rfl⟩ : ∃ m, k = m + 1 := ⟨k - 1, by omega⟩
    obtain rfl : i = n := by omega
    rw [ring_of.l0, if_neg (by omega)]
  | d + 1, i, h, k, hk => by
    obtain ⟨k, rfl⟩ : ∃ m, k = m + 1 := ⟨k - 1, by omega⟩
    have ih := of_loop b hb n hn d (i + 1) (by omega) k (by omega)
    rw [ring_of.l0, if_pos (by omega), if_pos (by omega), if_pos (by omega), Int.toNat_natCast, List.take_length, weight_eq b (by omega) _ k (by omega), Option.bind_some, show wrap64 ((i : Int) + 1) = ((i + 1 : Nat) : Int) by unfold wrap64; omega]
    rw [best] at ih
    by_cases h0 : i = 0
    · subst h0
      rw [if_pos rfl] at ih
      rw [if_pos (by rfl)]
      exact ih
    · rw [if_neg h0] at ih
      rw [if_neg (by omega)]
      by_cases hc : wt b (i : Int) > (best (fun j => wt b (j : Int)) i).2
      · rw [if_pos hc] at ih
        rw [if_pos hc]
        exact ih
      · rw [if_neg hc] at ih
        rw [if_neg hc]
        exact ih
theorem of_eq (v : S32) (hv : I64 v.f1) (n : Nat) (hn : n ≤ 64) (k : Nat) (hk : 8300 ≤ k) : ring_of.f k v.f0 v.f1 v.f2 (n : Int) = some (if chk v.f0 v.f1 v.f2 = 0 then ((ofp v n : Int), 0) else (0, chk v.f0 v.f1 v.f2)) := by
  obtain ⟨k, rfl⟩ : ∃ m, k = m + 1 := ⟨k - 1, by omega⟩
  unfold ring_of.f
  rw [val_eq v hv (k + 1) (by omega), Option.bind_some]
  unfold valOut
  by_cases hc : chk v.f0 v.f1 v.f2 = 0
  · rw [if_pos hc, if_pos hc, if_pos rfl, ring_of.j0]
    unfold ofp
    by_cases h0 : v.f0 = 0
    · rw [if_pos (by rw [h0]; rfl), if_pos h0]; rfl
    · rw [if_neg (by simpa using h0), if_neg h0]
      have hl := code_len (v := v) ⟨hc, hv⟩
      exact of_loop (code v) hl n hn n 0 (by omega) k (by omega)
  · rw [if_neg hc, if_neg hc]
    rw [if_neg hc, ring_of.j0, if_pos rfl]
def wOut (v : S32) (p : Int) : Int × Int := if p < 0 ∨ p ≥ 64 then (0, 1) else if chk v.f0 v.f1 v.f2 = 0 then (wt (code v) p, 0) else (0, chk v.f0 v.f1 v.f2)
theorem Weight_eq (v : S32) (hv : I64 v.f1) (p : Int) (k : Nat) (hk : 8300 ≤ k) : ring_Weight.f k v.f0 v.f1 v.f2 p = some (wOut v p) := by
  obtain ⟨k, rfl⟩ : ∃ m, k = m + 1 := ⟨k - 1, by omega⟩
  unfold ring_Weight.f wOut
  by_cases h0 : p < 0
  · rw [if_pos h0, ring_Weight.j0, if_pos rfl, if_pos (Or.inl h0)]
  rw [if_neg h0, ring_Weight.j0]
  by_cases h1 : p ≥ 64
  · rw [if_pos (decide_eq_true h1), if_pos (Or.inr h1)]
  rw [if_neg (by simpa using h1), if_neg (by omega), val_eq v hv k (by omega), Option.bind_some]
  unfold valOut
  by_cases hc : chk v.f0 v.f1 v.f2 = 0
  · have hl := code_len (v := v) ⟨hc, hv⟩
    rw [if_pos hc, if_pos hc, if_pos rfl, weight_eq _ (by show (code v).length < _; omega) p k (by show (code v).length + 2 ≤ k; omega), Option.bind_some]
  · rw [if_neg hc, if_neg hc, if_neg hc]
def okp (n : Int) : Bool := decide (1 ≤ n ∧ n ≤ 64)
theorem some_eq (n : Int) : ring_some.f n = some (okp n) := by
  unfold ring_some.f okp
  by_cases h : n ≥ 1
  · rw [if_pos h]
    congr 1
    rw [decide_eq_decide]
    omega
  · rw [if_neg h, decide_eq_false (by omega)]
theorem okp_nat {n : Int} (h : okp n = true) : ∃ m : Nat, n = (m : Int) ∧ 1 ≤ m ∧ m ≤ 64 := by
  have := of_decide_eq_true h
  exact ⟨n.toNat, by omega, by omega, by omega⟩
def ofOut (v : S32) (n : Int) : Int × Int := if okp n = true then (if chk v.f0 v.f1 v.f2 = 0 then ((ofp v n.toNat : Int), 0) else (0, chk v.f0 v.f1 v.f2)) else (0, 1)
theorem Of_eq (v : S32) (hv : I64 v.f1) (n : Int) (k : Nat) (hk : 8300 ≤ k) : ring_Of.f k v.f0 v.f1 v.f2 n = some (ofOut v n) := by
  unfold ring_Of.f ofOut
  rw [some_eq, Option.bind_some]
  by_cases h : okp n = true
  · obtain ⟨m, rfl, m1, m2⟩ := okp_nat h
    rw [if_pos h, if_pos h, of_eq v hv m m2 k hk, Option.bind_some, Int.toNat_natCast]
  · rw [if_neg h, if_neg h]
def lErr : List S32 → Int
  | [] => 0
  | v :: r => if chk v.f0 v.f1 v.f2 = 0 then lErr r else chk v.f0 v.f1 v.f2
def cnt (c : List Int) : List Nat → List Int
  | [] => c
  | p :: ps => cnt (c.set p (wrap64 (c.getD p 0 + 1))) ps
def spreadOut (l : List S32) (n : Int) : List Int × Int := if okp n = true then (if l.length > 65536 then ([], 2) else if lErr l = 0 then (cnt (List.replicate n.toNat 0) (l.map fun v => ofp v n.toNat), 0) else ([], lErr l)) else ([], 1)
theorem Spread_loop (l : List S32) (hl : l.length ≤ 65536) (hv : ∀ v ∈ l, I64 v.f1) (n : Nat) (h1 : 1 ≤ n) (hn : n ≤ 64) : ∀ (d i : Nat), i + d = l.length → ∀ (c : List Int) (k : Nat), c.length = n → d + 8301 ≤ k →
    ring_Spread.l0 k (n : Int) c l (l.length : Int) (i : Int) = some (if lErr (l.drop i) = 0 then (cnt c ((l.drop i).map fun v => ofp v n), 0) else ([], lErr (l.drop i)))
  | 0, i, h, c, k, hc, hk => by
    obtain ⟨k, rfl⟩ : ∃ m, k = m + 1 := ⟨k - 1, by omega⟩
    rw [ring_Spread.l0, if_neg (by omega), List.drop_eq_nil_of_le (by omega)]
    rfl
  | d + 1, i, h, c, k, hc, hk => by
    obtain ⟨k, rfl⟩ : ∃ m, k = m + 1 := ⟨k - 1, by omega⟩
    have hi : i < l.length := by omega
    have hm := mem_rd hi
    rw [ring_Spread.l0, if_pos (by omega), if_pos (by omega), if_pos (by omega), getD_drop hi]
    generalize rd_T32 l (i : Int) = v at *
    rw [of_eq v (hv v hm) n hn k (by omega), Option.bind_some, List.map_cons]
    unfold lErr
    by_cases he : chk v.f0 v.f1 v.f2 = 0
    · have hlt := ofp_lt v h1
      rw [if_pos he, if_pos he, if_pos rfl, if_pos (by show (0 : Int) ≤ (ofp v n : Int); omega), if_pos (by show (ofp v n : Int) < _; omega), show wrap64 ((i : Int) + 1) = ((i + 1 : Nat) : Int) by unfold wrap64; omega]
      show ring_Spread.l0 k (n : Int) (c.set (((ofp v n : Nat) : Int)).toNat (wrap64 (rd c ((ofp v n : Nat) : Int) + 1))) l (l.length : Int) ((i + 1 : Nat) : Int) = _
      rw [Int.toNat_natCast, rd_getD, Spread_loop l hl hv n h1 hn d (i + 1) (by omega) _ k (by rw [List.length_set]; exact hc) (by omega)]
      rfl
    · rw [if_neg he, if_neg he, if_neg he]
      rw [if_neg he]
theorem Spread_eq (l : List S32) (hv : ∀ v ∈ l, I64 v.f1) (n : Int) (k : Nat) (hk : 80000 ≤ k) : ring_Spread.f k l n = some (spreadOut l n) := by
  unfold ring_Spread.f spreadOut
  rw [some_eq, Option.bind_some]
  by_cases h : okp n = true
  · obtain ⟨m, rfl, m1, m2⟩ := okp_nat h
    rw [if_pos h, if_pos h]
    by_cases hl : l.length > 65536
    · rw [if_pos (by omega), if_pos hl]
    · rw [if_neg (by omega), if_neg hl, if_pos (by omega), if_pos (by omega), Int.toNat_natCast]
      have := Spread_loop l (by omega) hv m m1 m2 l.length 0 (by omega) (List.replicate m 0) k (by simp) (by omega)
      rw [List.drop_zero] at this
      exact this
  · rw [if_neg h, if_neg h]
theorem lErr_all : ∀ (l : List S32), lErr l = 0 → ∀ v ∈ l, chk v.f0 v.f1 v.f2 = 0
  | [], _ => fun v hv => by simp at hv
  | a :: l, h => by
    unfold lErr at h
    by_cases hc : chk a.f0 a.f1 a.f2 = 0
    · rw [if_pos hc] at h
      intro v hv
      rcases List.mem_cons.mp hv with e | e
      · rw [e]; exact hc
      · exact lErr_all l h v e
    · rw [if_neg hc] at h; exact absurd h hc
theorem ofOut_ok {v : S32} (hc : chk v.f0 v.f1 v.f2 = 0) {n : Nat} (h1 : 1 ≤ n) (h2 : n ≤ 64) : ofOut v (n : Int) = ((ofp v n : Int), 0) := by
  have hok : okp (n : Int) = true := decide_eq_true ⟨by omega, by omega⟩
  unfold ofOut
  rw [if_pos hok, if_pos hc, Int.toNat_natCast]
end Go.Proofs.YtmphmkclbfoppaaDoor.X
end
section
namespace Go.Proofs.YtmphmkclbfoppaaDoor.X
set_option linter.unusedVariables false
set_option linter.unusedSimpArgs false
open Go.RowKit Go.Proofs.YtmphmkclbfoppaaDoorW.PrintWords Go.Proofs.YtmphmkclbfoppaaDoorW.PrintLast Go.Proofs.YtmphmkclbfoppaaDoorW.PrintMore
open Num
def ch (s n : Nat) : List S32 := (List.range n).map fun i => ⟨1, ((s + i : Nat) : Int), (⟨#[]⟩ : ByteArray)⟩
def run (c : List Int) (s n : Nat) : List Int := cnt c ((ch s n).map fun v => ofp v 4)
theorem ch_add (s a b : Nat) : ch s (a + b) = ch s a ++ ch (s + a) b := by
  unfold ch
  rw [List.range_add, List.map_append, List.map_map]
  congr 1
  apply List.map_congr_left
  intro x _
  show (⟨1, ((s + (a + x) : Nat) : Int), (⟨#[]⟩ : ByteArray)⟩ : S32) = _
  rw [Nat.add_assoc]
theorem cnt_append : ∀ (ps qs : List Nat) (c : List Int), cnt c (ps ++ qs) = cnt (cnt c ps) qs
  | [], qs, c => rfl
  | p :: ps, qs, c => cnt_append ps qs _
theorem run_add (c : List Int) (s a b : Nat) : run c s (a + b) = run (run c s a) (s + a) b := by
  unfold run
  rw [ch_add, List.map_append, cnt_append]
theorem run0 : run [0, 0, 0, 0] 0 50 = [16, 8, 10, 16] := by decide +kernel
theorem run1 : run [16, 8, 10, 16] 50 50 = [28, 24, 22, 26] := by decide +kernel
theorem run2 : run [28, 24, 22, 26] 100 50 = [42, 33, 37, 38] := by decide +kernel
theorem run3 : run [42, 33, 37, 38] 150 50 = [55, 50, 51, 44] := by decide +kernel
theorem run4 : run [55, 50, 51, 44] 200 50 = [71, 60, 63, 56] := by decide +kernel
theorem run5 : run [71, 60, 63, 56] 250 50 = [84, 77, 74, 65] := by decide +kernel
theorem run6 : run [84, 77, 74, 65] 300 50 = [100, 91, 85, 74] := by decide +kernel
theorem run7 : run [100, 91, 85, 74] 350 50 = [113, 102, 95, 90] := by decide +kernel
theorem run8 : run [113, 102, 95, 90] 400 50 = [129, 114, 105, 102] := by decide +kernel
theorem run9 : run [129, 114, 105, 102] 450 50 = [136, 126, 121, 117] := by decide +kernel
theorem run10 : run [136, 126, 121, 117] 500 50 = [147, 143, 134, 126] := by decide +kernel
theorem run11 : run [147, 143, 134, 126] 550 50 = [160, 156, 147, 137] := by decide +kernel
theorem run12 : run [160, 156, 147, 137] 600 50 = [166, 172, 160, 152] := by decide +kernel
theorem run13 : run [166, 172, 160, 152] 650 50 = [177, 184, 171, 168] := by decide +kernel
theorem run14 : run [177, 184, 171, 168] 700 50 = [190, 198, 187, 175] := by decide +kernel
theorem run15 : run [190, 198, 187, 175] 750 50 = [203, 209, 200, 188] := by decide +kernel
theorem run16 : run [203, 209, 200, 188] 800 50 = [216, 227, 203, 204] := by decide +kernel
theorem run17 : run [216, 227, 203, 204] 850 50 = [227, 241, 216, 216] := by decide +kernel
theorem run18 : run [227, 241, 216, 216] 900 50 = [240, 253, 229, 228] := by decide +kernel
theorem run19 : run [240, 253, 229, 228] 950 50 = [247, 266, 247, 240] := by decide +kernel
theorem upto0 : run [0, 0, 0, 0] 0 0 = [0, 0, 0, 0] := rfl
theorem upto50 : run [0, 0, 0, 0] 0 50 = [16, 8, 10, 16] := (run_add [0, 0, 0, 0] 0 0 50).trans (by rw [upto0]; exact run0)
theorem upto100 : run [0, 0, 0, 0] 0 100 = [28, 24, 22, 26] := (run_add [0, 0, 0, 0] 0 50 50).trans (by rw [upto50]; exact run1)
theorem upto150 : run [0, 0, 0, 0] 0 150 = [42, 33, 37, 38] := (run_add [0, 0, 0, 0] 0 100 50).trans (by rw [upto100]; exact run2)
theorem upto200 : run [0, 0, 0, 0] 0 200 = [55, 50, 51, 44] := (run_add [0, 0, 0, 0] 0 150 50).trans (by rw [upto150]; exact run3)
theorem upto250 : run [0, 0, 0, 0] 0 250 = [71, 60, 63, 56] := (run_add [0, 0, 0, 0] 0 200 50).trans (by rw [upto200]; exact run4)
theorem upto300 : run [0, 0, 0, 0] 0 300 = [84, 77, 74, 65] := (run_add [0, 0, 0, 0] 0 250 50).trans (by rw [upto250]; exact run5)
theorem upto350 : run [0, 0, 0, 0] 0 350 = [100, 91, 85, 74] := (run_add [0, 0, 0, 0] 0 300 50).trans (by rw [upto300]; exact run6)
theorem upto400 : run [0, 0, 0, 0] 0 400 = [113, 102, 95, 90] := (run_add [0, 0, 0, 0] 0 350 50).trans (by rw [upto350]; exact run7)
theorem upto450 : run [0, 0, 0, 0] 0 450 = [129, 114, 105, 102] := (run_add [0, 0, 0, 0] 0 400 50).trans (by rw [upto400]; exact run8)
theorem upto500 : run [0, 0, 0, 0] 0 500 = [136, 126, 121, 117] := (run_add [0, 0, 0, 0] 0 450 50).trans (by rw [upto450]; exact run9)
theorem upto550 : run [0, 0, 0, 0] 0 550 = [147, 143, 134, 126] := (run_add [0, 0, 0, 0] 0 500 50).trans (by rw [upto500]; exact run10)
theorem upto600 : run [0, 0, 0, 0] 0 600 = [160, 156, 147, 137] := (run_add [0, 0, 0, 0] 0 550 50).trans (by rw [upto550]; exact run11)
theorem upto650 : run [0, 0, 0, 0] 0 650 = [166, 172, 160, 152] := (run_add [0, 0, 0, 0] 0 600 50).trans (by rw [upto600]; exact run12)
theorem upto700 : run [0, 0, 0, 0] 0 700 = [177, 184, 171, 168] := (run_add [0, 0, 0, 0] 0 650 50).trans (by rw [upto650]; exact run13)
theorem upto750 : run [0, 0, 0, 0] 0 750 = [190, 198, 187, 175] := (run_add [0, 0, 0, 0] 0 700 50).trans (by rw [upto700]; exact run14)
theorem upto800 : run [0, 0, 0, 0] 0 800 = [203, 209, 200, 188] := (run_add [0, 0, 0, 0] 0 750 50).trans (by rw [upto750]; exact run15)
theorem upto850 : run [0, 0, 0, 0] 0 850 = [216, 227, 203, 204] := (run_add [0, 0, 0, 0] 0 800 50).trans (by rw [upto800]; exact run16)
theorem upto900 : run [0, 0, 0, 0] 0 900 = [227, 241, 216, 216] := (run_add [0, 0, 0, 0] 0 850 50).trans (by rw [upto850]; exact run17)
theorem upto950 : run [0, 0, 0, 0] 0 950 = [240, 253, 229, 228] := (run_add [0, 0, 0, 0] 0 900 50).trans (by rw [upto900]; exact run18)
theorem upto1000 : run [0, 0, 0, 0] 0 1000 = [247, 266, 247, 240] := (run_add [0, 0, 0, 0] 0 950 50).trans (by rw [upto950]; exact run19)
theorem lErr_zero : ∀ (l : List S32), (∀ v ∈ l, chk v.f0 v.f1 v.f2 = 0) → lErr l = 0
  | [], _ => rfl
  | v :: r, h => by
    unfold lErr
    rw [if_pos (h v List.mem_cons_self)]
    exact lErr_zero r (fun w hw => h w (List.mem_cons_of_mem _ hw))
theorem ch_len (s n : Nat) : (ch s n).length = n := by unfold ch; rw [List.length_map, List.length_range]
theorem ch_mem {s n : Nat} {v : S32} (h : v ∈ ch s n) : v.f0 = 1 ∧ 0 ≤ v.f1 ∧ v.f1 < (s + n : Nat) := by
  unfold ch at h
  obtain ⟨i, hi, rfl⟩ := List.mem_map.mp h
  have := List.mem_range.mp hi
  exact ⟨rfl, by show (0 : Int) ≤ ((s + i : Nat) : Int); omega, by show ((s + i : Nat) : Int) < _; omega⟩
theorem lives_loop : ∀ (d i : Nat), i + d = 1000 → ∀ k, 80001 + d ≤ k → locksteplaw18_lives.l0 k (ch 0 i) (i : Int) = some true
  | 0, i, h, k, hk => by
    obtain ⟨k, rfl⟩ : ∃ m, k = m + 1 := ⟨k - 1, by omega⟩
    obtain rfl : i = 1000 := by omega
    have hs : spreadOut (ch 0 1000) 4 = ([247, 266, 247, 240], 0) := by
      unfold spreadOut
      rw [if_pos (show okp 4 = true by decide), if_neg (by rw [ch_len]; decide), if_pos (lErr_zero _ (fun v hv => by have := (ch_mem hv).1; rw [this]; rfl))]
      have := upto1000
      unfold run at this
      exact congrArg (fun c => (c, (0 : Int))) this
    have hI : ∀ v ∈ ch 0 1000, I64 v.f1 := by
      intro v hv
      obtain ⟨_, q1, q2⟩ := ch_mem hv
      unfold I64
      omega
    rw [locksteplaw18_lives.l0, if_neg (by omega), Spread_eq (ch 0 1000) hI 4 k (by omega), Option.bind_some, hs]
    decide +kernel
  | d + 1, i, h, k, hk => by
    obtain ⟨k, rfl⟩ : ∃ m, k = m + 1 := ⟨k - 1, by omega⟩
    have ih := lives_loop d (i + 1) (by omega) k (by omega)
    rw [locksteplaw18_lives.l0, if_pos (by omega), if_pos (by rw [ch_len]; omega), show wrap64 ((i : Int) + 1) = ((i + 1 : Nat) : Int) by unfold wrap64; omega]
    rw [ch_add 0 i 1] at ih
    have e : ch (0 + i) 1 = [⟨1, (i : Int), (⟨#[]⟩ : ByteArray)⟩] := by rw [Nat.zero_add]; rfl
    rw [e] at ih
    exact ih
theorem lives_true (k : Nat) (hk : 81001 ≤ k) : locksteplaw18_lives.f k = some true := lives_loop 1000 0 (by decide) k (by omega)
end Go.Proofs.YtmphmkclbfoppaaDoor.X
end
section
namespace Go.Proofs.YtmphmkclbfoppaaDoor.X
set_option linter.unusedVariables false
set_option linter.unusedSimpArgs false
open Go.RowKit Go.Proofs.YtmphmkclbfoppaaDoorW.PrintWords Go.Proofs.YtmphmkclbfoppaaDoorW.PrintLast Go.Proofs.YtmphmkclbfoppaaDoorW.PrintMore
open Num
theorem cnt_len : ∀ (ps : List Nat) (c : List Int), (cnt c ps).length = c.length
  | [], c => rfl
  | p :: ps, c => by rw [cnt, cnt_len ps, List.length_set]
end Go.Proofs.YtmphmkclbfoppaaDoor.X
end
section
namespace Go.Proofs.YtmphmkclbfoppaaDoor.X
set_option linter.unusedVariables false
set_option linter.unusedSimpArgs false
open Go.RowKit Go.Proofs.YtmphmkclbfoppaaDoorW.PrintWords Go.Proofs.YtmphmkclbfoppaaDoorW.PrintLast Go.Proofs.YtmphmkclbfoppaaDoorW.PrintMore
open Num
theorem part_of {a : Int} (h0 : 0 ≤ a) (h1 : a < 256) : ∃ m : Nat, wrap64 (1 + wrap64 (Int.tmod a 64)) = (m : Int) ∧ 1 ≤ m ∧ m ≤ 64 := by
  refine ⟨1 + (a % 64).toNat, ?_, by omega, by omega⟩
  rw [Int.tmod_eq_emod_of_nonneg h0]
  unfold wrap64
  omega
theorem okp_of {m : Nat} (h1 : 1 ≤ m) (h2 : m ≤ 64) : okp (m : Int) = true := decide_eq_true ⟨by omega, by omega⟩
end Go.Proofs.YtmphmkclbfoppaaDoor.X
end
section
namespace Go.Proofs.YtmphmkclbfoppaaDoor.X
set_option linter.unusedVariables false
set_option linter.unusedSimpArgs false
open Go.RowKit Go.Proofs.YtmphmkclbfoppaaDoorW.PrintWords Go.Proofs.YtmphmkclbfoppaaDoorW.PrintLast Go.Proofs.YtmphmkclbfoppaaDoorW.PrintMore
open Num
theorem getD_set {c : List Int} {p : Nat} (hp : p < c.length) (x : Int) (q : Nat) : (c.set p x).getD q 0 = if q = p then x else c.getD q 0 := by
  rw [List.getD_eq_getElem?_getD, List.getD_eq_getElem?_getD, List.getElem?_set]
  by_cases h : p = q
  · subst h; rw [if_pos rfl, if_pos rfl, if_pos hp]; rfl
  · rw [if_neg h, if_neg (fun e => h e.symm)]
theorem wrap_small {x : Int} (h0 : -1000000000 ≤ x) (h1 : x ≤ 1000000000) : wrap64 x = x := by unfold wrap64; omega
theorem cnt_get : ∀ (ps : List Nat) (c : List Int), (∀ p ∈ ps, p < c.length) → (∀ q, 0 ≤ c.getD q 0 ∧ c.getD q 0 + (ps.length : Int) ≤ 1000000) → ∀ q, (cnt c ps).getD q 0 = c.getD q 0 + ((ps.count q : Nat) : Int)
  | [], c, _, _, q => by show c.getD q 0 = c.getD q 0 + ((0 : Nat) : Int); omega
  | p :: ps, c, hp, hb, q => by
    have hpc := hp p List.mem_cons_self
    have hbp := hb p
    rw [List.length_cons] at hbp
    have hw : wrap64 (c.getD p 0 + 1) = c.getD p 0 + 1 := wrap_small (by omega) (by omega)
    have ih := cnt_get ps (c.set p (wrap64 (c.getD p 0 + 1))) (fun x hx => by rw [List.length_set]; exact hp x (List.mem_cons_of_mem _ hx)) (fun x => by
      have hbx := hb x
      rw [List.length_cons] at hbx
      rw [getD_set hpc, hw]
      by_cases hx : x = p
      · rw [if_pos hx]; omega
      · rw [if_neg hx]; omega) q
    rw [cnt, ih, getD_set hpc, hw, List.count_cons]
    by_cases hq : q = p
    · subst hq
      rw [if_pos rfl, if_pos (by simp)]
      omega
    · rw [if_neg hq, if_neg (by simpa using fun e => hq e.symm)]
      omega
theorem rd_nat (c : List Int) (q : Nat) : rd c (q : Int) = c.getD q 0 := rd_getD c q
theorem same_of {v w : S32} (hv : Can v) (hw : Can w) (h : ord v w = 0) (n : Nat) : ofp v n = ofp w n := by
  have hc : code v = code w := cli_eq _ _ ((code_ord hv hw).trans h)
  have h0 : v.f0 = 0 ↔ w.f0 = 0 := by
    obtain ⟨l1, e1⟩ := code_tag hv
    obtain ⟨l2, e2⟩ := code_tag hw
    rw [e1, e2] at hc
    injection hc with hc _
    have t1 := hv.typ
    have t2 := hw.typ
    unfold cls at hc
    constructor
    · intro hz
      rw [if_pos hz] at hc
      rcases t2 with q | q | q | q
      · exact q
      · rw [if_neg (by omega), if_pos q] at hc; omega
      · rw [if_neg (by omega), if_neg (by omega), if_pos q.1] at hc; omega
      · rw [if_neg (by omega), if_neg (by omega), if_neg (by omega), if_pos q.1] at hc; omega
    · intro hz
      rw [if_pos hz] at hc
      rcases t1 with q | q | q | q
      · exact q
      · rw [if_neg (by omega), if_pos q] at hc; omega
      · rw [if_neg (by omega), if_neg (by omega), if_pos q.1] at hc; omega
      · rw [if_neg (by omega), if_neg (by omega), if_neg (by omega), if_pos q.1] at hc; omega
  unfold ofp
  by_cases hz : v.f0 = 0
  · rw [if_pos hz, if_pos (h0.mp hz)]
  · rw [if_neg hz, if_neg (fun q => hz (h0.mpr q)), hc]
theorem Same_eq (v w : S32) (hv : I64 v.f1) (hw : I64 w.f1) (k : Nat) (hk : 4 ≤ k) : value_Same.f k v.f0 v.f1 v.f2 w.f0 w.f1 w.f2 = some (ord v w == 0) := by
  obtain ⟨k, rfl⟩ : ∃ m, k = m + 4 := ⟨k - 4, by omega⟩
  unfold value_Same.f
  rw [value_Order.eq k v.f0 v.f1 v.f2 w.f0 w.f1 w.f2 hv hw, Option.bind_some]
def known (l : List S32) (n i : Nat) (o : List Int) : Prop := o.length = l.length ∧ ∀ k, k < i → o.getD k 0 = ((ofp (l.getD k z32) n : Nat) : Int)
def left (l : List S32) (n i : Nat) (s : List Int) : Prop := s.length = n ∧ ∀ q, s.getD q 0 = ((((l.drop i).map fun v => ofp v n).count q : Nat) : Int)
theorem rd32 (l : List S32) (i : Nat) : rd_T32 l (i : Int) = l.getD i z32 := by unfold rd_T32; rw [Int.toNat_natCast]
theorem next_i {i : Nat} (h : i ≤ 65536) : wrap64 ((i : Int) + 1) = ((i + 1 : Nat) : Int) := by unfold wrap64; omega
theorem Apart_l1 (l : List S32) (hl : l.length ≤ 65536) (hc : ∀ v ∈ l, Can v) (n : Nat) (s o : List Int) (i : Nat) (hi : i < l.length) (ho : known l n (i + 1) o) (p : Nat) (hp : p = ofp (l.getD i z32) n) (K : Nat) (hK : 10 ≤ K) : ∀ (d m : Nat), m + d = i →
    locksteplaw18_RingApart.l1 (K + d) l (n : Int) s o (i : Int) (p : Int) (m : Int) = locksteplaw18_RingApart.l1 K l (n : Int) s o (i : Int) (p : Int) (i : Int)
  | 0, m, h => by
    obtain rfl : m = i := h
    rfl
  | d + 1, m, h => by
    have hm : m < i := by omega
    have ih := Apart_l1 l hl hc n s o i hi ho p hp K hK d (m + 1) (by omega)
    have cm := hc _ (mem_rd (show m < l.length by omega))
    have ci := hc _ (mem_rd hi)
    have e1 : (m : Int) < (i : Int) := Int.ofNat_lt.mpr hm
    have e2 : (m : Int) < (l.length : Int) := Int.ofNat_lt.mpr (Nat.lt_trans hm hi)
    have e3 : (i : Int) < (l.length : Int) := Int.ofNat_lt.mpr hi
    have e4 : (m : Int) < (o.length : Int) := by rw [ho.1]; exact e2
    have hnx : wrap64 ((m : Int) + 1) = ((m + 1 : Nat) : Int) := next_i (by omega)
    have hs := Same_eq (rd_T32 l (m : Int)) (rd_T32 l (i : Int)) cm.num ci.num (K + d) (by omega)
    rw [show K + (d + 1) = (K + d) + 1 by omega, locksteplaw18_RingApart.l1, if_pos e1, if_pos (Int.natCast_nonneg m), if_pos e2, if_pos (Int.natCast_nonneg i), if_pos e3, hs, Option.bind_some, hnx]
    by_cases hq : ord (rd_T32 l (m : Int)) (rd_T32 l (i : Int)) = 0
    · have hsame := same_of cm ci hq n
      rw [rd32, rd32] at hsame
      have hro : rd o (m : Int) = (p : Int) := by rw [rd_nat, ho.2 m (by omega), hsame, hp]
      rw [if_pos (beq_iff_eq.mpr hq), if_pos e4, if_pos hro]
      exact ih
    · rw [if_neg (by simpa using hq)]
      exact ih
theorem Apart_l2 (l : List S32) (n : Nat) (hn : n ≤ 64) (s o : List Int) (i : Nat) (hi : i < l.length) (hl : l.length ≤ 65536) (hcan : Can (rd_T32 l (i : Int))) (p : Nat) (w : Nat → Int) (hw : ∀ j : Nat, j < n → wOut (rd_T32 l (i : Int)) (j : Int) = (w j, 0)) (hmax : ∀ j, j < n → w j ≤ w p) (hfirst : ∀ j, j < p → w j < w p) (K : Nat) (hK : 8300 ≤ K) : ∀ (d m : Nat), m + d = n →
    locksteplaw18_RingApart.l2 (K + d + 1) l (n : Int) s o (i : Int) (p : Int) (w p) 0 (m : Int) = locksteplaw18_RingApart.l0 K l (n : Int) s o (wrap64 ((i : Int) + 1))
  | 0, m, h => by
    obtain rfl : m = n := h
    rw [locksteplaw18_RingApart.l2, if_neg (Int.lt_irrefl _)]
  | d + 1, m, h => by
    have hm : m < n := by omega
    have ih := Apart_l2 l n hn s o i hi hl hcan p w hw hmax hfirst K hK d (m + 1) (by omega)
    have hnx : wrap64 ((m : Int) + 1) = ((m + 1 : Nat) : Int) := next_i (by omega)
    have hwm := hw m hm
    have hWe := Weight_eq (rd_T32 l (i : Int)) hcan.num (m : Int) (K + d + 1) (by omega)
    have g1 : ¬ w m > w p := Int.not_lt.mpr (hmax m hm)
    rw [show K + (d + 1) + 1 = (K + d + 1) + 1 by omega, locksteplaw18_RingApart.l2, if_pos (Int.ofNat_lt.mpr hm), if_pos (Int.natCast_nonneg i), if_pos (Int.ofNat_lt.mpr hi), hWe, Option.bind_some, hwm, if_pos rfl, if_pos rfl, if_neg g1, hnx]
    by_cases hq : w m = w p
    · have g2 : ¬ (m : Int) < (p : Int) := fun hlt => by
        have := hfirst m (Int.ofNat_lt.mp hlt)
        rw [hq] at this
        exact absurd this (Int.lt_irrefl _)
      rw [if_pos hq, if_neg g2]
      exact ih
    · rw [if_neg hq]
      exact ih
theorem Apart_l3 (n : Nat) (hn : n ≤ 64) (s : List Int) (hs : s.length = n) (hz : ∀ q, s.getD q 0 = 0) : ∀ (d m : Nat), m + d = n → ∀ k, d + 1 ≤ k → locksteplaw18_RingApart.l3 k (n : Int) s (m : Int) = some true
  | 0, m, h, k, hk => by
    obtain ⟨k, rfl⟩ : ∃ m, k = m + 1 := ⟨k - 1, by omega⟩
    rw [locksteplaw18_RingApart.l3, if_neg (by omega)]
  | d + 1, m, h, k, hk => by
    obtain ⟨k, rfl⟩ : ∃ m, k = m + 1 := ⟨k - 1, by omega⟩
    rw [locksteplaw18_RingApart.l3, if_pos (by omega), if_pos (by omega), if_pos (by omega), if_pos (by rw [rd_nat]; exact hz m), next_i (by omega)]
    exact Apart_l3 n hn s hs hz d (m + 1) (by omega) k (by omega)
theorem left_next {l : List S32} {n i : Nat} {s : List Int} (hi : i < l.length) (hl : l.length ≤ 65536) (hs : left l n i s) {p : Nat} (hp : p = ofp (l.getD i z32) n) (hpn : p < n) :
    left l n (i + 1) (s.set p (wrap64 (s.getD p 0 - 1))) := by
  obtain ⟨h1, h2⟩ := hs
  have hd : l.drop i = l.getD i z32 :: l.drop (i + 1) := by rw [getD_drop hi, rd32]
  rw [hd, List.map_cons, ← hp] at h2
  have hcl : ∀ q, ((l.drop (i + 1)).map fun v => ofp v n).count q ≤ 65536 := fun q => Nat.le_trans List.count_le_length (by rw [List.length_map, List.length_drop]; omega)
  unfold left
  generalize (l.drop (i + 1)).map (fun v => ofp v n) = ps at *
  refine ⟨by rw [List.length_set]; exact h1, fun q => ?_⟩
  have hpp := h2 p
  rw [List.count_cons, if_pos (by simp)] at hpp
  have hcp := hcl p
  have hw : wrap64 (s.getD p 0 - 1) = ((ps.count p : Nat) : Int) := by
    rw [hpp]
    generalize ps.count p = c at *
    unfold wrap64
    omega
  rw [getD_set (by rw [h1]; exact hpn), hw]
  by_cases hq : q = p
  · rw [if_pos hq, hq]
  · rw [if_neg hq, h2 q, List.count_cons, if_neg (by simpa using fun e => hq e.symm)]
    rfl
theorem known_next {l : List S32} {n i : Nat} {o : List Int} (hi : i < l.length) (ho : known l n i o) {p : Nat} (hp : p = ofp (l.getD i z32) n) : known l n (i + 1) (o.set i (p : Int)) := by
  obtain ⟨h1, h2⟩ := ho
  refine ⟨by rw [List.length_set]; exact h1, fun k hk => ?_⟩
  rw [getD_set (by rw [h1]; exact hi)]
  by_cases hq : k = i
  · rw [if_pos hq, hq, hp]
  · rw [if_neg hq]
    exact h2 k (by omega)
theorem Apart_l0 (l : List S32) (hl : l.length ≤ 65536) (hc : ∀ v ∈ l, Can v) (n : Nat) (n1 : 1 ≤ n) (n2 : n ≤ 64) (C : Nat) (hC : C = l.length + 100) : ∀ (d i : Nat), i + d = l.length → ∀ (s o : List Int) (k : Nat), left l n i s → known l n i o → d * C + 8400 ≤ k →
    locksteplaw18_RingApart.l0 k l (n : Int) s o (i : Int) = some true
  | 0, i, h, s, o, k, hs, ho, hk => by
    obtain ⟨k, rfl⟩ : ∃ m, k = m + 1 := ⟨k - 1, by omega⟩
    rw [locksteplaw18_RingApart.l0, if_neg (by omega)]
    refine Apart_l3 n n2 s hs.1 (fun q => ?_) n 0 (Nat.zero_add _) k (by omega)
    rw [hs.2 q, List.drop_eq_nil_of_le (by omega)]
    rfl
  | d + 1, i, h, s, o, k, hs, ho, hk => by
    have hi : i < l.length := by omega
    have hdC : (d + 1) * C = d * C + C := Nat.succ_mul d C
    have hd1 : i + 1 + d = l.length := by omega
    have hnx : wrap64 ((i : Int) + 1) = ((i + 1 : Nat) : Int) := next_i (by omega)
    obtain ⟨K, hK⟩ : ∃ K, k = K + n + i + 4 := ⟨k - n - i - 4, by omega⟩
    have hKd : d * C + 8400 ≤ K := by omega
    subst hK
    have hKd2 : d * C + 8400 ≤ K + n + 1 := by omega
    have hK3 : 8300 ≤ K + n + i + 3 := by omega
    have hK4 : 8300 ≤ K + n + 1 := by omega
    have hK5 : 8300 ≤ K := by omega
    have hK6 : 10 ≤ K + n + 2 := by omega
    have hK7 : K + n + i + 3 = (K + n + 2 + i) + 1 := by omega
    have wj : ∀ j : Nat, j < n → ¬ ((j : Int) < 0 ∨ (j : Int) ≥ 64) := by omega
    have hC0 := hC
    clear hk hdC
    have hcan := hc _ (mem_rd hi)
    have hpn := ofp_lt (rd_T32 l (i : Int)) n1
    obtain ⟨p, hp⟩ : ∃ p, p = ofp (l.getD i z32) n := ⟨_, rfl⟩
    rw [rd32, ← hp] at hpn
    have hof : ofOut (rd_T32 l (i : Int)) (n : Int) = ((p : Int), 0) := by rw [ofOut_ok hcan.chk n1 n2, rd32, ← hp]
    have hs' := left_next hi hl hs hp hpn
    have ho' := known_next hi ho hp
    have ih := Apart_l0 l hl hc n n1 n2 C hC0 d (i + 1) hd1 _ _ K hs' ho' hKd
    have ih' := Apart_l0 l hl hc n n1 n2 C hC0 d (i + 1) hd1 _ _ (K + n + 1) hs' ho' hKd2
    have hOf := Of_eq (rd_T32 l (i : Int)) hcan.num (n : Int) (K + n + i + 3) hK3
    have hW := fun (k : Nat) (hk : 8300 ≤ k) => Weight_eq (rd_T32 l (i : Int)) hcan.num (p : Int) k hk
    have f1 : ¬ ((p : Int) < 0) := Int.not_lt.mpr (Int.natCast_nonneg p)
    have f2 : ¬ ((p : Int) ≥ (n : Int)) := Int.not_le.mpr (Int.ofNat_lt.mpr hpn)
    have f3 : (i : Int) < (o.length : Int) := by rw [ho.1]; exact Int.ofNat_lt.mpr hi
    have f4 : (p : Int) < (s.length : Int) := by rw [hs.1]; exact Int.ofNat_lt.mpr hpn
    rw [locksteplaw18_RingApart.l0, if_pos (Int.ofNat_lt.mpr hi), if_pos (Int.natCast_nonneg i), hOf, Option.bind_some, hof, if_pos rfl, if_neg f1, decide_eq_false f2, hK7, locksteplaw18_RingApart.j1, if_neg (by decide),
      if_pos (Int.natCast_nonneg i), if_pos f3, if_pos (Int.natCast_nonneg p), if_pos f4, Int.toNat_natCast, Int.toNat_natCast, rd_nat]
    have hl1 := Apart_l1 l hl hc n (s.set p (wrap64 (s.getD p 0 - 1))) (o.set i (p : Int)) i hi ho' p hp (K + n + 2) hK6 i 0 (Nat.zero_add _)
    rw [show (((0 : Nat)) : Int) = 0 from rfl] at hl1
    rw [hl1, locksteplaw18_RingApart.l1, if_neg (Int.lt_irrefl _), if_pos (Int.natCast_nonneg i), if_pos (Int.ofNat_lt.mpr hi)]
    by_cases h0 : (rd_T32 l (i : Int)).f0 = 0
    · rw [if_pos h0, hnx]
      exact ih'
    · rw [if_neg h0, hW (K + n + 1) hK4, Option.bind_some]
      have hw : ∀ j : Nat, j < n → wOut (rd_T32 l (i : Int)) (j : Int) = (wt (code (rd_T32 l (i : Int))) (j : Int), 0) := by
        intro j hj
        unfold wOut
        rw [if_neg (wj j hj), if_pos hcan.chk]
      have hpb : p = (best (fun j => wt (code (rd_T32 l (i : Int))) (j : Int)) n).1 := by rw [hp, ← rd32]; unfold ofp; rw [if_neg h0]
      obtain ⟨b1, b2, b3, b4⟩ := best_spec (fun j => wt (code (rd_T32 l (i : Int))) (j : Int)) n n1
      rw [← hpb] at b1 b2 b4
      rw [hw p hpn]
      have hl2 := Apart_l2 l n n2 (s.set p (wrap64 (s.getD p 0 - 1))) (o.set i (p : Int)) i hi hl hcan p (fun j => wt (code (rd_T32 l (i : Int))) (j : Int)) hw (fun j hj => by have := b3 j hj; rw [b2] at this; exact this) (fun j hj => by have := b4 j hj; rw [b2] at this; exact this) K hK5 n 0 (Nat.zero_add _)
      rw [show (((0 : Nat)) : Int) = 0 from rfl] at hl2
      rw [hnx] at hl2
      exact hl2.trans ih
theorem RingApart_K (l : List S32) (a : Int) (hv : ∀ v ∈ l, I64 v.f1) (ha : 0 ≤ a ∧ a < 256) (k : Nat) (hk : l.length * (l.length + 100) + 300000 ≤ k) : locksteplaw18_RingApart.f k l a = some true := by
  unfold locksteplaw18_RingApart.f
  rw [lives_true k (by omega), Option.bind_some, if_pos rfl]
  obtain ⟨n, en, n1, n2⟩ := part_of ha.1 ha.2
  rw [en, Spread_eq l hv _ k (by omega), Option.bind_some]
  unfold spreadOut
  rw [if_pos (okp_of n1 n2)]
  by_cases hl : l.length > 65536
  · rw [if_pos hl]; rfl
  rw [if_neg hl]
  by_cases he : lErr l = 0
  · rw [if_pos he, if_pos rfl, Int.toNat_natCast]
    have hc : ∀ v ∈ l, Can v := fun v h => ⟨lErr_all l he v h, hv v h⟩
    have hlen : (cnt (List.replicate n 0) (l.map fun v => ofp v n)).length = n := by rw [cnt_len, List.length_replicate]
    have hleft : left l n 0 (cnt (List.replicate n 0) (l.map fun v => ofp v n)) := by
      refine ⟨hlen, fun q => ?_⟩
      have hz : ∀ q, (List.replicate n (0 : Int)).getD q 0 = 0 := by
        intro q
        rw [List.getD_eq_getElem?_getD, List.getElem?_replicate]
        split <;> rfl
      rw [cnt_get _ _ (fun p hp => by
        obtain ⟨v, _, rfl⟩ := List.mem_map.mp hp
        rw [List.length_replicate]
        exact ofp_lt v n1) (fun q => by rw [hz q, List.length_map]; omega) q, hz q, List.drop_zero, Int.zero_add]
    have hknown : known l n 0 (List.replicate l.length 0) := ⟨List.length_replicate, fun k hk => absurd hk (Nat.not_lt_zero _)⟩
    have e1 : (((cnt (List.replicate n 0) (l.map fun v => ofp v n)).length : Nat) : Int) = (n : Int) := by rw [hlen]
    rw [if_pos e1, if_pos (Int.natCast_nonneg _), Int.toNat_natCast, if_pos (show l.length ≤ 35184372088832 by omega)]
    exact Apart_l0 l (by omega) hc n n1 n2 (l.length + 100) rfl l.length 0 (Nat.zero_add _) _ _ k hleft hknown (by omega)
  · rw [if_neg he, if_neg he]; rfl
theorem RingApart_true (l : List S32) (a : Int) (hv : ∀ v ∈ l, I64 v.f1) (ha : 0 ≤ a ∧ a < 256) : ∃ k, locksteplaw18_RingApart.f k l a = some true := ⟨_, RingApart_K l a hv ha _ (Nat.le_refl _)⟩
end Go.Proofs.YtmphmkclbfoppaaDoor.X
end

/- Part 6 of a claim of this seat: texts merged by a program of the claim's session (wip/bundle.py). -/
import Derived.Test.YtkkpnbfhghfleaaGreatDoorZTe1
import Derived.Test.YtkkpnbfhghfleaaGreatDoorZTe4
import Derived.Test.YtkkpnbfhghfleaaGreatDoorZTe5
section
namespace Go.Proofs.YtkkpnbfhghfleaaGreatDoor.X
open Go.RowKit Go.Proofs.YtkkpnbfhghfleaaGreatDoorW.PrintWords Go.Proofs.YtkkpnbfhghfleaaGreatDoorW.PrintLast Go.Proofs.YtkkpnbfhghfleaaGreatDoorW.PrintMore
attribute [local go_sem] max2_int min2_int max_two min_two max_three min_three max_four min_four
set_option linter.unusedVariables false
set_option linter.unusedSimpArgs false
mutual
def value_reckon.j0 : Nat → ByteArray → Int → Int → Bool → Bool → Bool → ByteArray → Bool → Option (Int × Int)
 | 0, _, _, _, _, _, _, _, _ => none
 | k + 1, x0, x1, x2, x3, x10, x12, x25, x48 => if x48 = true then (if x0.toList = ([45] : List UInt8) then (if x2 = (-9223372036854775808) then (if x1 ≥ 0 then (some (0, 10)) else (some (wrap64 (x1 - x2), 0))) else (value_reckon.j1 k x1 (wrap64 (-x2)))) else (value_reckon.j1 k x1 x2)) else (if x25.toList = ([42] : List UInt8) then ((value_size.f x1).bind fun t657 => ((value_size.f x2).bind fun t658 => ((bits_Mul64.f t657 t658).bind fun bt659 => (if x3 = true then ((value_near.f k bt659.1 bt659.2 10000).bind fun bt661 => ((value_signed.f k bt661.1 x10).bind fun bt663 => (if bt661.2 = true then (if bt663.2 = true then (some (bt663.1, 0)) else (some (0, 10))) else (some (0, 10))))) else ((value_signed.f k bt659.2 x10).bind fun bt665 => (if bt659.1 = 0 then (if bt665.2 = true then (some (bt665.1, 0)) else (some (0, 10))) else (some (0, 10)))))))) else (if x2 = 0 then (some (0, 11)) else (if x3 = true then ((value_size.f x1).bind fun t667 => ((bits_Mul64.f t667 10000).bind fun bt668 => ((value_size.f x2).bind fun t670 => ((value_near.f k bt668.1 bt668.2 t670).bind fun bt671 => ((value_signed.f k bt671.1 x10).bind fun bt673 => (if bt671.2 = true then (if bt673.2 = true then (some (bt673.1, 0)) else (some (0, 10))) else (some (0, 10)))))))) else ((value_size.f x1).bind fun t675 => ((value_size.f x2).bind fun t676 => (if t676 = 0 then (none) else ((value_signed.f k (IntKind.u64.wrap (Int.tdiv t675 t676)) x10).bind fun bt677 => (if x12 = true then (if bt677.2 = true then (some (bt677.1, 0)) else (some (0, 10))) else (some (0, 10))))))))))
def value_reckon.j1 : Nat → Int → Int → Option (Int × Int)
 | 0, _, _ => none
 | k + 1, x1, x2 => if ((decide (x1 < 0)) == (decide (x2 < 0))) = true then (value_reckon.j2 k (wrap64 (x1 + x2)) ((decide ((wrap64 (x1 + x2)) < 0)) != (decide (x1 < 0)))) else (value_reckon.j2 k (wrap64 (x1 + x2)) false)
def value_reckon.j2 : Nat → Int → Bool → Option (Int × Int)
 | 0, _, _ => none
 | k + 1, x13, x76 => if x76 = true then (some (0, 10)) else (some (x13, 0))
end
def value_reckon.f (k : Nat) (a0 : ByteArray) (a1 : Int) (a2 : Int) (a3 : Bool) : Option (Int × Int) := if a0.toList = ([43] : List UInt8) then (value_reckon.j0 k a0 a1 a2 a3 ((decide (a1 < 0)) != (decide (a2 < 0))) true a0 (a0.toList == ([43] : List UInt8))) else (value_reckon.j0 k a0 a1 a2 a3 ((decide (a1 < 0)) != (decide (a2 < 0))) true a0 (a0.toList == ([45] : List UInt8)))
set_option maxHeartbeats 8000000 in
set_option maxRecDepth 100000 in
theorem value_reckon.calls (k : Nat) (a0 : ByteArray) (a1 : Int) (a2 : Int) (a3 : Bool) (r1 : Int) (r2 : Int) (w : World) (h : value_reckon.f k a0 a1 a2 a3 = some (r1, r2)) :
  Calls Tryz.prog 53 #[.string a0, .int .i64 a1, .int .i64 a2, .bool a3] w fun e w' => e = .returned (.tuple #[.int .i64 r1, .int .i64 r2]) ∧ Drawn0 w w' := by
 have H : (if a0.toList = ([43] : List UInt8) then (value_reckon.j0 k a0 a1 a2 a3 ((decide (a1 < 0)) != (decide (a2 < 0))) true a0 (a0.toList == ([43] : List UInt8))) else (value_reckon.j0 k a0 a1 a2 a3 ((decide (a1 < 0)) != (decide (a2 < 0))) true a0 (a0.toList == ([45] : List UInt8)))) = some (r1, r2) := h
 clear h
 have HC5 := Aside0.mk H
 clear H
 go_enter Tryz.func53, Tryz.ntmps53
 go_upto_if 48 with (fail)
 go_cut [48] (fun v48 wc => ∃ (kq : Nat) (x48_4 : Bool), v48 = .bool x48_4 ∧ Aside0 (value_reckon.j0 kq a0 a1 a2 a3 ((decide (a1 < 0)) != (decide (a2 < 0))) true a0 x48_4 = some (r1, r2)) ∧ Aside0 (kq ≤ k) ∧ Drawn0 w wc)
 case first =>
  have H := HC5.out
  clear HC5
  by_cases c6 : a0.toList = ([43] : List UInt8)
  ·
   rw [if_pos c6] at H
   have c6b0 : (a0.toList == ([43] : List UInt8)) = true := beq_iff_eq.mpr c6
   have c6b1 : (a0.toList != ([43] : List UInt8)) = false := bne_eq_false_iff_eq.mpr c6
   clear c6
   (first | rw [c6b0] | (simp only [i64_w, i32_w]; rw [c6b0]) | skip)
   have H' := Aside0.mk H
   clear H
   go_wp2
   go_meet
   case rel => exact ⟨_, ((a0.toList == ([43] : List UInt8))), (by first | rfl | (simp; done) | (simp [*]; done)), H', ⟨by first | omega | exact Nat.le_refl _⟩, by repeat (first | exact Drawn0.refl _ | apply Drawn0.step)⟩
  ·
   rw [if_neg c6] at H
   have c6b0 : (a0.toList == ([43] : List UInt8)) = false := beq_eq_false_iff_ne.mpr c6
   have c6b1 : (a0.toList != ([43] : List UInt8)) = true := bne_iff_ne.mpr c6
   (first | rw [c6b0] | (simp only [i64_w, i32_w]; rw [c6b0]) | skip)
   have H' := Aside0.mk H
   clear H
   go_wp2
   go_meet
   case rel => exact ⟨_, ((a0.toList == ([45] : List UInt8))), (by first | rfl | (simp; done) | (simp [*]; done)), H', ⟨by first | omega | exact Nat.le_refl _⟩, by repeat (first | exact Drawn0.refl _ | apply Drawn0.step)⟩
 case rest =>
  clear HC5
  (try clear p2); (try clear c5); (try clear c6); (try clear c6b0); (try clear c6b1)
  obtain ⟨kq, x48_4, rfl, HA, HJ4, ⟨mc4, rfl⟩⟩ := hcut
  cases kq with
  | zero => exact absurd HA.out (by simp [value_reckon.j0])
  | succ kj4 =>
   have H := HA.out
   clear HA
   simp only [value_reckon.j0] at H
   by_cases c7 : x48_4 = true
   ·
    subst c7
    have H1 : (if a0.toList = ([45] : List UInt8) then (if a2 = (-9223372036854775808) then (if a1 ≥ 0 then (some (0, 10)) else (some (wrap64 (a1 - a2), 0))) else (value_reckon.j1 kj4 a1 (wrap64 (-a2)))) else (value_reckon.j1 kj4 a1 a2)) = some (r1, r2) := by rw [if_pos rfl] at H; exact H
    clear H
    have H := H1
    clear H1
    have HC8 := Aside0.mk H
    clear H
    go_upto_if 52 with (fail)
    go_cut [2] (fun v2 wc => ∃ (kq : Nat) (x2_7 : Int), v2 = .int .i64 x2_7 ∧ Aside0 (value_reckon.j1 kq a1 x2_7 = some (r1, r2)) ∧ Aside0 (kq ≤ kj4) ∧ Drawn0 w wc)
    case first =>
     have H := HC8.out
     clear HC8
     by_cases c9 : a0.toList = ([45] : List UInt8)
     ·
      rw [if_pos c9] at H
      have c9b0 : (a0.toList == ([45] : List UInt8)) = true := beq_iff_eq.mpr c9
      have c9b1 : (a0.toList != ([45] : List UInt8)) = false := bne_eq_false_iff_eq.mpr c9
      clear c9
      (first | rw [c9b0] | (simp only [i64_w, i32_w]; rw [c9b0]) | skip)
      by_cases c10 : a2 = (-9223372036854775808)
      ·
       rw [if_pos c10] at H
       have c10b0 : (a2 == (-9223372036854775808)) = true := beq_iff_eq.mpr c10
       have c10b1 : (a2 != (-9223372036854775808)) = false := bne_eq_false_iff_eq.mpr c10
       clear c10
       by_cases c11 : a1 ≥ 0
       ·
        rw [if_pos c11] at H
        have c11b0 : decide (0 ≤ a1) = true := decide_eq_true c11
        clear c11
        simp only [Option.some.injEq, Prod.mk.injEq] at H
        obtain ⟨rfl, rfl⟩ := H
        go_wp2
        go_ret2
        exact ⟨by first | rfl | (simp; done) | (simp [*]; done), by repeat (first | exact Drawn0.refl _ | apply Drawn0.step)⟩
       ·
        rw [if_neg c11] at H
        have c11b0 : decide (0 ≤ a1) = false := decide_eq_false c11
        clear c11
        simp only [Option.some.injEq, Prod.mk.injEq] at H
        obtain ⟨rfl, rfl⟩ := H
        go_wp2
        go_ret2
        exact ⟨by first | rfl | (simp; done) | (simp [*]; done), by repeat (first | exact Drawn0.refl _ | apply Drawn0.step)⟩
      ·
       rw [if_neg c10] at H
       have c10b0 : (a2 == (-9223372036854775808)) = false := beq_eq_false_iff_ne.mpr c10
       have c10b1 : (a2 != (-9223372036854775808)) = true := bne_iff_ne.mpr c10
       have H' := Aside0.mk H
       clear H
       go_wp2
       go_meet
       case rel => exact ⟨_, (wrap64 (-a2)), (by first | rfl | (simp; done) | (simp [*]; done)), H', ⟨by have := HJ4.out; first | omega | exact Nat.le_refl _⟩, by repeat (first | exact Drawn0.refl _ | apply Drawn0.step)⟩
     ·
      rw [if_neg c9] at H
      have c9b0 : (a0.toList == ([45] : List UInt8)) = false := beq_eq_false_iff_ne.mpr c9
      have c9b1 : (a0.toList != ([45] : List UInt8)) = true := bne_iff_ne.mpr c9
      (first | rw [c9b0] | (simp only [i64_w, i32_w]; rw [c9b0]) | skip)
      have H' := Aside0.mk H
      clear H
      go_wp2
      go_meet
      case rel => exact ⟨_, (a2), (by first | rfl | (simp; done) | (simp [*]; done)), H', ⟨by have := HJ4.out; first | omega | exact Nat.le_refl _⟩, by repeat (first | exact Drawn0.refl _ | apply Drawn0.step)⟩
    case rest =>
     clear HC8
     (try clear c1); (try clear p2); (try clear c4); (try clear c5); (try clear c6); (try clear c6b0); (try clear c6b1); (try clear p6); (try clear c7); (try clear c9); (try clear c9b0); (try clear c9b1); (try clear c10); (try clear c10b0); (try clear c10b1); (try clear c11); (try clear c11b0); (try clear p2)
     obtain ⟨kq, x2_7, rfl, HA, HJ7, ⟨mc7, rfl⟩⟩ := hcut
     cases kq with
     | zero => exact absurd HA.out (by simp [value_reckon.j1])
     | succ kj7 =>
      have H := HA.out
      clear HA
      simp only [value_reckon.j1] at H
      have HC12 := Aside0.mk H
      clear H
      go_upto_region 20 with (fail)
      go_cut [76] (fun v76 wc => ∃ (kq : Nat) (x76_11 : Bool), v76 = .bool x76_11 ∧ Aside0 (value_reckon.j2 kq (wrap64 (a1 + x2_7)) x76_11 = some (r1, r2)) ∧ Aside0 (kq ≤ kj7) ∧ Drawn0 w wc)
      case first =>
       have H := HC12.out
       clear HC12
       by_cases c13 : ((decide (a1 < 0)) == (decide (x2_7 < 0))) = true
       ·
        rw [if_pos c13] at H
        have c13b0 : ((decide (a1 < 0)) == (decide (x2_7 < 0))) = true := c13
        (try (have c13b1 : decide ((decide (a1 < 0)) = (decide (x2_7 < 0))) = true := by simpa using c13))
        (try (have c13b2 : ((decide (a1 < 0)) == (decide (x2_7 < 0))) = true := by simpa using c13))
        clear c13
        (first | rw [c13b0] | (simp only [i64_w, i32_w]; rw [c13b0]) | skip)
        have H' := Aside0.mk H
        clear H
        go_wp2
        go_meet
        case rel => exact ⟨_, (((decide ((wrap64 (a1 + x2_7)) < 0)) != (decide (a1 < 0)))), (by first | rfl | (simp; done) | (simp [*]; done)), H', ⟨by have := HJ4.out; have := HJ7.out; first | omega | exact Nat.le_refl _⟩, by repeat (first | exact Drawn0.refl _ | apply Drawn0.step)⟩
       ·
        rw [if_neg c13] at H
        have c13b0 : ((decide (a1 < 0)) == (decide (x2_7 < 0))) = false := by simpa using c13
        (try (have c13b1 : decide ((decide (a1 < 0)) = (decide (x2_7 < 0))) = false := by simpa using c13))
        (try (have c13b2 : ((decide (a1 < 0)) == (decide (x2_7 < 0))) = false := by simpa using c13))
        (try (have c13b3 : ¬ ((decide (a1 < 0)) = (decide (x2_7 < 0))) := by simpa using c13))
        clear c13
        (first | rw [c13b0] | (simp only [i64_w, i32_w]; rw [c13b0]) | skip)
        have H' := Aside0.mk H
        clear H
        go_wp2
        go_meet
        case rel => exact ⟨_, (false), (by first | rfl | (simp; done) | (simp [*]; done)), H', ⟨by have := HJ4.out; have := HJ7.out; first | omega | exact Nat.le_refl _⟩, by repeat (first | exact Drawn0.refl _ | apply Drawn0.step)⟩
      case rest =>
       clear HC12
       (try clear c1); (try clear p2); (try clear c4); (try clear c5); (try clear c6); (try clear c6b0); (try clear c6b1); (try clear p6); (try clear c7); (try clear c9); (try clear c9b0); (try clear c9b1); (try clear c10); (try clear c10b0); (try clear c10b1); (try clear c11); (try clear c11b0); (try clear c13); (try clear c13b0); (try clear c13b1); (try clear c13b2); (try clear p2); (try clear p6)
       obtain ⟨kq, x76_11, rfl, HA, HJ11, ⟨mc11, rfl⟩⟩ := hcut
       cases kq with
       | zero => exact absurd HA.out (by simp [value_reckon.j2])
       | succ kj11 =>
        have H := HA.out
        clear HA
        simp only [value_reckon.j2] at H
        by_cases c14 : x76_11 = true
        ·
         subst c14
         have H1 : (some (0, 10)) = some (r1, r2) := by rw [if_pos rfl] at H; exact H
         clear H
         have H := H1
         clear H1
         simp only [Option.some.injEq, Prod.mk.injEq] at H
         obtain ⟨rfl, rfl⟩ := H
         go_wp2
         go_ret2
         exact ⟨by first | rfl | (simp; done) | (simp [*]; done), by repeat (first | exact Drawn0.refl _ | apply Drawn0.step)⟩
        ·
         replace c14 := Bool.eq_false_iff.mpr c14
         subst c14
         have H1 : (some ((wrap64 (a1 + x2_7)), 0)) = some (r1, r2) := by rw [if_neg (show ¬ (false = true) by decide)] at H; exact H
         clear H
         have H := H1
         clear H1
         simp only [Option.some.injEq, Prod.mk.injEq] at H
         obtain ⟨rfl, rfl⟩ := H
         go_wp2
         go_ret2
         exact ⟨by first | rfl | (simp; done) | (simp [*]; done), by repeat (first | exact Drawn0.refl _ | apply Drawn0.step)⟩
   ·
    replace c7 := Bool.eq_false_iff.mpr c7
    subst c7
    have H1 : (if a0.toList = ([42] : List UInt8) then ((value_size.f a1).bind fun t657 => ((value_size.f a2).bind fun t658 => ((bits_Mul64.f t657 t658).bind fun bt659 => (if a3 = true then ((value_near.f kj4 bt659.1 bt659.2 10000).bind fun bt661 => ((value_signed.f kj4 bt661.1 ((decide (a1 < 0)) != (decide (a2 < 0)))).bind fun bt663 => (if bt661.2 = true then (if bt663.2 = true then (some (bt663.1, 0)) else (some (0, 10))) else (some (0, 10))))) else ((value_signed.f kj4 bt659.2 ((decide (a1 < 0)) != (decide (a2 < 0)))).bind fun bt665 => (if bt659.1 = 0 then (if bt665.2 = true then (some (bt665.1, 0)) else (some (0, 10))) else (some (0, 10)))))))) else (if a2 = 0 then (some (0, 11)) else (if a3 = true then ((value_size.f a1).bind fun t667 => ((bits_Mul64.f t667 10000).bind fun bt668 => ((value_size.f a2).bind fun t670 => ((value_near.f kj4 bt668.1 bt668.2 t670).bind fun bt671 => ((value_signed.f kj4 bt671.1 ((decide (a1 < 0)) != (decide (a2 < 0)))).bind fun bt673 => (if bt671.2 = true then (if bt673.2 = true then (some (bt673.1, 0)) else (some (0, 10))) else (some (0, 10)))))))) else ((value_size.f a1).bind fun t675 => ((value_size.f a2).bind fun t676 => (if t676 = 0 then (none) else ((value_signed.f kj4 (IntKind.u64.wrap (Int.tdiv t675 t676)) ((decide (a1 < 0)) != (decide (a2 < 0)))).bind fun bt677 => (if true = true then (if bt677.2 = true then (some (bt677.1, 0)) else (some (0, 10))) else (some (0, 10)))))))))) = some (r1, r2) := by rw [if_neg (show ¬ (false = true) by decide)] at H; exact H
    clear H
    have H := H1
    clear H1
    by_cases c15 : a0.toList = ([42] : List UInt8)
    ·
     rw [if_pos c15] at H
     have c15b0 : (a0.toList == ([42] : List UInt8)) = true := beq_iff_eq.mpr c15
     have c15b1 : (a0.toList != ([42] : List UInt8)) = false := bne_eq_false_iff_eq.mpr c15
     clear c15
     replace H := Option.bind_eq_some_iff.mp H
     obtain ⟨t657, A160, H⟩ := H
     replace H : ((value_size.f a2).bind fun t658 => ((bits_Mul64.f t657 t658).bind fun bt659 => (if a3 = true then ((value_near.f kj4 bt659.1 bt659.2 10000).bind fun bt661 => ((value_signed.f kj4 bt661.1 ((decide (a1 < 0)) != (decide (a2 < 0)))).bind fun bt663 => (if bt661.2 = true then (if bt663.2 = true then (some (bt663.1, 0)) else (some (0, 10))) else (some (0, 10))))) else ((value_signed.f kj4 bt659.2 ((decide (a1 < 0)) != (decide (a2 < 0)))).bind fun bt665 => (if bt659.1 = 0 then (if bt665.2 = true then (some (bt665.1, 0)) else (some (0, 10))) else (some (0, 10))))))) = some (r1, r2) := H
     have A16 := Aside0.mk A160
     clear A160
     replace H := Option.bind_eq_some_iff.mp H
     obtain ⟨t658, A170, H⟩ := H
     replace H : ((bits_Mul64.f t657 t658).bind fun bt659 => (if a3 = true then ((value_near.f kj4 bt659.1 bt659.2 10000).bind fun bt661 => ((value_signed.f kj4 bt661.1 ((decide (a1 < 0)) != (decide (a2 < 0)))).bind fun bt663 => (if bt661.2 = true then (if bt663.2 = true then (some (bt663.1, 0)) else (some (0, 10))) else (some (0, 10))))) else ((value_signed.f kj4 bt659.2 ((decide (a1 < 0)) != (decide (a2 < 0)))).bind fun bt665 => (if bt659.1 = 0 then (if bt665.2 = true then (some (bt665.1, 0)) else (some (0, 10))) else (some (0, 10)))))) = some (r1, r2) := H
     have A17 := Aside0.mk A170
     clear A170
     replace H := Option.bind_eq_some_iff.mp H
     obtain ⟨⟨t659, t660⟩, A180, H⟩ := H
     replace H : (if a3 = true then ((value_near.f kj4 t659 t660 10000).bind fun bt661 => ((value_signed.f kj4 bt661.1 ((decide (a1 < 0)) != (decide (a2 < 0)))).bind fun bt663 => (if bt661.2 = true then (if bt663.2 = true then (some (bt663.1, 0)) else (some (0, 10))) else (some (0, 10))))) else ((value_signed.f kj4 t660 ((decide (a1 < 0)) != (decide (a2 < 0)))).bind fun bt665 => (if t659 = 0 then (if bt665.2 = true then (some (bt665.1, 0)) else (some (0, 10))) else (some (0, 10))))) = some (r1, r2) := H
     have A18 := Aside0.mk A180
     clear A180
     by_cases c19 : a3 = true
     ·
      subst c19
      have H1 : ((value_near.f kj4 t659 t660 10000).bind fun bt661 => ((value_signed.f kj4 bt661.1 ((decide (a1 < 0)) != (decide (a2 < 0)))).bind fun bt663 => (if bt661.2 = true then (if bt663.2 = true then (some (bt663.1, 0)) else (some (0, 10))) else (some (0, 10))))) = some (r1, r2) := by rw [if_pos rfl] at H; exact H
      clear H
      have H := H1
      clear H1
      replace H := Option.bind_eq_some_iff.mp H
      obtain ⟨⟨t661, t662⟩, A200, H⟩ := H
      replace H : ((value_signed.f kj4 t661 ((decide (a1 < 0)) != (decide (a2 < 0)))).bind fun bt663 => (if t662 = true then (if bt663.2 = true then (some (bt663.1, 0)) else (some (0, 10))) else (some (0, 10)))) = some (r1, r2) := H
      have A20 := Aside0.mk A200
      clear A200
      replace H := Option.bind_eq_some_iff.mp H
      obtain ⟨⟨t663, t664⟩, A210, H⟩ := H
      replace H : (if t662 = true then (if t664 = true then (some (t663, 0)) else (some (0, 10))) else (some (0, 10))) = some (r1, r2) := H
      have A21 := Aside0.mk A210
      clear A210
      by_cases c22 : t662 = true
      ·
       subst c22
       have H1 : (if t664 = true then (some (t663, 0)) else (some (0, 10))) = some (r1, r2) := by rw [if_pos rfl] at H; exact H
       clear H
       have H := H1
       clear H1
       by_cases c23 : t664 = true
       ·
        subst c23
        have H1 : (some (t663, 0)) = some (r1, r2) := by rw [if_pos rfl] at H; exact H
        clear H
        have H := H1
        clear H1
        simp only [Option.some.injEq, Prod.mk.injEq] at H
        obtain ⟨rfl, rfl⟩ := H
        go_wp2_with (first | ((with_reducible refine gate_callee (f := 56) rfl ?_); refine goesL_ (some 82) rfl rfl Tryz.func56 (by kernel_rfl) rfl #[.int .i64 a1] rfl (by (try simp only [List.map_toArray, List.map_cons, List.map_nil]); first | done | rfl | (simp only [List.length_drop, List.length_take]; rfl)) ?_; (with_reducible refine (value_size.calls a1 t657 _ A16.out).mono ?_); rintro e w' ⟨rfl, ⟨nd, rfl⟩⟩; refine ⟨_, rfl, ?_⟩) | ((with_reducible refine gate_callee (f := 56) rfl ?_); refine goesL_ (some 84) rfl rfl Tryz.func56 (by kernel_rfl) rfl #[.int .i64 a2] rfl (by (try simp only [List.map_toArray, List.map_cons, List.map_nil]); first | done | rfl | (simp only [List.length_drop, List.length_take]; rfl)) ?_; (with_reducible refine (value_size.calls a2 t658 _ A17.out).mono ?_); rintro e w' ⟨rfl, ⟨nd, rfl⟩⟩; refine ⟨_, rfl, ?_⟩) | ((with_reducible refine gate_callee (f := 73) rfl ?_); refine goesL_ (some 85) rfl rfl Tryz.func73 (by kernel_rfl) rfl #[.int .u64 t657, .int .u64 t658] rfl (by (try simp only [List.map_toArray, List.map_cons, List.map_nil]); first | done | rfl | (simp only [List.length_drop, List.length_take]; rfl)) ?_; (with_reducible refine (bits_Mul64.calls t657 t658 t659 t660 _ A18.out).mono ?_); rintro e w' ⟨rfl, ⟨nd, rfl⟩⟩; refine ⟨_, rfl, ?_⟩) | ((with_reducible refine gate_callee (f := 78) rfl ?_); refine goesL_ (some 92) rfl rfl Tryz.func78 (by kernel_rfl) rfl #[.int .u64 t659, .int .u64 t660, .int .u64 10000] rfl (by (try simp only [List.map_toArray, List.map_cons, List.map_nil]); first | done | rfl | (simp only [List.length_drop, List.length_take]; rfl)) ?_; (with_reducible refine (value_near.calls kj4 t659 t660 10000 t661 true _ A20.out).mono ?_); rintro e w' ⟨rfl, ⟨nd, rfl⟩⟩; refine ⟨_, rfl, ?_⟩) | ((with_reducible refine gate_callee (f := 68) rfl ?_); refine goesL_ (some 101) rfl rfl Tryz.func68 (by kernel_rfl) rfl #[.int .u64 t661, .bool ((decide (a1 < 0)) != (decide (a2 < 0)))] rfl (by (try simp only [List.map_toArray, List.map_cons, List.map_nil]); first | done | rfl | (simp only [List.length_drop, List.length_take]; rfl)) ?_; (with_reducible refine (value_signed.calls kj4 t661 ((decide (a1 < 0)) != (decide (a2 < 0))) t663 true _ A21.out).mono ?_); rintro e w' ⟨rfl, ⟨nd, rfl⟩⟩; refine ⟨_, rfl, ?_⟩))
        go_ret2
        exact ⟨by first | rfl | (simp; done) | (simp [*]; done), by repeat (first | exact Drawn0.refl _ | apply Drawn0.step)⟩
       ·
        replace c23 := Bool.eq_false_iff.mpr c23
        subst c23
        have H1 : (some (0, 10)) = some (r1, r2) := by rw [if_neg (show ¬ (false = true) by decide)] at H; exact H
        clear H
        have H := H1
        clear H1
        simp only [Option.some.injEq, Prod.mk.injEq] at H
        obtain ⟨rfl, rfl⟩ := H
        go_wp2_with (first | ((with_reducible refine gate_callee (f := 56) rfl ?_); refine goesL_ (some 82) rfl rfl Tryz.func56 (by kernel_rfl) rfl #[.int .i64 a1] rfl (by (try simp only [List.map_toArray, List.map_cons, List.map_nil]); first | done | rfl | (simp only [List.length_drop, List.length_take]; rfl)) ?_; (with_reducible refine (value_size.calls a1 t657 _ A16.out).mono ?_); rintro e w' ⟨rfl, ⟨nd, rfl⟩⟩; refine ⟨_, rfl, ?_⟩) | ((with_reducible refine gate_callee (f := 56) rfl ?_); refine goesL_ (some 84) rfl rfl Tryz.func56 (by kernel_rfl) rfl #[.int .i64 a2] rfl (by (try simp only [List.map_toArray, List.map_cons, List.map_nil]); first | done | rfl | (simp only [List.length_drop, List.length_take]; rfl)) ?_; (with_reducible refine (value_size.calls a2 t658 _ A17.out).mono ?_); rintro e w' ⟨rfl, ⟨nd, rfl⟩⟩; refine ⟨_, rfl, ?_⟩) | ((with_reducible refine gate_callee (f := 73) rfl ?_); refine goesL_ (some 85) rfl rfl Tryz.func73 (by kernel_rfl) rfl #[.int .u64 t657, .int .u64 t658] rfl (by (try simp only [List.map_toArray, List.map_cons, List.map_nil]); first | done | rfl | (simp only [List.length_drop, List.length_take]; rfl)) ?_; (with_reducible refine (bits_Mul64.calls t657 t658 t659 t660 _ A18.out).mono ?_); rintro e w' ⟨rfl, ⟨nd, rfl⟩⟩; refine ⟨_, rfl, ?_⟩) | ((with_reducible refine gate_callee (f := 78) rfl ?_); refine goesL_ (some 92) rfl rfl Tryz.func78 (by kernel_rfl) rfl #[.int .u64 t659, .int .u64 t660, .int .u64 10000] rfl (by (try simp only [List.map_toArray, List.map_cons, List.map_nil]); first | done | rfl | (simp only [List.length_drop, List.length_take]; rfl)) ?_; (with_reducible refine (value_near.calls kj4 t659 t660 10000 t661 true _ A20.out).mono ?_); rintro e w' ⟨rfl, ⟨nd, rfl⟩⟩; refine ⟨_, rfl, ?_⟩) | ((with_reducible refine gate_callee (f := 68) rfl ?_); refine goesL_ (some 101) rfl rfl Tryz.func68 (by kernel_rfl) rfl #[.int .u64 t661, .bool ((decide (a1 < 0)) != (decide (a2 < 0)))] rfl (by (try simp only [List.map_toArray, List.map_cons, List.map_nil]); first | done | rfl | (simp only [List.length_drop, List.length_take]; rfl)) ?_; (with_reducible refine (value_signed.calls kj4 t661 ((decide (a1 < 0)) != (decide (a2 < 0))) t663 false _ A21.out).mono ?_); rintro e w' ⟨rfl, ⟨nd, rfl⟩⟩; refine ⟨_, rfl, ?_⟩))
        go_ret2
        exact ⟨by first | rfl | (simp; done) | (simp [*]; done), by repeat (first | exact Drawn0.refl _ | apply Drawn0.step)⟩
      ·
       replace c22 := Bool.eq_false_iff.mpr c22
       subst c22
       have H1 : (some (0, 10)) = some (r1, r2) := by rw [if_neg (show ¬ (false = true) by decide)] at H; exact H
       clear H
       have H := H1
       clear H1
       simp only [Option.some.injEq, Prod.mk.injEq] at H
       obtain ⟨rfl, rfl⟩ := H
       go_wp2_with (first | ((with_reducible refine gate_callee (f := 56) rfl ?_); refine goesL_ (some 82) rfl rfl Tryz.func56 (by kernel_rfl) rfl #[.int .i64 a1] rfl (by (try simp only [List.map_toArray, List.map_cons, List.map_nil]); first | done | rfl | (simp only [List.length_drop, List.length_take]; rfl)) ?_; (with_reducible refine (value_size.calls a1 t657 _ A16.out).mono ?_); rintro e w' ⟨rfl, ⟨nd, rfl⟩⟩; refine ⟨_, rfl, ?_⟩) | ((with_reducible refine gate_callee (f := 56) rfl ?_); refine goesL_ (some 84) rfl rfl Tryz.func56 (by kernel_rfl) rfl #[.int .i64 a2] rfl (by (try simp only [List.map_toArray, List.map_cons, List.map_nil]); first | done | rfl | (simp only [List.length_drop, List.length_take]; rfl)) ?_; (with_reducible refine (value_size.calls a2 t658 _ A17.out).mono ?_); rintro e w' ⟨rfl, ⟨nd, rfl⟩⟩; refine ⟨_, rfl, ?_⟩) | ((with_reducible refine gate_callee (f := 73) rfl ?_); refine goesL_ (some 85) rfl rfl Tryz.func73 (by kernel_rfl) rfl #[.int .u64 t657, .int .u64 t658] rfl (by (try simp only [List.map_toArray, List.map_cons, List.map_nil]); first | done | rfl | (simp only [List.length_drop, List.length_take]; rfl)) ?_; (with_reducible refine (bits_Mul64.calls t657 t658 t659 t660 _ A18.out).mono ?_); rintro e w' ⟨rfl, ⟨nd, rfl⟩⟩; refine ⟨_, rfl, ?_⟩) | ((with_reducible refine gate_callee (f := 78) rfl ?_); refine goesL_ (some 92) rfl rfl Tryz.func78 (by kernel_rfl) rfl #[.int .u64 t659, .int .u64 t660, .int .u64 10000] rfl (by (try simp only [List.map_toArray, List.map_cons, List.map_nil]); first | done | rfl | (simp only [List.length_drop, List.length_take]; rfl)) ?_; (with_reducible refine (value_near.calls kj4 t659 t660 10000 t661 false _ A20.out).mono ?_); rintro e w' ⟨rfl, ⟨nd, rfl⟩⟩; refine ⟨_, rfl, ?_⟩) | ((with_reducible refine gate_callee (f := 68) rfl ?_); refine goesL_ (some 101) rfl rfl Tryz.func68 (by kernel_rfl) rfl #[.int .u64 t661, .bool ((decide (a1 < 0)) != (decide (a2 < 0)))] rfl (by (try simp only [List.map_toArray, List.map_cons, List.map_nil]); first | done | rfl | (simp only [List.length_drop, List.length_take]; rfl)) ?_; (with_reducible refine (value_signed.calls kj4 t661 ((decide (a1 < 0)) != (decide (a2 < 0))) t663 t664 _ A21.out).mono ?_); rintro e w' ⟨rfl, ⟨nd, rfl⟩⟩; refine ⟨_, rfl, ?_⟩))
       go_ret2
       exact ⟨by first | rfl | (simp; done) | (simp [*]; done), by repeat (first | exact Drawn0.refl _ | apply Drawn0.step)⟩
     ·
      replace c19 := Bool.eq_false_iff.mpr c19
      subst c19
      have H1 : ((value_signed.f kj4 t660 ((decide (a1 < 0)) != (decide (a2 < 0)))).bind fun bt665 => (if t659 = 0 then (if bt665.2 = true then (some (bt665.1, 0)) else (some (0, 10))) else (some (0, 10)))) = some (r1, r2) := by rw [if_neg (show ¬ (false = true) by decide)] at H; exact H
      clear H
      have H := H1
      clear H1
      replace H := Option.bind_eq_some_iff.mp H
      obtain ⟨⟨t665, t666⟩, A240, H⟩ := H
      replace H : (if t659 = 0 then (if t666 = true then (some (t665, 0)) else (some (0, 10))) else (some (0, 10))) = some (r1, r2) := H
      have A24 := Aside0.mk A240
      clear A240
      by_cases c25 : t659 = 0
      ·
       rw [if_pos c25] at H
       have c25b0 : (t659 == 0) = true := beq_iff_eq.mpr c25
       have c25b1 : (t659 != 0) = false := bne_eq_false_iff_eq.mpr c25
       clear c25
       by_cases c26 : t666 = true
       ·
        subst c26
        have H1 : (some (t665, 0)) = some (r1, r2) := by rw [if_pos rfl] at H; exact H
        clear H
        have H := H1
        clear H1
        simp only [Option.some.injEq, Prod.mk.injEq] at H
        obtain ⟨rfl, rfl⟩ := H
        go_wp2_with (first | ((with_reducible refine gate_callee (f := 56) rfl ?_); refine goesL_ (some 82) rfl rfl Tryz.func56 (by kernel_rfl) rfl #[.int .i64 a1] rfl (by (try simp only [List.map_toArray, List.map_cons, List.map_nil]); first | done | rfl | (simp only [List.length_drop, List.length_take]; rfl)) ?_; (with_reducible refine (value_size.calls a1 t657 _ A16.out).mono ?_); rintro e w' ⟨rfl, ⟨nd, rfl⟩⟩; refine ⟨_, rfl, ?_⟩) | ((with_reducible refine gate_callee (f := 56) rfl ?_); refine goesL_ (some 84) rfl rfl Tryz.func56 (by kernel_rfl) rfl #[.int .i64 a2] rfl (by (try simp only [List.map_toArray, List.map_cons, List.map_nil]); first | done | rfl | (simp only [List.length_drop, List.length_take]; rfl)) ?_; (with_reducible refine (value_size.calls a2 t658 _ A17.out).mono ?_); rintro e w' ⟨rfl, ⟨nd, rfl⟩⟩; refine ⟨_, rfl, ?_⟩) | ((with_reducible refine gate_callee (f := 73) rfl ?_); refine goesL_ (some 85) rfl rfl Tryz.func73 (by kernel_rfl) rfl #[.int .u64 t657, .int .u64 t658] rfl (by (try simp only [List.map_toArray, List.map_cons, List.map_nil]); first | done | rfl | (simp only [List.length_drop, List.length_take]; rfl)) ?_; (with_reducible refine (bits_Mul64.calls t657 t658 t659 t660 _ A18.out).mono ?_); rintro e w' ⟨rfl, ⟨nd, rfl⟩⟩; refine ⟨_, rfl, ?_⟩) | ((with_reducible refine gate_callee (f := 68) rfl ?_); refine goesL_ (some 101) rfl rfl Tryz.func68 (by kernel_rfl) rfl #[.int .u64 t660, .bool ((decide (a1 < 0)) != (decide (a2 < 0)))] rfl (by (try simp only [List.map_toArray, List.map_cons, List.map_nil]); first | done | rfl | (simp only [List.length_drop, List.length_take]; rfl)) ?_; (with_reducible refine (value_signed.calls kj4 t660 ((decide (a1 < 0)) != (decide (a2 < 0))) t665 true _ A24.out).mono ?_); rintro e w' ⟨rfl, ⟨nd, rfl⟩⟩; refine ⟨_, rfl, ?_⟩))
        go_ret2
        exact ⟨by first | rfl | (simp; done) | (simp [*]; done), by repeat (first | exact Drawn0.refl _ | apply Drawn0.step)⟩
       ·
        replace c26 := Bool.eq_false_iff.mpr c26
        subst c26
        have H1 : (some (0, 10)) = some (r1, r2) := by rw [if_neg (show ¬ (false = true) by decide)] at H; exact H
        clear H
        have H := H1
        clear H1
        simp only [Option.some.injEq, Prod.mk.injEq] at H
        obtain ⟨rfl, rfl⟩ := H
        go_wp2_with (first | ((with_reducible refine gate_callee (f := 56) rfl ?_); refine goesL_ (some 82) rfl rfl Tryz.func56 (by kernel_rfl) rfl #[.int .i64 a1] rfl (by (try simp only [List.map_toArray, List.map_cons, List.map_nil]); first | done | rfl | (simp only [List.length_drop, List.length_take]; rfl)) ?_; (with_reducible refine (value_size.calls a1 t657 _ A16.out).mono ?_); rintro e w' ⟨rfl, ⟨nd, rfl⟩⟩; refine ⟨_, rfl, ?_⟩) | ((with_reducible refine gate_callee (f := 56) rfl ?_); refine goesL_ (some 84) rfl rfl Tryz.func56 (by kernel_rfl) rfl #[.int .i64 a2] rfl (by (try simp only [List.map_toArray, List.map_cons, List.map_nil]); first | done | rfl | (simp only [List.length_drop, List.length_take]; rfl)) ?_; (with_reducible refine (value_size.calls a2 t658 _ A17.out).mono ?_); rintro e w' ⟨rfl, ⟨nd, rfl⟩⟩; refine ⟨_, rfl, ?_⟩) | ((with_reducible refine gate_callee (f := 73) rfl ?_); refine goesL_ (some 85) rfl rfl Tryz.func73 (by kernel_rfl) rfl #[.int .u64 t657, .int .u64 t658] rfl (by (try simp only [List.map_toArray, List.map_cons, List.map_nil]); first | done | rfl | (simp only [List.length_drop, List.length_take]; rfl)) ?_; (with_reducible refine (bits_Mul64.calls t657 t658 t659 t660 _ A18.out).mono ?_); rintro e w' ⟨rfl, ⟨nd, rfl⟩⟩; refine ⟨_, rfl, ?_⟩) | ((with_reducible refine gate_callee (f := 68) rfl ?_); refine goesL_ (some 101) rfl rfl Tryz.func68 (by kernel_rfl) rfl #[.int .u64 t660, .bool ((decide (a1 < 0)) != (decide (a2 < 0)))] rfl (by (try simp only [List.map_toArray, List.map_cons, List.map_nil]); first | done | rfl | (simp only [List.length_drop, List.length_take]; rfl)) ?_; (with_reducible refine (value_signed.calls kj4 t660 ((decide (a1 < 0)) != (decide (a2 < 0))) t665 false _ A24.out).mono ?_); rintro e w' ⟨rfl, ⟨nd, rfl⟩⟩; refine ⟨_, rfl, ?_⟩))
        go_ret2
        exact ⟨by first | rfl | (simp; done) | (simp [*]; done), by repeat (first | exact Drawn0.refl _ | apply Drawn0.step)⟩
      ·
       rw [if_neg c25] at H
       have c25b0 : (t659 == 0) = false := beq_eq_false_iff_ne.mpr c25
       have c25b1 : (t659 != 0) = true := bne_iff_ne.mpr c25
       simp only [Option.some.injEq, Prod.mk.injEq] at H
       obtain ⟨rfl, rfl⟩ := H
       go_wp2_with (first | ((with_reducible refine gate_callee (f := 56) rfl ?_); refine goesL_ (some 82) rfl rfl Tryz.func56 (by kernel_rfl) rfl #[.int .i64 a1] rfl (by (try simp only [List.map_toArray, List.map_cons, List.map_nil]); first | done | rfl | (simp only [List.length_drop, List.length_take]; rfl)) ?_; (with_reducible refine (value_size.calls a1 t657 _ A16.out).mono ?_); rintro e w' ⟨rfl, ⟨nd, rfl⟩⟩; refine ⟨_, rfl, ?_⟩) | ((with_reducible refine gate_callee (f := 56) rfl ?_); refine goesL_ (some 84) rfl rfl Tryz.func56 (by kernel_rfl) rfl #[.int .i64 a2] rfl (by (try simp only [List.map_toArray, List.map_cons, List.map_nil]); first | done | rfl | (simp only [List.length_drop, List.length_take]; rfl)) ?_; (with_reducible refine (value_size.calls a2 t658 _ A17.out).mono ?_); rintro e w' ⟨rfl, ⟨nd, rfl⟩⟩; refine ⟨_, rfl, ?_⟩) | ((with_reducible refine gate_callee (f := 73) rfl ?_); refine goesL_ (some 85) rfl rfl Tryz.func73 (by kernel_rfl) rfl #[.int .u64 t657, .int .u64 t658] rfl (by (try simp only [List.map_toArray, List.map_cons, List.map_nil]); first | done | rfl | (simp only [List.length_drop, List.length_take]; rfl)) ?_; (with_reducible refine (bits_Mul64.calls t657 t658 t659 t660 _ A18.out).mono ?_); rintro e w' ⟨rfl, ⟨nd, rfl⟩⟩; refine ⟨_, rfl, ?_⟩) | ((with_reducible refine gate_callee (f := 68) rfl ?_); refine goesL_ (some 101) rfl rfl Tryz.func68 (by kernel_rfl) rfl #[.int .u64 t660, .bool ((decide (a1 < 0)) != (decide (a2 < 0)))] rfl (by (try simp only [List.map_toArray, List.map_cons, List.map_nil]); first | done | rfl | (simp only [List.length_drop, List.length_take]; rfl)) ?_; (with_reducible refine (value_signed.calls kj4 t660 ((decide (a1 < 0)) != (decide (a2 < 0))) t665 t666 _ A24.out).mono ?_); rintro e w' ⟨rfl, ⟨nd, rfl⟩⟩; refine ⟨_, rfl, ?_⟩))
       go_ret2
       exact ⟨by first | rfl | (simp; done) | (simp [*]; done), by repeat (first | exact Drawn0.refl _ | apply Drawn0.step)⟩
    ·
     rw [if_neg c15] at H
     have c15b0 : (a0.toList == ([42] : List UInt8)) = false := beq_eq_false_iff_ne.mpr c15
     have c15b1 : (a0.toList != ([42] : List UInt8)) = true := bne_iff_ne.mpr c15
     by_cases c27 : a2 = 0
     ·
      rw [if_pos c27] at H
      have c27b0 : (a2 == 0) = true := beq_iff_eq.mpr c27
      have c27b1 : (a2 != 0) = false := bne_eq_false_iff_eq.mpr c27
      clear c27
      simp only [Option.some.injEq, Prod.mk.injEq] at H
      obtain ⟨rfl, rfl⟩ := H
      go_wp2
      go_ret2
      exact ⟨by first | rfl | (simp; done) | (simp [*]; done), by repeat (first | exact Drawn0.refl _ | apply Drawn0.step)⟩
     ·
      rw [if_neg c27] at H
      have c27b0 : (a2 == 0) = false := beq_eq_false_iff_ne.mpr c27
      have c27b1 : (a2 != 0) = true := bne_iff_ne.mpr c27
      by_cases c28 : a3 = true
      ·
       subst c28
       have H1 : ((value_size.f a1).bind fun t667 => ((bits_Mul64.f t667 10000).bind fun bt668 => ((value_size.f a2).bind fun t670 => ((value_near.f kj4 bt668.1 bt668.2 t670).bind fun bt671 => ((value_signed.f kj4 bt671.1 ((decide (a1 < 0)) != (decide (a2 < 0)))).bind fun bt673 => (if bt671.2 = true then (if bt673.2 = true then (some (bt673.1, 0)) else (some (0, 10))) else (some (0, 10)))))))) = some (r1, r2) := by rw [if_pos rfl] at H; exact H
       clear H
       have H := H1
       clear H1
       replace H := Option.bind_eq_some_iff.mp H
       obtain ⟨t667, A290, H⟩ := H
       replace H : ((bits_Mul64.f t667 10000).bind fun bt668 => ((value_size.f a2).bind fun t670 => ((value_near.f kj4 bt668.1 bt668.2 t670).bind fun bt671 => ((value_signed.f kj4 bt671.1 ((decide (a1 < 0)) != (decide (a2 < 0)))).bind fun bt673 => (if bt671.2 = true then (if bt673.2 = true then (some (bt673.1, 0)) else (some (0, 10))) else (some (0, 10))))))) = some (r1, r2) := H
       have A29 := Aside0.mk A290
       clear A290
       replace H := Option.bind_eq_some_iff.mp H
       obtain ⟨⟨t668, t669⟩, A300, H⟩ := H
       replace H : ((value_size.f a2).bind fun t670 => ((value_near.f kj4 t668 t669 t670).bind fun bt671 => ((value_signed.f kj4 bt671.1 ((decide (a1 < 0)) != (decide (a2 < 0)))).bind fun bt673 => (if bt671.2 = true then (if bt673.2 = true then (some (bt673.1, 0)) else (some (0, 10))) else (some (0, 10)))))) = some (r1, r2) := H
       have A30 := Aside0.mk A300
       clear A300
       replace H := Option.bind_eq_some_iff.mp H
       obtain ⟨t670, A310, H⟩ := H
       replace H : ((value_near.f kj4 t668 t669 t670).bind fun bt671 => ((value_signed.f kj4 bt671.1 ((decide (a1 < 0)) != (decide (a2 < 0)))).bind fun bt673 => (if bt671.2 = true then (if bt673.2 = true then (some (bt673.1, 0)) else (some (0, 10))) else (some (0, 10))))) = some (r1, r2) := H
       have A31 := Aside0.mk A310
       clear A310
       replace H := Option.bind_eq_some_iff.mp H
       obtain ⟨⟨t671, t672⟩, A320, H⟩ := H
       replace H : ((value_signed.f kj4 t671 ((decide (a1 < 0)) != (decide (a2 < 0)))).bind fun bt673 => (if t672 = true then (if bt673.2 = true then (some (bt673.1, 0)) else (some (0, 10))) else (some (0, 10)))) = some (r1, r2) := H
       have A32 := Aside0.mk A320
       clear A320
       replace H := Option.bind_eq_some_iff.mp H
       obtain ⟨⟨t673, t674⟩, A330, H⟩ := H
       replace H : (if t672 = true then (if t674 = true then (some (t673, 0)) else (some (0, 10))) else (some (0, 10))) = some (r1, r2) := H
       have A33 := Aside0.mk A330
       clear A330
       by_cases c34 : t672 = true
       ·
        subst c34
        have H1 : (if t674 = true then (some (t673, 0)) else (some (0, 10))) = some (r1, r2) := by rw [if_pos rfl] at H; exact H
        clear H
        have H := H1
        clear H1
        by_cases c35 : t674 = true
        ·
         subst c35
         have H1 : (some (t673, 0)) = some (r1, r2) := by rw [if_pos rfl] at H; exact H
         clear H
         have H := H1
         clear H1
         simp only [Option.some.injEq, Prod.mk.injEq] at H
         obtain ⟨rfl, rfl⟩ := H
         go_wp2_with (first | ((with_reducible refine gate_callee (f := 56) rfl ?_); refine goesL_ (some 31) rfl rfl Tryz.func56 (by kernel_rfl) rfl #[.int .i64 a1] rfl (by (try simp only [List.map_toArray, List.map_cons, List.map_nil]); first | done | rfl | (simp only [List.length_drop, List.length_take]; rfl)) ?_; (with_reducible refine (value_size.calls a1 t667 _ A29.out).mono ?_); rintro e w' ⟨rfl, ⟨nd, rfl⟩⟩; refine ⟨_, rfl, ?_⟩) | ((with_reducible refine gate_callee (f := 73) rfl ?_); refine goesL_ (some 32) rfl rfl Tryz.func73 (by kernel_rfl) rfl #[.int .u64 t667, .int .u64 10000] rfl (by (try simp only [List.map_toArray, List.map_cons, List.map_nil]); first | done | rfl | (simp only [List.length_drop, List.length_take]; rfl)) ?_; (with_reducible refine (bits_Mul64.calls t667 10000 t668 t669 _ A30.out).mono ?_); rintro e w' ⟨rfl, ⟨nd, rfl⟩⟩; refine ⟨_, rfl, ?_⟩) | ((with_reducible refine gate_callee (f := 56) rfl ?_); refine goesL_ (some 39) rfl rfl Tryz.func56 (by kernel_rfl) rfl #[.int .i64 a2] rfl (by (try simp only [List.map_toArray, List.map_cons, List.map_nil]); first | done | rfl | (simp only [List.length_drop, List.length_take]; rfl)) ?_; (with_reducible refine (value_size.calls a2 t670 _ A31.out).mono ?_); rintro e w' ⟨rfl, ⟨nd, rfl⟩⟩; refine ⟨_, rfl, ?_⟩) | ((with_reducible refine gate_callee (f := 78) rfl ?_); refine goesL_ (some 40) rfl rfl Tryz.func78 (by kernel_rfl) rfl #[.int .u64 t668, .int .u64 t669, .int .u64 t670] rfl (by (try simp only [List.map_toArray, List.map_cons, List.map_nil]); first | done | rfl | (simp only [List.length_drop, List.length_take]; rfl)) ?_; (with_reducible refine (value_near.calls kj4 t668 t669 t670 t671 true _ A32.out).mono ?_); rintro e w' ⟨rfl, ⟨nd, rfl⟩⟩; refine ⟨_, rfl, ?_⟩) | ((with_reducible refine gate_callee (f := 68) rfl ?_); refine goesL_ (some 101) rfl rfl Tryz.func68 (by kernel_rfl) rfl #[.int .u64 t671, .bool ((decide (a1 < 0)) != (decide (a2 < 0)))] rfl (by (try simp only [List.map_toArray, List.map_cons, List.map_nil]); first | done | rfl | (simp only [List.length_drop, List.length_take]; rfl)) ?_; (with_reducible refine (value_signed.calls kj4 t671 ((decide (a1 < 0)) != (decide (a2 < 0))) t673 true _ A33.out).mono ?_); rintro e w' ⟨rfl, ⟨nd, rfl⟩⟩; refine ⟨_, rfl, ?_⟩))
         go_ret2
         exact ⟨by first | rfl | (simp; done) | (simp [*]; done), by repeat (first | exact Drawn0.refl _ | apply Drawn0.step)⟩
        ·
         replace c35 := Bool.eq_false_iff.mpr c35
         subst c35
         have H1 : (some (0, 10)) = some (r1, r2) := by rw [if_neg (show ¬ (false = true) by decide)] at H; exact H
         clear H
         have H := H1
         clear H1
         simp only [Option.some.injEq, Prod.mk.injEq] at H
         obtain ⟨rfl, rfl⟩ := H
         go_wp2_with (first | ((with_reducible refine gate_callee (f := 56) rfl ?_); refine goesL_ (some 31) rfl rfl Tryz.func56 (by kernel_rfl) rfl #[.int .i64 a1] rfl (by (try simp only [List.map_toArray, List.map_cons, List.map_nil]); first | done | rfl | (simp only [List.length_drop, List.length_take]; rfl)) ?_; (with_reducible refine (value_size.calls a1 t667 _ A29.out).mono ?_); rintro e w' ⟨rfl, ⟨nd, rfl⟩⟩; refine ⟨_, rfl, ?_⟩) | ((with_reducible refine gate_callee (f := 73) rfl ?_); refine goesL_ (some 32) rfl rfl Tryz.func73 (by kernel_rfl) rfl #[.int .u64 t667, .int .u64 10000] rfl (by (try simp only [List.map_toArray, List.map_cons, List.map_nil]); first | done | rfl | (simp only [List.length_drop, List.length_take]; rfl)) ?_; (with_reducible refine (bits_Mul64.calls t667 10000 t668 t669 _ A30.out).mono ?_); rintro e w' ⟨rfl, ⟨nd, rfl⟩⟩; refine ⟨_, rfl, ?_⟩) | ((with_reducible refine gate_callee (f := 56) rfl ?_); refine goesL_ (some 39) rfl rfl Tryz.func56 (by kernel_rfl) rfl #[.int .i64 a2] rfl (by (try simp only [List.map_toArray, List.map_cons, List.map_nil]); first | done | rfl | (simp only [List.length_drop, List.length_take]; rfl)) ?_; (with_reducible refine (value_size.calls a2 t670 _ A31.out).mono ?_); rintro e w' ⟨rfl, ⟨nd, rfl⟩⟩; refine ⟨_, rfl, ?_⟩) | ((with_reducible refine gate_callee (f := 78) rfl ?_); refine goesL_ (some 40) rfl rfl Tryz.func78 (by kernel_rfl) rfl #[.int .u64 t668, .int .u64 t669, .int .u64 t670] rfl (by (try simp only [List.map_toArray, List.map_cons, List.map_nil]); first | done | rfl | (simp only [List.length_drop, List.length_take]; rfl)) ?_; (with_reducible refine (value_near.calls kj4 t668 t669 t670 t671 true _ A32.out).mono ?_); rintro e w' ⟨rfl, ⟨nd, rfl⟩⟩; refine ⟨_, rfl, ?_⟩) | ((with_reducible refine gate_callee (f := 68) rfl ?_); refine goesL_ (some 101) rfl rfl Tryz.func68 (by kernel_rfl) rfl #[.int .u64 t671, .bool ((decide (a1 < 0)) != (decide (a2 < 0)))] rfl (by (try simp only [List.map_toArray, List.map_cons, List.map_nil]); first | done | rfl | (simp only [List.length_drop, List.length_take]; rfl)) ?_; (with_reducible refine (value_signed.calls kj4 t671 ((decide (a1 < 0)) != (decide (a2 < 0))) t673 false _ A33.out).mono ?_); rintro e w' ⟨rfl, ⟨nd, rfl⟩⟩; refine ⟨_, rfl, ?_⟩))
         go_ret2
         exact ⟨by first | rfl | (simp; done) | (simp [*]; done), by repeat (first | exact Drawn0.refl _ | apply Drawn0.step)⟩
       ·
        replace c34 := Bool.eq_false_iff.mpr c34
        subst c34
        have H1 : (some (0, 10)) = some (r1, r2) := by rw [if_neg (show ¬ (false = true) by decide)] at H; exact H
        clear H
        have H := H1
        clear H1
        simp only [Option.some.injEq, Prod.mk.injEq] at H
        obtain ⟨rfl, rfl⟩ := H
        go_wp2_with (first | ((with_reducible refine gate_callee (f := 56) rfl ?_); refine goesL_ (some 31) rfl rfl Tryz.func56 (by kernel_rfl) rfl #[.int .i64 a1] rfl (by (try simp only [List.map_toArray, List.map_cons, List.map_nil]); first | done | rfl | (simp only [List.length_drop, List.length_take]; rfl)) ?_; (with_reducible refine (value_size.calls a1 t667 _ A29.out).mono ?_); rintro e w' ⟨rfl, ⟨nd, rfl⟩⟩; refine ⟨_, rfl, ?_⟩) | ((with_reducible refine gate_callee (f := 73) rfl ?_); refine goesL_ (some 32) rfl rfl Tryz.func73 (by kernel_rfl) rfl #[.int .u64 t667, .int .u64 10000] rfl (by (try simp only [List.map_toArray, List.map_cons, List.map_nil]); first | done | rfl | (simp only [List.length_drop, List.length_take]; rfl)) ?_; (with_reducible refine (bits_Mul64.calls t667 10000 t668 t669 _ A30.out).mono ?_); rintro e w' ⟨rfl, ⟨nd, rfl⟩⟩; refine ⟨_, rfl, ?_⟩) | ((with_reducible refine gate_callee (f := 56) rfl ?_); refine goesL_ (some 39) rfl rfl Tryz.func56 (by kernel_rfl) rfl #[.int .i64 a2] rfl (by (try simp only [List.map_toArray, List.map_cons, List.map_nil]); first | done | rfl | (simp only [List.length_drop, List.length_take]; rfl)) ?_; (with_reducible refine (value_size.calls a2 t670 _ A31.out).mono ?_); rintro e w' ⟨rfl, ⟨nd, rfl⟩⟩; refine ⟨_, rfl, ?_⟩) | ((with_reducible refine gate_callee (f := 78) rfl ?_); refine goesL_ (some 40) rfl rfl Tryz.func78 (by kernel_rfl) rfl #[.int .u64 t668, .int .u64 t669, .int .u64 t670] rfl (by (try simp only [List.map_toArray, List.map_cons, List.map_nil]); first | done | rfl | (simp only [List.length_drop, List.length_take]; rfl)) ?_; (with_reducible refine (value_near.calls kj4 t668 t669 t670 t671 false _ A32.out).mono ?_); rintro e w' ⟨rfl, ⟨nd, rfl⟩⟩; refine ⟨_, rfl, ?_⟩) | ((with_reducible refine gate_callee (f := 68) rfl ?_); refine goesL_ (some 101) rfl rfl Tryz.func68 (by kernel_rfl) rfl #[.int .u64 t671, .bool ((decide (a1 < 0)) != (decide (a2 < 0)))] rfl (by (try simp only [List.map_toArray, List.map_cons, List.map_nil]); first | done | rfl | (simp only [List.length_drop, List.length_take]; rfl)) ?_; (with_reducible refine (value_signed.calls kj4 t671 ((decide (a1 < 0)) != (decide (a2 < 0))) t673 t674 _ A33.out).mono ?_); rintro e w' ⟨rfl, ⟨nd, rfl⟩⟩; refine ⟨_, rfl, ?_⟩))
        go_ret2
        exact ⟨by first | rfl | (simp; done) | (simp [*]; done), by repeat (first | exact Drawn0.refl _ | apply Drawn0.step)⟩
      ·
       replace c28 := Bool.eq_false_iff.mpr c28
       subst c28
       have H1 : ((value_size.f a1).bind fun t675 => ((value_size.f a2).bind fun t676 => (if t676 = 0 then (none) else ((value_signed.f kj4 (IntKind.u64.wrap (Int.tdiv t675 t676)) ((decide (a1 < 0)) != (decide (a2 < 0)))).bind fun bt677 => (if true = true then (if bt677.2 = true then (some (bt677.1, 0)) else (some (0, 10))) else (some (0, 10))))))) = some (r1, r2) := by rw [if_neg (show ¬ (false = true) by decide)] at H; exact H
       clear H
       have H := H1
       clear H1
       replace H := Option.bind_eq_some_iff.mp H
       obtain ⟨t675, A360, H⟩ := H
       replace H : ((value_size.f a2).bind fun t676 => (if t676 = 0 then (none) else ((value_signed.f kj4 (IntKind.u64.wrap (Int.tdiv t675 t676)) ((decide (a1 < 0)) != (decide (a2 < 0)))).bind fun bt677 => (if true = true then (if bt677.2 = true then (some (bt677.1, 0)) else (some (0, 10))) else (some (0, 10)))))) = some (r1, r2) := H
       have A36 := Aside0.mk A360
       clear A360
       replace H := Option.bind_eq_some_iff.mp H
       obtain ⟨t676, A370, H⟩ := H
       replace H : (if t676 = 0 then (none) else ((value_signed.f kj4 (IntKind.u64.wrap (Int.tdiv t675 t676)) ((decide (a1 < 0)) != (decide (a2 < 0)))).bind fun bt677 => (if true = true then (if bt677.2 = true then (some (bt677.1, 0)) else (some (0, 10))) else (some (0, 10))))) = some (r1, r2) := H
       have A37 := Aside0.mk A370
       clear A370
       by_cases c38 : t676 = 0
       ·
        rw [if_pos c38] at H
        exact absurd H (by simp)
       ·
        rw [if_neg c38] at H
        have c38b0 : (t676 == 0) = false := beq_eq_false_iff_ne.mpr c38
        have c38b1 : (t676 != 0) = true := bne_iff_ne.mpr c38
        replace H := Option.bind_eq_some_iff.mp H
        obtain ⟨⟨t677, t678⟩, A390, H⟩ := H
        replace H : (if true = true then (if t678 = true then (some (t677, 0)) else (some (0, 10))) else (some (0, 10))) = some (r1, r2) := H
        have A39 := Aside0.mk A390
        clear A390
        have H1 : (if t678 = true then (some (t677, 0)) else (some (0, 10))) = some (r1, r2) := by rw [if_pos rfl] at H; exact H
        clear H
        have H := H1
        clear H1
        by_cases c40 : t678 = true
        ·
         subst c40
         have H1 : (some (t677, 0)) = some (r1, r2) := by rw [if_pos rfl] at H; exact H
         clear H
         have H := H1
         clear H1
         simp only [Option.some.injEq, Prod.mk.injEq] at H
         obtain ⟨rfl, rfl⟩ := H
         go_wp2_with (first | ((with_reducible refine gate_callee (f := 56) rfl ?_); refine goesL_ (some 44) rfl rfl Tryz.func56 (by kernel_rfl) rfl #[.int .i64 a1] rfl (by (try simp only [List.map_toArray, List.map_cons, List.map_nil]); first | done | rfl | (simp only [List.length_drop, List.length_take]; rfl)) ?_; (with_reducible refine (value_size.calls a1 t675 _ A36.out).mono ?_); rintro e w' ⟨rfl, ⟨nd, rfl⟩⟩; refine ⟨_, rfl, ?_⟩) | ((with_reducible refine gate_callee (f := 56) rfl ?_); refine goesL_ (some 46) rfl rfl Tryz.func56 (by kernel_rfl) rfl #[.int .i64 a2] rfl (by (try simp only [List.map_toArray, List.map_cons, List.map_nil]); first | done | rfl | (simp only [List.length_drop, List.length_take]; rfl)) ?_; (with_reducible refine (value_size.calls a2 t676 _ A37.out).mono ?_); rintro e w' ⟨rfl, ⟨nd, rfl⟩⟩; refine ⟨_, rfl, ?_⟩) | ((with_reducible refine gate_callee (f := 68) rfl ?_); refine goesL_ (some 101) rfl rfl Tryz.func68 (by kernel_rfl) rfl #[.int .u64 (IntKind.u64.wrap (Int.tdiv t675 t676)), .bool ((decide (a1 < 0)) != (decide (a2 < 0)))] rfl (by (try simp only [List.map_toArray, List.map_cons, List.map_nil]); first | done | rfl | (simp only [List.length_drop, List.length_take]; rfl)) ?_; (with_reducible refine (value_signed.calls kj4 (IntKind.u64.wrap (Int.tdiv t675 t676)) ((decide (a1 < 0)) != (decide (a2 < 0))) t677 true _ A39.out).mono ?_); rintro e w' ⟨rfl, ⟨nd, rfl⟩⟩; refine ⟨_, rfl, ?_⟩))
         go_ret2
         exact ⟨by first | rfl | (simp; done) | (simp [*]; done), by repeat (first | exact Drawn0.refl _ | apply Drawn0.step)⟩
        ·
         replace c40 := Bool.eq_false_iff.mpr c40
         subst c40
         have H1 : (some (0, 10)) = some (r1, r2) := by rw [if_neg (show ¬ (false = true) by decide)] at H; exact H
         clear H
         have H := H1
         clear H1
         simp only [Option.some.injEq, Prod.mk.injEq] at H
         obtain ⟨rfl, rfl⟩ := H
         go_wp2_with (first | ((with_reducible refine gate_callee (f := 56) rfl ?_); refine goesL_ (some 44) rfl rfl Tryz.func56 (by kernel_rfl) rfl #[.int .i64 a1] rfl (by (try simp only [List.map_toArray, List.map_cons, List.map_nil]); first | done | rfl | (simp only [List.length_drop, List.length_take]; rfl)) ?_; (with_reducible refine (value_size.calls a1 t675 _ A36.out).mono ?_); rintro e w' ⟨rfl, ⟨nd, rfl⟩⟩; refine ⟨_, rfl, ?_⟩) | ((with_reducible refine gate_callee (f := 56) rfl ?_); refine goesL_ (some 46) rfl rfl Tryz.func56 (by kernel_rfl) rfl #[.int .i64 a2] rfl (by (try simp only [List.map_toArray, List.map_cons, List.map_nil]); first | done | rfl | (simp only [List.length_drop, List.length_take]; rfl)) ?_; (with_reducible refine (value_size.calls a2 t676 _ A37.out).mono ?_); rintro e w' ⟨rfl, ⟨nd, rfl⟩⟩; refine ⟨_, rfl, ?_⟩) | ((with_reducible refine gate_callee (f := 68) rfl ?_); refine goesL_ (some 101) rfl rfl Tryz.func68 (by kernel_rfl) rfl #[.int .u64 (IntKind.u64.wrap (Int.tdiv t675 t676)), .bool ((decide (a1 < 0)) != (decide (a2 < 0)))] rfl (by (try simp only [List.map_toArray, List.map_cons, List.map_nil]); first | done | rfl | (simp only [List.length_drop, List.length_take]; rfl)) ?_; (with_reducible refine (value_signed.calls kj4 (IntKind.u64.wrap (Int.tdiv t675 t676)) ((decide (a1 < 0)) != (decide (a2 < 0))) t677 false _ A39.out).mono ?_); rintro e w' ⟨rfl, ⟨nd, rfl⟩⟩; refine ⟨_, rfl, ?_⟩))
         go_ret2
         exact ⟨by first | rfl | (simp; done) | (simp [*]; done), by repeat (first | exact Drawn0.refl _ | apply Drawn0.step)⟩
end Go.Proofs.YtkkpnbfhghfleaaGreatDoor.X
end
section
namespace Go.Proofs.YtkkpnbfhghfleaaGreatDoor.X
open Go.RowKit Go.Proofs.YtkkpnbfhghfleaaGreatDoorW.PrintWords Go.Proofs.YtkkpnbfhghfleaaGreatDoorW.PrintLast Go.Proofs.YtkkpnbfhghfleaaGreatDoorW.PrintMore
attribute [local go_sem] max2_int min2_int max_two min_two max_three min_three max_four min_four
set_option linter.unusedVariables false
set_option linter.unusedSimpArgs false
mutual
def value_Reckon.j0 : Nat → ByteArray → Int → Int → ByteArray → Int → Int → ByteArray → Option (Int × Int × ByteArray × Int)
 | 0, _, _, _, _, _, _, _ => none
 | k + 1, x0, x680000, x680001, x680002, x681000, x681001, x681002 => (value_both.f k x680000 x680001 x680002 x681000 x681001 x681002).bind fun t682 => (if t682 = 0 then (if x680000 = 0 then (if x681000 = 0 then (value_Reckon.j1 k x0 false x680000 x680001 x680002 x681000 x681001 x681002) else ((value_number.f x681000 x681001 x681002).bind fun t683 => (value_Reckon.j1 k x0 (!t683) x680000 x680001 x680002 x681000 x681001 x681002))) else ((value_number.f x680000 x680001 x680002).bind fun t684 => (if t684 = true then (if x681000 = 0 then (value_Reckon.j1 k x0 false x680000 x680001 x680002 x681000 x681001 x681002) else ((value_number.f x681000 x681001 x681002).bind fun t685 => (value_Reckon.j1 k x0 (!t685) x680000 x680001 x680002 x681000 x681001 x681002))) else (value_Reckon.j1 k x0 true x680000 x680001 x680002 x681000 x681001 x681002)))) else (some (0, 0, (⟨#[]⟩ : ByteArray), t682)))
def value_Reckon.j1 : Nat → ByteArray → Bool → Int → Int → ByteArray → Int → Int → ByteArray → Option (Int × Int × ByteArray × Int)
 | 0, _, _, _, _, _, _, _, _ => none
 | k + 1, x0, x30, x680000, x680001, x680002, x681000, x681001, x681002 => if x30 = true then (some (0, 0, (⟨#[]⟩ : ByteArray), 7)) else (if x680000 = 0 then (some (0, 0, (⟨#[]⟩ : ByteArray), 0)) else (if x681000 = 0 then (some (0, 0, (⟨#[]⟩ : ByteArray), 0)) else (if (mx x680000 x681000) = 2 then ((value_scaled.f k x680000 x680001 x680002).bind fun bt686 => ((value_scaled.f k x681000 x681001 x681002).bind fun bt688 => (if bt686.2 = true then (value_Reckon.j2 k x0 (mx x680000 x681000) bt686.1 bt688.1 (!bt688.2)) else (value_Reckon.j2 k x0 (mx x680000 x681000) bt686.1 bt688.1 true)))) else ((value_reckon.f k x0 x680001 x681001 ((mx x680000 x681000) == 2)).bind fun bt692 => (if bt692.2 = 0 then (some (mx x680000 x681000, bt692.1, (⟨#[]⟩ : ByteArray), 0)) else (some (0, 0, (⟨#[]⟩ : ByteArray), bt692.2)))))))
def value_Reckon.j2 : Nat → ByteArray → Int → Int → Int → Bool → Option (Int × Int × ByteArray × Int)
 | 0, _, _, _, _, _ => none
 | k + 1, x0, x9, x10, x11, x86 => if x86 = true then (some (0, 0, (⟨#[]⟩ : ByteArray), 10)) else ((value_reckon.f k x0 x10 x11 (x9 == 2)).bind fun bt690 => (if bt690.2 = 0 then (some (x9, bt690.1, (⟨#[]⟩ : ByteArray), 0)) else (some (0, 0, (⟨#[]⟩ : ByteArray), bt690.2))))
end
def value_Reckon.f (k : Nat) (a0 : ByteArray) (a1_0 : Int) (a1_1 : Int) (a1_2 : ByteArray) (a2_0 : Int) (a2_1 : Int) (a2_2 : ByteArray) : Option (Int × Int × ByteArray × Int) := if a0.toList = ([43] : List UInt8) then (value_Reckon.j0 k a0 a1_0 a1_1 a1_2 a2_0 a2_1 a2_2) else (if a0.toList = ([45] : List UInt8) then (value_Reckon.j0 k a0 a1_0 a1_1 a1_2 a2_0 a2_1 a2_2) else (if a0.toList = ([42] : List UInt8) then (value_Reckon.j0 k a0 a1_0 a1_1 a1_2 a2_0 a2_1 a2_2) else (if a0.toList = ([47] : List UInt8) then (value_Reckon.j0 k a0 a1_0 a1_1 a1_2 a2_0 a2_1 a2_2) else (some (0, 0, (⟨#[]⟩ : ByteArray), 1)))))
set_option maxHeartbeats 8000000 in
set_option maxRecDepth 100000 in
theorem value_Reckon.calls (k : Nat) (a0 : ByteArray) (a1_0 : Int) (a1_1 : Int) (a1_2 : ByteArray) (a2_0 : Int) (a2_1 : Int) (a2_2 : ByteArray) (r1 : Int) (r2 : Int) (r3 : ByteArray) (r4 : Int) (w : World) (hT : Tabs w) (h : value_Reckon.f k a0 a1_0 a1_1 a1_2 a2_0 a2_1 a2_2 = some (r1, r2, r3, r4)) :
  Calls Tryz.prog 28 #[.string a0, .agg #[.int .i64 a1_0, .int .i64 a1_1, .string a1_2], .agg #[.int .i64 a2_0, .int .i64 a2_1, .string a2_2]] w fun e w' => e = .returned (.tuple #[.agg #[.int .i64 r1, .int .i64 r2, .string r3], .int .i64 r4]) ∧ Below w.heap.size w w' := by
 have hu23 := Tryz.underlying23
 have HT := Aside0.mk hT
 clear hT
 have HB := Aside0.mk (Below.refl w.heap.size w)
 have H : (if a0.toList = ([43] : List UInt8) then (value_Reckon.j0 k a0 a1_0 a1_1 a1_2 a2_0 a2_1 a2_2) else (if a0.toList = ([45] : List UInt8) then (value_Reckon.j0 k a0 a1_0 a1_1 a1_2 a2_0 a2_1 a2_2) else (if a0.toList = ([42] : List UInt8) then (value_Reckon.j0 k a0 a1_0 a1_1 a1_2 a2_0 a2_1 a2_2) else (if a0.toList = ([47] : List UInt8) then (value_Reckon.j0 k a0 a1_0 a1_1 a1_2 a2_0 a2_1 a2_2) else (some (0, 0, (⟨#[]⟩ : ByteArray), 1)))))) = some (r1, r2, r3, r4) := h
 clear h
 have HC4 := Aside0.mk H
 clear H
 go_enter Tryz.func28, Tryz.ntmps28
 go_upto_block 0 with (first | ((with_reducible refine gate_dst (N := 4) rfl ?_); refine box_event ?hg (N := 4) ?hd (cs := #[.int .i64 a1_0, .int .i64 a1_1, .string a1_2]) (t := 23) ?hr ?_; (case hd => rfl); (case hg => rfl); (case hr => first | (go_simp; done) | (go_simp; rfl)); intro gb679 hg w5 hbox hb; have n0_ := Aside0.mk (below_step (by repeat (first | (with_reducible first | exact HB.out | apply below_alloc | apply pw_below_drewN | apply below_drew1) | exact HB.out)) hb); have n1_ := Aside0.mk (hbox); have n2_ := Aside0.mk ((by rw [hg]; exact (below_size (by repeat (first | (with_reducible first | exact HB.out | apply below_alloc | apply pw_below_drewN | apply below_drew1) | exact HB.out))) : w.heap.size ≤ gb679)); have n3_ := Aside0.mk ((by rw [hg]; exact (below_size (by repeat (first | (with_reducible first | exact HB.out | apply below_alloc | apply pw_below_drewN | apply below_drew1) | exact HB.out))) : w.heap.size ≤ gb679)); clear HB; have HB := n0_; have BK679 := n1_; have GW679 := n2_; have GE679 := n3_; clear n0_ n1_ n2_ n3_; clear hb hbox hg) | ((with_reducible refine gate_dst (N := 5) rfl ?_); refine box_event ?hg (N := 5) ?hd (cs := #[.int .i64 a2_0, .int .i64 a2_1, .string a2_2]) (t := 23) ?hr ?_; (case hd => rfl); (case hg => rfl); (case hr => first | (go_simp; done) | (go_simp; rfl)); intro gb680 hg w6 hbox hb; have n0_ := Aside0.mk (blk_below (g := gb679) (o := .cells #[.int .i64 a1_0, .int .i64 a1_1, .string a1_2] 23 (0, 0)) (by (with_reducible repeat (first | refine blk_drewN ?_ _ | refine blk_drew ?_ | refine blk_alloc ?_ _)); exact BK679.out) hb); have n1_ := Aside0.mk (below_step (by repeat (first | (with_reducible first | exact HB.out | apply below_alloc | apply pw_below_drewN | apply below_drew1 | refine below_set ?_ GE679.out) | exact HB.out)) hb); have n2_ := Aside0.mk (hbox); have n3_ := Aside0.mk ((by rw [hg]; exact (below_size (by repeat (first | (with_reducible first | exact HB.out | apply below_alloc | apply pw_below_drewN | apply below_drew1 | refine below_set ?_ GE679.out) | exact HB.out))) : w.heap.size ≤ gb680)); have n4_ := Aside0.mk ((by rw [hg]; exact (below_size (by repeat (first | (with_reducible first | exact HB.out | apply below_alloc | apply pw_below_drewN | apply below_drew1 | refine below_set ?_ GE679.out) | exact HB.out))) : w.heap.size ≤ gb680)); have n5_ := Aside0.mk ((by rw [hg]; exact Nat.ne_of_lt (blk_lt (g := gb679) (o := .cells #[.int .i64 a1_0, .int .i64 a1_1, .string a1_2] 23 (0, 0)) (by (with_reducible repeat (first | refine blk_drewN ?_ _ | refine blk_drew ?_ | refine blk_alloc ?_ _)); exact BK679.out)) : gb679 ≠ gb680)); have n6_ := Aside0.mk ((by rw [hg]; exact Nat.ne_of_gt (blk_lt (g := gb679) (o := .cells #[.int .i64 a1_0, .int .i64 a1_1, .string a1_2] 23 (0, 0)) (by (with_reducible repeat (first | refine blk_drewN ?_ _ | refine blk_drew ?_ | refine blk_alloc ?_ _)); exact BK679.out)) : gb680 ≠ gb679)); clear BK679; clear HB; have BK679 := n0_; have HB := n1_; have BK680 := n2_; have GW680 := n3_; have GE680 := n4_; have NB679_680 := n5_; have NB680_679 := n6_; clear n0_ n1_ n2_ n3_ n4_ n5_ n6_; clear hb hbox hg) | ((with_reducible refine gate_dst (N := 6) rfl ?_); refine box_event ?hg (N := 6) ?hd (cs := #[.int .i64 0, .int .i64 0, .string (⟨#[]⟩ : ByteArray)]) (t := 23) ?hr ?_; (case hd => rfl); (case hg => rfl); (case hr => first | (go_simp; done) | (go_simp; rfl)); intro gb681 hg w7 hbox hb; have n0_ := Aside0.mk (blk_below (g := gb679) (o := .cells #[.int .i64 a1_0, .int .i64 a1_1, .string a1_2] 23 (0, 0)) (by (with_reducible repeat (first | refine blk_drewN ?_ _ | refine blk_drew ?_ | refine blk_alloc ?_ _)); exact BK679.out) hb); have n1_ := Aside0.mk (blk_below (g := gb680) (o := .cells #[.int .i64 a2_0, .int .i64 a2_1, .string a2_2] 23 (0, 0)) (by (with_reducible repeat (first | refine blk_drewN ?_ _ | refine blk_drew ?_ | refine blk_alloc ?_ _)); exact BK680.out) hb); have n2_ := Aside0.mk (below_step (by repeat (first | (with_reducible first | exact HB.out | apply below_alloc | apply pw_below_drewN | apply below_drew1 | refine below_set ?_ GE679.out | refine below_set ?_ GE680.out) | exact HB.out)) hb); have n3_ := Aside0.mk (hbox); have n4_ := Aside0.mk ((by rw [hg]; exact (below_size (by repeat (first | (with_reducible first | exact HB.out | apply below_alloc | apply pw_below_drewN | apply below_drew1 | refine below_set ?_ GE679.out | refine below_set ?_ GE680.out) | exact HB.out))) : w.heap.size ≤ gb681)); have n5_ := Aside0.mk ((by rw [hg]; exact (below_size (by repeat (first | (with_reducible first | exact HB.out | apply below_alloc | apply pw_below_drewN | apply below_drew1 | refine below_set ?_ GE679.out | refine below_set ?_ GE680.out) | exact HB.out))) : w.heap.size ≤ gb681)); have n6_ := Aside0.mk ((by rw [hg]; exact Nat.ne_of_lt (blk_lt (g := gb679) (o := .cells #[.int .i64 a1_0, .int .i64 a1_1, .string a1_2] 23 (0, 0)) (by (with_reducible repeat (first | refine blk_drewN ?_ _ | refine blk_drew ?_ | refine blk_alloc ?_ _)); exact BK679.out)) : gb679 ≠ gb681)); have n7_ := Aside0.mk ((by rw [hg]; exact Nat.ne_of_gt (blk_lt (g := gb679) (o := .cells #[.int .i64 a1_0, .int .i64 a1_1, .string a1_2] 23 (0, 0)) (by (with_reducible repeat (first | refine blk_drewN ?_ _ | refine blk_drew ?_ | refine blk_alloc ?_ _)); exact BK679.out)) : gb681 ≠ gb679)); have n8_ := Aside0.mk ((by rw [hg]; exact Nat.ne_of_lt (blk_lt (g := gb680) (o := .cells #[.int .i64 a2_0, .int .i64 a2_1, .string a2_2] 23 (0, 0)) (by (with_reducible repeat (first | refine blk_drewN ?_ _ | refine blk_drew ?_ | refine blk_alloc ?_ _)); exact BK680.out)) : gb680 ≠ gb681)); have n9_ := Aside0.mk ((by rw [hg]; exact Nat.ne_of_gt (blk_lt (g := gb680) (o := .cells #[.int .i64 a2_0, .int .i64 a2_1, .string a2_2] 23 (0, 0)) (by (with_reducible repeat (first | refine blk_drewN ?_ _ | refine blk_drew ?_ | refine blk_alloc ?_ _)); exact BK680.out)) : gb681 ≠ gb680)); clear BK679; clear BK680; clear HB; have BK679 := n0_; have BK680 := n1_; have HB := n2_; have BK681 := n3_; have GW681 := n4_; have GE681 := n5_; have NB679_681 := n6_; have NB681_679 := n7_; have NB680_681 := n8_; have NB681_680 := n9_; clear n0_ n1_ n2_ n3_ n4_ n5_ n6_ n7_ n8_ n9_; clear hb hbox hg))
 repeat ((with_reducible refine at_region ?_); go_quiet (first | ((with_reducible refine gate_dst (N := 4) rfl ?_); refine box_event ?hg (N := 4) ?hd (cs := #[.int .i64 a1_0, .int .i64 a1_1, .string a1_2]) (t := 23) ?hr ?_; (case hd => rfl); (case hg => rfl); (case hr => first | (go_simp; done) | (go_simp; rfl)); intro gb679 hg w5 hbox hb; have n0_ := Aside0.mk (below_step (by repeat (first | (with_reducible first | exact HB.out | apply below_alloc | apply pw_below_drewN | apply below_drew1) | exact HB.out)) hb); have n1_ := Aside0.mk (hbox); have n2_ := Aside0.mk ((by rw [hg]; exact (below_size (by repeat (first | (with_reducible first | exact HB.out | apply below_alloc | apply pw_below_drewN | apply below_drew1) | exact HB.out))) : w.heap.size ≤ gb679)); have n3_ := Aside0.mk ((by rw [hg]; exact (below_size (by repeat (first | (with_reducible first | exact HB.out | apply below_alloc | apply pw_below_drewN | apply below_drew1) | exact HB.out))) : w.heap.size ≤ gb679)); clear HB; have HB := n0_; have BK679 := n1_; have GW679 := n2_; have GE679 := n3_; clear n0_ n1_ n2_ n3_; clear hb hbox hg) | ((with_reducible refine gate_dst (N := 5) rfl ?_); refine box_event ?hg (N := 5) ?hd (cs := #[.int .i64 a2_0, .int .i64 a2_1, .string a2_2]) (t := 23) ?hr ?_; (case hd => rfl); (case hg => rfl); (case hr => first | (go_simp; done) | (go_simp; rfl)); intro gb680 hg w6 hbox hb; have n0_ := Aside0.mk (blk_below (g := gb679) (o := .cells #[.int .i64 a1_0, .int .i64 a1_1, .string a1_2] 23 (0, 0)) (by (with_reducible repeat (first | refine blk_drewN ?_ _ | refine blk_drew ?_ | refine blk_alloc ?_ _)); exact BK679.out) hb); have n1_ := Aside0.mk (below_step (by repeat (first | (with_reducible first | exact HB.out | apply below_alloc | apply pw_below_drewN | apply below_drew1 | refine below_set ?_ GE679.out) | exact HB.out)) hb); have n2_ := Aside0.mk (hbox); have n3_ := Aside0.mk ((by rw [hg]; exact (below_size (by repeat (first | (with_reducible first | exact HB.out | apply below_alloc | apply pw_below_drewN | apply below_drew1 | refine below_set ?_ GE679.out) | exact HB.out))) : w.heap.size ≤ gb680)); have n4_ := Aside0.mk ((by rw [hg]; exact (below_size (by repeat (first | (with_reducible first | exact HB.out | apply below_alloc | apply pw_below_drewN | apply below_drew1 | refine below_set ?_ GE679.out) | exact HB.out))) : w.heap.size ≤ gb680)); have n5_ := Aside0.mk ((by rw [hg]; exact Nat.ne_of_lt (blk_lt (g := gb679) (o := .cells #[.int .i64 a1_0, .int .i64 a1_1, .string a1_2] 23 (0, 0)) (by (with_reducible repeat (first | refine blk_drewN ?_ _ | refine blk_drew ?_ | refine blk_alloc ?_ _)); exact BK679.out)) : gb679 ≠ gb680)); have n6_ := Aside0.mk ((by rw [hg]; exact Nat.ne_of_gt (blk_lt (g := gb679) (o := .cells #[.int .i64 a1_0, .int .i64 a1_1, .string a1_2] 23 (0, 0)) (by (with_reducible repeat (first | refine blk_drewN ?_ _ | refine blk_drew ?_ | refine blk_alloc ?_ _)); exact BK679.out)) : gb680 ≠ gb679)); clear BK679; clear HB; have BK679 := n0_; have HB := n1_; have BK680 := n2_; have GW680 := n3_; have GE680 := n4_; have NB679_680 := n5_; have NB680_679 := n6_; clear n0_ n1_ n2_ n3_ n4_ n5_ n6_; clear hb hbox hg) | ((with_reducible refine gate_dst (N := 6) rfl ?_); refine box_event ?hg (N := 6) ?hd (cs := #[.int .i64 0, .int .i64 0, .string (⟨#[]⟩ : ByteArray)]) (t := 23) ?hr ?_; (case hd => rfl); (case hg => rfl); (case hr => first | (go_simp; done) | (go_simp; rfl)); intro gb681 hg w7 hbox hb; have n0_ := Aside0.mk (blk_below (g := gb679) (o := .cells #[.int .i64 a1_0, .int .i64 a1_1, .string a1_2] 23 (0, 0)) (by (with_reducible repeat (first | refine blk_drewN ?_ _ | refine blk_drew ?_ | refine blk_alloc ?_ _)); exact BK679.out) hb); have n1_ := Aside0.mk (blk_below (g := gb680) (o := .cells #[.int .i64 a2_0, .int .i64 a2_1, .string a2_2] 23 (0, 0)) (by (with_reducible repeat (first | refine blk_drewN ?_ _ | refine blk_drew ?_ | refine blk_alloc ?_ _)); exact BK680.out) hb); have n2_ := Aside0.mk (below_step (by repeat (first | (with_reducible first | exact HB.out | apply below_alloc | apply pw_below_drewN | apply below_drew1 | refine below_set ?_ GE679.out | refine below_set ?_ GE680.out) | exact HB.out)) hb); have n3_ := Aside0.mk (hbox); have n4_ := Aside0.mk ((by rw [hg]; exact (below_size (by repeat (first | (with_reducible first | exact HB.out | apply below_alloc | apply pw_below_drewN | apply below_drew1 | refine below_set ?_ GE679.out | refine below_set ?_ GE680.out) | exact HB.out))) : w.heap.size ≤ gb681)); have n5_ := Aside0.mk ((by rw [hg]; exact (below_size (by repeat (first | (with_reducible first | exact HB.out | apply below_alloc | apply pw_below_drewN | apply below_drew1 | refine below_set ?_ GE679.out | refine below_set ?_ GE680.out) | exact HB.out))) : w.heap.size ≤ gb681)); have n6_ := Aside0.mk ((by rw [hg]; exact Nat.ne_of_lt (blk_lt (g := gb679) (o := .cells #[.int .i64 a1_0, .int .i64 a1_1, .string a1_2] 23 (0, 0)) (by (with_reducible repeat (first | refine blk_drewN ?_ _ | refine blk_drew ?_ | refine blk_alloc ?_ _)); exact BK679.out)) : gb679 ≠ gb681)); have n7_ := Aside0.mk ((by rw [hg]; exact Nat.ne_of_gt (blk_lt (g := gb679) (o := .cells #[.int .i64 a1_0, .int .i64 a1_1, .string a1_2] 23 (0, 0)) (by (with_reducible repeat (first | refine blk_drewN ?_ _ | refine blk_drew ?_ | refine blk_alloc ?_ _)); exact BK679.out)) : gb681 ≠ gb679)); have n8_ := Aside0.mk ((by rw [hg]; exact Nat.ne_of_lt (blk_lt (g := gb680) (o := .cells #[.int .i64 a2_0, .int .i64 a2_1, .string a2_2] 23 (0, 0)) (by (with_reducible repeat (first | refine blk_drewN ?_ _ | refine blk_drew ?_ | refine blk_alloc ?_ _)); exact BK680.out)) : gb680 ≠ gb681)); have n9_ := Aside0.mk ((by rw [hg]; exact Nat.ne_of_gt (blk_lt (g := gb680) (o := .cells #[.int .i64 a2_0, .int .i64 a2_1, .string a2_2] 23 (0, 0)) (by (with_reducible repeat (first | refine blk_drewN ?_ _ | refine blk_drew ?_ | refine blk_alloc ?_ _)); exact BK680.out)) : gb681 ≠ gb680)); clear BK679; clear BK680; clear HB; have BK679 := n0_; have BK680 := n1_; have HB := n2_; have BK681 := n3_; have GW681 := n4_; have GE681 := n5_; have NB679_681 := n6_; have NB681_679 := n7_; have NB680_681 := n8_; have NB681_680 := n9_; clear n0_ n1_ n2_ n3_ n4_ n5_ n6_ n7_ n8_ n9_; clear hb hbox hg)); go_upto_block 0 with (first | ((with_reducible refine gate_dst (N := 4) rfl ?_); refine box_event ?hg (N := 4) ?hd (cs := #[.int .i64 a1_0, .int .i64 a1_1, .string a1_2]) (t := 23) ?hr ?_; (case hd => rfl); (case hg => rfl); (case hr => first | (go_simp; done) | (go_simp; rfl)); intro gb679 hg w5 hbox hb; have n0_ := Aside0.mk (below_step (by repeat (first | (with_reducible first | exact HB.out | apply below_alloc | apply pw_below_drewN | apply below_drew1) | exact HB.out)) hb); have n1_ := Aside0.mk (hbox); have n2_ := Aside0.mk ((by rw [hg]; exact (below_size (by repeat (first | (with_reducible first | exact HB.out | apply below_alloc | apply pw_below_drewN | apply below_drew1) | exact HB.out))) : w.heap.size ≤ gb679)); have n3_ := Aside0.mk ((by rw [hg]; exact (below_size (by repeat (first | (with_reducible first | exact HB.out | apply below_alloc | apply pw_below_drewN | apply below_drew1) | exact HB.out))) : w.heap.size ≤ gb679)); clear HB; have HB := n0_; have BK679 := n1_; have GW679 := n2_; have GE679 := n3_; clear n0_ n1_ n2_ n3_; clear hb hbox hg) | ((with_reducible refine gate_dst (N := 5) rfl ?_); refine box_event ?hg (N := 5) ?hd (cs := #[.int .i64 a2_0, .int .i64 a2_1, .string a2_2]) (t := 23) ?hr ?_; (case hd => rfl); (case hg => rfl); (case hr => first | (go_simp; done) | (go_simp; rfl)); intro gb680 hg w6 hbox hb; have n0_ := Aside0.mk (blk_below (g := gb679) (o := .cells #[.int .i64 a1_0, .int .i64 a1_1, .string a1_2] 23 (0, 0)) (by (with_reducible repeat (first | refine blk_drewN ?_ _ | refine blk_drew ?_ | refine blk_alloc ?_ _)); exact BK679.out) hb); have n1_ := Aside0.mk (below_step (by repeat (first | (with_reducible first | exact HB.out | apply below_alloc | apply pw_below_drewN | apply below_drew1 | refine below_set ?_ GE679.out) | exact HB.out)) hb); have n2_ := Aside0.mk (hbox); have n3_ := Aside0.mk ((by rw [hg]; exact (below_size (by repeat (first | (with_reducible first | exact HB.out | apply below_alloc | apply pw_below_drewN | apply below_drew1 | refine below_set ?_ GE679.out) | exact HB.out))) : w.heap.size ≤ gb680)); have n4_ := Aside0.mk ((by rw [hg]; exact (below_size (by repeat (first | (with_reducible first | exact HB.out | apply below_alloc | apply pw_below_drewN | apply below_drew1 | refine below_set ?_ GE679.out) | exact HB.out))) : w.heap.size ≤ gb680)); have n5_ := Aside0.mk ((by rw [hg]; exact Nat.ne_of_lt (blk_lt (g := gb679) (o := .cells #[.int .i64 a1_0, .int .i64 a1_1, .string a1_2] 23 (0, 0)) (by (with_reducible repeat (first | refine blk_drewN ?_ _ | refine blk_drew ?_ | refine blk_alloc ?_ _)); exact BK679.out)) : gb679 ≠ gb680)); have n6_ := Aside0.mk ((by rw [hg]; exact Nat.ne_of_gt (blk_lt (g := gb679) (o := .cells #[.int .i64 a1_0, .int .i64 a1_1, .string a1_2] 23 (0, 0)) (by (with_reducible repeat (first | refine blk_drewN ?_ _ | refine blk_drew ?_ | refine blk_alloc ?_ _)); exact BK679.out)) : gb680 ≠ gb679)); clear BK679; clear HB; have BK679 := n0_; have HB := n1_; have BK680 := n2_; have GW680 := n3_; have GE680 := n4_; have NB679_680 := n5_; have NB680_679 := n6_; clear n0_ n1_ n2_ n3_ n4_ n5_ n6_; clear hb hbox hg) | ((with_reducible refine gate_dst (N := 6) rfl ?_); refine box_event ?hg (N := 6) ?hd (cs := #[.int .i64 0, .int .i64 0, .string (⟨#[]⟩ : ByteArray)]) (t := 23) ?hr ?_; (case hd => rfl); (case hg => rfl); (case hr => first | (go_simp; done) | (go_simp; rfl)); intro gb681 hg w7 hbox hb; have n0_ := Aside0.mk (blk_below (g := gb679) (o := .cells #[.int .i64 a1_0, .int .i64 a1_1, .string a1_2] 23 (0, 0)) (by (with_reducible repeat (first | refine blk_drewN ?_ _ | refine blk_drew ?_ | refine blk_alloc ?_ _)); exact BK679.out) hb); have n1_ := Aside0.mk (blk_below (g := gb680) (o := .cells #[.int .i64 a2_0, .int .i64 a2_1, .string a2_2] 23 (0, 0)) (by (with_reducible repeat (first | refine blk_drewN ?_ _ | refine blk_drew ?_ | refine blk_alloc ?_ _)); exact BK680.out) hb); have n2_ := Aside0.mk (below_step (by repeat (first | (with_reducible first | exact HB.out | apply below_alloc | apply pw_below_drewN | apply below_drew1 | refine below_set ?_ GE679.out | refine below_set ?_ GE680.out) | exact HB.out)) hb); have n3_ := Aside0.mk (hbox); have n4_ := Aside0.mk ((by rw [hg]; exact (below_size (by repeat (first | (with_reducible first | exact HB.out | apply below_alloc | apply pw_below_drewN | apply below_drew1 | refine below_set ?_ GE679.out | refine below_set ?_ GE680.out) | exact HB.out))) : w.heap.size ≤ gb681)); have n5_ := Aside0.mk ((by rw [hg]; exact (below_size (by repeat (first | (with_reducible first | exact HB.out | apply below_alloc | apply pw_below_drewN | apply below_drew1 | refine below_set ?_ GE679.out | refine below_set ?_ GE680.out) | exact HB.out))) : w.heap.size ≤ gb681)); have n6_ := Aside0.mk ((by rw [hg]; exact Nat.ne_of_lt (blk_lt (g := gb679) (o := .cells #[.int .i64 a1_0, .int .i64 a1_1, .string a1_2] 23 (0, 0)) (by (with_reducible repeat (first | refine blk_drewN ?_ _ | refine blk_drew ?_ | refine blk_alloc ?_ _)); exact BK679.out)) : gb679 ≠ gb681)); have n7_ := Aside0.mk ((by rw [hg]; exact Nat.ne_of_gt (blk_lt (g := gb679) (o := .cells #[.int .i64 a1_0, .int .i64 a1_1, .string a1_2] 23 (0, 0)) (by (with_reducible repeat (first | refine blk_drewN ?_ _ | refine blk_drew ?_ | refine blk_alloc ?_ _)); exact BK679.out)) : gb681 ≠ gb679)); have n8_ := Aside0.mk ((by rw [hg]; exact Nat.ne_of_lt (blk_lt (g := gb680) (o := .cells #[.int .i64 a2_0, .int .i64 a2_1, .string a2_2] 23 (0, 0)) (by (with_reducible repeat (first | refine blk_drewN ?_ _ | refine blk_drew ?_ | refine blk_alloc ?_ _)); exact BK680.out)) : gb680 ≠ gb681)); have n9_ := Aside0.mk ((by rw [hg]; exact Nat.ne_of_gt (blk_lt (g := gb680) (o := .cells #[.int .i64 a2_0, .int .i64 a2_1, .string a2_2] 23 (0, 0)) (by (with_reducible repeat (first | refine blk_drewN ?_ _ | refine blk_drew ?_ | refine blk_alloc ?_ _)); exact BK680.out)) : gb681 ≠ gb680)); clear BK679; clear BK680; clear HB; have BK679 := n0_; have BK680 := n1_; have HB := n2_; have BK681 := n3_; have GW681 := n4_; have GE681 := n5_; have NB679_681 := n6_; have NB681_679 := n7_; have NB680_681 := n8_; have NB681_680 := n9_; clear n0_ n1_ n2_ n3_ n4_ n5_ n6_ n7_ n8_ n9_; clear hb hbox hg)))
 (try simp only [Act.put, List.setIfInBounds_toArray, List.set_cons_zero, List.set_cons_succ])
 go_cut [] (fun wc => ∃ (kq : Nat) (x682000_3 : Int) (x682001_3 : Int) (x682002_3 : ByteArray), Aside0 (value_Reckon.j0 kq a0 a1_0 a1_1 a1_2 a2_0 a2_1 a2_2 = some (r1, r2, r3, r4)) ∧ Aside0 (kq ≤ k) ∧ Aside0 (wc.heap[gb679]? = some (.cells #[.int .i64 a1_0, .int .i64 a1_1, .string a1_2] 23 (0, 0))) ∧ Aside0 (wc.heap[gb680]? = some (.cells #[.int .i64 a2_0, .int .i64 a2_1, .string a2_2] 23 (0, 0))) ∧ Aside0 (wc.heap[gb681]? = some (.cells #[.int .i64 x682000_3, .int .i64 x682001_3, .string x682002_3] 23 (0, 0))) ∧ Aside0 (Below w.heap.size w wc))
 case first =>
  have H := HC4.out
  clear HC4
  by_cases c8 : a0.toList = ([43] : List UInt8)
  ·
   rw [if_pos c8] at H
   have c8b0 : (a0.toList == ([43] : List UInt8)) = true := beq_iff_eq.mpr c8
   have c8b1 : (a0.toList != ([43] : List UInt8)) = false := bne_eq_false_iff_eq.mpr c8
   clear c8
   (first | rw [c8b0] | (simp only [i64_w, i32_w]; rw [c8b0]) | skip)
   have H' := Aside0.mk H
   clear H
   go_wp2
   repeat ((with_reducible refine at_region ?_); go_quiet (fail); try go_wp2)
   go_meet
   case rel => exact ⟨_, (0), (0), ((⟨#[]⟩ : ByteArray)), H', ⟨by first | omega | exact Nat.le_refl _⟩, ⟨by (with_reducible repeat (first | refine blk_drewN ?_ _ | refine blk_drew ?_ | refine blk_alloc ?_ _)); exact BK679.out⟩, ⟨by (with_reducible repeat (first | refine blk_drewN ?_ _ | refine blk_drew ?_ | refine blk_alloc ?_ _)); exact BK680.out⟩, ⟨by (with_reducible repeat (first | refine blk_drewN ?_ _ | refine blk_drew ?_ | refine blk_alloc ?_ _)); exact BK681.out⟩, ⟨by repeat (first | (with_reducible first | exact HB.out | apply below_alloc | apply pw_below_drewN | apply below_drew1 | refine below_set ?_ GE679.out | refine below_set ?_ GE680.out | refine below_set ?_ GE681.out) | exact HB.out)⟩⟩
  ·
   rw [if_neg c8] at H
   have c8b0 : (a0.toList == ([43] : List UInt8)) = false := beq_eq_false_iff_ne.mpr c8
   have c8b1 : (a0.toList != ([43] : List UInt8)) = true := bne_iff_ne.mpr c8
   (first | rw [c8b0] | (simp only [i64_w, i32_w]; rw [c8b0]) | skip)
   by_cases c9 : a0.toList = ([45] : List UInt8)
   ·
    rw [if_pos c9] at H
    have c9b0 : (a0.toList == ([45] : List UInt8)) = true := beq_iff_eq.mpr c9
    have c9b1 : (a0.toList != ([45] : List UInt8)) = false := bne_eq_false_iff_eq.mpr c9
    clear c9
    have H' := Aside0.mk H
    clear H
    go_wp2
    repeat ((with_reducible refine at_region ?_); go_quiet (fail); try go_wp2)
    go_meet
    case rel => exact ⟨_, (0), (0), ((⟨#[]⟩ : ByteArray)), H', ⟨by first | omega | exact Nat.le_refl _⟩, ⟨by (with_reducible repeat (first | refine blk_drewN ?_ _ | refine blk_drew ?_ | refine blk_alloc ?_ _)); exact BK679.out⟩, ⟨by (with_reducible repeat (first | refine blk_drewN ?_ _ | refine blk_drew ?_ | refine blk_alloc ?_ _)); exact BK680.out⟩, ⟨by (with_reducible repeat (first | refine blk_drewN ?_ _ | refine blk_drew ?_ | refine blk_alloc ?_ _)); exact BK681.out⟩, ⟨by repeat (first | (with_reducible first | exact HB.out | apply below_alloc | apply pw_below_drewN | apply below_drew1 | refine below_set ?_ GE679.out | refine below_set ?_ GE680.out | refine below_set ?_ GE681.out) | exact HB.out)⟩⟩
   ·
    rw [if_neg c9] at H
    have c9b0 : (a0.toList == ([45] : List UInt8)) = false := beq_eq_false_iff_ne.mpr c9
    have c9b1 : (a0.toList != ([45] : List UInt8)) = true := bne_iff_ne.mpr c9
    by_cases c10 : a0.toList = ([42] : List UInt8)
    ·
     rw [if_pos c10] at H
     have c10b0 : (a0.toList == ([42] : List UInt8)) = true := beq_iff_eq.mpr c10
     have c10b1 : (a0.toList != ([42] : List UInt8)) = false := bne_eq_false_iff_eq.mpr c10
     clear c10
     have H' := Aside0.mk H
     clear H
     go_wp2
     repeat ((with_reducible refine at_region ?_); go_quiet (fail); try go_wp2)
     go_meet
     case rel => exact ⟨_, (0), (0), ((⟨#[]⟩ : ByteArray)), H', ⟨by first | omega | exact Nat.le_refl _⟩, ⟨by (with_reducible repeat (first | refine blk_drewN ?_ _ | refine blk_drew ?_ | refine blk_alloc ?_ _)); exact BK679.out⟩, ⟨by (with_reducible repeat (first | refine blk_drewN ?_ _ | refine blk_drew ?_ | refine blk_alloc ?_ _)); exact BK680.out⟩, ⟨by (with_reducible repeat (first | refine blk_drewN ?_ _ | refine blk_drew ?_ | refine blk_alloc ?_ _)); exact BK681.out⟩, ⟨by repeat (first | (with_reducible first | exact HB.out | apply below_alloc | apply pw_below_drewN | apply below_drew1 | refine below_set ?_ GE679.out | refine below_set ?_ GE680.out | refine below_set ?_ GE681.out) | exact HB.out)⟩⟩
    ·
     rw [if_neg c10] at H
     have c10b0 : (a0.toList == ([42] : List UInt8)) = false := beq_eq_false_iff_ne.mpr c10
     have c10b1 : (a0.toList != ([42] : List UInt8)) = true := bne_iff_ne.mpr c10
     by_cases c11 : a0.toList = ([47] : List UInt8)
     ·
      rw [if_pos c11] at H
      have c11b0 : (a0.toList == ([47] : List UInt8)) = true := beq_iff_eq.mpr c11
      have c11b1 : (a0.toList != ([47] : List UInt8)) = false := bne_eq_false_iff_eq.mpr c11
      clear c11
      have H' := Aside0.mk H
      clear H
      go_wp2
      repeat ((with_reducible refine at_region ?_); go_quiet (fail); try go_wp2)
      go_meet
      case rel => exact ⟨_, (0), (0), ((⟨#[]⟩ : ByteArray)), H', ⟨by first | omega | exact Nat.le_refl _⟩, ⟨by (with_reducible repeat (first | refine blk_drewN ?_ _ | refine blk_drew ?_ | refine blk_alloc ?_ _)); exact BK679.out⟩, ⟨by (with_reducible repeat (first | refine blk_drewN ?_ _ | refine blk_drew ?_ | refine blk_alloc ?_ _)); exact BK680.out⟩, ⟨by (with_reducible repeat (first | refine blk_drewN ?_ _ | refine blk_drew ?_ | refine blk_alloc ?_ _)); exact BK681.out⟩, ⟨by repeat (first | (with_reducible first | exact HB.out | apply below_alloc | apply pw_below_drewN | apply below_drew1 | refine below_set ?_ GE679.out | refine below_set ?_ GE680.out | refine below_set ?_ GE681.out) | exact HB.out)⟩⟩
     ·
      rw [if_neg c11] at H
      have c11b0 : (a0.toList == ([47] : List UInt8)) = false := beq_eq_false_iff_ne.mpr c11
      have c11b1 : (a0.toList != ([47] : List UInt8)) = true := bne_iff_ne.mpr c11
      simp only [Option.some.injEq, Prod.mk.injEq] at H
      obtain ⟨rfl, rfl, rfl, rfl⟩ := H
      have hnb12 := NB681_679.out
      have hnc12 := NB679_681.out
      have hnb13 := NB681_680.out
      have hnc13 := NB680_681.out
      have hcz14_0 : w7.cell? ⟨gb681, 0, none⟩ = some (.int .i64 0) := (blk_cell BK681.out 0).trans rfl
      have hcz14_1 : w7.cell? ⟨gb681, 1, none⟩ = some (.int .i64 0) := (blk_cell BK681.out 1).trans rfl
      have hcz14_2 : w7.cell? ⟨gb681, 2, none⟩ = some (.string (⟨#[]⟩ : ByteArray)) := (blk_cell BK681.out 2).trans rfl
      have hfz14_0 := blk_frozen BK681.out 0
      have hfz14_1 := blk_frozen BK681.out 1
      have hfz14_2 := blk_frozen BK681.out 2
      go_wp2
      repeat ((with_reducible refine at_region ?_); go_quiet (fail); try go_wp2)
      refine bodyPost_ret (results_ct rfl _ _ gb681 23 #[.int .i64 0, .int .i64 0, .string (⟨#[]⟩ : ByteArray)] (0, 0) _ rfl (by (with_reducible repeat (first | refine blk_drewN ?_ _ | refine blk_drew ?_ | refine blk_alloc ?_ _)); refine blk_put (cs := #[.int .i64 0, .int .i64 0, .string (⟨#[]⟩ : ByteArray)]) ?_ 2 _ rfl; (with_reducible repeat (first | refine blk_drewN ?_ _ | refine blk_drew ?_ | refine blk_alloc ?_ _)); refine blk_put (cs := #[.int .i64 0, .int .i64 0, .string (⟨#[]⟩ : ByteArray)]) ?_ 1 _ rfl; (with_reducible repeat (first | refine blk_drewN ?_ _ | refine blk_drew ?_ | refine blk_alloc ?_ _)); refine blk_put (cs := #[.int .i64 0, .int .i64 0, .string (⟨#[]⟩ : ByteArray)]) ?_ 0 _ rfl; (with_reducible repeat (first | refine blk_drewN ?_ _ | refine blk_drew ?_ | refine blk_alloc ?_ _)); exact BK681.out) Tryz.underlying23 rfl (by kernel_rfl)) rfl ?_
      exact ⟨by first | rfl | (simp [errW_none, errW_some] <;> rfl) | (simp [*, errW_none, errW_some] <;> rfl), by repeat (first | (with_reducible first | exact HB.out | apply below_alloc | apply pw_below_drewN | apply below_drew1 | refine below_set ?_ GE679.out | refine below_set ?_ GE680.out | refine below_set ?_ GE681.out) | exact HB.out)⟩
 case rest =>
  clear HC4
  (try clear c1); (try clear c2); (try clear p2); (try clear c8); (try clear c8b0); (try clear c8b1); (try clear c9); (try clear c9b0); (try clear c9b1); (try clear c10); (try clear c10b0); (try clear c10b1); (try clear c11); (try clear c11b0); (try clear c11b1); (try clear c12); (try clear c13); (try clear hcz14_0); (try clear hcz14_1); (try clear hcz14_2); (try clear hfz14_0); (try clear hfz14_1); (try clear hfz14_2)
  obtain ⟨kq, x682000_3, x682001_3, x682002_3, HA, HJ3, BK679, BK680, BK681, HB⟩ := hcut
  cases kq with
  | zero => exact absurd HA.out (by simp [value_Reckon.j0])
  | succ kj3 =>
   have H := HA.out
   clear HA
   simp only [value_Reckon.j0] at H
   replace H := Option.bind_eq_some_iff.mp H
   obtain ⟨t682, A150, H⟩ := H
   replace H : (if t682 = 0 then (if a1_0 = 0 then (if a2_0 = 0 then (value_Reckon.j1 kj3 a0 false a1_0 a1_1 a1_2 a2_0 a2_1 a2_2) else ((value_number.f a2_0 a2_1 a2_2).bind fun t683 => (value_Reckon.j1 kj3 a0 (!t683) a1_0 a1_1 a1_2 a2_0 a2_1 a2_2))) else ((value_number.f a1_0 a1_1 a1_2).bind fun t684 => (if t684 = true then (if a2_0 = 0 then (value_Reckon.j1 kj3 a0 false a1_0 a1_1 a1_2 a2_0 a2_1 a2_2) else ((value_number.f a2_0 a2_1 a2_2).bind fun t685 => (value_Reckon.j1 kj3 a0 (!t685) a1_0 a1_1 a1_2 a2_0 a2_1 a2_2))) else (value_Reckon.j1 kj3 a0 true a1_0 a1_1 a1_2 a2_0 a2_1 a2_2)))) else (some (0, 0, (⟨#[]⟩ : ByteArray), t682))) = some (r1, r2, r3, r4) := H
   have A15 := Aside0.mk A150
   clear A150
   by_cases c16 : t682 = 0
   ·
    rw [if_pos c16] at H
    have c16b0 : (t682 == 0) = true := beq_iff_eq.mpr c16
    have c16b1 : (t682 != 0) = false := bne_eq_false_iff_eq.mpr c16
    clear c16
    have HC17 := Aside0.mk H
    clear H
    have hnb18 := NB679_680.out
    have hnc18 := NB680_679.out
    have hnb19 := NB679_681.out
    have hnc19 := NB681_679.out
    have hcz20_0 : wc.cell? ⟨gb679, 0, none⟩ = some (.int .i64 a1_0) := (blk_cell BK679.out 0).trans rfl
    have hcz20_1 : wc.cell? ⟨gb679, 1, none⟩ = some (.int .i64 a1_1) := (blk_cell BK679.out 1).trans rfl
    have hcz20_2 : wc.cell? ⟨gb679, 2, none⟩ = some (.string a1_2) := (blk_cell BK679.out 2).trans rfl
    have hfz20_0 := blk_frozen BK679.out 0
    have hfz20_1 := blk_frozen BK679.out 1
    have hfz20_2 := blk_frozen BK679.out 2
    have hnb21 := NB680_681.out
    have hnc21 := NB681_680.out
    have hcz22_0 : wc.cell? ⟨gb680, 0, none⟩ = some (.int .i64 a2_0) := (blk_cell BK680.out 0).trans rfl
    have hcz22_1 : wc.cell? ⟨gb680, 1, none⟩ = some (.int .i64 a2_1) := (blk_cell BK680.out 1).trans rfl
    have hcz22_2 : wc.cell? ⟨gb680, 2, none⟩ = some (.string a2_2) := (blk_cell BK680.out 2).trans rfl
    have hfz22_0 := blk_frozen BK680.out 0
    have hfz22_1 := blk_frozen BK680.out 1
    have hfz22_2 := blk_frozen BK680.out 2
    go_upto_region 10 with (first | (go_at_call 13; (with_reducible refine (value_both.calls kj3 a1_0 a1_1 a1_2 a2_0 a2_1 a2_2 t682 _ ?side1 A15.out).mono ?_); (case side1 => exact Tabs.below HT.out (by repeat (first | (with_reducible first | exact HB.out | apply below_alloc | apply pw_below_drewN | apply below_drew1 | refine below_set ?_ GE679.out | refine below_set ?_ GE680.out | refine below_set ?_ GE681.out) | exact HB.out))); rintro e w23 ⟨rfl, hb⟩; have n0_ := Aside0.mk (blk_below (g := gb679) (o := .cells #[.int .i64 a1_0, .int .i64 a1_1, .string a1_2] 23 (0, 0)) (by (with_reducible repeat (first | refine blk_drewN ?_ _ | refine blk_drew ?_ | refine blk_alloc ?_ _)); exact BK679.out) hb); have n1_ := Aside0.mk (blk_below (g := gb680) (o := .cells #[.int .i64 a2_0, .int .i64 a2_1, .string a2_2] 23 (0, 0)) (by (with_reducible repeat (first | refine blk_drewN ?_ _ | refine blk_drew ?_ | refine blk_alloc ?_ _)); exact BK680.out) hb); have n2_ := Aside0.mk (blk_below (g := gb681) (o := .cells #[.int .i64 x682000_3, .int .i64 x682001_3, .string x682002_3] 23 (0, 0)) (by (with_reducible repeat (first | refine blk_drewN ?_ _ | refine blk_drew ?_ | refine blk_alloc ?_ _)); exact BK681.out) hb); have n3_ := Aside0.mk (below_step (by repeat (first | (with_reducible first | exact HB.out | apply below_alloc | apply pw_below_drewN | apply below_drew1 | refine below_set ?_ GE679.out | refine below_set ?_ GE680.out | refine below_set ?_ GE681.out) | exact HB.out)) hb); clear BK679; clear BK680; clear BK681; clear HB; have BK679 := n0_; have BK680 := n1_; have BK681 := n2_; have HB := n3_; clear n0_ n1_ n2_ n3_; (try clear hb); (try clear hb2); (try clear hk); (try clear hi)))
    repeat ((with_reducible refine at_region ?_); go_quiet (first | (go_at_call 13; (with_reducible refine (value_both.calls kj3 a1_0 a1_1 a1_2 a2_0 a2_1 a2_2 t682 _ ?side1 A15.out).mono ?_); (case side1 => exact Tabs.below HT.out (by repeat (first | (with_reducible first | exact HB.out | apply below_alloc | apply pw_below_drewN | apply below_drew1 | refine below_set ?_ GE679.out | refine below_set ?_ GE680.out | refine below_set ?_ GE681.out) | exact HB.out))); rintro e w23 ⟨rfl, hb⟩; have n0_ := Aside0.mk (blk_below (g := gb679) (o := .cells #[.int .i64 a1_0, .int .i64 a1_1, .string a1_2] 23 (0, 0)) (by (with_reducible repeat (first | refine blk_drewN ?_ _ | refine blk_drew ?_ | refine blk_alloc ?_ _)); exact BK679.out) hb); have n1_ := Aside0.mk (blk_below (g := gb680) (o := .cells #[.int .i64 a2_0, .int .i64 a2_1, .string a2_2] 23 (0, 0)) (by (with_reducible repeat (first | refine blk_drewN ?_ _ | refine blk_drew ?_ | refine blk_alloc ?_ _)); exact BK680.out) hb); have n2_ := Aside0.mk (blk_below (g := gb681) (o := .cells #[.int .i64 x682000_3, .int .i64 x682001_3, .string x682002_3] 23 (0, 0)) (by (with_reducible repeat (first | refine blk_drewN ?_ _ | refine blk_drew ?_ | refine blk_alloc ?_ _)); exact BK681.out) hb); have n3_ := Aside0.mk (below_step (by repeat (first | (with_reducible first | exact HB.out | apply below_alloc | apply pw_below_drewN | apply below_drew1 | refine below_set ?_ GE679.out | refine below_set ?_ GE680.out | refine below_set ?_ GE681.out) | exact HB.out)) hb); clear BK679; clear BK680; clear BK681; clear HB; have BK679 := n0_; have BK680 := n1_; have BK681 := n2_; have HB := n3_; clear n0_ n1_ n2_ n3_; (try clear hb); (try clear hb2); (try clear hk); (try clear hi))); go_upto_region 10 with (first | (go_at_call 13; (with_reducible refine (value_both.calls kj3 a1_0 a1_1 a1_2 a2_0 a2_1 a2_2 t682 _ ?side1 A15.out).mono ?_); (case side1 => exact Tabs.below HT.out (by repeat (first | (with_reducible first | exact HB.out | apply below_alloc | apply pw_below_drewN | apply below_drew1 | refine below_set ?_ GE679.out | refine below_set ?_ GE680.out | refine below_set ?_ GE681.out) | exact HB.out))); rintro e w23 ⟨rfl, hb⟩; have n0_ := Aside0.mk (blk_below (g := gb679) (o := .cells #[.int .i64 a1_0, .int .i64 a1_1, .string a1_2] 23 (0, 0)) (by (with_reducible repeat (first | refine blk_drewN ?_ _ | refine blk_drew ?_ | refine blk_alloc ?_ _)); exact BK679.out) hb); have n1_ := Aside0.mk (blk_below (g := gb680) (o := .cells #[.int .i64 a2_0, .int .i64 a2_1, .string a2_2] 23 (0, 0)) (by (with_reducible repeat (first | refine blk_drewN ?_ _ | refine blk_drew ?_ | refine blk_alloc ?_ _)); exact BK680.out) hb); have n2_ := Aside0.mk (blk_below (g := gb681) (o := .cells #[.int .i64 x682000_3, .int .i64 x682001_3, .string x682002_3] 23 (0, 0)) (by (with_reducible repeat (first | refine blk_drewN ?_ _ | refine blk_drew ?_ | refine blk_alloc ?_ _)); exact BK681.out) hb); have n3_ := Aside0.mk (below_step (by repeat (first | (with_reducible first | exact HB.out | apply below_alloc | apply pw_below_drewN | apply below_drew1 | refine below_set ?_ GE679.out | refine below_set ?_ GE680.out | refine below_set ?_ GE681.out) | exact HB.out)) hb); clear BK679; clear BK680; clear BK681; clear HB; have BK679 := n0_; have BK680 := n1_; have BK681 := n2_; have HB := n3_; clear n0_ n1_ n2_ n3_; (try clear hb); (try clear hb2); (try clear hk); (try clear hi))))
    (try simp only [Act.put, List.setIfInBounds_toArray, List.set_cons_zero, List.set_cons_succ])
    go_cut [30] (fun v30 wc => ∃ (kq : Nat) (x30_16 : Bool), v30 = .bool x30_16 ∧ Aside0 (value_Reckon.j1 kq a0 x30_16 a1_0 a1_1 a1_2 a2_0 a2_1 a2_2 = some (r1, r2, r3, r4)) ∧ Aside0 (kq ≤ kj3) ∧ Aside0 (wc.heap[gb679]? = some (.cells #[.int .i64 a1_0, .int .i64 a1_1, .string a1_2] 23 (0, 0))) ∧ Aside0 (wc.heap[gb680]? = some (.cells #[.int .i64 a2_0, .int .i64 a2_1, .string a2_2] 23 (0, 0))) ∧ Aside0 (wc.heap[gb681]? = some (.cells #[.int .i64 x682000_3, .int .i64 x682001_3, .string x682002_3] 23 (0, 0))) ∧ Aside0 (Below w.heap.size w wc))
    case first =>
     have H := HC17.out
     clear HC17
     by_cases c24 : a1_0 = 0
     ·
      rw [if_pos c24] at H
      have c24b0 : (a1_0 == 0) = true := beq_iff_eq.mpr c24
      have c24b1 : (a1_0 != 0) = false := bne_eq_false_iff_eq.mpr c24
      clear c24
      (first | rw [c24b0] | (simp only [i64_w, i32_w]; rw [c24b0]) | skip)
      by_cases c25 : a2_0 = 0
      ·
       rw [if_pos c25] at H
       have c25b0 : (a2_0 == 0) = true := beq_iff_eq.mpr c25
       have c25b1 : (a2_0 != 0) = false := bne_eq_false_iff_eq.mpr c25
       clear c25
       have H' := Aside0.mk H
       clear H
       have hnb26 := NB679_680.out
       have hnc26 := NB680_679.out
       have hnb27 := NB679_681.out
       have hnc27 := NB681_679.out
       have hcz28_0 : w23.cell? ⟨gb679, 0, none⟩ = some (.int .i64 a1_0) := (blk_cell BK679.out 0).trans rfl
       have hcz28_1 : w23.cell? ⟨gb679, 1, none⟩ = some (.int .i64 a1_1) := (blk_cell BK679.out 1).trans rfl
       have hcz28_2 : w23.cell? ⟨gb679, 2, none⟩ = some (.string a1_2) := (blk_cell BK679.out 2).trans rfl
       have hfz28_0 := blk_frozen BK679.out 0
       have hfz28_1 := blk_frozen BK679.out 1
       have hfz28_2 := blk_frozen BK679.out 2
       have hnb29 := NB680_681.out
       have hnc29 := NB681_680.out
       have hcz30_0 : w23.cell? ⟨gb680, 0, none⟩ = some (.int .i64 a2_0) := (blk_cell BK680.out 0).trans rfl
       have hcz30_1 : w23.cell? ⟨gb680, 1, none⟩ = some (.int .i64 a2_1) := (blk_cell BK680.out 1).trans rfl
       have hcz30_2 : w23.cell? ⟨gb680, 2, none⟩ = some (.string a2_2) := (blk_cell BK680.out 2).trans rfl
       have hfz30_0 := blk_frozen BK680.out 0
       have hfz30_1 := blk_frozen BK680.out 1
       have hfz30_2 := blk_frozen BK680.out 2
       go_wp2
       repeat ((with_reducible refine at_region ?_); go_quiet (fail); try go_wp2)
       go_meet
       case rel => exact ⟨_, (false), (by first | rfl | (simp; done) | (simp [*]; done)), H', ⟨by have := HJ3.out; first | omega | exact Nat.le_refl _⟩, ⟨by (with_reducible repeat (first | refine blk_drewN ?_ _ | refine blk_drew ?_ | refine blk_alloc ?_ _)); exact BK679.out⟩, ⟨by (with_reducible repeat (first | refine blk_drewN ?_ _ | refine blk_drew ?_ | refine blk_alloc ?_ _)); exact BK680.out⟩, ⟨by (with_reducible repeat (first | refine blk_drewN ?_ _ | refine blk_drew ?_ | refine blk_alloc ?_ _)); exact BK681.out⟩, ⟨by repeat (first | (with_reducible first | exact HB.out | apply below_alloc | apply pw_below_drewN | apply below_drew1 | refine below_set ?_ GE679.out | refine below_set ?_ GE680.out | refine below_set ?_ GE681.out) | exact HB.out)⟩⟩
      ·
       rw [if_neg c25] at H
       have c25b0 : (a2_0 == 0) = false := beq_eq_false_iff_ne.mpr c25
       have c25b1 : (a2_0 != 0) = true := bne_iff_ne.mpr c25
       replace H := Option.bind_eq_some_iff.mp H
       obtain ⟨t683, A310, H⟩ := H
       replace H : (value_Reckon.j1 kj3 a0 (!t683) a1_0 a1_1 a1_2 a2_0 a2_1 a2_2) = some (r1, r2, r3, r4) := H
       have A31 := Aside0.mk A310
       clear A310
       have H' := Aside0.mk H
       clear H
       have hnb32 := NB679_680.out
       have hnc32 := NB680_679.out
       have hnb33 := NB679_681.out
       have hnc33 := NB681_679.out
       have hcz34_0 : w23.cell? ⟨gb679, 0, none⟩ = some (.int .i64 a1_0) := (blk_cell BK679.out 0).trans rfl
       have hcz34_1 : w23.cell? ⟨gb679, 1, none⟩ = some (.int .i64 a1_1) := (blk_cell BK679.out 1).trans rfl
       have hcz34_2 : w23.cell? ⟨gb679, 2, none⟩ = some (.string a1_2) := (blk_cell BK679.out 2).trans rfl
       have hfz34_0 := blk_frozen BK679.out 0
       have hfz34_1 := blk_frozen BK679.out 1
       have hfz34_2 := blk_frozen BK679.out 2
       have hnb35 := NB680_681.out
       have hnc35 := NB681_680.out
       have hcz36_0 : w23.cell? ⟨gb680, 0, none⟩ = some (.int .i64 a2_0) := (blk_cell BK680.out 0).trans rfl
       have hcz36_1 : w23.cell? ⟨gb680, 1, none⟩ = some (.int .i64 a2_1) := (blk_cell BK680.out 1).trans rfl
       have hcz36_2 : w23.cell? ⟨gb680, 2, none⟩ = some (.string a2_2) := (blk_cell BK680.out 2).trans rfl
       have hfz36_0 := blk_frozen BK680.out 0
       have hfz36_1 := blk_frozen BK680.out 1
       have hfz36_2 := blk_frozen BK680.out 2
       go_wp2_with (first | (go_at_call 15; (with_reducible refine (value_number.calls a2_0 a2_1 a2_2 t683 _ A31.out).mono ?_); rintro e w37 ⟨rfl, hb⟩; have n0_ := Aside0.mk (blk_below (g := gb679) (o := .cells #[.int .i64 a1_0, .int .i64 a1_1, .string a1_2] 23 (0, 0)) (by (with_reducible repeat (first | refine blk_drewN ?_ _ | refine blk_drew ?_ | refine blk_alloc ?_ _)); exact BK679.out) hb); have n1_ := Aside0.mk (blk_below (g := gb680) (o := .cells #[.int .i64 a2_0, .int .i64 a2_1, .string a2_2] 23 (0, 0)) (by (with_reducible repeat (first | refine blk_drewN ?_ _ | refine blk_drew ?_ | refine blk_alloc ?_ _)); exact BK680.out) hb); have n2_ := Aside0.mk (blk_below (g := gb681) (o := .cells #[.int .i64 x682000_3, .int .i64 x682001_3, .string x682002_3] 23 (0, 0)) (by (with_reducible repeat (first | refine blk_drewN ?_ _ | refine blk_drew ?_ | refine blk_alloc ?_ _)); exact BK681.out) hb); have n3_ := Aside0.mk (below_step (by repeat (first | (with_reducible first | exact HB.out | apply below_alloc | apply pw_below_drewN | apply below_drew1 | refine below_set ?_ GE679.out | refine below_set ?_ GE680.out | refine below_set ?_ GE681.out) | exact HB.out)) hb); clear BK679; clear BK680; clear BK681; clear HB; have BK679 := n0_; have BK680 := n1_; have BK681 := n2_; have HB := n3_; clear n0_ n1_ n2_ n3_; (try clear hb); (try clear hb2); (try clear hk); (try clear hi)))
       repeat ((with_reducible refine at_region ?_); go_quiet (first | (go_at_call 15; (with_reducible refine (value_number.calls a2_0 a2_1 a2_2 t683 _ A31.out).mono ?_); rintro e w37 ⟨rfl, hb⟩; have n0_ := Aside0.mk (blk_below (g := gb679) (o := .cells #[.int .i64 a1_0, .int .i64 a1_1, .string a1_2] 23 (0, 0)) (by (with_reducible repeat (first | refine blk_drewN ?_ _ | refine blk_drew ?_ | refine blk_alloc ?_ _)); exact BK679.out) hb); have n1_ := Aside0.mk (blk_below (g := gb680) (o := .cells #[.int .i64 a2_0, .int .i64 a2_1, .string a2_2] 23 (0, 0)) (by (with_reducible repeat (first | refine blk_drewN ?_ _ | refine blk_drew ?_ | refine blk_alloc ?_ _)); exact BK680.out) hb); have n2_ := Aside0.mk (blk_below (g := gb681) (o := .cells #[.int .i64 x682000_3, .int .i64 x682001_3, .string x682002_3] 23 (0, 0)) (by (with_reducible repeat (first | refine blk_drewN ?_ _ | refine blk_drew ?_ | refine blk_alloc ?_ _)); exact BK681.out) hb); have n3_ := Aside0.mk (below_step (by repeat (first | (with_reducible first | exact HB.out | apply below_alloc | apply pw_below_drewN | apply below_drew1 | refine below_set ?_ GE679.out | refine below_set ?_ GE680.out | refine below_set ?_ GE681.out) | exact HB.out)) hb); clear BK679; clear BK680; clear BK681; clear HB; have BK679 := n0_; have BK680 := n1_; have BK681 := n2_; have HB := n3_; clear n0_ n1_ n2_ n3_; (try clear hb); (try clear hb2); (try clear hk); (try clear hi))); try go_wp2_with (first | (go_at_call 15; (with_reducible refine (value_number.calls a2_0 a2_1 a2_2 t683 _ A31.out).mono ?_); rintro e w37 ⟨rfl, hb⟩; have n0_ := Aside0.mk (blk_below (g := gb679) (o := .cells #[.int .i64 a1_0, .int .i64 a1_1, .string a1_2] 23 (0, 0)) (by (with_reducible repeat (first | refine blk_drewN ?_ _ | refine blk_drew ?_ | refine blk_alloc ?_ _)); exact BK679.out) hb); have n1_ := Aside0.mk (blk_below (g := gb680) (o := .cells #[.int .i64 a2_0, .int .i64 a2_1, .string a2_2] 23 (0, 0)) (by (with_reducible repeat (first | refine blk_drewN ?_ _ | refine blk_drew ?_ | refine blk_alloc ?_ _)); exact BK680.out) hb); have n2_ := Aside0.mk (blk_below (g := gb681) (o := .cells #[.int .i64 x682000_3, .int .i64 x682001_3, .string x682002_3] 23 (0, 0)) (by (with_reducible repeat (first | refine blk_drewN ?_ _ | refine blk_drew ?_ | refine blk_alloc ?_ _)); exact BK681.out) hb); have n3_ := Aside0.mk (below_step (by repeat (first | (with_reducible first | exact HB.out | apply below_alloc | apply pw_below_drewN | apply below_drew1 | refine below_set ?_ GE679.out | refine below_set ?_ GE680.out | refine below_set ?_ GE681.out) | exact HB.out)) hb); clear BK679; clear BK680; clear BK681; clear HB; have BK679 := n0_; have BK680 := n1_; have BK681 := n2_; have HB := n3_; clear n0_ n1_ n2_ n3_; (try clear hb); (try clear hb2); (try clear hk); (try clear hi))))
       go_meet
       case rel => exact ⟨_, (!t683), (by first | rfl | (simp; done) | (simp [*]; done)), H', ⟨by have := HJ3.out; first | omega | exact Nat.le_refl _⟩, ⟨by (with_reducible repeat (first | refine blk_drewN ?_ _ | refine blk_drew ?_ | refine blk_alloc ?_ _)); exact BK679.out⟩, ⟨by (with_reducible repeat (first | refine blk_drewN ?_ _ | refine blk_drew ?_ | refine blk_alloc ?_ _)); exact BK680.out⟩, ⟨by (with_reducible repeat (first | refine blk_drewN ?_ _ | refine blk_drew ?_ | refine blk_alloc ?_ _)); exact BK681.out⟩, ⟨by repeat (first | (with_reducible first | exact HB.out | apply below_alloc | apply pw_below_drewN | apply below_drew1 | refine below_set ?_ GE679.out | refine below_set ?_ GE680.out | refine below_set ?_ GE681.out) | exact HB.out)⟩⟩
     ·
      rw [if_neg c24] at H
      have c24b0 : (a1_0 == 0) = false := beq_eq_false_iff_ne.mpr c24
      have c24b1 : (a1_0 != 0) = true := bne_iff_ne.mpr c24
      (first | rw [c24b0] | (simp only [i64_w, i32_w]; rw [c24b0]) | skip)
      replace H := Option.bind_eq_some_iff.mp H
      obtain ⟨t684, A380, H⟩ := H
      replace H : (if t684 = true then (if a2_0 = 0 then (value_Reckon.j1 kj3 a0 false a1_0 a1_1 a1_2 a2_0 a2_1 a2_2) else ((value_number.f a2_0 a2_1 a2_2).bind fun t685 => (value_Reckon.j1 kj3 a0 (!t685) a1_0 a1_1 a1_2 a2_0 a2_1 a2_2))) else (value_Reckon.j1 kj3 a0 true a1_0 a1_1 a1_2 a2_0 a2_1 a2_2)) = some (r1, r2, r3, r4) := H
      have A38 := Aside0.mk A380
      clear A380
      by_cases c39 : t684 = true
      ·
       subst c39
       have H1 : (if a2_0 = 0 then (value_Reckon.j1 kj3 a0 false a1_0 a1_1 a1_2 a2_0 a2_1 a2_2) else ((value_number.f a2_0 a2_1 a2_2).bind fun t685 => (value_Reckon.j1 kj3 a0 (!t685) a1_0 a1_1 a1_2 a2_0 a2_1 a2_2))) = some (r1, r2, r3, r4) := by rw [if_pos rfl] at H; exact H
       clear H
       have H := H1
       clear H1
       by_cases c40 : a2_0 = 0
       ·
        rw [if_pos c40] at H
        have c40b0 : (a2_0 == 0) = true := beq_iff_eq.mpr c40
        have c40b1 : (a2_0 != 0) = false := bne_eq_false_iff_eq.mpr c40
        clear c40
        have H' := Aside0.mk H
        clear H
        have hnb41 := NB679_680.out
        have hnc41 := NB680_679.out
        have hnb42 := NB679_681.out
        have hnc42 := NB681_679.out
        have hcz43_0 : w23.cell? ⟨gb679, 0, none⟩ = some (.int .i64 a1_0) := (blk_cell BK679.out 0).trans rfl
        have hcz43_1 : w23.cell? ⟨gb679, 1, none⟩ = some (.int .i64 a1_1) := (blk_cell BK679.out 1).trans rfl
        have hcz43_2 : w23.cell? ⟨gb679, 2, none⟩ = some (.string a1_2) := (blk_cell BK679.out 2).trans rfl
        have hfz43_0 := blk_frozen BK679.out 0
        have hfz43_1 := blk_frozen BK679.out 1
        have hfz43_2 := blk_frozen BK679.out 2
        go_wp2_with (first | (go_at_call 15; (with_reducible refine (value_number.calls a1_0 a1_1 a1_2 true _ A38.out).mono ?_); rintro e w44 ⟨rfl, hb⟩; have n0_ := Aside0.mk (blk_below (g := gb679) (o := .cells #[.int .i64 a1_0, .int .i64 a1_1, .string a1_2] 23 (0, 0)) (by (with_reducible repeat (first | refine blk_drewN ?_ _ | refine blk_drew ?_ | refine blk_alloc ?_ _)); exact BK679.out) hb); have n1_ := Aside0.mk (blk_below (g := gb680) (o := .cells #[.int .i64 a2_0, .int .i64 a2_1, .string a2_2] 23 (0, 0)) (by (with_reducible repeat (first | refine blk_drewN ?_ _ | refine blk_drew ?_ | refine blk_alloc ?_ _)); exact BK680.out) hb); have n2_ := Aside0.mk (blk_below (g := gb681) (o := .cells #[.int .i64 x682000_3, .int .i64 x682001_3, .string x682002_3] 23 (0, 0)) (by (with_reducible repeat (first | refine blk_drewN ?_ _ | refine blk_drew ?_ | refine blk_alloc ?_ _)); exact BK681.out) hb); have n3_ := Aside0.mk (below_step (by repeat (first | (with_reducible first | exact HB.out | apply below_alloc | apply pw_below_drewN | apply below_drew1 | refine below_set ?_ GE679.out | refine below_set ?_ GE680.out | refine below_set ?_ GE681.out) | exact HB.out)) hb); clear BK679; clear BK680; clear BK681; clear HB; have BK679 := n0_; have BK680 := n1_; have BK681 := n2_; have HB := n3_; clear n0_ n1_ n2_ n3_; (try clear hb); (try clear hb2); (try clear hk); (try clear hi); have hnb45 := NB680_681.out; have hnc45 := NB681_680.out; have hcz46_0 : w44.cell? ⟨gb680, 0, none⟩ = some (.int .i64 a2_0) := (blk_cell BK680.out 0).trans rfl; have hcz46_1 : w44.cell? ⟨gb680, 1, none⟩ = some (.int .i64 a2_1) := (blk_cell BK680.out 1).trans rfl; have hcz46_2 : w44.cell? ⟨gb680, 2, none⟩ = some (.string a2_2) := (blk_cell BK680.out 2).trans rfl; have hfz46_0 := blk_frozen BK680.out 0; have hfz46_1 := blk_frozen BK680.out 1; have hfz46_2 := blk_frozen BK680.out 2))
        repeat ((with_reducible refine at_region ?_); go_quiet (first | (go_at_call 15; (with_reducible refine (value_number.calls a1_0 a1_1 a1_2 true _ A38.out).mono ?_); rintro e w44 ⟨rfl, hb⟩; have n0_ := Aside0.mk (blk_below (g := gb679) (o := .cells #[.int .i64 a1_0, .int .i64 a1_1, .string a1_2] 23 (0, 0)) (by (with_reducible repeat (first | refine blk_drewN ?_ _ | refine blk_drew ?_ | refine blk_alloc ?_ _)); exact BK679.out) hb); have n1_ := Aside0.mk (blk_below (g := gb680) (o := .cells #[.int .i64 a2_0, .int .i64 a2_1, .string a2_2] 23 (0, 0)) (by (with_reducible repeat (first | refine blk_drewN ?_ _ | refine blk_drew ?_ | refine blk_alloc ?_ _)); exact BK680.out) hb); have n2_ := Aside0.mk (blk_below (g := gb681) (o := .cells #[.int .i64 x682000_3, .int .i64 x682001_3, .string x682002_3] 23 (0, 0)) (by (with_reducible repeat (first | refine blk_drewN ?_ _ | refine blk_drew ?_ | refine blk_alloc ?_ _)); exact BK681.out) hb); have n3_ := Aside0.mk (below_step (by repeat (first | (with_reducible first | exact HB.out | apply below_alloc | apply pw_below_drewN | apply below_drew1 | refine below_set ?_ GE679.out | refine below_set ?_ GE680.out | refine below_set ?_ GE681.out) | exact HB.out)) hb); clear BK679; clear BK680; clear BK681; clear HB; have BK679 := n0_; have BK680 := n1_; have BK681 := n2_; have HB := n3_; clear n0_ n1_ n2_ n3_; (try clear hb); (try clear hb2); (try clear hk); (try clear hi); have hnb45 := NB680_681.out; have hnc45 := NB681_680.out; have hcz46_0 : w44.cell? ⟨gb680, 0, none⟩ = some (.int .i64 a2_0) := (blk_cell BK680.out 0).trans rfl; have hcz46_1 : w44.cell? ⟨gb680, 1, none⟩ = some (.int .i64 a2_1) := (blk_cell BK680.out 1).trans rfl; have hcz46_2 : w44.cell? ⟨gb680, 2, none⟩ = some (.string a2_2) := (blk_cell BK680.out 2).trans rfl; have hfz46_0 := blk_frozen BK680.out 0; have hfz46_1 := blk_frozen BK680.out 1; have hfz46_2 := blk_frozen BK680.out 2)); try go_wp2_with (first | (go_at_call 15; (with_reducible refine (value_number.calls a1_0 a1_1 a1_2 true _ A38.out).mono ?_); rintro e w44 ⟨rfl, hb⟩; have n0_ := Aside0.mk (blk_below (g := gb679) (o := .cells #[.int .i64 a1_0, .int .i64 a1_1, .string a1_2] 23 (0, 0)) (by (with_reducible repeat (first | refine blk_drewN ?_ _ | refine blk_drew ?_ | refine blk_alloc ?_ _)); exact BK679.out) hb); have n1_ := Aside0.mk (blk_below (g := gb680) (o := .cells #[.int .i64 a2_0, .int .i64 a2_1, .string a2_2] 23 (0, 0)) (by (with_reducible repeat (first | refine blk_drewN ?_ _ | refine blk_drew ?_ | refine blk_alloc ?_ _)); exact BK680.out) hb); have n2_ := Aside0.mk (blk_below (g := gb681) (o := .cells #[.int .i64 x682000_3, .int .i64 x682001_3, .string x682002_3] 23 (0, 0)) (by (with_reducible repeat (first | refine blk_drewN ?_ _ | refine blk_drew ?_ | refine blk_alloc ?_ _)); exact BK681.out) hb); have n3_ := Aside0.mk (below_step (by repeat (first | (with_reducible first | exact HB.out | apply below_alloc | apply pw_below_drewN | apply below_drew1 | refine below_set ?_ GE679.out | refine below_set ?_ GE680.out | refine below_set ?_ GE681.out) | exact HB.out)) hb); clear BK679; clear BK680; clear BK681; clear HB; have BK679 := n0_; have BK680 := n1_; have BK681 := n2_; have HB := n3_; clear n0_ n1_ n2_ n3_; (try clear hb); (try clear hb2); (try clear hk); (try clear hi); have hnb45 := NB680_681.out; have hnc45 := NB681_680.out; have hcz46_0 : w44.cell? ⟨gb680, 0, none⟩ = some (.int .i64 a2_0) := (blk_cell BK680.out 0).trans rfl; have hcz46_1 : w44.cell? ⟨gb680, 1, none⟩ = some (.int .i64 a2_1) := (blk_cell BK680.out 1).trans rfl; have hcz46_2 : w44.cell? ⟨gb680, 2, none⟩ = some (.string a2_2) := (blk_cell BK680.out 2).trans rfl; have hfz46_0 := blk_frozen BK680.out 0; have hfz46_1 := blk_frozen BK680.out 1; have hfz46_2 := blk_frozen BK680.out 2)))
        go_meet
        case rel => exact ⟨_, (false), (by first | rfl | (simp; done) | (simp [*]; done)), H', ⟨by have := HJ3.out; first | omega | exact Nat.le_refl _⟩, ⟨by (with_reducible repeat (first | refine blk_drewN ?_ _ | refine blk_drew ?_ | refine blk_alloc ?_ _)); exact BK679.out⟩, ⟨by (with_reducible repeat (first | refine blk_drewN ?_ _ | refine blk_drew ?_ | refine blk_alloc ?_ _)); exact BK680.out⟩, ⟨by (with_reducible repeat (first | refine blk_drewN ?_ _ | refine blk_drew ?_ | refine blk_alloc ?_ _)); exact BK681.out⟩, ⟨by repeat (first | (with_reducible first | exact HB.out | apply below_alloc | apply pw_below_drewN | apply below_drew1 | refine below_set ?_ GE679.out | refine below_set ?_ GE680.out | refine below_set ?_ GE681.out) | exact HB.out)⟩⟩
       ·
        rw [if_neg c40] at H
        have c40b0 : (a2_0 == 0) = false := beq_eq_false_iff_ne.mpr c40
        have c40b1 : (a2_0 != 0) = true := bne_iff_ne.mpr c40
        replace H := Option.bind_eq_some_iff.mp H
        obtain ⟨t685, A470, H⟩ := H
        replace H : (value_Reckon.j1 kj3 a0 (!t685) a1_0 a1_1 a1_2 a2_0 a2_1 a2_2) = some (r1, r2, r3, r4) := H
        have A47 := Aside0.mk A470
        clear A470
        have H' := Aside0.mk H
        clear H
        have hnb48 := NB679_680.out
        have hnc48 := NB680_679.out
        have hnb49 := NB679_681.out
        have hnc49 := NB681_679.out
        have hcz50_0 : w23.cell? ⟨gb679, 0, none⟩ = some (.int .i64 a1_0) := (blk_cell BK679.out 0).trans rfl
        have hcz50_1 : w23.cell? ⟨gb679, 1, none⟩ = some (.int .i64 a1_1) := (blk_cell BK679.out 1).trans rfl
        have hcz50_2 : w23.cell? ⟨gb679, 2, none⟩ = some (.string a1_2) := (blk_cell BK679.out 2).trans rfl
        have hfz50_0 := blk_frozen BK679.out 0
        have hfz50_1 := blk_frozen BK679.out 1
        have hfz50_2 := blk_frozen BK679.out 2
        go_wp2_with (first | (go_at_call 15; (with_reducible refine (value_number.calls a1_0 a1_1 a1_2 true _ A38.out).mono ?_); rintro e w51 ⟨rfl, hb⟩; have n0_ := Aside0.mk (blk_below (g := gb679) (o := .cells #[.int .i64 a1_0, .int .i64 a1_1, .string a1_2] 23 (0, 0)) (by (with_reducible repeat (first | refine blk_drewN ?_ _ | refine blk_drew ?_ | refine blk_alloc ?_ _)); exact BK679.out) hb); have n1_ := Aside0.mk (blk_below (g := gb680) (o := .cells #[.int .i64 a2_0, .int .i64 a2_1, .string a2_2] 23 (0, 0)) (by (with_reducible repeat (first | refine blk_drewN ?_ _ | refine blk_drew ?_ | refine blk_alloc ?_ _)); exact BK680.out) hb); have n2_ := Aside0.mk (blk_below (g := gb681) (o := .cells #[.int .i64 x682000_3, .int .i64 x682001_3, .string x682002_3] 23 (0, 0)) (by (with_reducible repeat (first | refine blk_drewN ?_ _ | refine blk_drew ?_ | refine blk_alloc ?_ _)); exact BK681.out) hb); have n3_ := Aside0.mk (below_step (by repeat (first | (with_reducible first | exact HB.out | apply below_alloc | apply pw_below_drewN | apply below_drew1 | refine below_set ?_ GE679.out | refine below_set ?_ GE680.out | refine below_set ?_ GE681.out) | exact HB.out)) hb); clear BK679; clear BK680; clear BK681; clear HB; have BK679 := n0_; have BK680 := n1_; have BK681 := n2_; have HB := n3_; clear n0_ n1_ n2_ n3_; (try clear hb); (try clear hb2); (try clear hk); (try clear hi); have hnb52 := NB680_681.out; have hnc52 := NB681_680.out; have hcz53_0 : w51.cell? ⟨gb680, 0, none⟩ = some (.int .i64 a2_0) := (blk_cell BK680.out 0).trans rfl; have hcz53_1 : w51.cell? ⟨gb680, 1, none⟩ = some (.int .i64 a2_1) := (blk_cell BK680.out 1).trans rfl; have hcz53_2 : w51.cell? ⟨gb680, 2, none⟩ = some (.string a2_2) := (blk_cell BK680.out 2).trans rfl; have hfz53_0 := blk_frozen BK680.out 0; have hfz53_1 := blk_frozen BK680.out 1; have hfz53_2 := blk_frozen BK680.out 2) | (go_at_call 15; (with_reducible refine (value_number.calls a2_0 a2_1 a2_2 t685 _ A47.out).mono ?_); rintro e w54 ⟨rfl, hb⟩; have n0_ := Aside0.mk (blk_below (g := gb679) (o := .cells #[.int .i64 a1_0, .int .i64 a1_1, .string a1_2] 23 (0, 0)) (by (with_reducible repeat (first | refine blk_drewN ?_ _ | refine blk_drew ?_ | refine blk_alloc ?_ _)); exact BK679.out) hb); have n1_ := Aside0.mk (blk_below (g := gb680) (o := .cells #[.int .i64 a2_0, .int .i64 a2_1, .string a2_2] 23 (0, 0)) (by (with_reducible repeat (first | refine blk_drewN ?_ _ | refine blk_drew ?_ | refine blk_alloc ?_ _)); exact BK680.out) hb); have n2_ := Aside0.mk (blk_below (g := gb681) (o := .cells #[.int .i64 x682000_3, .int .i64 x682001_3, .string x682002_3] 23 (0, 0)) (by (with_reducible repeat (first | refine blk_drewN ?_ _ | refine blk_drew ?_ | refine blk_alloc ?_ _)); exact BK681.out) hb); have n3_ := Aside0.mk (below_step (by repeat (first | (with_reducible first | exact HB.out | apply below_alloc | apply pw_below_drewN | apply below_drew1 | refine below_set ?_ GE679.out | refine below_set ?_ GE680.out | refine below_set ?_ GE681.out) | exact HB.out)) hb); clear BK679; clear BK680; clear BK681; clear HB; have BK679 := n0_; have BK680 := n1_; have BK681 := n2_; have HB := n3_; clear n0_ n1_ n2_ n3_; (try clear hb); (try clear hb2); (try clear hk); (try clear hi)))
        repeat ((with_reducible refine at_region ?_); go_quiet (first | (go_at_call 15; (with_reducible refine (value_number.calls a1_0 a1_1 a1_2 true _ A38.out).mono ?_); rintro e w51 ⟨rfl, hb⟩; have n0_ := Aside0.mk (blk_below (g := gb679) (o := .cells #[.int .i64 a1_0, .int .i64 a1_1, .string a1_2] 23 (0, 0)) (by (with_reducible repeat (first | refine blk_drewN ?_ _ | refine blk_drew ?_ | refine blk_alloc ?_ _)); exact BK679.out) hb); have n1_ := Aside0.mk (blk_below (g := gb680) (o := .cells #[.int .i64 a2_0, .int .i64 a2_1, .string a2_2] 23 (0, 0)) (by (with_reducible repeat (first | refine blk_drewN ?_ _ | refine blk_drew ?_ | refine blk_alloc ?_ _)); exact BK680.out) hb); have n2_ := Aside0.mk (blk_below (g := gb681) (o := .cells #[.int .i64 x682000_3, .int .i64 x682001_3, .string x682002_3] 23 (0, 0)) (by (with_reducible repeat (first | refine blk_drewN ?_ _ | refine blk_drew ?_ | refine blk_alloc ?_ _)); exact BK681.out) hb); have n3_ := Aside0.mk (below_step (by repeat (first | (with_reducible first | exact HB.out | apply below_alloc | apply pw_below_drewN | apply below_drew1 | refine below_set ?_ GE679.out | refine below_set ?_ GE680.out | refine below_set ?_ GE681.out) | exact HB.out)) hb); clear BK679; clear BK680; clear BK681; clear HB; have BK679 := n0_; have BK680 := n1_; have BK681 := n2_; have HB := n3_; clear n0_ n1_ n2_ n3_; (try clear hb); (try clear hb2); (try clear hk); (try clear hi); have hnb52 := NB680_681.out; have hnc52 := NB681_680.out; have hcz53_0 : w51.cell? ⟨gb680, 0, none⟩ = some (.int .i64 a2_0) := (blk_cell BK680.out 0).trans rfl; have hcz53_1 : w51.cell? ⟨gb680, 1, none⟩ = some (.int .i64 a2_1) := (blk_cell BK680.out 1).trans rfl; have hcz53_2 : w51.cell? ⟨gb680, 2, none⟩ = some (.string a2_2) := (blk_cell BK680.out 2).trans rfl; have hfz53_0 := blk_frozen BK680.out 0; have hfz53_1 := blk_frozen BK680.out 1; have hfz53_2 := blk_frozen BK680.out 2) | (go_at_call 15; (with_reducible refine (value_number.calls a2_0 a2_1 a2_2 t685 _ A47.out).mono ?_); rintro e w54 ⟨rfl, hb⟩; have n0_ := Aside0.mk (blk_below (g := gb679) (o := .cells #[.int .i64 a1_0, .int .i64 a1_1, .string a1_2] 23 (0, 0)) (by (with_reducible repeat (first | refine blk_drewN ?_ _ | refine blk_drew ?_ | refine blk_alloc ?_ _)); exact BK679.out) hb); have n1_ := Aside0.mk (blk_below (g := gb680) (o := .cells #[.int .i64 a2_0, .int .i64 a2_1, .string a2_2] 23 (0, 0)) (by (with_reducible repeat (first | refine blk_drewN ?_ _ | refine blk_drew ?_ | refine blk_alloc ?_ _)); exact BK680.out) hb); have n2_ := Aside0.mk (blk_below (g := gb681) (o := .cells #[.int .i64 x682000_3, .int .i64 x682001_3, .string x682002_3] 23 (0, 0)) (by (with_reducible repeat (first | refine blk_drewN ?_ _ | refine blk_drew ?_ | refine blk_alloc ?_ _)); exact BK681.out) hb); have n3_ := Aside0.mk (below_step (by repeat (first | (with_reducible first | exact HB.out | apply below_alloc | apply pw_below_drewN | apply below_drew1 | refine below_set ?_ GE679.out | refine below_set ?_ GE680.out | refine below_set ?_ GE681.out) | exact HB.out)) hb); clear BK679; clear BK680; clear BK681; clear HB; have BK679 := n0_; have BK680 := n1_; have BK681 := n2_; have HB := n3_; clear n0_ n1_ n2_ n3_; (try clear hb); (try clear hb2); (try clear hk); (try clear hi))); try go_wp2_with (first | (go_at_call 15; (with_reducible refine (value_number.calls a1_0 a1_1 a1_2 true _ A38.out).mono ?_); rintro e w51 ⟨rfl, hb⟩; have n0_ := Aside0.mk (blk_below (g := gb679) (o := .cells #[.int .i64 a1_0, .int .i64 a1_1, .string a1_2] 23 (0, 0)) (by (with_reducible repeat (first | refine blk_drewN ?_ _ | refine blk_drew ?_ | refine blk_alloc ?_ _)); exact BK679.out) hb); have n1_ := Aside0.mk (blk_below (g := gb680) (o := .cells #[.int .i64 a2_0, .int .i64 a2_1, .string a2_2] 23 (0, 0)) (by (with_reducible repeat (first | refine blk_drewN ?_ _ | refine blk_drew ?_ | refine blk_alloc ?_ _)); exact BK680.out) hb); have n2_ := Aside0.mk (blk_below (g := gb681) (o := .cells #[.int .i64 x682000_3, .int .i64 x682001_3, .string x682002_3] 23 (0, 0)) (by (with_reducible repeat (first | refine blk_drewN ?_ _ | refine blk_drew ?_ | refine blk_alloc ?_ _)); exact BK681.out) hb); have n3_ := Aside0.mk (below_step (by repeat (first | (with_reducible first | exact HB.out | apply below_alloc | apply pw_below_drewN | apply below_drew1 | refine below_set ?_ GE679.out | refine below_set ?_ GE680.out | refine below_set ?_ GE681.out) | exact HB.out)) hb); clear BK679; clear BK680; clear BK681; clear HB; have BK679 := n0_; have BK680 := n1_; have BK681 := n2_; have HB := n3_; clear n0_ n1_ n2_ n3_; (try clear hb); (try clear hb2); (try clear hk); (try clear hi); have hnb52 := NB680_681.out; have hnc52 := NB681_680.out; have hcz53_0 : w51.cell? ⟨gb680, 0, none⟩ = some (.int .i64 a2_0) := (blk_cell BK680.out 0).trans rfl; have hcz53_1 : w51.cell? ⟨gb680, 1, none⟩ = some (.int .i64 a2_1) := (blk_cell BK680.out 1).trans rfl; have hcz53_2 : w51.cell? ⟨gb680, 2, none⟩ = some (.string a2_2) := (blk_cell BK680.out 2).trans rfl; have hfz53_0 := blk_frozen BK680.out 0; have hfz53_1 := blk_frozen BK680.out 1; have hfz53_2 := blk_frozen BK680.out 2) | (go_at_call 15; (with_reducible refine (value_number.calls a2_0 a2_1 a2_2 t685 _ A47.out).mono ?_); rintro e w54 ⟨rfl, hb⟩; have n0_ := Aside0.mk (blk_below (g := gb679) (o := .cells #[.int .i64 a1_0, .int .i64 a1_1, .string a1_2] 23 (0, 0)) (by (with_reducible repeat (first | refine blk_drewN ?_ _ | refine blk_drew ?_ | refine blk_alloc ?_ _)); exact BK679.out) hb); have n1_ := Aside0.mk (blk_below (g := gb680) (o := .cells #[.int .i64 a2_0, .int .i64 a2_1, .string a2_2] 23 (0, 0)) (by (with_reducible repeat (first | refine blk_drewN ?_ _ | refine blk_drew ?_ | refine blk_alloc ?_ _)); exact BK680.out) hb); have n2_ := Aside0.mk (blk_below (g := gb681) (o := .cells #[.int .i64 x682000_3, .int .i64 x682001_3, .string x682002_3] 23 (0, 0)) (by (with_reducible repeat (first | refine blk_drewN ?_ _ | refine blk_drew ?_ | refine blk_alloc ?_ _)); exact BK681.out) hb); have n3_ := Aside0.mk (below_step (by repeat (first | (with_reducible first | exact HB.out | apply below_alloc | apply pw_below_drewN | apply below_drew1 | refine below_set ?_ GE679.out | refine below_set ?_ GE680.out | refine below_set ?_ GE681.out) | exact HB.out)) hb); clear BK679; clear BK680; clear BK681; clear HB; have BK679 := n0_; have BK680 := n1_; have BK681 := n2_; have HB := n3_; clear n0_ n1_ n2_ n3_; (try clear hb); (try clear hb2); (try clear hk); (try clear hi))))
        go_meet
        case rel => exact ⟨_, (!t685), (by first | rfl | (simp; done) | (simp [*]; done)), H', ⟨by have := HJ3.out; first | omega | exact Nat.le_refl _⟩, ⟨by (with_reducible repeat (first | refine blk_drewN ?_ _ | refine blk_drew ?_ | refine blk_alloc ?_ _)); exact BK679.out⟩, ⟨by (with_reducible repeat (first | refine blk_drewN ?_ _ | refine blk_drew ?_ | refine blk_alloc ?_ _)); exact BK680.out⟩, ⟨by (with_reducible repeat (first | refine blk_drewN ?_ _ | refine blk_drew ?_ | refine blk_alloc ?_ _)); exact BK681.out⟩, ⟨by repeat (first | (with_reducible first | exact HB.out | apply below_alloc | apply pw_below_drewN | apply below_drew1 | refine below_set ?_ GE679.out | refine below_set ?_ GE680.out | refine below_set ?_ GE681.out) | exact HB.out)⟩⟩
      ·
       replace c39 := Bool.eq_false_iff.mpr c39
       subst c39
       have H1 : (value_Reckon.j1 kj3 a0 true a1_0 a1_1 a1_2 a2_0 a2_1 a2_2) = some (r1, r2, r3, r4) := by rw [if_neg (show ¬ (false = true) by decide)] at H; exact H
       clear H
       have H := H1
       clear H1
       have H' := Aside0.mk H
       clear H
       have hnb55 := NB679_680.out
       have hnc55 := NB680_679.out
       have hnb56 := NB679_681.out
       have hnc56 := NB681_679.out
       have hcz57_0 : w23.cell? ⟨gb679, 0, none⟩ = some (.int .i64 a1_0) := (blk_cell BK679.out 0).trans rfl
       have hcz57_1 : w23.cell? ⟨gb679, 1, none⟩ = some (.int .i64 a1_1) := (blk_cell BK679.out 1).trans rfl
       have hcz57_2 : w23.cell? ⟨gb679, 2, none⟩ = some (.string a1_2) := (blk_cell BK679.out 2).trans rfl
       have hfz57_0 := blk_frozen BK679.out 0
       have hfz57_1 := blk_frozen BK679.out 1
       have hfz57_2 := blk_frozen BK679.out 2
       go_wp2_with (first | (go_at_call 15; (with_reducible refine (value_number.calls a1_0 a1_1 a1_2 false _ A38.out).mono ?_); rintro e w58 ⟨rfl, hb⟩; have n0_ := Aside0.mk (blk_below (g := gb679) (o := .cells #[.int .i64 a1_0, .int .i64 a1_1, .string a1_2] 23 (0, 0)) (by (with_reducible repeat (first | refine blk_drewN ?_ _ | refine blk_drew ?_ | refine blk_alloc ?_ _)); exact BK679.out) hb); have n1_ := Aside0.mk (blk_below (g := gb680) (o := .cells #[.int .i64 a2_0, .int .i64 a2_1, .string a2_2] 23 (0, 0)) (by (with_reducible repeat (first | refine blk_drewN ?_ _ | refine blk_drew ?_ | refine blk_alloc ?_ _)); exact BK680.out) hb); have n2_ := Aside0.mk (blk_below (g := gb681) (o := .cells #[.int .i64 x682000_3, .int .i64 x682001_3, .string x682002_3] 23 (0, 0)) (by (with_reducible repeat (first | refine blk_drewN ?_ _ | refine blk_drew ?_ | refine blk_alloc ?_ _)); exact BK681.out) hb); have n3_ := Aside0.mk (below_step (by repeat (first | (with_reducible first | exact HB.out | apply below_alloc | apply pw_below_drewN | apply below_drew1 | refine below_set ?_ GE679.out | refine below_set ?_ GE680.out | refine below_set ?_ GE681.out) | exact HB.out)) hb); clear BK679; clear BK680; clear BK681; clear HB; have BK679 := n0_; have BK680 := n1_; have BK681 := n2_; have HB := n3_; clear n0_ n1_ n2_ n3_; (try clear hb); (try clear hb2); (try clear hk); (try clear hi)))
       repeat ((with_reducible refine at_region ?_); go_quiet (first | (go_at_call 15; (with_reducible refine (value_number.calls a1_0 a1_1 a1_2 false _ A38.out).mono ?_); rintro e w58 ⟨rfl, hb⟩; have n0_ := Aside0.mk (blk_below (g := gb679) (o := .cells #[.int .i64 a1_0, .int .i64 a1_1, .string a1_2] 23 (0, 0)) (by (with_reducible repeat (first | refine blk_drewN ?_ _ | refine blk_drew ?_ | refine blk_alloc ?_ _)); exact BK679.out) hb); have n1_ := Aside0.mk (blk_below (g := gb680) (o := .cells #[.int .i64 a2_0, .int .i64 a2_1, .string a2_2] 23 (0, 0)) (by (with_reducible repeat (first | refine blk_drewN ?_ _ | refine blk_drew ?_ | refine blk_alloc ?_ _)); exact BK680.out) hb); have n2_ := Aside0.mk (blk_below (g := gb681) (o := .cells #[.int .i64 x682000_3, .int .i64 x682001_3, .string x682002_3] 23 (0, 0)) (by (with_reducible repeat (first | refine blk_drewN ?_ _ | refine blk_drew ?_ | refine blk_alloc ?_ _)); exact BK681.out) hb); have n3_ := Aside0.mk (below_step (by repeat (first | (with_reducible first | exact HB.out | apply below_alloc | apply pw_below_drewN | apply below_drew1 | refine below_set ?_ GE679.out | refine below_set ?_ GE680.out | refine below_set ?_ GE681.out) | exact HB.out)) hb); clear BK679; clear BK680; clear BK681; clear HB; have BK679 := n0_; have BK680 := n1_; have BK681 := n2_; have HB := n3_; clear n0_ n1_ n2_ n3_; (try clear hb); (try clear hb2); (try clear hk); (try clear hi))); try go_wp2_with (first | (go_at_call 15; (with_reducible refine (value_number.calls a1_0 a1_1 a1_2 false _ A38.out).mono ?_); rintro e w58 ⟨rfl, hb⟩; have n0_ := Aside0.mk (blk_below (g := gb679) (o := .cells #[.int .i64 a1_0, .int .i64 a1_1, .string a1_2] 23 (0, 0)) (by (with_reducible repeat (first | refine blk_drewN ?_ _ | refine blk_drew ?_ | refine blk_alloc ?_ _)); exact BK679.out) hb); have n1_ := Aside0.mk (blk_below (g := gb680) (o := .cells #[.int .i64 a2_0, .int .i64 a2_1, .string a2_2] 23 (0, 0)) (by (with_reducible repeat (first | refine blk_drewN ?_ _ | refine blk_drew ?_ | refine blk_alloc ?_ _)); exact BK680.out) hb); have n2_ := Aside0.mk (blk_below (g := gb681) (o := .cells #[.int .i64 x682000_3, .int .i64 x682001_3, .string x682002_3] 23 (0, 0)) (by (with_reducible repeat (first | refine blk_drewN ?_ _ | refine blk_drew ?_ | refine blk_alloc ?_ _)); exact BK681.out) hb); have n3_ := Aside0.mk (below_step (by repeat (first | (with_reducible first | exact HB.out | apply below_alloc | apply pw_below_drewN | apply below_drew1 | refine below_set ?_ GE679.out | refine below_set ?_ GE680.out | refine below_set ?_ GE681.out) | exact HB.out)) hb); clear BK679; clear BK680; clear BK681; clear HB; have BK679 := n0_; have BK680 := n1_; have BK681 := n2_; have HB := n3_; clear n0_ n1_ n2_ n3_; (try clear hb); (try clear hb2); (try clear hk); (try clear hi))))
       go_meet
       case rel => exact ⟨_, (true), (by first | rfl | (simp; done) | (simp [*]; done)), H', ⟨by have := HJ3.out; first | omega | exact Nat.le_refl _⟩, ⟨by (with_reducible repeat (first | refine blk_drewN ?_ _ | refine blk_drew ?_ | refine blk_alloc ?_ _)); exact BK679.out⟩, ⟨by (with_reducible repeat (first | refine blk_drewN ?_ _ | refine blk_drew ?_ | refine blk_alloc ?_ _)); exact BK680.out⟩, ⟨by (with_reducible repeat (first | refine blk_drewN ?_ _ | refine blk_drew ?_ | refine blk_alloc ?_ _)); exact BK681.out⟩, ⟨by repeat (first | (with_reducible first | exact HB.out | apply below_alloc | apply pw_below_drewN | apply below_drew1 | refine below_set ?_ GE679.out | refine below_set ?_ GE680.out | refine below_set ?_ GE681.out) | exact HB.out)⟩⟩
    case rest =>
     clear HC17
     (try clear c1); (try clear c2); (try clear p2); (try clear c3); (try clear c4); (try clear c5); (try clear c8); (try clear c8b0); (try clear c8b1); (try clear c9); (try clear c9b0); (try clear c9b1); (try clear c10); (try clear c10b0); (try clear c10b1); (try clear c11); (try clear c11b0); (try clear c11b1); (try clear c12); (try clear c13); (try clear c16); (try clear c16b0); (try clear c16b1); (try clear c18)
     (try clear c19); (try clear c21); (try clear c24); (try clear c24b0); (try clear c24b1); (try clear c25); (try clear c25b0); (try clear c25b1); (try clear c26); (try clear c27); (try clear c28); (try clear c29); (try clear c32); (try clear c33); (try clear c35); (try clear c39); (try clear c40); (try clear c40b0); (try clear c40b1); (try clear c41); (try clear c42); (try clear c45); (try clear c48)
     (try clear c49); (try clear c52); (try clear c55); (try clear c56); (try clear hcz14_0); (try clear hcz14_1); (try clear hcz14_2); (try clear hcz20_0); (try clear hcz20_1); (try clear hcz20_2); (try clear hcz22_0); (try clear hcz22_1); (try clear hcz22_2); (try clear hcz28_0); (try clear hcz28_1); (try clear hcz28_2); (try clear hcz30_0); (try clear hcz30_1); (try clear hcz30_2); (try clear hcz34_0)
     (try clear hcz34_1); (try clear hcz34_2); (try clear hcz36_0); (try clear hcz36_1); (try clear hcz36_2); (try clear hcz43_0); (try clear hcz43_1); (try clear hcz43_2); (try clear hcz46_0); (try clear hcz46_1); (try clear hcz46_2); (try clear hcz50_0); (try clear hcz50_1); (try clear hcz50_2); (try clear hcz53_0); (try clear hcz53_1); (try clear hcz53_2); (try clear hcz57_0); (try clear hcz57_1); (try clear hcz57_2)
     (try clear hfz14_0); (try clear hfz14_1); (try clear hfz14_2); (try clear hfz20_0); (try clear hfz20_1); (try clear hfz20_2); (try clear hfz22_0); (try clear hfz22_1); (try clear hfz22_2); (try clear hfz28_0); (try clear hfz28_1); (try clear hfz28_2); (try clear hfz30_0); (try clear hfz30_1); (try clear hfz30_2); (try clear hfz34_0); (try clear hfz34_1); (try clear hfz34_2); (try clear hfz36_0); (try clear hfz36_1)
     (try clear hfz36_2); (try clear hfz43_0); (try clear hfz43_1); (try clear hfz43_2); (try clear hfz46_0); (try clear hfz46_1); (try clear hfz46_2); (try clear hfz50_0); (try clear hfz50_1); (try clear hfz50_2); (try clear hfz53_0); (try clear hfz53_1); (try clear hfz53_2); (try clear hfz57_0); (try clear hfz57_1); (try clear hfz57_2); (try clear p2)
     obtain ⟨kq, x30_16, rfl, HA, HJ16, BK679, BK680, BK681, HB⟩ := hcut
     cases kq with
     | zero => exact absurd HA.out (by simp [value_Reckon.j1])
     | succ kj16 =>
      have H := HA.out
      clear HA
      simp only [value_Reckon.j1] at H
      by_cases c59 : x30_16 = true
      ·
       subst c59
       have H1 : (some (0, 0, (⟨#[]⟩ : ByteArray), 7)) = some (r1, r2, r3, r4) := by rw [if_pos rfl] at H; exact H
       clear H
       have H := H1
       clear H1
       simp only [Option.some.injEq, Prod.mk.injEq] at H
       obtain ⟨rfl, rfl, rfl, rfl⟩ := H
       have hnb60 := NB681_679.out
       have hnc60 := NB679_681.out
       have hnb61 := NB681_680.out
       have hnc61 := NB680_681.out
       have hcz62_0 : wc.cell? ⟨gb681, 0, none⟩ = some (.int .i64 x682000_3) := (blk_cell BK681.out 0).trans rfl
       have hcz62_1 : wc.cell? ⟨gb681, 1, none⟩ = some (.int .i64 x682001_3) := (blk_cell BK681.out 1).trans rfl
       have hcz62_2 : wc.cell? ⟨gb681, 2, none⟩ = some (.string x682002_3) := (blk_cell BK681.out 2).trans rfl
       have hfz62_0 := blk_frozen BK681.out 0
       have hfz62_1 := blk_frozen BK681.out 1
       have hfz62_2 := blk_frozen BK681.out 2
       go_wp2
       repeat ((with_reducible refine at_region ?_); go_quiet (fail); try go_wp2)
       refine bodyPost_ret (results_ct rfl _ _ gb681 23 #[.int .i64 0, .int .i64 0, .string (⟨#[]⟩ : ByteArray)] (0, 0) _ rfl (by (with_reducible repeat (first | refine blk_drewN ?_ _ | refine blk_drew ?_ | refine blk_alloc ?_ _)); refine blk_put (cs := #[.int .i64 0, .int .i64 0, .string x682002_3]) ?_ 2 _ rfl; (with_reducible repeat (first | refine blk_drewN ?_ _ | refine blk_drew ?_ | refine blk_alloc ?_ _)); refine blk_put (cs := #[.int .i64 0, .int .i64 x682001_3, .string x682002_3]) ?_ 1 _ rfl; (with_reducible repeat (first | refine blk_drewN ?_ _ | refine blk_drew ?_ | refine blk_alloc ?_ _)); refine blk_put (cs := #[.int .i64 x682000_3, .int .i64 x682001_3, .string x682002_3]) ?_ 0 _ rfl; (with_reducible repeat (first | refine blk_drewN ?_ _ | refine blk_drew ?_ | refine blk_alloc ?_ _)); exact BK681.out) Tryz.underlying23 rfl (by kernel_rfl)) rfl ?_
       exact ⟨by first | rfl | (simp [errW_none, errW_some] <;> rfl) | (simp [*, errW_none, errW_some] <;> rfl), by repeat (first | (with_reducible first | exact HB.out | apply below_alloc | apply pw_below_drewN | apply below_drew1 | refine below_set ?_ GE679.out | refine below_set ?_ GE680.out | refine below_set ?_ GE681.out) | exact HB.out)⟩
      ·
       replace c59 := Bool.eq_false_iff.mpr c59
       subst c59
       have H1 : (if a1_0 = 0 then (some (0, 0, (⟨#[]⟩ : ByteArray), 0)) else (if a2_0 = 0 then (some (0, 0, (⟨#[]⟩ : ByteArray), 0)) else (if (mx a1_0 a2_0) = 2 then ((value_scaled.f kj16 a1_0 a1_1 a1_2).bind fun bt686 => ((value_scaled.f kj16 a2_0 a2_1 a2_2).bind fun bt688 => (if bt686.2 = true then (value_Reckon.j2 kj16 a0 (mx a1_0 a2_0) bt686.1 bt688.1 (!bt688.2)) else (value_Reckon.j2 kj16 a0 (mx a1_0 a2_0) bt686.1 bt688.1 true)))) else ((value_reckon.f kj16 a0 a1_1 a2_1 ((mx a1_0 a2_0) == 2)).bind fun bt692 => (if bt692.2 = 0 then (some (mx a1_0 a2_0, bt692.1, (⟨#[]⟩ : ByteArray), 0)) else (some (0, 0, (⟨#[]⟩ : ByteArray), bt692.2))))))) = some (r1, r2, r3, r4) := by rw [if_neg (show ¬ (false = true) by decide)] at H; exact H
       clear H
       have H := H1
       clear H1
       by_cases c63 : a1_0 = 0
       ·
        rw [if_pos c63] at H
        have c63b0 : (a1_0 == 0) = true := beq_iff_eq.mpr c63
        have c63b1 : (a1_0 != 0) = false := bne_eq_false_iff_eq.mpr c63
        clear c63
        simp only [Option.some.injEq, Prod.mk.injEq] at H
        obtain ⟨rfl, rfl, rfl, rfl⟩ := H
        have hnb64 := NB679_680.out
        have hnc64 := NB680_679.out
        have hnb65 := NB679_681.out
        have hnc65 := NB681_679.out
        have hcz66_0 : wc.cell? ⟨gb679, 0, none⟩ = some (.int .i64 a1_0) := (blk_cell BK679.out 0).trans rfl
        have hcz66_1 : wc.cell? ⟨gb679, 1, none⟩ = some (.int .i64 a1_1) := (blk_cell BK679.out 1).trans rfl
        have hcz66_2 : wc.cell? ⟨gb679, 2, none⟩ = some (.string a1_2) := (blk_cell BK679.out 2).trans rfl
        have hfz66_0 := blk_frozen BK679.out 0
        have hfz66_1 := blk_frozen BK679.out 1
        have hfz66_2 := blk_frozen BK679.out 2
        have hnb67 := NB681_680.out
        have hnc67 := NB680_681.out
        have hcz68_0 : wc.cell? ⟨gb681, 0, none⟩ = some (.int .i64 x682000_3) := (blk_cell BK681.out 0).trans rfl
        have hcz68_1 : wc.cell? ⟨gb681, 1, none⟩ = some (.int .i64 x682001_3) := (blk_cell BK681.out 1).trans rfl
        have hcz68_2 : wc.cell? ⟨gb681, 2, none⟩ = some (.string x682002_3) := (blk_cell BK681.out 2).trans rfl
        have hfz68_0 := blk_frozen BK681.out 0
        have hfz68_1 := blk_frozen BK681.out 1
        have hfz68_2 := blk_frozen BK681.out 2
        go_wp2
        repeat ((with_reducible refine at_region ?_); go_quiet (fail); try go_wp2)
        refine bodyPost_ret (results_ct rfl _ _ gb681 23 #[.int .i64 0, .int .i64 0, .string (⟨#[]⟩ : ByteArray)] (0, 0) _ rfl (by (with_reducible repeat (first | refine blk_drewN ?_ _ | refine blk_drew ?_ | refine blk_alloc ?_ _)); refine blk_put (cs := #[.int .i64 0, .int .i64 0, .string x682002_3]) ?_ 2 _ rfl; (with_reducible repeat (first | refine blk_drewN ?_ _ | refine blk_drew ?_ | refine blk_alloc ?_ _)); refine blk_put (cs := #[.int .i64 0, .int .i64 x682001_3, .string x682002_3]) ?_ 1 _ rfl; (with_reducible repeat (first | refine blk_drewN ?_ _ | refine blk_drew ?_ | refine blk_alloc ?_ _)); refine blk_put (cs := #[.int .i64 x682000_3, .int .i64 x682001_3, .string x682002_3]) ?_ 0 _ rfl; (with_reducible repeat (first | refine blk_drewN ?_ _ | refine blk_drew ?_ | refine blk_alloc ?_ _)); exact BK681.out) Tryz.underlying23 rfl (by kernel_rfl)) rfl ?_
        exact ⟨by first | rfl | (simp [errW_none, errW_some] <;> rfl) | (simp [*, errW_none, errW_some] <;> rfl), by repeat (first | (with_reducible first | exact HB.out | apply below_alloc | apply pw_below_drewN | apply below_drew1 | refine below_set ?_ GE679.out | refine below_set ?_ GE680.out | refine below_set ?_ GE681.out) | exact HB.out)⟩
       ·
        rw [if_neg c63] at H
        have c63b0 : (a1_0 == 0) = false := beq_eq_false_iff_ne.mpr c63
        have c63b1 : (a1_0 != 0) = true := bne_iff_ne.mpr c63
        by_cases c69 : a2_0 = 0
        ·
         rw [if_pos c69] at H
         have c69b0 : (a2_0 == 0) = true := beq_iff_eq.mpr c69
         have c69b1 : (a2_0 != 0) = false := bne_eq_false_iff_eq.mpr c69
         clear c69
         simp only [Option.some.injEq, Prod.mk.injEq] at H
         obtain ⟨rfl, rfl, rfl, rfl⟩ := H
         have hnb70 := NB679_680.out
         have hnc70 := NB680_679.out
         have hnb71 := NB679_681.out
         have hnc71 := NB681_679.out
         have hcz72_0 : wc.cell? ⟨gb679, 0, none⟩ = some (.int .i64 a1_0) := (blk_cell BK679.out 0).trans rfl
         have hcz72_1 : wc.cell? ⟨gb679, 1, none⟩ = some (.int .i64 a1_1) := (blk_cell BK679.out 1).trans rfl
         have hcz72_2 : wc.cell? ⟨gb679, 2, none⟩ = some (.string a1_2) := (blk_cell BK679.out 2).trans rfl
         have hfz72_0 := blk_frozen BK679.out 0
         have hfz72_1 := blk_frozen BK679.out 1
         have hfz72_2 := blk_frozen BK679.out 2
         have hnb73 := NB680_681.out
         have hnc73 := NB681_680.out
         have hcz74_0 : wc.cell? ⟨gb680, 0, none⟩ = some (.int .i64 a2_0) := (blk_cell BK680.out 0).trans rfl
         have hcz74_1 : wc.cell? ⟨gb680, 1, none⟩ = some (.int .i64 a2_1) := (blk_cell BK680.out 1).trans rfl
         have hcz74_2 : wc.cell? ⟨gb680, 2, none⟩ = some (.string a2_2) := (blk_cell BK680.out 2).trans rfl
         have hfz74_0 := blk_frozen BK680.out 0
         have hfz74_1 := blk_frozen BK680.out 1
         have hfz74_2 := blk_frozen BK680.out 2
         have hcz75_0 : wc.cell? ⟨gb681, 0, none⟩ = some (.int .i64 x682000_3) := (blk_cell BK681.out 0).trans rfl
         have hcz75_1 : wc.cell? ⟨gb681, 1, none⟩ = some (.int .i64 x682001_3) := (blk_cell BK681.out 1).trans rfl
         have hcz75_2 : wc.cell? ⟨gb681, 2, none⟩ = some (.string x682002_3) := (blk_cell BK681.out 2).trans rfl
         have hfz75_0 := blk_frozen BK681.out 0
         have hfz75_1 := blk_frozen BK681.out 1
         have hfz75_2 := blk_frozen BK681.out 2
         go_wp2
         repeat ((with_reducible refine at_region ?_); go_quiet (fail); try go_wp2)
         refine bodyPost_ret (results_ct rfl _ _ gb681 23 #[.int .i64 0, .int .i64 0, .string (⟨#[]⟩ : ByteArray)] (0, 0) _ rfl (by (with_reducible repeat (first | refine blk_drewN ?_ _ | refine blk_drew ?_ | refine blk_alloc ?_ _)); refine blk_put (cs := #[.int .i64 0, .int .i64 0, .string x682002_3]) ?_ 2 _ rfl; (with_reducible repeat (first | refine blk_drewN ?_ _ | refine blk_drew ?_ | refine blk_alloc ?_ _)); refine blk_put (cs := #[.int .i64 0, .int .i64 x682001_3, .string x682002_3]) ?_ 1 _ rfl; (with_reducible repeat (first | refine blk_drewN ?_ _ | refine blk_drew ?_ | refine blk_alloc ?_ _)); refine blk_put (cs := #[.int .i64 x682000_3, .int .i64 x682001_3, .string x682002_3]) ?_ 0 _ rfl; (with_reducible repeat (first | refine blk_drewN ?_ _ | refine blk_drew ?_ | refine blk_alloc ?_ _)); exact BK681.out) Tryz.underlying23 rfl (by kernel_rfl)) rfl ?_
         exact ⟨by first | rfl | (simp [errW_none, errW_some] <;> rfl) | (simp [*, errW_none, errW_some] <;> rfl), by repeat (first | (with_reducible first | exact HB.out | apply below_alloc | apply pw_below_drewN | apply below_drew1 | refine below_set ?_ GE679.out | refine below_set ?_ GE680.out | refine below_set ?_ GE681.out) | exact HB.out)⟩
        ·
         rw [if_neg c69] at H
         have c69b0 : (a2_0 == 0) = false := beq_eq_false_iff_ne.mpr c69
         have c69b1 : (a2_0 != 0) = true := bne_iff_ne.mpr c69
         obtain ⟨ji76, hji76⟩ : ∃ j_ : Int, (mx a1_0 a2_0) = j_ := ⟨_, rfl⟩
         replace H : (if (ji76) = 2 then ((value_scaled.f kj16 a1_0 a1_1 a1_2).bind fun bt686 => ((value_scaled.f kj16 a2_0 a2_1 a2_2).bind fun bt688 => (if bt686.2 = true then (value_Reckon.j2 kj16 a0 ji76 bt686.1 bt688.1 (!bt688.2)) else (value_Reckon.j2 kj16 a0 ji76 bt686.1 bt688.1 true)))) else ((value_reckon.f kj16 a0 a1_1 a2_1 ((ji76) == 2)).bind fun bt692 => (if bt692.2 = 0 then (some (ji76, bt692.1, (⟨#[]⟩ : ByteArray), 0)) else (some (0, 0, (⟨#[]⟩ : ByteArray), bt692.2))))) = some (r1, r2, r3, r4) := by first | (rw [hji76] at H; exact H) | (simp only [hji76] at H ⊢; exact H)
         have hji76_ : (if a1_0 < a2_0 then a2_0 else a1_0) = ji76 := hji76
         by_cases c77 : (ji76) = 2
         ·
          rw [if_pos c77] at H
          have c77b0 : ((ji76) == 2) = true := beq_iff_eq.mpr c77
          have c77b1 : ((ji76) != 2) = false := bne_eq_false_iff_eq.mpr c77
          clear c77
          replace H := Option.bind_eq_some_iff.mp H
          obtain ⟨⟨t686, t687⟩, A780, H⟩ := H
          replace H : ((value_scaled.f kj16 a2_0 a2_1 a2_2).bind fun bt688 => (if t687 = true then (value_Reckon.j2 kj16 a0 ji76 t686 bt688.1 (!bt688.2)) else (value_Reckon.j2 kj16 a0 ji76 t686 bt688.1 true))) = some (r1, r2, r3, r4) := H
          have A78 := Aside0.mk A780
          clear A780
          replace H := Option.bind_eq_some_iff.mp H
          obtain ⟨⟨t688, t689⟩, A790, H⟩ := H
          replace H : (if t687 = true then (value_Reckon.j2 kj16 a0 ji76 t686 t688 (!t689)) else (value_Reckon.j2 kj16 a0 ji76 t686 t688 true)) = some (r1, r2, r3, r4) := H
          have A79 := Aside0.mk A790
          clear A790
          have HC80 := Aside0.mk H
          clear H
          have hnb81 := NB679_680.out
          have hnc81 := NB680_679.out
          have hnb82 := NB679_681.out
          have hnc82 := NB681_679.out
          have hcz83_0 : wc.cell? ⟨gb679, 0, none⟩ = some (.int .i64 a1_0) := (blk_cell BK679.out 0).trans rfl
          have hcz83_1 : wc.cell? ⟨gb679, 1, none⟩ = some (.int .i64 a1_1) := (blk_cell BK679.out 1).trans rfl
          have hcz83_2 : wc.cell? ⟨gb679, 2, none⟩ = some (.string a1_2) := (blk_cell BK679.out 2).trans rfl
          have hfz83_0 := blk_frozen BK679.out 0
          have hfz83_1 := blk_frozen BK679.out 1
          have hfz83_2 := blk_frozen BK679.out 2
          have hnb84 := NB680_681.out
          have hnc84 := NB681_680.out
          have hcz85_0 : wc.cell? ⟨gb680, 0, none⟩ = some (.int .i64 a2_0) := (blk_cell BK680.out 0).trans rfl
          have hcz85_1 : wc.cell? ⟨gb680, 1, none⟩ = some (.int .i64 a2_1) := (blk_cell BK680.out 1).trans rfl
          have hcz85_2 : wc.cell? ⟨gb680, 2, none⟩ = some (.string a2_2) := (blk_cell BK680.out 2).trans rfl
          have hfz85_0 := blk_frozen BK680.out 0
          have hfz85_1 := blk_frozen BK680.out 1
          have hfz85_2 := blk_frozen BK680.out 2
          go_upto_region 20 with (first | (go_at_call 52; (with_reducible refine (value_scaled.calls kj16 a1_0 a1_1 a1_2 t686 t687 _ A78.out).mono ?_); rintro e w86 ⟨rfl, hb⟩; have n0_ := Aside0.mk (blk_below (g := gb679) (o := .cells #[.int .i64 a1_0, .int .i64 a1_1, .string a1_2] 23 (0, 0)) (by (with_reducible repeat (first | refine blk_drewN ?_ _ | refine blk_drew ?_ | refine blk_alloc ?_ _)); exact BK679.out) hb); have n1_ := Aside0.mk (blk_below (g := gb680) (o := .cells #[.int .i64 a2_0, .int .i64 a2_1, .string a2_2] 23 (0, 0)) (by (with_reducible repeat (first | refine blk_drewN ?_ _ | refine blk_drew ?_ | refine blk_alloc ?_ _)); exact BK680.out) hb); have n2_ := Aside0.mk (blk_below (g := gb681) (o := .cells #[.int .i64 x682000_3, .int .i64 x682001_3, .string x682002_3] 23 (0, 0)) (by (with_reducible repeat (first | refine blk_drewN ?_ _ | refine blk_drew ?_ | refine blk_alloc ?_ _)); exact BK681.out) hb); have n3_ := Aside0.mk (below_step (by repeat (first | (with_reducible first | exact HB.out | apply below_alloc | apply pw_below_drewN | apply below_drew1 | refine below_set ?_ GE679.out | refine below_set ?_ GE680.out | refine below_set ?_ GE681.out) | exact HB.out)) hb); clear BK679; clear BK680; clear BK681; clear HB; have BK679 := n0_; have BK680 := n1_; have BK681 := n2_; have HB := n3_; clear n0_ n1_ n2_ n3_; (try clear hb); (try clear hb2); (try clear hk); (try clear hi); have hcz87_0 : w86.cell? ⟨gb680, 0, none⟩ = some (.int .i64 a2_0) := (blk_cell BK680.out 0).trans rfl; have hcz87_1 : w86.cell? ⟨gb680, 1, none⟩ = some (.int .i64 a2_1) := (blk_cell BK680.out 1).trans rfl; have hcz87_2 : w86.cell? ⟨gb680, 2, none⟩ = some (.string a2_2) := (blk_cell BK680.out 2).trans rfl; have hfz87_0 := blk_frozen BK680.out 0; have hfz87_1 := blk_frozen BK680.out 1; have hfz87_2 := blk_frozen BK680.out 2) | (go_at_call 52; (with_reducible refine (value_scaled.calls kj16 a2_0 a2_1 a2_2 t688 t689 _ A79.out).mono ?_); rintro e w88 ⟨rfl, hb⟩; have n0_ := Aside0.mk (blk_below (g := gb679) (o := .cells #[.int .i64 a1_0, .int .i64 a1_1, .string a1_2] 23 (0, 0)) (by (with_reducible repeat (first | refine blk_drewN ?_ _ | refine blk_drew ?_ | refine blk_alloc ?_ _)); exact BK679.out) hb); have n1_ := Aside0.mk (blk_below (g := gb680) (o := .cells #[.int .i64 a2_0, .int .i64 a2_1, .string a2_2] 23 (0, 0)) (by (with_reducible repeat (first | refine blk_drewN ?_ _ | refine blk_drew ?_ | refine blk_alloc ?_ _)); exact BK680.out) hb); have n2_ := Aside0.mk (blk_below (g := gb681) (o := .cells #[.int .i64 x682000_3, .int .i64 x682001_3, .string x682002_3] 23 (0, 0)) (by (with_reducible repeat (first | refine blk_drewN ?_ _ | refine blk_drew ?_ | refine blk_alloc ?_ _)); exact BK681.out) hb); have n3_ := Aside0.mk (below_step (by repeat (first | (with_reducible first | exact HB.out | apply below_alloc | apply pw_below_drewN | apply below_drew1 | refine below_set ?_ GE679.out | refine below_set ?_ GE680.out | refine below_set ?_ GE681.out) | exact HB.out)) hb); clear BK679; clear BK680; clear BK681; clear HB; have BK679 := n0_; have BK680 := n1_; have BK681 := n2_; have HB := n3_; clear n0_ n1_ n2_ n3_; (try clear hb); (try clear hb2); (try clear hk); (try clear hi)))
          repeat ((with_reducible refine at_region ?_); go_quiet (first | (go_at_call 52; (with_reducible refine (value_scaled.calls kj16 a1_0 a1_1 a1_2 t686 t687 _ A78.out).mono ?_); rintro e w86 ⟨rfl, hb⟩; have n0_ := Aside0.mk (blk_below (g := gb679) (o := .cells #[.int .i64 a1_0, .int .i64 a1_1, .string a1_2] 23 (0, 0)) (by (with_reducible repeat (first | refine blk_drewN ?_ _ | refine blk_drew ?_ | refine blk_alloc ?_ _)); exact BK679.out) hb); have n1_ := Aside0.mk (blk_below (g := gb680) (o := .cells #[.int .i64 a2_0, .int .i64 a2_1, .string a2_2] 23 (0, 0)) (by (with_reducible repeat (first | refine blk_drewN ?_ _ | refine blk_drew ?_ | refine blk_alloc ?_ _)); exact BK680.out) hb); have n2_ := Aside0.mk (blk_below (g := gb681) (o := .cells #[.int .i64 x682000_3, .int .i64 x682001_3, .string x682002_3] 23 (0, 0)) (by (with_reducible repeat (first | refine blk_drewN ?_ _ | refine blk_drew ?_ | refine blk_alloc ?_ _)); exact BK681.out) hb); have n3_ := Aside0.mk (below_step (by repeat (first | (with_reducible first | exact HB.out | apply below_alloc | apply pw_below_drewN | apply below_drew1 | refine below_set ?_ GE679.out | refine below_set ?_ GE680.out | refine below_set ?_ GE681.out) | exact HB.out)) hb); clear BK679; clear BK680; clear BK681; clear HB; have BK679 := n0_; have BK680 := n1_; have BK681 := n2_; have HB := n3_; clear n0_ n1_ n2_ n3_; (try clear hb); (try clear hb2); (try clear hk); (try clear hi); have hcz87_0 : w86.cell? ⟨gb680, 0, none⟩ = some (.int .i64 a2_0) := (blk_cell BK680.out 0).trans rfl; have hcz87_1 : w86.cell? ⟨gb680, 1, none⟩ = some (.int .i64 a2_1) := (blk_cell BK680.out 1).trans rfl; have hcz87_2 : w86.cell? ⟨gb680, 2, none⟩ = some (.string a2_2) := (blk_cell BK680.out 2).trans rfl; have hfz87_0 := blk_frozen BK680.out 0; have hfz87_1 := blk_frozen BK680.out 1; have hfz87_2 := blk_frozen BK680.out 2) | (go_at_call 52; (with_reducible refine (value_scaled.calls kj16 a2_0 a2_1 a2_2 t688 t689 _ A79.out).mono ?_); rintro e w88 ⟨rfl, hb⟩; have n0_ := Aside0.mk (blk_below (g := gb679) (o := .cells #[.int .i64 a1_0, .int .i64 a1_1, .string a1_2] 23 (0, 0)) (by (with_reducible repeat (first | refine blk_drewN ?_ _ | refine blk_drew ?_ | refine blk_alloc ?_ _)); exact BK679.out) hb); have n1_ := Aside0.mk (blk_below (g := gb680) (o := .cells #[.int .i64 a2_0, .int .i64 a2_1, .string a2_2] 23 (0, 0)) (by (with_reducible repeat (first | refine blk_drewN ?_ _ | refine blk_drew ?_ | refine blk_alloc ?_ _)); exact BK680.out) hb); have n2_ := Aside0.mk (blk_below (g := gb681) (o := .cells #[.int .i64 x682000_3, .int .i64 x682001_3, .string x682002_3] 23 (0, 0)) (by (with_reducible repeat (first | refine blk_drewN ?_ _ | refine blk_drew ?_ | refine blk_alloc ?_ _)); exact BK681.out) hb); have n3_ := Aside0.mk (below_step (by repeat (first | (with_reducible first | exact HB.out | apply below_alloc | apply pw_below_drewN | apply below_drew1 | refine below_set ?_ GE679.out | refine below_set ?_ GE680.out | refine below_set ?_ GE681.out) | exact HB.out)) hb); clear BK679; clear BK680; clear BK681; clear HB; have BK679 := n0_; have BK680 := n1_; have BK681 := n2_; have HB := n3_; clear n0_ n1_ n2_ n3_; (try clear hb); (try clear hb2); (try clear hk); (try clear hi))); go_upto_region 20 with (first | (go_at_call 52; (with_reducible refine (value_scaled.calls kj16 a1_0 a1_1 a1_2 t686 t687 _ A78.out).mono ?_); rintro e w86 ⟨rfl, hb⟩; have n0_ := Aside0.mk (blk_below (g := gb679) (o := .cells #[.int .i64 a1_0, .int .i64 a1_1, .string a1_2] 23 (0, 0)) (by (with_reducible repeat (first | refine blk_drewN ?_ _ | refine blk_drew ?_ | refine blk_alloc ?_ _)); exact BK679.out) hb); have n1_ := Aside0.mk (blk_below (g := gb680) (o := .cells #[.int .i64 a2_0, .int .i64 a2_1, .string a2_2] 23 (0, 0)) (by (with_reducible repeat (first | refine blk_drewN ?_ _ | refine blk_drew ?_ | refine blk_alloc ?_ _)); exact BK680.out) hb); have n2_ := Aside0.mk (blk_below (g := gb681) (o := .cells #[.int .i64 x682000_3, .int .i64 x682001_3, .string x682002_3] 23 (0, 0)) (by (with_reducible repeat (first | refine blk_drewN ?_ _ | refine blk_drew ?_ | refine blk_alloc ?_ _)); exact BK681.out) hb); have n3_ := Aside0.mk (below_step (by repeat (first | (with_reducible first | exact HB.out | apply below_alloc | apply pw_below_drewN | apply below_drew1 | refine below_set ?_ GE679.out | refine below_set ?_ GE680.out | refine below_set ?_ GE681.out) | exact HB.out)) hb); clear BK679; clear BK680; clear BK681; clear HB; have BK679 := n0_; have BK680 := n1_; have BK681 := n2_; have HB := n3_; clear n0_ n1_ n2_ n3_; (try clear hb); (try clear hb2); (try clear hk); (try clear hi); have hcz87_0 : w86.cell? ⟨gb680, 0, none⟩ = some (.int .i64 a2_0) := (blk_cell BK680.out 0).trans rfl; have hcz87_1 : w86.cell? ⟨gb680, 1, none⟩ = some (.int .i64 a2_1) := (blk_cell BK680.out 1).trans rfl; have hcz87_2 : w86.cell? ⟨gb680, 2, none⟩ = some (.string a2_2) := (blk_cell BK680.out 2).trans rfl; have hfz87_0 := blk_frozen BK680.out 0; have hfz87_1 := blk_frozen BK680.out 1; have hfz87_2 := blk_frozen BK680.out 2) | (go_at_call 52; (with_reducible refine (value_scaled.calls kj16 a2_0 a2_1 a2_2 t688 t689 _ A79.out).mono ?_); rintro e w88 ⟨rfl, hb⟩; have n0_ := Aside0.mk (blk_below (g := gb679) (o := .cells #[.int .i64 a1_0, .int .i64 a1_1, .string a1_2] 23 (0, 0)) (by (with_reducible repeat (first | refine blk_drewN ?_ _ | refine blk_drew ?_ | refine blk_alloc ?_ _)); exact BK679.out) hb); have n1_ := Aside0.mk (blk_below (g := gb680) (o := .cells #[.int .i64 a2_0, .int .i64 a2_1, .string a2_2] 23 (0, 0)) (by (with_reducible repeat (first | refine blk_drewN ?_ _ | refine blk_drew ?_ | refine blk_alloc ?_ _)); exact BK680.out) hb); have n2_ := Aside0.mk (blk_below (g := gb681) (o := .cells #[.int .i64 x682000_3, .int .i64 x682001_3, .string x682002_3] 23 (0, 0)) (by (with_reducible repeat (first | refine blk_drewN ?_ _ | refine blk_drew ?_ | refine blk_alloc ?_ _)); exact BK681.out) hb); have n3_ := Aside0.mk (below_step (by repeat (first | (with_reducible first | exact HB.out | apply below_alloc | apply pw_below_drewN | apply below_drew1 | refine below_set ?_ GE679.out | refine below_set ?_ GE680.out | refine below_set ?_ GE681.out) | exact HB.out)) hb); clear BK679; clear BK680; clear BK681; clear HB; have BK679 := n0_; have BK680 := n1_; have BK681 := n2_; have HB := n3_; clear n0_ n1_ n2_ n3_; (try clear hb); (try clear hb2); (try clear hk); (try clear hi))))
          (try simp only [Act.put, List.setIfInBounds_toArray, List.set_cons_zero, List.set_cons_succ])
          go_cut [86] (fun v86 wc => ∃ (kq : Nat) (x86_79 : Bool), v86 = .bool x86_79 ∧ Aside0 (value_Reckon.j2 kq a0 ji76 t686 t688 x86_79 = some (r1, r2, r3, r4)) ∧ Aside0 (kq ≤ kj16) ∧ Aside0 (wc.heap[gb679]? = some (.cells #[.int .i64 a1_0, .int .i64 a1_1, .string a1_2] 23 (0, 0))) ∧ Aside0 (wc.heap[gb680]? = some (.cells #[.int .i64 a2_0, .int .i64 a2_1, .string a2_2] 23 (0, 0))) ∧ Aside0 (wc.heap[gb681]? = some (.cells #[.int .i64 x682000_3, .int .i64 x682001_3, .string x682002_3] 23 (0, 0))) ∧ Aside0 (Below w.heap.size w wc))
          case first =>
           have H := HC80.out
           clear HC80
           by_cases c89 : t687 = true
           ·
            subst c89
            have H1 : (value_Reckon.j2 kj16 a0 ji76 t686 t688 (!t689)) = some (r1, r2, r3, r4) := by rw [if_pos rfl] at H; exact H
            clear H
            have H := H1
            clear H1
            have H' := Aside0.mk H
            clear H
            go_wp2
            repeat ((with_reducible refine at_region ?_); go_quiet (fail); try go_wp2)
            go_meet
            case rel => exact ⟨_, (!t689), (by first | rfl | (simp; done) | (simp [*]; done)), H', ⟨by have := HJ3.out; have := HJ16.out; first | omega | exact Nat.le_refl _⟩, ⟨by (with_reducible repeat (first | refine blk_drewN ?_ _ | refine blk_drew ?_ | refine blk_alloc ?_ _)); exact BK679.out⟩, ⟨by (with_reducible repeat (first | refine blk_drewN ?_ _ | refine blk_drew ?_ | refine blk_alloc ?_ _)); exact BK680.out⟩, ⟨by (with_reducible repeat (first | refine blk_drewN ?_ _ | refine blk_drew ?_ | refine blk_alloc ?_ _)); exact BK681.out⟩, ⟨by repeat (first | (with_reducible first | exact HB.out | apply below_alloc | apply pw_below_drewN | apply below_drew1 | refine below_set ?_ GE679.out | refine below_set ?_ GE680.out | refine below_set ?_ GE681.out) | exact HB.out)⟩⟩
           ·
            replace c89 := Bool.eq_false_iff.mpr c89
            subst c89
            have H1 : (value_Reckon.j2 kj16 a0 ji76 t686 t688 true) = some (r1, r2, r3, r4) := by rw [if_neg (show ¬ (false = true) by decide)] at H; exact H
            clear H
            have H := H1
            clear H1
            have H' := Aside0.mk H
            clear H
            go_wp2
            repeat ((with_reducible refine at_region ?_); go_quiet (fail); try go_wp2)
            go_meet
            case rel => exact ⟨_, (true), (by first | rfl | (simp; done) | (simp [*]; done)), H', ⟨by have := HJ3.out; have := HJ16.out; first | omega | exact Nat.le_refl _⟩, ⟨by (with_reducible repeat (first | refine blk_drewN ?_ _ | refine blk_drew ?_ | refine blk_alloc ?_ _)); exact BK679.out⟩, ⟨by (with_reducible repeat (first | refine blk_drewN ?_ _ | refine blk_drew ?_ | refine blk_alloc ?_ _)); exact BK680.out⟩, ⟨by (with_reducible repeat (first | refine blk_drewN ?_ _ | refine blk_drew ?_ | refine blk_alloc ?_ _)); exact BK681.out⟩, ⟨by repeat (first | (with_reducible first | exact HB.out | apply below_alloc | apply pw_below_drewN | apply below_drew1 | refine below_set ?_ GE679.out | refine below_set ?_ GE680.out | refine below_set ?_ GE681.out) | exact HB.out)⟩⟩
          case rest =>
           clear HC80
           (try clear c1); (try clear c2); (try clear p2); (try clear c3); (try clear c4); (try clear c5); (try clear c6); (try clear c7); (try clear c8); (try clear c8b0); (try clear c8b1); (try clear c9); (try clear c9b0); (try clear c9b1); (try clear c10); (try clear c10b0); (try clear c10b1); (try clear c11); (try clear c11b0); (try clear c11b1); (try clear c12); (try clear c13); (try clear c16); (try clear c16b0)
           (try clear c16b1); (try clear c18); (try clear c19); (try clear c21); (try clear c24); (try clear c24b0); (try clear c24b1); (try clear c25); (try clear c25b0); (try clear c25b1); (try clear c26); (try clear c27); (try clear c28); (try clear c29); (try clear c32); (try clear c33); (try clear c35); (try clear c39); (try clear c40); (try clear c40b0); (try clear c40b1); (try clear c41); (try clear c42)
           (try clear c45); (try clear c48); (try clear c49); (try clear c52); (try clear c55); (try clear c56); (try clear c59); (try clear c60); (try clear c61); (try clear c63); (try clear c63b0); (try clear c63b1); (try clear c64); (try clear c65); (try clear c67); (try clear c69); (try clear c69b0); (try clear c69b1); (try clear c70); (try clear c71); (try clear c73); (try clear c77); (try clear c77b0); (try clear c77b1)
           (try clear c81); (try clear c82); (try clear c84); (try clear c89); (try clear hcz14_0); (try clear hcz14_1); (try clear hcz14_2); (try clear hcz20_0); (try clear hcz20_1); (try clear hcz20_2); (try clear hcz22_0); (try clear hcz22_1); (try clear hcz22_2); (try clear hcz28_0); (try clear hcz28_1); (try clear hcz28_2); (try clear hcz30_0); (try clear hcz30_1); (try clear hcz30_2); (try clear hcz34_0)
           (try clear hcz34_1); (try clear hcz34_2); (try clear hcz36_0); (try clear hcz36_1); (try clear hcz36_2); (try clear hcz43_0); (try clear hcz43_1); (try clear hcz43_2); (try clear hcz46_0); (try clear hcz46_1); (try clear hcz46_2); (try clear hcz50_0); (try clear hcz50_1); (try clear hcz50_2); (try clear hcz53_0); (try clear hcz53_1); (try clear hcz53_2); (try clear hcz57_0); (try clear hcz57_1); (try clear hcz57_2)
           (try clear hcz62_0); (try clear hcz62_1); (try clear hcz62_2); (try clear hcz66_0); (try clear hcz66_1); (try clear hcz66_2); (try clear hcz68_0); (try clear hcz68_1); (try clear hcz68_2); (try clear hcz72_0); (try clear hcz72_1); (try clear hcz72_2); (try clear hcz74_0); (try clear hcz74_1); (try clear hcz74_2); (try clear hcz75_0); (try clear hcz75_1); (try clear hcz75_2); (try clear hcz83_0); (try clear hcz83_1)
           (try clear hcz83_2); (try clear hcz85_0); (try clear hcz85_1); (try clear hcz85_2); (try clear hcz87_0); (try clear hcz87_1); (try clear hcz87_2); (try clear hfz14_0); (try clear hfz14_1); (try clear hfz14_2); (try clear hfz20_0); (try clear hfz20_1); (try clear hfz20_2); (try clear hfz22_0); (try clear hfz22_1); (try clear hfz22_2); (try clear hfz28_0); (try clear hfz28_1); (try clear hfz28_2); (try clear hfz30_0)
           (try clear hfz30_1); (try clear hfz30_2); (try clear hfz34_0); (try clear hfz34_1); (try clear hfz34_2); (try clear hfz36_0); (try clear hfz36_1); (try clear hfz36_2); (try clear hfz43_0); (try clear hfz43_1); (try clear hfz43_2); (try clear hfz46_0); (try clear hfz46_1); (try clear hfz46_2); (try clear hfz50_0); (try clear hfz50_1); (try clear hfz50_2); (try clear hfz53_0); (try clear hfz53_1); (try clear hfz53_2)
           (try clear hfz57_0); (try clear hfz57_1); (try clear hfz57_2); (try clear hfz62_0); (try clear hfz62_1); (try clear hfz62_2); (try clear hfz66_0); (try clear hfz66_1); (try clear hfz66_2); (try clear hfz68_0); (try clear hfz68_1); (try clear hfz68_2); (try clear hfz72_0); (try clear hfz72_1); (try clear hfz72_2); (try clear hfz74_0); (try clear hfz74_1); (try clear hfz74_2); (try clear hfz75_0); (try clear hfz75_1)
           (try clear hfz75_2); (try clear hfz83_0); (try clear hfz83_1); (try clear hfz83_2); (try clear hfz85_0); (try clear hfz85_1); (try clear hfz85_2); (try clear hfz87_0); (try clear hfz87_1); (try clear hfz87_2); (try clear p2)
           obtain ⟨kq, x86_79, rfl, HA, HJ79, BK679, BK680, BK681, HB⟩ := hcut
           cases kq with
           | zero => exact absurd HA.out (by simp [value_Reckon.j2])
           | succ kj79 =>
            have H := HA.out
            clear HA
            simp only [value_Reckon.j2] at H
            by_cases c90 : x86_79 = true
            ·
             subst c90
             have H1 : (some (0, 0, (⟨#[]⟩ : ByteArray), 10)) = some (r1, r2, r3, r4) := by rw [if_pos rfl] at H; exact H
             clear H
             have H := H1
             clear H1
             simp only [Option.some.injEq, Prod.mk.injEq] at H
             obtain ⟨rfl, rfl, rfl, rfl⟩ := H
             have hnb91 := NB681_679.out
             have hnc91 := NB679_681.out
             have hnb92 := NB681_680.out
             have hnc92 := NB680_681.out
             have hcz93_0 : wc.cell? ⟨gb681, 0, none⟩ = some (.int .i64 x682000_3) := (blk_cell BK681.out 0).trans rfl
             have hcz93_1 : wc.cell? ⟨gb681, 1, none⟩ = some (.int .i64 x682001_3) := (blk_cell BK681.out 1).trans rfl
             have hcz93_2 : wc.cell? ⟨gb681, 2, none⟩ = some (.string x682002_3) := (blk_cell BK681.out 2).trans rfl
             have hfz93_0 := blk_frozen BK681.out 0
             have hfz93_1 := blk_frozen BK681.out 1
             have hfz93_2 := blk_frozen BK681.out 2
             go_wp2
             repeat ((with_reducible refine at_region ?_); go_quiet (fail); try go_wp2)
             refine bodyPost_ret (results_ct rfl _ _ gb681 23 #[.int .i64 0, .int .i64 0, .string (⟨#[]⟩ : ByteArray)] (0, 0) _ rfl (by (with_reducible repeat (first | refine blk_drewN ?_ _ | refine blk_drew ?_ | refine blk_alloc ?_ _)); refine blk_put (cs := #[.int .i64 0, .int .i64 0, .string x682002_3]) ?_ 2 _ rfl; (with_reducible repeat (first | refine blk_drewN ?_ _ | refine blk_drew ?_ | refine blk_alloc ?_ _)); refine blk_put (cs := #[.int .i64 0, .int .i64 x682001_3, .string x682002_3]) ?_ 1 _ rfl; (with_reducible repeat (first | refine blk_drewN ?_ _ | refine blk_drew ?_ | refine blk_alloc ?_ _)); refine blk_put (cs := #[.int .i64 x682000_3, .int .i64 x682001_3, .string x682002_3]) ?_ 0 _ rfl; (with_reducible repeat (first | refine blk_drewN ?_ _ | refine blk_drew ?_ | refine blk_alloc ?_ _)); exact BK681.out) Tryz.underlying23 rfl (by kernel_rfl)) rfl ?_
             exact ⟨by first | rfl | (simp [errW_none, errW_some] <;> rfl) | (simp only [← hji76]; first | rfl | (simp [errW_none, errW_some] <;> rfl)) | (simp [*, errW_none, errW_some] <;> rfl), by repeat (first | (with_reducible first | exact HB.out | apply below_alloc | apply pw_below_drewN | apply below_drew1 | refine below_set ?_ GE679.out | refine below_set ?_ GE680.out | refine below_set ?_ GE681.out) | exact HB.out)⟩
            ·
             replace c90 := Bool.eq_false_iff.mpr c90
             subst c90
             have H1 : ((value_reckon.f kj79 a0 t686 t688 (ji76 == 2)).bind fun bt690 => (if bt690.2 = 0 then (some (ji76, bt690.1, (⟨#[]⟩ : ByteArray), 0)) else (some (0, 0, (⟨#[]⟩ : ByteArray), bt690.2)))) = some (r1, r2, r3, r4) := by rw [if_neg (show ¬ (false = true) by decide)] at H; exact H
             clear H
             have H := H1
             clear H1
             replace H := Option.bind_eq_some_iff.mp H
             obtain ⟨⟨t690, t691⟩, A940, H⟩ := H
             replace H : (if t691 = 0 then (some (ji76, t690, (⟨#[]⟩ : ByteArray), 0)) else (some (0, 0, (⟨#[]⟩ : ByteArray), t691))) = some (r1, r2, r3, r4) := H
             have A94 := Aside0.mk A940
             clear A940
             by_cases c95 : t691 = 0
             ·
              rw [if_pos c95] at H
              have c95b0 : (t691 == 0) = true := beq_iff_eq.mpr c95
              have c95b1 : (t691 != 0) = false := bne_eq_false_iff_eq.mpr c95
              clear c95
              simp only [Option.some.injEq, Prod.mk.injEq] at H
              obtain ⟨rfl, rfl, rfl, rfl⟩ := H
              go_wp2_with (first | (go_at_call 53; (first | (with_reducible refine (value_reckon.calls kj79 a0 t686 t688 (ji76 == 2) t690 t691 _ A94.out).mono ?_) | (with_reducible refine (value_reckon.calls kj79 a0 t686 t688 true t690 t691 _ (by have h_ := A94.out; simp only [c77b0] at h_; exact h_)).mono ?_)); rintro e w' ⟨rfl, ⟨nd, rfl⟩⟩; (try first | exact ⟨rfl, _, World.drewN_drewN _ _ _⟩ | exact ⟨rfl, _, Eq.trans (World.drewN_drewN _ _ _) (congrArg (World.drewN _) (Nat.add_assoc _ _ _))⟩); have hnb96 := NB681_679.out; have hnc96 := NB679_681.out; have hnb97 := NB681_680.out; have hnc97 := NB680_681.out; have hcz98_0 : wc.cell? ⟨gb681, 0, none⟩ = some (.int .i64 x682000_3) := (blk_cell BK681.out 0).trans rfl; have hcz98_1 : wc.cell? ⟨gb681, 1, none⟩ = some (.int .i64 x682001_3) := (blk_cell BK681.out 1).trans rfl; have hcz98_2 : wc.cell? ⟨gb681, 2, none⟩ = some (.string x682002_3) := (blk_cell BK681.out 2).trans rfl; have hfz98_0 := blk_frozen BK681.out 0; have hfz98_1 := blk_frozen BK681.out 1; have hfz98_2 := blk_frozen BK681.out 2))
              repeat ((with_reducible refine at_region ?_); go_quiet (first | (go_at_call 53; (first | (with_reducible refine (value_reckon.calls kj79 a0 t686 t688 (ji76 == 2) t690 t691 _ A94.out).mono ?_) | (with_reducible refine (value_reckon.calls kj79 a0 t686 t688 true t690 t691 _ (by have h_ := A94.out; simp only [c77b0] at h_; exact h_)).mono ?_)); rintro e w' ⟨rfl, ⟨nd, rfl⟩⟩; (try first | exact ⟨rfl, _, World.drewN_drewN _ _ _⟩ | exact ⟨rfl, _, Eq.trans (World.drewN_drewN _ _ _) (congrArg (World.drewN _) (Nat.add_assoc _ _ _))⟩); have hnb96 := NB681_679.out; have hnc96 := NB679_681.out; have hnb97 := NB681_680.out; have hnc97 := NB680_681.out; have hcz98_0 : wc.cell? ⟨gb681, 0, none⟩ = some (.int .i64 x682000_3) := (blk_cell BK681.out 0).trans rfl; have hcz98_1 : wc.cell? ⟨gb681, 1, none⟩ = some (.int .i64 x682001_3) := (blk_cell BK681.out 1).trans rfl; have hcz98_2 : wc.cell? ⟨gb681, 2, none⟩ = some (.string x682002_3) := (blk_cell BK681.out 2).trans rfl; have hfz98_0 := blk_frozen BK681.out 0; have hfz98_1 := blk_frozen BK681.out 1; have hfz98_2 := blk_frozen BK681.out 2)); try go_wp2_with (first | (go_at_call 53; (first | (with_reducible refine (value_reckon.calls kj79 a0 t686 t688 (ji76 == 2) t690 t691 _ A94.out).mono ?_) | (with_reducible refine (value_reckon.calls kj79 a0 t686 t688 true t690 t691 _ (by have h_ := A94.out; simp only [c77b0] at h_; exact h_)).mono ?_)); rintro e w' ⟨rfl, ⟨nd, rfl⟩⟩; (try first | exact ⟨rfl, _, World.drewN_drewN _ _ _⟩ | exact ⟨rfl, _, Eq.trans (World.drewN_drewN _ _ _) (congrArg (World.drewN _) (Nat.add_assoc _ _ _))⟩); have hnb96 := NB681_679.out; have hnc96 := NB679_681.out; have hnb97 := NB681_680.out; have hnc97 := NB680_681.out; have hcz98_0 : wc.cell? ⟨gb681, 0, none⟩ = some (.int .i64 x682000_3) := (blk_cell BK681.out 0).trans rfl; have hcz98_1 : wc.cell? ⟨gb681, 1, none⟩ = some (.int .i64 x682001_3) := (blk_cell BK681.out 1).trans rfl; have hcz98_2 : wc.cell? ⟨gb681, 2, none⟩ = some (.string x682002_3) := (blk_cell BK681.out 2).trans rfl; have hfz98_0 := blk_frozen BK681.out 0; have hfz98_1 := blk_frozen BK681.out 1; have hfz98_2 := blk_frozen BK681.out 2)))
              refine bodyPost_ret (results_ct rfl _ _ gb681 23 #[.int .i64 ji76, .int .i64 t690, .string (⟨#[]⟩ : ByteArray)] (0, 0) _ rfl (by (with_reducible repeat (first | refine blk_drewN ?_ _ | refine blk_drew ?_ | refine blk_alloc ?_ _)); refine blk_put (cs := #[.int .i64 ji76, .int .i64 t690, .string x682002_3]) ?_ 2 _ rfl; (with_reducible repeat (first | refine blk_drewN ?_ _ | refine blk_drew ?_ | refine blk_alloc ?_ _)); refine blk_put (cs := #[.int .i64 ji76, .int .i64 x682001_3, .string x682002_3]) ?_ 1 _ rfl; (with_reducible repeat (first | refine blk_drewN ?_ _ | refine blk_drew ?_ | refine blk_alloc ?_ _)); refine blk_put (cs := #[.int .i64 x682000_3, .int .i64 x682001_3, .string x682002_3]) ?_ 0 _ rfl; (with_reducible repeat (first | refine blk_drewN ?_ _ | refine blk_drew ?_ | refine blk_alloc ?_ _)); exact BK681.out) Tryz.underlying23 rfl (by kernel_rfl)) rfl ?_
              exact ⟨by first | rfl | (simp [errW_none, errW_some] <;> rfl) | (simp only [← hji76]; first | rfl | (simp [errW_none, errW_some] <;> rfl)) | (simp [*, errW_none, errW_some] <;> rfl), by repeat (first | (with_reducible first | exact HB.out | apply below_alloc | apply pw_below_drewN | apply below_drew1 | refine below_set ?_ GE679.out | refine below_set ?_ GE680.out | refine below_set ?_ GE681.out) | exact HB.out)⟩
             ·
              rw [if_neg c95] at H
              have c95b0 : (t691 == 0) = false := beq_eq_false_iff_ne.mpr c95
              have c95b1 : (t691 != 0) = true := bne_iff_ne.mpr c95
              simp only [Option.some.injEq, Prod.mk.injEq] at H
              obtain ⟨rfl, rfl, rfl, rfl⟩ := H
              go_wp2_with (first | (go_at_call 53; (first | (with_reducible refine (value_reckon.calls kj79 a0 t686 t688 (ji76 == 2) t690 t691 _ A94.out).mono ?_) | (with_reducible refine (value_reckon.calls kj79 a0 t686 t688 true t690 t691 _ (by have h_ := A94.out; simp only [c77b0] at h_; exact h_)).mono ?_)); rintro e w' ⟨rfl, ⟨nd, rfl⟩⟩; (try first | exact ⟨rfl, _, World.drewN_drewN _ _ _⟩ | exact ⟨rfl, _, Eq.trans (World.drewN_drewN _ _ _) (congrArg (World.drewN _) (Nat.add_assoc _ _ _))⟩); have hnb99 := NB681_679.out; have hnc99 := NB679_681.out; have hnb100 := NB681_680.out; have hnc100 := NB680_681.out; have hcz101_0 : wc.cell? ⟨gb681, 0, none⟩ = some (.int .i64 x682000_3) := (blk_cell BK681.out 0).trans rfl; have hcz101_1 : wc.cell? ⟨gb681, 1, none⟩ = some (.int .i64 x682001_3) := (blk_cell BK681.out 1).trans rfl; have hcz101_2 : wc.cell? ⟨gb681, 2, none⟩ = some (.string x682002_3) := (blk_cell BK681.out 2).trans rfl; have hfz101_0 := blk_frozen BK681.out 0; have hfz101_1 := blk_frozen BK681.out 1; have hfz101_2 := blk_frozen BK681.out 2))
              repeat ((with_reducible refine at_region ?_); go_quiet (first | (go_at_call 53; (first | (with_reducible refine (value_reckon.calls kj79 a0 t686 t688 (ji76 == 2) t690 t691 _ A94.out).mono ?_) | (with_reducible refine (value_reckon.calls kj79 a0 t686 t688 true t690 t691 _ (by have h_ := A94.out; simp only [c77b0] at h_; exact h_)).mono ?_)); rintro e w' ⟨rfl, ⟨nd, rfl⟩⟩; (try first | exact ⟨rfl, _, World.drewN_drewN _ _ _⟩ | exact ⟨rfl, _, Eq.trans (World.drewN_drewN _ _ _) (congrArg (World.drewN _) (Nat.add_assoc _ _ _))⟩); have hnb99 := NB681_679.out; have hnc99 := NB679_681.out; have hnb100 := NB681_680.out; have hnc100 := NB680_681.out; have hcz101_0 : wc.cell? ⟨gb681, 0, none⟩ = some (.int .i64 x682000_3) := (blk_cell BK681.out 0).trans rfl; have hcz101_1 : wc.cell? ⟨gb681, 1, none⟩ = some (.int .i64 x682001_3) := (blk_cell BK681.out 1).trans rfl; have hcz101_2 : wc.cell? ⟨gb681, 2, none⟩ = some (.string x682002_3) := (blk_cell BK681.out 2).trans rfl; have hfz101_0 := blk_frozen BK681.out 0; have hfz101_1 := blk_frozen BK681.out 1; have hfz101_2 := blk_frozen BK681.out 2)); try go_wp2_with (first | (go_at_call 53; (first | (with_reducible refine (value_reckon.calls kj79 a0 t686 t688 (ji76 == 2) t690 t691 _ A94.out).mono ?_) | (with_reducible refine (value_reckon.calls kj79 a0 t686 t688 true t690 t691 _ (by have h_ := A94.out; simp only [c77b0] at h_; exact h_)).mono ?_)); rintro e w' ⟨rfl, ⟨nd, rfl⟩⟩; (try first | exact ⟨rfl, _, World.drewN_drewN _ _ _⟩ | exact ⟨rfl, _, Eq.trans (World.drewN_drewN _ _ _) (congrArg (World.drewN _) (Nat.add_assoc _ _ _))⟩); have hnb99 := NB681_679.out; have hnc99 := NB679_681.out; have hnb100 := NB681_680.out; have hnc100 := NB680_681.out; have hcz101_0 : wc.cell? ⟨gb681, 0, none⟩ = some (.int .i64 x682000_3) := (blk_cell BK681.out 0).trans rfl; have hcz101_1 : wc.cell? ⟨gb681, 1, none⟩ = some (.int .i64 x682001_3) := (blk_cell BK681.out 1).trans rfl; have hcz101_2 : wc.cell? ⟨gb681, 2, none⟩ = some (.string x682002_3) := (blk_cell BK681.out 2).trans rfl; have hfz101_0 := blk_frozen BK681.out 0; have hfz101_1 := blk_frozen BK681.out 1; have hfz101_2 := blk_frozen BK681.out 2)))
              refine bodyPost_ret (results_ct rfl _ _ gb681 23 #[.int .i64 0, .int .i64 0, .string (⟨#[]⟩ : ByteArray)] (0, 0) _ rfl (by (with_reducible repeat (first | refine blk_drewN ?_ _ | refine blk_drew ?_ | refine blk_alloc ?_ _)); refine blk_put (cs := #[.int .i64 0, .int .i64 0, .string x682002_3]) ?_ 2 _ rfl; (with_reducible repeat (first | refine blk_drewN ?_ _ | refine blk_drew ?_ | refine blk_alloc ?_ _)); refine blk_put (cs := #[.int .i64 0, .int .i64 x682001_3, .string x682002_3]) ?_ 1 _ rfl; (with_reducible repeat (first | refine blk_drewN ?_ _ | refine blk_drew ?_ | refine blk_alloc ?_ _)); refine blk_put (cs := #[.int .i64 x682000_3, .int .i64 x682001_3, .string x682002_3]) ?_ 0 _ rfl; (with_reducible repeat (first | refine blk_drewN ?_ _ | refine blk_drew ?_ | refine blk_alloc ?_ _)); exact BK681.out) Tryz.underlying23 rfl (by kernel_rfl)) rfl ?_
              exact ⟨by first | rfl | (simp [errW_none, errW_some] <;> rfl) | (simp only [← hji76]; first | rfl | (simp [errW_none, errW_some] <;> rfl)) | (simp [*, errW_none, errW_some] <;> rfl), by repeat (first | (with_reducible first | exact HB.out | apply below_alloc | apply pw_below_drewN | apply below_drew1 | refine below_set ?_ GE679.out | refine below_set ?_ GE680.out | refine below_set ?_ GE681.out) | exact HB.out)⟩
         ·
          rw [if_neg c77] at H
          have c77b0 : ((ji76) == 2) = false := beq_eq_false_iff_ne.mpr c77
          have c77b1 : ((ji76) != 2) = true := bne_iff_ne.mpr c77
          replace H := Option.bind_eq_some_iff.mp H
          obtain ⟨⟨t692, t693⟩, A1020, H⟩ := H
          replace H : (if t693 = 0 then (some (ji76, t692, (⟨#[]⟩ : ByteArray), 0)) else (some (0, 0, (⟨#[]⟩ : ByteArray), t693))) = some (r1, r2, r3, r4) := H
          have A102 := Aside0.mk A1020
          clear A1020
          by_cases c103 : t693 = 0
          ·
           rw [if_pos c103] at H
           have c103b0 : (t693 == 0) = true := beq_iff_eq.mpr c103
           have c103b1 : (t693 != 0) = false := bne_eq_false_iff_eq.mpr c103
           clear c103
           simp only [Option.some.injEq, Prod.mk.injEq] at H
           obtain ⟨rfl, rfl, rfl, rfl⟩ := H
           have hnb104 := NB679_680.out
           have hnc104 := NB680_679.out
           have hnb105 := NB679_681.out
           have hnc105 := NB681_679.out
           have hcz106_0 : wc.cell? ⟨gb679, 0, none⟩ = some (.int .i64 a1_0) := (blk_cell BK679.out 0).trans rfl
           have hcz106_1 : wc.cell? ⟨gb679, 1, none⟩ = some (.int .i64 a1_1) := (blk_cell BK679.out 1).trans rfl
           have hcz106_2 : wc.cell? ⟨gb679, 2, none⟩ = some (.string a1_2) := (blk_cell BK679.out 2).trans rfl
           have hfz106_0 := blk_frozen BK679.out 0
           have hfz106_1 := blk_frozen BK679.out 1
           have hfz106_2 := blk_frozen BK679.out 2
           have hnb107 := NB680_681.out
           have hnc107 := NB681_680.out
           have hcz108_0 : wc.cell? ⟨gb680, 0, none⟩ = some (.int .i64 a2_0) := (blk_cell BK680.out 0).trans rfl
           have hcz108_1 : wc.cell? ⟨gb680, 1, none⟩ = some (.int .i64 a2_1) := (blk_cell BK680.out 1).trans rfl
           have hcz108_2 : wc.cell? ⟨gb680, 2, none⟩ = some (.string a2_2) := (blk_cell BK680.out 2).trans rfl
           have hfz108_0 := blk_frozen BK680.out 0
           have hfz108_1 := blk_frozen BK680.out 1
           have hfz108_2 := blk_frozen BK680.out 2
           go_wp2_with (first | (go_at_call 53; (first | (with_reducible refine (value_reckon.calls kj16 a0 a1_1 a2_1 ((ji76) == 2) t692 t693 _ A102.out).mono ?_) | (with_reducible refine (value_reckon.calls kj16 a0 a1_1 a2_1 false t692 t693 _ (by have h_ := A102.out; simp only [c77b0] at h_; exact h_)).mono ?_)); rintro e w' ⟨rfl, ⟨nd, rfl⟩⟩; (try first | exact ⟨rfl, _, World.drewN_drewN _ _ _⟩ | exact ⟨rfl, _, Eq.trans (World.drewN_drewN _ _ _) (congrArg (World.drewN _) (Nat.add_assoc _ _ _))⟩); have hcz109_0 : wc.cell? ⟨gb681, 0, none⟩ = some (.int .i64 x682000_3) := (blk_cell BK681.out 0).trans rfl; have hcz109_1 : wc.cell? ⟨gb681, 1, none⟩ = some (.int .i64 x682001_3) := (blk_cell BK681.out 1).trans rfl; have hcz109_2 : wc.cell? ⟨gb681, 2, none⟩ = some (.string x682002_3) := (blk_cell BK681.out 2).trans rfl; have hfz109_0 := blk_frozen BK681.out 0; have hfz109_1 := blk_frozen BK681.out 1; have hfz109_2 := blk_frozen BK681.out 2))
           repeat ((with_reducible refine at_region ?_); go_quiet (first | (go_at_call 53; (first | (with_reducible refine (value_reckon.calls kj16 a0 a1_1 a2_1 ((ji76) == 2) t692 t693 _ A102.out).mono ?_) | (with_reducible refine (value_reckon.calls kj16 a0 a1_1 a2_1 false t692 t693 _ (by have h_ := A102.out; simp only [c77b0] at h_; exact h_)).mono ?_)); rintro e w' ⟨rfl, ⟨nd, rfl⟩⟩; (try first | exact ⟨rfl, _, World.drewN_drewN _ _ _⟩ | exact ⟨rfl, _, Eq.trans (World.drewN_drewN _ _ _) (congrArg (World.drewN _) (Nat.add_assoc _ _ _))⟩); have hcz109_0 : wc.cell? ⟨gb681, 0, none⟩ = some (.int .i64 x682000_3) := (blk_cell BK681.out 0).trans rfl; have hcz109_1 : wc.cell? ⟨gb681, 1, none⟩ = some (.int .i64 x682001_3) := (blk_cell BK681.out 1).trans rfl; have hcz109_2 : wc.cell? ⟨gb681, 2, none⟩ = some (.string x682002_3) := (blk_cell BK681.out 2).trans rfl; have hfz109_0 := blk_frozen BK681.out 0; have hfz109_1 := blk_frozen BK681.out 1; have hfz109_2 := blk_frozen BK681.out 2)); try go_wp2_with (first | (go_at_call 53; (first | (with_reducible refine (value_reckon.calls kj16 a0 a1_1 a2_1 ((ji76) == 2) t692 t693 _ A102.out).mono ?_) | (with_reducible refine (value_reckon.calls kj16 a0 a1_1 a2_1 false t692 t693 _ (by have h_ := A102.out; simp only [c77b0] at h_; exact h_)).mono ?_)); rintro e w' ⟨rfl, ⟨nd, rfl⟩⟩; (try first | exact ⟨rfl, _, World.drewN_drewN _ _ _⟩ | exact ⟨rfl, _, Eq.trans (World.drewN_drewN _ _ _) (congrArg (World.drewN _) (Nat.add_assoc _ _ _))⟩); have hcz109_0 : wc.cell? ⟨gb681, 0, none⟩ = some (.int .i64 x682000_3) := (blk_cell BK681.out 0).trans rfl; have hcz109_1 : wc.cell? ⟨gb681, 1, none⟩ = some (.int .i64 x682001_3) := (blk_cell BK681.out 1).trans rfl; have hcz109_2 : wc.cell? ⟨gb681, 2, none⟩ = some (.string x682002_3) := (blk_cell BK681.out 2).trans rfl; have hfz109_0 := blk_frozen BK681.out 0; have hfz109_1 := blk_frozen BK681.out 1; have hfz109_2 := blk_frozen BK681.out 2)))
           refine bodyPost_ret (results_ct rfl _ _ gb681 23 #[.int .i64 ji76, .int .i64 t692, .string (⟨#[]⟩ : ByteArray)] (0, 0) _ rfl (by (with_reducible repeat (first | refine blk_drewN ?_ _ | refine blk_drew ?_ | refine blk_alloc ?_ _)); refine blk_put (cs := #[.int .i64 ji76, .int .i64 t692, .string x682002_3]) ?_ 2 _ rfl; (with_reducible repeat (first | refine blk_drewN ?_ _ | refine blk_drew ?_ | refine blk_alloc ?_ _)); refine blk_put (cs := #[.int .i64 ji76, .int .i64 x682001_3, .string x682002_3]) ?_ 1 _ rfl; (with_reducible repeat (first | refine blk_drewN ?_ _ | refine blk_drew ?_ | refine blk_alloc ?_ _)); refine blk_put (cs := #[.int .i64 x682000_3, .int .i64 x682001_3, .string x682002_3]) ?_ 0 _ rfl; (with_reducible repeat (first | refine blk_drewN ?_ _ | refine blk_drew ?_ | refine blk_alloc ?_ _)); exact BK681.out) Tryz.underlying23 rfl (by kernel_rfl)) rfl ?_
           exact ⟨by first | rfl | (simp [errW_none, errW_some] <;> rfl) | (simp only [← hji76]; first | rfl | (simp [errW_none, errW_some] <;> rfl)) | (simp [*, errW_none, errW_some] <;> rfl), by repeat (first | (with_reducible first | exact HB.out | apply below_alloc | apply pw_below_drewN | apply below_drew1 | refine below_set ?_ GE679.out | refine below_set ?_ GE680.out | refine below_set ?_ GE681.out) | exact HB.out)⟩
          ·
           rw [if_neg c103] at H
           have c103b0 : (t693 == 0) = false := beq_eq_false_iff_ne.mpr c103
           have c103b1 : (t693 != 0) = true := bne_iff_ne.mpr c103
           simp only [Option.some.injEq, Prod.mk.injEq] at H
           obtain ⟨rfl, rfl, rfl, rfl⟩ := H
           have hnb110 := NB679_680.out
           have hnc110 := NB680_679.out
           have hnb111 := NB679_681.out
           have hnc111 := NB681_679.out
           have hcz112_0 : wc.cell? ⟨gb679, 0, none⟩ = some (.int .i64 a1_0) := (blk_cell BK679.out 0).trans rfl
           have hcz112_1 : wc.cell? ⟨gb679, 1, none⟩ = some (.int .i64 a1_1) := (blk_cell BK679.out 1).trans rfl
           have hcz112_2 : wc.cell? ⟨gb679, 2, none⟩ = some (.string a1_2) := (blk_cell BK679.out 2).trans rfl
           have hfz112_0 := blk_frozen BK679.out 0
           have hfz112_1 := blk_frozen BK679.out 1
           have hfz112_2 := blk_frozen BK679.out 2
           have hnb113 := NB680_681.out
           have hnc113 := NB681_680.out
           have hcz114_0 : wc.cell? ⟨gb680, 0, none⟩ = some (.int .i64 a2_0) := (blk_cell BK680.out 0).trans rfl
           have hcz114_1 : wc.cell? ⟨gb680, 1, none⟩ = some (.int .i64 a2_1) := (blk_cell BK680.out 1).trans rfl
           have hcz114_2 : wc.cell? ⟨gb680, 2, none⟩ = some (.string a2_2) := (blk_cell BK680.out 2).trans rfl
           have hfz114_0 := blk_frozen BK680.out 0
           have hfz114_1 := blk_frozen BK680.out 1
           have hfz114_2 := blk_frozen BK680.out 2
           go_wp2_with (first | (go_at_call 53; (first | (with_reducible refine (value_reckon.calls kj16 a0 a1_1 a2_1 ((ji76) == 2) t692 t693 _ A102.out).mono ?_) | (with_reducible refine (value_reckon.calls kj16 a0 a1_1 a2_1 false t692 t693 _ (by have h_ := A102.out; simp only [c77b0] at h_; exact h_)).mono ?_)); rintro e w' ⟨rfl, ⟨nd, rfl⟩⟩; (try first | exact ⟨rfl, _, World.drewN_drewN _ _ _⟩ | exact ⟨rfl, _, Eq.trans (World.drewN_drewN _ _ _) (congrArg (World.drewN _) (Nat.add_assoc _ _ _))⟩); have hcz115_0 : wc.cell? ⟨gb681, 0, none⟩ = some (.int .i64 x682000_3) := (blk_cell BK681.out 0).trans rfl; have hcz115_1 : wc.cell? ⟨gb681, 1, none⟩ = some (.int .i64 x682001_3) := (blk_cell BK681.out 1).trans rfl; have hcz115_2 : wc.cell? ⟨gb681, 2, none⟩ = some (.string x682002_3) := (blk_cell BK681.out 2).trans rfl; have hfz115_0 := blk_frozen BK681.out 0; have hfz115_1 := blk_frozen BK681.out 1; have hfz115_2 := blk_frozen BK681.out 2))
           repeat ((with_reducible refine at_region ?_); go_quiet (first | (go_at_call 53; (first | (with_reducible refine (value_reckon.calls kj16 a0 a1_1 a2_1 ((ji76) == 2) t692 t693 _ A102.out).mono ?_) | (with_reducible refine (value_reckon.calls kj16 a0 a1_1 a2_1 false t692 t693 _ (by have h_ := A102.out; simp only [c77b0] at h_; exact h_)).mono ?_)); rintro e w' ⟨rfl, ⟨nd, rfl⟩⟩; (try first | exact ⟨rfl, _, World.drewN_drewN _ _ _⟩ | exact ⟨rfl, _, Eq.trans (World.drewN_drewN _ _ _) (congrArg (World.drewN _) (Nat.add_assoc _ _ _))⟩); have hcz115_0 : wc.cell? ⟨gb681, 0, none⟩ = some (.int .i64 x682000_3) := (blk_cell BK681.out 0).trans rfl; have hcz115_1 : wc.cell? ⟨gb681, 1, none⟩ = some (.int .i64 x682001_3) := (blk_cell BK681.out 1).trans rfl; have hcz115_2 : wc.cell? ⟨gb681, 2, none⟩ = some (.string x682002_3) := (blk_cell BK681.out 2).trans rfl; have hfz115_0 := blk_frozen BK681.out 0; have hfz115_1 := blk_frozen BK681.out 1; have hfz115_2 := blk_frozen BK681.out 2)); try go_wp2_with (first | (go_at_call 53; (first | (with_reducible refine (value_reckon.calls kj16 a0 a1_1 a2_1 ((ji76) == 2) t692 t693 _ A102.out).mono ?_) | (with_reducible refine (value_reckon.calls kj16 a0 a1_1 a2_1 false t692 t693 _ (by have h_ := A102.out; simp only [c77b0] at h_; exact h_)).mono ?_)); rintro e w' ⟨rfl, ⟨nd, rfl⟩⟩; (try first | exact ⟨rfl, _, World.drewN_drewN _ _ _⟩ | exact ⟨rfl, _, Eq.trans (World.drewN_drewN _ _ _) (congrArg (World.drewN _) (Nat.add_assoc _ _ _))⟩); have hcz115_0 : wc.cell? ⟨gb681, 0, none⟩ = some (.int .i64 x682000_3) := (blk_cell BK681.out 0).trans rfl; have hcz115_1 : wc.cell? ⟨gb681, 1, none⟩ = some (.int .i64 x682001_3) := (blk_cell BK681.out 1).trans rfl; have hcz115_2 : wc.cell? ⟨gb681, 2, none⟩ = some (.string x682002_3) := (blk_cell BK681.out 2).trans rfl; have hfz115_0 := blk_frozen BK681.out 0; have hfz115_1 := blk_frozen BK681.out 1; have hfz115_2 := blk_frozen BK681.out 2)))
           refine bodyPost_ret (results_ct rfl _ _ gb681 23 #[.int .i64 0, .int .i64 0, .string (⟨#[]⟩ : ByteArray)] (0, 0) _ rfl (by (with_reducible repeat (first | refine blk_drewN ?_ _ | refine blk_drew ?_ | refine blk_alloc ?_ _)); refine blk_put (cs := #[.int .i64 0, .int .i64 0, .string x682002_3]) ?_ 2 _ rfl; (with_reducible repeat (first | refine blk_drewN ?_ _ | refine blk_drew ?_ | refine blk_alloc ?_ _)); refine blk_put (cs := #[.int .i64 0, .int .i64 x682001_3, .string x682002_3]) ?_ 1 _ rfl; (with_reducible repeat (first | refine blk_drewN ?_ _ | refine blk_drew ?_ | refine blk_alloc ?_ _)); refine blk_put (cs := #[.int .i64 x682000_3, .int .i64 x682001_3, .string x682002_3]) ?_ 0 _ rfl; (with_reducible repeat (first | refine blk_drewN ?_ _ | refine blk_drew ?_ | refine blk_alloc ?_ _)); exact BK681.out) Tryz.underlying23 rfl (by kernel_rfl)) rfl ?_
           exact ⟨by first | rfl | (simp [errW_none, errW_some] <;> rfl) | (simp only [← hji76]; first | rfl | (simp [errW_none, errW_some] <;> rfl)) | (simp [*, errW_none, errW_some] <;> rfl), by repeat (first | (with_reducible first | exact HB.out | apply below_alloc | apply pw_below_drewN | apply below_drew1 | refine below_set ?_ GE679.out | refine below_set ?_ GE680.out | refine below_set ?_ GE681.out) | exact HB.out)⟩
   ·
    rw [if_neg c16] at H
    have c16b0 : (t682 == 0) = false := beq_eq_false_iff_ne.mpr c16
    have c16b1 : (t682 != 0) = true := bne_iff_ne.mpr c16
    simp only [Option.some.injEq, Prod.mk.injEq] at H
    obtain ⟨rfl, rfl, rfl, rfl⟩ := H
    have hnb116 := NB679_680.out
    have hnc116 := NB680_679.out
    have hnb117 := NB679_681.out
    have hnc117 := NB681_679.out
    have hcz118_0 : wc.cell? ⟨gb679, 0, none⟩ = some (.int .i64 a1_0) := (blk_cell BK679.out 0).trans rfl
    have hcz118_1 : wc.cell? ⟨gb679, 1, none⟩ = some (.int .i64 a1_1) := (blk_cell BK679.out 1).trans rfl
    have hcz118_2 : wc.cell? ⟨gb679, 2, none⟩ = some (.string a1_2) := (blk_cell BK679.out 2).trans rfl
    have hfz118_0 := blk_frozen BK679.out 0
    have hfz118_1 := blk_frozen BK679.out 1
    have hfz118_2 := blk_frozen BK679.out 2
    have hnb119 := NB680_681.out
    have hnc119 := NB681_680.out
    have hcz120_0 : wc.cell? ⟨gb680, 0, none⟩ = some (.int .i64 a2_0) := (blk_cell BK680.out 0).trans rfl
    have hcz120_1 : wc.cell? ⟨gb680, 1, none⟩ = some (.int .i64 a2_1) := (blk_cell BK680.out 1).trans rfl
    have hcz120_2 : wc.cell? ⟨gb680, 2, none⟩ = some (.string a2_2) := (blk_cell BK680.out 2).trans rfl
    have hfz120_0 := blk_frozen BK680.out 0
    have hfz120_1 := blk_frozen BK680.out 1
    have hfz120_2 := blk_frozen BK680.out 2
    go_wp2_with (first | (go_at_call 13; (with_reducible refine (value_both.calls kj3 a1_0 a1_1 a1_2 a2_0 a2_1 a2_2 t682 _ ?side1 A15.out).mono ?_); (case side1 => exact Tabs.below HT.out (by repeat (first | (with_reducible first | exact HB.out | apply below_alloc | apply pw_below_drewN | apply below_drew1 | refine below_set ?_ GE679.out | refine below_set ?_ GE680.out | refine below_set ?_ GE681.out) | exact HB.out))); rintro e w121 ⟨rfl, hb⟩; have n0_ := Aside0.mk (blk_below (g := gb679) (o := .cells #[.int .i64 a1_0, .int .i64 a1_1, .string a1_2] 23 (0, 0)) (by (with_reducible repeat (first | refine blk_drewN ?_ _ | refine blk_drew ?_ | refine blk_alloc ?_ _)); exact BK679.out) hb); have n1_ := Aside0.mk (blk_below (g := gb680) (o := .cells #[.int .i64 a2_0, .int .i64 a2_1, .string a2_2] 23 (0, 0)) (by (with_reducible repeat (first | refine blk_drewN ?_ _ | refine blk_drew ?_ | refine blk_alloc ?_ _)); exact BK680.out) hb); have n2_ := Aside0.mk (blk_below (g := gb681) (o := .cells #[.int .i64 x682000_3, .int .i64 x682001_3, .string x682002_3] 23 (0, 0)) (by (with_reducible repeat (first | refine blk_drewN ?_ _ | refine blk_drew ?_ | refine blk_alloc ?_ _)); exact BK681.out) hb); have n3_ := Aside0.mk (below_step (by repeat (first | (with_reducible first | exact HB.out | apply below_alloc | apply pw_below_drewN | apply below_drew1 | refine below_set ?_ GE679.out | refine below_set ?_ GE680.out | refine below_set ?_ GE681.out) | exact HB.out)) hb); clear BK679; clear BK680; clear BK681; clear HB; have BK679 := n0_; have BK680 := n1_; have BK681 := n2_; have HB := n3_; clear n0_ n1_ n2_ n3_; (try clear hb); (try clear hb2); (try clear hk); (try clear hi); have hcz122_0 : w121.cell? ⟨gb681, 0, none⟩ = some (.int .i64 x682000_3) := (blk_cell BK681.out 0).trans rfl; have hcz122_1 : w121.cell? ⟨gb681, 1, none⟩ = some (.int .i64 x682001_3) := (blk_cell BK681.out 1).trans rfl; have hcz122_2 : w121.cell? ⟨gb681, 2, none⟩ = some (.string x682002_3) := (blk_cell BK681.out 2).trans rfl; have hfz122_0 := blk_frozen BK681.out 0; have hfz122_1 := blk_frozen BK681.out 1; have hfz122_2 := blk_frozen BK681.out 2))
    repeat ((with_reducible refine at_region ?_); go_quiet (first | (go_at_call 13; (with_reducible refine (value_both.calls kj3 a1_0 a1_1 a1_2 a2_0 a2_1 a2_2 t682 _ ?side1 A15.out).mono ?_); (case side1 => exact Tabs.below HT.out (by repeat (first | (with_reducible first | exact HB.out | apply below_alloc | apply pw_below_drewN | apply below_drew1 | refine below_set ?_ GE679.out | refine below_set ?_ GE680.out | refine below_set ?_ GE681.out) | exact HB.out))); rintro e w121 ⟨rfl, hb⟩; have n0_ := Aside0.mk (blk_below (g := gb679) (o := .cells #[.int .i64 a1_0, .int .i64 a1_1, .string a1_2] 23 (0, 0)) (by (with_reducible repeat (first | refine blk_drewN ?_ _ | refine blk_drew ?_ | refine blk_alloc ?_ _)); exact BK679.out) hb); have n1_ := Aside0.mk (blk_below (g := gb680) (o := .cells #[.int .i64 a2_0, .int .i64 a2_1, .string a2_2] 23 (0, 0)) (by (with_reducible repeat (first | refine blk_drewN ?_ _ | refine blk_drew ?_ | refine blk_alloc ?_ _)); exact BK680.out) hb); have n2_ := Aside0.mk (blk_below (g := gb681) (o := .cells #[.int .i64 x682000_3, .int .i64 x682001_3, .string x682002_3] 23 (0, 0)) (by (with_reducible repeat (first | refine blk_drewN ?_ _ | refine blk_drew ?_ | refine blk_alloc ?_ _)); exact BK681.out) hb); have n3_ := Aside0.mk (below_step (by repeat (first | (with_reducible first | exact HB.out | apply below_alloc | apply pw_below_drewN | apply below_drew1 | refine below_set ?_ GE679.out | refine below_set ?_ GE680.out | refine below_set ?_ GE681.out) | exact HB.out)) hb); clear BK679; clear BK680; clear BK681; clear HB; have BK679 := n0_; have BK680 := n1_; have BK681 := n2_; have HB := n3_; clear n0_ n1_ n2_ n3_; (try clear hb); (try clear hb2); (try clear hk); (try clear hi); have hcz122_0 : w121.cell? ⟨gb681, 0, none⟩ = some (.int .i64 x682000_3) := (blk_cell BK681.out 0).trans rfl; have hcz122_1 : w121.cell? ⟨gb681, 1, none⟩ = some (.int .i64 x682001_3) := (blk_cell BK681.out 1).trans rfl; have hcz122_2 : w121.cell? ⟨gb681, 2, none⟩ = some (.string x682002_3) := (blk_cell BK681.out 2).trans rfl; have hfz122_0 := blk_frozen BK681.out 0; have hfz122_1 := blk_frozen BK681.out 1; have hfz122_2 := blk_frozen BK681.out 2)); try go_wp2_with (first | (go_at_call 13; (with_reducible refine (value_both.calls kj3 a1_0 a1_1 a1_2 a2_0 a2_1 a2_2 t682 _ ?side1 A15.out).mono ?_); (case side1 => exact Tabs.below HT.out (by repeat (first | (with_reducible first | exact HB.out | apply below_alloc | apply pw_below_drewN | apply below_drew1 | refine below_set ?_ GE679.out | refine below_set ?_ GE680.out | refine below_set ?_ GE681.out) | exact HB.out))); rintro e w121 ⟨rfl, hb⟩; have n0_ := Aside0.mk (blk_below (g := gb679) (o := .cells #[.int .i64 a1_0, .int .i64 a1_1, .string a1_2] 23 (0, 0)) (by (with_reducible repeat (first | refine blk_drewN ?_ _ | refine blk_drew ?_ | refine blk_alloc ?_ _)); exact BK679.out) hb); have n1_ := Aside0.mk (blk_below (g := gb680) (o := .cells #[.int .i64 a2_0, .int .i64 a2_1, .string a2_2] 23 (0, 0)) (by (with_reducible repeat (first | refine blk_drewN ?_ _ | refine blk_drew ?_ | refine blk_alloc ?_ _)); exact BK680.out) hb); have n2_ := Aside0.mk (blk_below (g := gb681) (o := .cells #[.int .i64 x682000_3, .int .i64 x682001_3, .string x682002_3] 23 (0, 0)) (by (with_reducible repeat (first | refine blk_drewN ?_ _ | refine blk_drew ?_ | refine blk_alloc ?_ _)); exact BK681.out) hb); have n3_ := Aside0.mk (below_step (by repeat (first | (with_reducible first | exact HB.out | apply below_alloc | apply pw_below_drewN | apply below_drew1 | refine below_set ?_ GE679.out | refine below_set ?_ GE680.out | refine below_set ?_ GE681.out) | exact HB.out)) hb); clear BK679; clear BK680; clear BK681; clear HB; have BK679 := n0_; have BK680 := n1_; have BK681 := n2_; have HB := n3_; clear n0_ n1_ n2_ n3_; (try clear hb); (try clear hb2); (try clear hk); (try clear hi); have hcz122_0 : w121.cell? ⟨gb681, 0, none⟩ = some (.int .i64 x682000_3) := (blk_cell BK681.out 0).trans rfl; have hcz122_1 : w121.cell? ⟨gb681, 1, none⟩ = some (.int .i64 x682001_3) := (blk_cell BK681.out 1).trans rfl; have hcz122_2 : w121.cell? ⟨gb681, 2, none⟩ = some (.string x682002_3) := (blk_cell BK681.out 2).trans rfl; have hfz122_0 := blk_frozen BK681.out 0; have hfz122_1 := blk_frozen BK681.out 1; have hfz122_2 := blk_frozen BK681.out 2)))
    refine bodyPost_ret (results_ct rfl _ _ gb681 23 #[.int .i64 0, .int .i64 0, .string (⟨#[]⟩ : ByteArray)] (0, 0) _ rfl (by (with_reducible repeat (first | refine blk_drewN ?_ _ | refine blk_drew ?_ | refine blk_alloc ?_ _)); refine blk_put (cs := #[.int .i64 0, .int .i64 0, .string x682002_3]) ?_ 2 _ rfl; (with_reducible repeat (first | refine blk_drewN ?_ _ | refine blk_drew ?_ | refine blk_alloc ?_ _)); refine blk_put (cs := #[.int .i64 0, .int .i64 x682001_3, .string x682002_3]) ?_ 1 _ rfl; (with_reducible repeat (first | refine blk_drewN ?_ _ | refine blk_drew ?_ | refine blk_alloc ?_ _)); refine blk_put (cs := #[.int .i64 x682000_3, .int .i64 x682001_3, .string x682002_3]) ?_ 0 _ rfl; (with_reducible repeat (first | refine blk_drewN ?_ _ | refine blk_drew ?_ | refine blk_alloc ?_ _)); exact BK681.out) Tryz.underlying23 rfl (by kernel_rfl)) rfl ?_
    exact ⟨by first | rfl | (simp [errW_none, errW_some] <;> rfl) | (simp [*, errW_none, errW_some] <;> rfl), by repeat (first | (with_reducible first | exact HB.out | apply below_alloc | apply pw_below_drewN | apply below_drew1 | refine below_set ?_ GE679.out | refine below_set ?_ GE680.out | refine below_set ?_ GE681.out) | exact HB.out)⟩
end Go.Proofs.YtkkpnbfhghfleaaGreatDoor.X
end

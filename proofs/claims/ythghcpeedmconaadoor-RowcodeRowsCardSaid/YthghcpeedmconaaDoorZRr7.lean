/- Part 7 of a claim of this seat: texts merged by a program of the claim's session (wip/bundle.py). -/
import Derived.Test.YthghcpeedmconaaDoorZRr1
import Derived.Test.YthghcpeedmconaaDoorZRr3
import Derived.Test.YthghcpeedmconaaDoorZRr5
import Derived.Test.YthghcpeedmconaaDoorZRr6
section
namespace Go.Proofs.YthghcpeedmconaaDoor.X
open Go.RowKit Go.Proofs.YthghcpeedmconaaDoorW.PrintWords Go.Proofs.YthghcpeedmconaaDoorW.PrintLast Go.Proofs.YthghcpeedmconaaDoorW.PrintMore
attribute [local go_sem] max2_int min2_int max_two min_two max_three min_three max_four min_four
set_option linter.unusedVariables false
set_option linter.unusedSimpArgs false
def rowcode_ReadBag.l0 : Nat → List Int → List (List (S42)) → List Int → Int → Int → Option ((List (List (S42))) × Int)
 | 0, _, _, _, _, _ => none
 | k + 1, x0, x5, x6, x40, x41 => if x41 < x40 then ((rowcode_readRow.f k x0).bind fun bt795 => (if bt795.2.2 = 0 then (if 0 ≤ (wrap64 ((x0.length : Int) - (bt795.2.1.length : Int))) then (if (wrap64 ((x0.length : Int) - (bt795.2.1.length : Int))) ≤ (x0.length : Int) then ((some (x0.take ((wrap64 ((x0.length : Int) - (bt795.2.1.length : Int))) : Int).toNat : List Int)).bind fun y802 => ((bytes_Compare.f y802 x6).bind fun t807 => (if t807 < 0 then (some (([] : List (List (S42))), 20)) else (if x5.length < 5864062014805 then (rowcode_ReadBag.l0 k bt795.2.1 (x5 ++ [bt795.1]) y802 x40 ((x41 + 1) % 4294967296)) else (none))))) else (none)) else (none)) else (some (([] : List (List (S42))), bt795.2.2)))) else (if (x0.length : Int) > 0 then (some (([] : List (List (S42))), 5)) else (some (x5, 0)))
def rowcode_ReadBag.f (k : Nat) (l0 : List Int) : Option ((List (List (S42))) × Int) := if (l0.length : Int) < 4 then (some (([] : List (List (S42))), 4)) else (if 0 < (l0.length : Int) then (if 1 < (l0.length : Int) then (if 2 < (l0.length : Int) then (if 3 < (l0.length : Int) then (if (Go.bits .or .u32 (Go.bits .or .u32 (Go.bits .or .u32 ((((rd l0 0) % 4294967296) * 16777216) % 4294967296) ((((rd l0 1) % 4294967296) * 65536) % 4294967296)) ((((rd l0 2) % 4294967296) * 256) % 4294967296)) ((rd l0 3) % 4294967296)) > 65536 then (some (([] : List (List (S42))), 20)) else (if 4 ≤ (l0.length : Int) then (rowcode_ReadBag.l0 k (l0.drop 4) ([] : List (List (S42))) ([] : List Int) (Go.bits .or .u32 (Go.bits .or .u32 (Go.bits .or .u32 ((((rd l0 0) % 4294967296) * 16777216) % 4294967296) ((((rd l0 1) % 4294967296) * 65536) % 4294967296)) ((((rd l0 2) % 4294967296) * 256) % 4294967296)) ((rd l0 3) % 4294967296)) 0) else (none))) else (none)) else (none)) else (none)) else (none))
set_option maxHeartbeats 8000000 in
set_option maxRecDepth 100000 in
theorem rowcode_ReadBag.calls (k : Nat) (P0_ : Nat → Prop) (A0 : Option Addr) (c0 : Nat) (l0 : List Int) (r1 : List (List (S42))) (r2 : Int) (w : World) (hT : Tabs w) (hs0 : Kd.V (Kd.int .u8) 5 w w.heap.size (fun k_ => P0_ k_) (.slice A0 l0.length c0) l0) (h : rowcode_ReadBag.f k l0 = some (r1, r2)) :
  Calls Tryd.prog 43 #[.slice A0 l0.length c0] w fun e w' => ∃ v0_ : Value, e = .returned (.tuple #[v0_, .int .i64 r2]) ∧ Kd.S (Kd.slice 42 k42) 33 w' w.heap.size (fun k_ => (w.heap.size ≤ k_)) v0_ r1 ∧ Below w.heap.size w w' := by
 have HT := am hT
 clear hT
 have HO0 := am (show Kd.V (Kd.int .u8) 5 w w.heap.size (fun k_ => (P0_ k_ ∨ w.heap.size ≤ k_)) (.slice A0 l0.length c0) l0 from Kd.V_mono hs0 (fun k_ hk => .inl hk))
 have HB := am (Below.refl w.heap.size w)
 have H : (if (l0.length : Int) < 4 then (some (([] : List (List (S42))), 4)) else (if 0 < (l0.length : Int) then (if 1 < (l0.length : Int) then (if 2 < (l0.length : Int) then (if 3 < (l0.length : Int) then (if (Go.bits .or .u32 (Go.bits .or .u32 (Go.bits .or .u32 ((((rd l0 0) % 4294967296) * 16777216) % 4294967296) ((((rd l0 1) % 4294967296) * 65536) % 4294967296)) ((((rd l0 2) % 4294967296) * 256) % 4294967296)) ((rd l0 3) % 4294967296)) > 65536 then (some (([] : List (List (S42))), 20)) else (if 4 ≤ (l0.length : Int) then (rowcode_ReadBag.l0 k (l0.drop 4) ([] : List (List (S42))) ([] : List Int) (Go.bits .or .u32 (Go.bits .or .u32 (Go.bits .or .u32 ((((rd l0 0) % 4294967296) * 16777216) % 4294967296) ((((rd l0 1) % 4294967296) * 65536) % 4294967296)) ((((rd l0 2) % 4294967296) * 256) % 4294967296)) ((rd l0 3) % 4294967296)) 0) else (none))) else (none)) else (none)) else (none)) else (none))) = some (r1, r2) := h
 clear h
 by_cases c2 : (l0.length : Int) < 4
 ·
  rw [if_pos c2] at H
  have c2b0 := decide_eq_true c2
  have c2b1 : decide (l0.length < 4) = true := decide_eq_true (by omega)
  clear c2
  simp only [Option.some.injEq, Prod.mk.injEq] at H
  obtain ⟨rfl, rfl⟩ := H
  go_enter Tryd.func43, Tryd.ntmps43
  go_wp2
  repeat ((with_reducible refine at_region ?_); go_quiet (fail); try go_wp2)
  go_ret2
  exact ⟨_, by rfl, by exact Kd.S_nil _ _ _ _ _, by exact HB.out⟩
 rw [if_neg c2] at H
 have c2b0 := decide_eq_false c2
 have c2b1 : decide (l0.length < 4) = false := decide_eq_false (by omega)
 clear c2
 replace H := its H
 obtain ⟨c3, H⟩ := H
 have c3b0 := decide_eq_true c3
 have c3b1 : decide (0 < l0.length) = true := decide_eq_true (by omega)
 clear c3
 replace H := its H
 obtain ⟨c4, H⟩ := H
 have c4b0 := decide_eq_true c4
 have c4b1 : decide (1 < l0.length) = true := decide_eq_true (by omega)
 clear c4
 replace H := its H
 obtain ⟨c5, H⟩ := H
 have c5b0 := decide_eq_true c5
 have c5b1 : decide (2 < l0.length) = true := decide_eq_true (by omega)
 clear c5
 replace H := its H
 obtain ⟨c6, H⟩ := H
 have c6b0 := decide_eq_true c6
 have c6b1 : decide (3 < l0.length) = true := decide_eq_true (by omega)
 clear c6
 by_cases c7 : (Go.bits .or .u32 (Go.bits .or .u32 (Go.bits .or .u32 ((((rd l0 0) % 4294967296) * 16777216) % 4294967296) ((((rd l0 1) % 4294967296) * 65536) % 4294967296)) ((((rd l0 2) % 4294967296) * 256) % 4294967296)) ((rd l0 3) % 4294967296)) > 65536
 ·
  rw [if_pos c7] at H
  have c7b0 : decide (65536 < (Go.bits .or .u32 (Go.bits .or .u32 (Go.bits .or .u32 ((((rd l0 0) % 4294967296) * 16777216) % 4294967296) ((((rd l0 1) % 4294967296) * 65536) % 4294967296)) ((((rd l0 2) % 4294967296) * 256) % 4294967296)) ((rd l0 3) % 4294967296))) = true := decide_eq_true c7
  clear c7
  simp only [Option.some.injEq, Prod.mk.injEq] at H
  obtain ⟨rfl, rfl⟩ := H
  have p786 : 0 ≤ (0 : Int) := (by omega)
  have q786 : 0 < (l0.length : Int) := of_decide_eq_true (by assumption)
  obtain ⟨ad786, e786, hx786_0⟩ := Kd.at_int (Kd.V_reads' HO0.out).2.2 0 p786 q786
  cases e786
  have qi786 : (0 < l0.length) = True := eq_true (by omega)
  (try rw [show ((0 : Int)).toNat = 0 from rfl] at hx786_0)
  (try rw [Addr.add_zero'] at hx786_0)
  replace p786 := eq_true p786
  replace q786 := eq_true q786
  have p787 : 0 ≤ (1 : Int) := (by omega)
  have q787 : 1 < (l0.length : Int) := of_decide_eq_true (by assumption)
  obtain ⟨ad787, e787, hx787_0⟩ := Kd.at_int (Kd.V_reads' HO0.out).2.2 1 p787 q787
  obtain rfl : ad786 = ad787 := (by injection e787)
  (try simp only [show (1 : Int).toNat = 1 from rfl, Nat.reduceMul, Nat.reduceEqDiff, Go.Addr.add, ↓reduceIte] at hx787_0)
  have qi787 : (1 < l0.length) = True := eq_true (by omega)
  replace p787 := eq_true p787
  replace q787 := eq_true q787
  have p788 : 0 ≤ (2 : Int) := (by omega)
  have q788 : 2 < (l0.length : Int) := of_decide_eq_true (by assumption)
  obtain ⟨ad788, e788, hx788_0⟩ := Kd.at_int (Kd.V_reads' HO0.out).2.2 2 p788 q788
  obtain rfl : ad786 = ad788 := (by injection e788)
  (try simp only [show (2 : Int).toNat = 2 from rfl, Nat.reduceMul, Nat.reduceEqDiff, Go.Addr.add, ↓reduceIte] at hx788_0)
  have qi788 : (2 < l0.length) = True := eq_true (by omega)
  replace p788 := eq_true p788
  replace q788 := eq_true q788
  have p789 : 0 ≤ (3 : Int) := (by omega)
  have q789 : 3 < (l0.length : Int) := of_decide_eq_true (by assumption)
  obtain ⟨ad789, e789, hx789_0⟩ := Kd.at_int (Kd.V_reads' HO0.out).2.2 3 p789 q789
  obtain rfl : ad786 = ad789 := (by injection e789)
  (try simp only [show (3 : Int).toNat = 3 from rfl, Nat.reduceMul, Nat.reduceEqDiff, Go.Addr.add, ↓reduceIte] at hx789_0)
  have qi789 : (3 < l0.length) = True := eq_true (by omega)
  replace p789 := eq_true p789
  replace q789 := eq_true q789
  go_enter Tryd.func43, Tryd.ntmps43
  go_wp2
  repeat ((with_reducible refine at_region ?_); go_quiet (fail); try go_wp2)
  go_ret2
  exact ⟨_, by rfl, by exact Kd.S_nil _ _ _ _ _, by repeat ((with_reducible first | exact HB.out | apply pw_below_drewN))⟩
 rw [if_neg c7] at H
 have c7b0 : decide (65536 < (Go.bits .or .u32 (Go.bits .or .u32 (Go.bits .or .u32 ((((rd l0 0) % 4294967296) * 16777216) % 4294967296) ((((rd l0 1) % 4294967296) * 65536) % 4294967296)) ((((rd l0 2) % 4294967296) * 256) % 4294967296)) ((rd l0 3) % 4294967296))) = false := decide_eq_false c7
 clear c7
 replace H := its H
 obtain ⟨c8, H⟩ := H
 have c8b0 := eq_true c8
 have c8b1 := decide_eq_true c8
 clear c8
 obtain ⟨y790, hy790⟩ : ∃ y_ : List Int, y_ = (l0.drop 4) := ⟨_, rfl⟩
 replace H : (rowcode_ReadBag.l0 k y790 ([] : List (List (S42))) ([] : List Int) (Go.bits .or .u32 (Go.bits .or .u32 (Go.bits .or .u32 ((((rd l0 0) % 4294967296) * 16777216) % 4294967296) ((((rd l0 1) % 4294967296) * 65536) % 4294967296)) ((((rd l0 2) % 4294967296) * 256) % 4294967296)) ((rd l0 3) % 4294967296)) 0) = some (r1, r2) := by (rw [hy790]; with_reducible exact H)
 have Ny790 := am hy790
 clear hy790
 have H' := am H
 clear H
 have p786 : 0 ≤ (0 : Int) := (by omega)
 have q786 : 0 < (l0.length : Int) := of_decide_eq_true (by assumption)
 obtain ⟨ad786, e786, hx786_0⟩ := Kd.at_int (Kd.V_reads' HO0.out).2.2 0 p786 q786
 cases e786
 have qi786 : (0 < l0.length) = True := eq_true (by omega)
 (try rw [show ((0 : Int)).toNat = 0 from rfl] at hx786_0)
 (try rw [Addr.add_zero'] at hx786_0)
 replace p786 := eq_true p786
 replace q786 := eq_true q786
 have p787 : 0 ≤ (1 : Int) := (by omega)
 have q787 : 1 < (l0.length : Int) := of_decide_eq_true (by assumption)
 obtain ⟨ad787, e787, hx787_0⟩ := Kd.at_int (Kd.V_reads' HO0.out).2.2 1 p787 q787
 obtain rfl : ad786 = ad787 := (by injection e787)
 (try simp only [show (1 : Int).toNat = 1 from rfl, Nat.reduceMul, Nat.reduceEqDiff, Go.Addr.add, ↓reduceIte] at hx787_0)
 have qi787 : (1 < l0.length) = True := eq_true (by omega)
 replace p787 := eq_true p787
 replace q787 := eq_true q787
 have p788 : 0 ≤ (2 : Int) := (by omega)
 have q788 : 2 < (l0.length : Int) := of_decide_eq_true (by assumption)
 obtain ⟨ad788, e788, hx788_0⟩ := Kd.at_int (Kd.V_reads' HO0.out).2.2 2 p788 q788
 obtain rfl : ad786 = ad788 := (by injection e788)
 (try simp only [show (2 : Int).toNat = 2 from rfl, Nat.reduceMul, Nat.reduceEqDiff, Go.Addr.add, ↓reduceIte] at hx788_0)
 have qi788 : (2 < l0.length) = True := eq_true (by omega)
 replace p788 := eq_true p788
 replace q788 := eq_true q788
 have p789 : 0 ≤ (3 : Int) := (by omega)
 have q789 : 3 < (l0.length : Int) := of_decide_eq_true (by assumption)
 obtain ⟨ad789, e789, hx789_0⟩ := Kd.at_int (Kd.V_reads' HO0.out).2.2 3 p789 q789
 obtain rfl : ad786 = ad789 := (by injection e789)
 (try simp only [show (3 : Int).toNat = 3 from rfl, Nat.reduceMul, Nat.reduceEqDiff, Go.Addr.add, ↓reduceIte] at hx789_0)
 have qi789 : (3 < l0.length) = True := eq_true (by omega)
 replace p789 := eq_true p789
 replace q789 := eq_true q789
 have q9 : (4 : Int) ≤ ((l0.length : Int) : Int) := of_decide_eq_true (by assumption)
 obtain ⟨i09, hi09, _, hsz9, _⟩ := info_parts info5
 have hroom9 : l0.length ≤ c0 := (Kd.V_reads' HO0.out).2.1
 have hC9 : Kd.F (Kd.int .u8) _ _ (some ad786) l0.length l0 := (Kd.V_at (base := w.heap.size) HO0.out).2.2
 have hcut9 := cut_from (P := Tryd.prog) 47 5 .i64 Tryd.underlying47 hi09 1 hsz9 (some ad786) l0.length c0 4 (by omega) q9
 have hr9 := Kd.F_cut (m := (4 : Int).toNat) (c := c0) hC9 (by omega) hroom9
 obtain ⟨A9, hA9⟩ : ∃ A1, A1 = (if c0 = (4 : Int).toNat then (some ad786) else ((some ad786) : Option Addr).map (·.add ((4 : Int).toNat * 1))) := ⟨_, rfl⟩
 obtain ⟨c9, hc9⟩ : ∃ c1, c1 = c0 - (4 : Int).toNat := ⟨_, rfl⟩
 have hy9 : y790.length = l0.length - (4 : Int).toNat := (by rw [Ny790.out, List.length_drop] <;> omega)
 rw [show (l0).drop (4 : Int).toNat = y790 from Ny790.out.symm] at hr9
 replace hr9 : Kd.F (Kd.int .u8) _ _ A9 y790.length y790 := (by rw [hA9]; exact hr9)
 rw [← hy9, ← hA9, ← hc9] at hcut9
 have HO794 := am (show Kd.V (Kd.int .u8) 5 _ w.heap.size _ (.slice A9 y790.length c9) y790 from Kd.V_mk (by rw [hy9, hc9]; exact Nat.sub_le_sub_right hroom9 _) hr9)
 have HC794 := am (show y790.length ≤ c9 from by rw [hy9, hc9]; exact Nat.sub_le_sub_right hroom9 _)
 clear hr9 hC9 hroom9 hi09 hsz9 hc9
 have KY9 := am hy9
 have KA9 := am hA9
 clear hy9 hA9
 replace q9 := eq_true q9
 go_enter Tryd.func43, Tryd.ntmps43
 go_wp2
 repeat ((with_reducible refine at_region ?_); go_quiet (fail); try go_wp2)
 go_loopg [0, 5, 6, 41] k (fun kq v0 v5 v6 v41 w' => ∃ (x0_1 : List Int) (x5_1 : List (List (S42))) (x6_1 : List Int) (x41_1 : Int), v41 = .int .u32 x41_1 ∧ Aside0 (rowcode_ReadBag.l0 kq x0_1 x5_1 x6_1 (Go.bits .or .u32 (Go.bits .or .u32 (Go.bits .or .u32 ((((rd l0 0) % 4294967296) * 16777216) % 4294967296) ((((rd l0 1) % 4294967296) * 65536) % 4294967296)) ((((rd l0 2) % 4294967296) * 256) % 4294967296)) ((rd l0 3) % 4294967296)) x41_1 = some (r1, r2)) ∧ Aside0 (kq ≤ k) ∧ Aside0 (Kd.V (Kd.int .u8) 5 w' w.heap.size (fun k_ => (P0_ k_ ∨ w.heap.size ≤ k_) ∧ some k_ ≠ (v5 : Value).ownBlock) v0 x0_1) ∧ Aside0 (Kd.S (Kd.slice 42 k42) 33 w' w.heap.size (fun k_ => (w.heap.size ≤ k_)) v5 x5_1) ∧ Aside0 (Kd.V (Kd.int .u8) 5 w' w.heap.size (fun k_ => (P0_ k_ ∨ w.heap.size ≤ k_) ∧ some k_ ≠ (v5 : Value).ownBlock) v6 x6_1) ∧ Aside0 (Below w.heap.size w w'))
 case atStart => exact ⟨(y790), (([] : List (List (S42)))), (([] : List Int)), (0), (by rfl), H', ⟨Nat.le_refl _⟩, ⟨by (with_reducible repeat (apply Kd.V_drewN)); exact Kd.V_mono HO794.out (fun _ hk => ⟨hk, (by simp [Value.ownBlock])⟩)⟩, ⟨by exact Kd.S_nil _ _ _ _ _⟩, ⟨Kd.V_nil _ _ _ _ _⟩, ⟨by repeat ((with_reducible first | exact HB.out | apply pw_below_drewN))⟩⟩
 case round =>
  clear H'
  (try clear c2b0); (try clear c2b1); (try clear c3b0); (try clear c3b1); (try clear c4b0); (try clear c4b1); (try clear c5b0); (try clear c5b1); (try clear c6b0); (try clear c6b1); (try clear c7b0); (try clear c8b0); (try clear c8b1); (try clear q9); (try clear hx786_0); (try clear hx787_0); (try clear hx788_0); (try clear hx789_0); (try clear p786); (try clear p787); (try clear p788); (try clear p789)
  (try clear q786); (try clear q787); (try clear q788); (try clear q789)
  obtain ⟨x0_1, x5_1, x6_1, x41_1, rfl, HA, HK1, HO_0, HO_5, HO_6, HB⟩ := hrel
  cases gk with
  | zero => exact absurd HA.out (by simp [rowcode_ReadBag.l0])
  | succ k1 =>
   have H := HA.out
   clear HA
   simp only [rowcode_ReadBag.l0] at H
   by_cases c10 : x41_1 < (Go.bits .or .u32 (Go.bits .or .u32 (Go.bits .or .u32 ((((rd l0 0) % 4294967296) * 16777216) % 4294967296) ((((rd l0 1) % 4294967296) * 65536) % 4294967296)) ((((rd l0 2) % 4294967296) * 256) % 4294967296)) ((rd l0 3) % 4294967296))
   rotate_left
   ·
    rw [if_neg c10] at H
    have c10b0 := decide_eq_false c10
    clear c10
    by_cases c35 : (x0_1.length : Int) > 0
    ·
     rw [if_pos c35] at H
     have c35b0 : decide (0 < (x0_1.length : Int)) = true := decide_eq_true c35
     have c35b1 : decide (0 < x0_1.length) = true := decide_eq_true (by omega)
     clear c35
     simp only [Option.some.injEq, Prod.mk.injEq] at H
     obtain ⟨rfl, rfl⟩ := H
     obtain ⟨Ao36, co36, eo36⟩ := Kd.V_slice HO_0.out
     subst eo36
     go_wp2
     repeat ((with_reducible refine at_region ?_); go_quiet (fail); try go_wp2)
     go_ret2
     exact ⟨_, by rfl, by exact Kd.S_nil _ _ _ _ _, by exact HB.out⟩
    rw [if_neg c35] at H
    have c35b0 : decide (0 < (x0_1.length : Int)) = false := decide_eq_false c35
    have c35b1 : decide (0 < x0_1.length) = false := decide_eq_false (by omega)
    clear c35
    simp only [Option.some.injEq, Prod.mk.injEq] at H
    obtain ⟨rfl, rfl⟩ := H
    obtain ⟨Ao37, co37, eo37⟩ := Kd.V_slice HO_0.out
    subst eo37
    go_wp2
    repeat ((with_reducible refine at_region ?_); go_quiet (fail); try go_wp2)
    go_ret2
    exact ⟨_, by rfl, by exact HO_5.out, by exact HB.out⟩
   rw [if_pos c10] at H
   have c10b0 := decide_eq_true c10
   clear c10
   replace H := Option.bind_eq_some_iff.mp H
   obtain ⟨⟨t795, t798, t801⟩, A110, H⟩ := H
   replace H : (if t801 = 0 then (if 0 ≤ (wrap64 ((x0_1.length : Int) - (t798.length : Int))) then (if (wrap64 ((x0_1.length : Int) - (t798.length : Int))) ≤ (x0_1.length : Int) then ((some (x0_1.take ((wrap64 ((x0_1.length : Int) - (t798.length : Int))) : Int).toNat : List Int)).bind fun y802 => ((bytes_Compare.f y802 x6_1).bind fun t807 => (if t807 < 0 then (some (([] : List (List (S42))), 20)) else (if x5_1.length < 5864062014805 then (rowcode_ReadBag.l0 k1 t798 (x5_1 ++ [t795]) y802 (Go.bits .or .u32 (Go.bits .or .u32 (Go.bits .or .u32 ((((rd l0 0) % 4294967296) * 16777216) % 4294967296) ((((rd l0 1) % 4294967296) * 65536) % 4294967296)) ((((rd l0 2) % 4294967296) * 256) % 4294967296)) ((rd l0 3) % 4294967296)) ((x41_1 + 1) % 4294967296)) else (none))))) else (none)) else (none)) else (some (([] : List (List (S42))), t801))) = some (r1, r2) := H
   have A11 := am A110
   clear A110
   by_cases c12 : t801 = 0
   rotate_left
   ·
    rw [if_neg c12] at H
    have c12b0 : (t801 == 0) = false := beq_eq_false_iff_ne.mpr c12
    have c12b1 : (t801 != 0) = true := bne_iff_ne.mpr c12
    simp only [Option.some.injEq, Prod.mk.injEq] at H
    obtain ⟨rfl, rfl⟩ := H
    obtain ⟨Ao33, co33, eo33⟩ := Kd.V_slice HO_0.out
    subst eo33
    go_wp2_with ((go_at_call 60; (with_reducible refine (rowcode_readRow.calls k1 (fun k_ => ((P0_ k_ ∨ w.heap.size ≤ k_) ∧ some k_ ≠ (u5 : Value).ownBlock)) _ _ x0_1 t795 t798 t801 _ ?side1 ?side2 A11.out).mono ?_); (case side1 => exact Tabs.below HT.out HB.out); (case side2 => exact HO_0.out); rintro e w34 ⟨v796, v799, rfl, ho0, ho1, hb⟩; replace HO_0 := am (Kd.V_elder' HO_0.out (Kd.R_base ho0) hb); replace HO_6 := am (Kd.V_elder' HO_6.out (Kd.R_base ho0) hb); have HO797 := am (Kd.R_lower (Kd.R_newM (M := fun k_ => (w.heap.size ≤ k_)) (Kd.R_mono (ok' := fun k_ => True) ho0 (fun _ hk_ => trivial)) (below_size HB.out) (fun k_ h_ => h_)) (below_size HB.out)); have HO800 := am (Kd.V_lower (Kd.V_mono (ok' := fun k_ => (P0_ k_ ∨ w.heap.size ≤ k_) ∧ some k_ ≠ (v796 : Value).ownBlock ∧ some k_ ≠ (u5 : Value).ownBlock) ho1 (fun k_ hk_ => ⟨Or.elim hk_.1 (fun hs_ => hs_.1) (fun hn_ => (.inr (Nat.le_trans (below_size HB.out) hn_))), hk_.2, Or.elim hk_.1 (fun hs_ => hs_.2) (fun hn_ => (Kd.fresh' (Kd.S_lt HO_5.out) k_ hn_))⟩)) (below_size HB.out)); replace HO_5 := am (Kd.S_elder' HO_5.out (Kd.R_base ho0) hb); replace HB := am (below_step HB.out hb); (try clear hb); (try clear ho0); (try clear ho1)))
    repeat ((with_reducible refine at_region ?_); go_quiet (first | (go_at_call 60; (with_reducible refine (rowcode_readRow.calls k1 (fun k_ => ((P0_ k_ ∨ w.heap.size ≤ k_) ∧ some k_ ≠ (u5 : Value).ownBlock)) _ _ x0_1 t795 t798 t801 _ ?side1 ?side2 A11.out).mono ?_); (case side1 => exact Tabs.below HT.out HB.out); (case side2 => exact HO_0.out); rintro e w34 ⟨v796, v799, rfl, ho0, ho1, hb⟩; replace HO_0 := am (Kd.V_elder' HO_0.out (Kd.R_base ho0) hb); replace HO_6 := am (Kd.V_elder' HO_6.out (Kd.R_base ho0) hb); have HO797 := am (Kd.R_lower (Kd.R_newM (M := fun k_ => (w.heap.size ≤ k_)) (Kd.R_mono (ok' := fun k_ => True) ho0 (fun _ hk_ => trivial)) (below_size HB.out) (fun k_ h_ => h_)) (below_size HB.out)); have HO800 := am (Kd.V_lower (Kd.V_mono (ok' := fun k_ => (P0_ k_ ∨ w.heap.size ≤ k_) ∧ some k_ ≠ (v796 : Value).ownBlock ∧ some k_ ≠ (u5 : Value).ownBlock) ho1 (fun k_ hk_ => ⟨Or.elim hk_.1 (fun hs_ => hs_.1) (fun hn_ => (.inr (Nat.le_trans (below_size HB.out) hn_))), hk_.2, Or.elim hk_.1 (fun hs_ => hs_.2) (fun hn_ => (Kd.fresh' (Kd.S_lt HO_5.out) k_ hn_))⟩)) (below_size HB.out)); replace HO_5 := am (Kd.S_elder' HO_5.out (Kd.R_base ho0) hb); replace HB := am (below_step HB.out hb); )); try go_wp2_with (first | (go_at_call 60; (with_reducible refine (rowcode_readRow.calls k1 (fun k_ => ((P0_ k_ ∨ w.heap.size ≤ k_) ∧ some k_ ≠ (u5 : Value).ownBlock)) _ _ x0_1 t795 t798 t801 _ ?side1 ?side2 A11.out).mono ?_); (case side1 => exact Tabs.below HT.out HB.out); (case side2 => exact HO_0.out); rintro e w34 ⟨v796, v799, rfl, ho0, ho1, hb⟩; replace HO_0 := am (Kd.V_elder' HO_0.out (Kd.R_base ho0) hb); replace HO_6 := am (Kd.V_elder' HO_6.out (Kd.R_base ho0) hb); have HO797 := am (Kd.R_lower (Kd.R_newM (M := fun k_ => (w.heap.size ≤ k_)) (Kd.R_mono (ok' := fun k_ => True) ho0 (fun _ hk_ => trivial)) (below_size HB.out) (fun k_ h_ => h_)) (below_size HB.out)); have HO800 := am (Kd.V_lower (Kd.V_mono (ok' := fun k_ => (P0_ k_ ∨ w.heap.size ≤ k_) ∧ some k_ ≠ (v796 : Value).ownBlock ∧ some k_ ≠ (u5 : Value).ownBlock) ho1 (fun k_ hk_ => ⟨Or.elim hk_.1 (fun hs_ => hs_.1) (fun hn_ => (.inr (Nat.le_trans (below_size HB.out) hn_))), hk_.2, Or.elim hk_.1 (fun hs_ => hs_.2) (fun hn_ => (Kd.fresh' (Kd.S_lt HO_5.out) k_ hn_))⟩)) (below_size HB.out)); replace HO_5 := am (Kd.S_elder' HO_5.out (Kd.R_base ho0) hb); replace HB := am (below_step HB.out hb); )))
    go_ret2
    exact ⟨_, by rfl, by exact Kd.S_nil _ _ _ _ _, by exact HB.out⟩
   rw [if_pos c12] at H
   have c12b0 : (t801 == 0) = true := beq_iff_eq.mpr c12
   have c12b1 : (t801 != 0) = false := bne_eq_false_iff_eq.mpr c12
   clear c12
   obtain ⟨ji13, hji13⟩ : ∃ j_ : Int, (wrap64 ((x0_1.length : Int) - (t798.length : Int))) = j_ := ⟨_, rfl⟩
   replace H : (if 0 ≤ (ji13) then (if (ji13) ≤ (x0_1.length : Int) then ((some (x0_1.take ((ji13) : Int).toNat : List Int)).bind fun y802 => ((bytes_Compare.f y802 x6_1).bind fun t807 => (if t807 < 0 then (some (([] : List (List (S42))), 20)) else (if x5_1.length < 5864062014805 then (rowcode_ReadBag.l0 k1 t798 (x5_1 ++ [t795]) y802 (Go.bits .or .u32 (Go.bits .or .u32 (Go.bits .or .u32 ((((rd l0 0) % 4294967296) * 16777216) % 4294967296) ((((rd l0 1) % 4294967296) * 65536) % 4294967296)) ((((rd l0 2) % 4294967296) * 256) % 4294967296)) ((rd l0 3) % 4294967296)) ((x41_1 + 1) % 4294967296)) else (none))))) else (none)) else (none)) = some (r1, r2) := by (rw [hji13] at H; exact H)
   have hji13w : (IntKind.i64.wrap ((x0_1.length : Int) - (t798.length : Int))) = ji13 := (i64_w _).trans hji13
   replace H := its H
   obtain ⟨c14, H⟩ := H
   have c14b0 := eq_true c14
   have c14b1 := decide_eq_true c14
   clear c14
   replace H := its H
   obtain ⟨c15, H⟩ := H
   have c15b0 := eq_true c15
   have c15b1 := decide_eq_true c15
   clear c15
   obtain ⟨y802, hy802⟩ : ∃ y_ : List Int, y_ = (x0_1.take ((ji13) : Int).toNat) := ⟨_, rfl⟩
   replace H : ((bytes_Compare.f y802 x6_1).bind fun t807 => (if t807 < 0 then (some (([] : List (List (S42))), 20)) else (if x5_1.length < 5864062014805 then (rowcode_ReadBag.l0 k1 t798 (x5_1 ++ [t795]) y802 (Go.bits .or .u32 (Go.bits .or .u32 (Go.bits .or .u32 ((((rd l0 0) % 4294967296) * 16777216) % 4294967296) ((((rd l0 1) % 4294967296) * 65536) % 4294967296)) ((((rd l0 2) % 4294967296) * 256) % 4294967296)) ((rd l0 3) % 4294967296)) ((x41_1 + 1) % 4294967296)) else (none)))) = some (r1, r2) := by (have H2_ := (Option.bind_some _ _).symm.trans H; rw [hy802]; with_reducible exact H2_)
   have Ny802 := am hy802
   clear hy802
   replace H := Option.bind_eq_some_iff.mp H
   obtain ⟨t807, A160, H⟩ := H
   replace H : (if t807 < 0 then (some (([] : List (List (S42))), 20)) else (if x5_1.length < 5864062014805 then (rowcode_ReadBag.l0 k1 t798 (x5_1 ++ [t795]) y802 (Go.bits .or .u32 (Go.bits .or .u32 (Go.bits .or .u32 ((((rd l0 0) % 4294967296) * 16777216) % 4294967296) ((((rd l0 1) % 4294967296) * 65536) % 4294967296)) ((((rd l0 2) % 4294967296) * 256) % 4294967296)) ((rd l0 3) % 4294967296)) ((x41_1 + 1) % 4294967296)) else (none))) = some (r1, r2) := H
   have A16 := am A160
   clear A160
   by_cases c17 : t807 < 0
   ·
    rw [if_pos c17] at H
    have c17b0 := decide_eq_true c17
    clear c17
    simp only [Option.some.injEq, Prod.mk.injEq] at H
    obtain ⟨rfl, rfl⟩ := H
    obtain ⟨Ao18, co18, eo18⟩ := Kd.V_slice HO_0.out
    subst eo18
    go_wp2_with (first | (go_at_call 60; (with_reducible refine (rowcode_readRow.calls k1 (fun k_ => ((P0_ k_ ∨ w.heap.size ≤ k_) ∧ some k_ ≠ (u5 : Value).ownBlock)) _ _ x0_1 t795 t798 t801 _ ?side1 ?side2 A11.out).mono ?_); (case side1 => exact Tabs.below HT.out HB.out); (case side2 => exact HO_0.out); rintro e w19 ⟨v796, v799, rfl, ho0, ho1, hb⟩; replace HO_0 := am (Kd.V_elder' HO_0.out (Kd.R_base ho0) hb); replace HO_6 := am (Kd.V_elder' HO_6.out (Kd.R_base ho0) hb); have HO797 := am (Kd.R_lower (Kd.R_newM (M := fun k_ => (w.heap.size ≤ k_)) (Kd.R_mono (ok' := fun k_ => True) ho0 (fun _ hk_ => trivial)) (below_size HB.out) (fun k_ h_ => h_)) (below_size HB.out)); have HO800 := am (Kd.V_lower (Kd.V_mono (ok' := fun k_ => (P0_ k_ ∨ w.heap.size ≤ k_) ∧ some k_ ≠ (v796 : Value).ownBlock ∧ some k_ ≠ (u5 : Value).ownBlock) ho1 (fun k_ hk_ => ⟨Or.elim hk_.1 (fun hs_ => hs_.1) (fun hn_ => (.inr (Nat.le_trans (below_size HB.out) hn_))), hk_.2, Or.elim hk_.1 (fun hs_ => hs_.2) (fun hn_ => (Kd.fresh' (Kd.S_lt HO_5.out) k_ hn_))⟩)) (below_size HB.out)); replace HO_5 := am (Kd.S_elder' HO_5.out (Kd.R_base ho0) hb); replace HB := am (below_step HB.out hb); (try clear hb); (try clear ho0); (try clear ho1); obtain ⟨Ao20, co20, eo20⟩ := Kd.V_slice HO800.out; subst eo20; have q21 : ((ji13) : Int) ≤ ((x0_1.length : Int) : Int) := of_decide_eq_true (by assumption); obtain ⟨i021, hi021, _, hsz21, _⟩ := info_parts info5; have hroom21 : x0_1.length ≤ co18 := (Kd.V_reads' HO_0.out).2.1; have hC21 : Kd.F (Kd.int .u8) _ _ Ao18 x0_1.length x0_1 := (Kd.V_at (base := w.heap.size) HO_0.out).2.2; have hcut21 := cut_to (P := Tryd.prog) 47 5 .i64 Tryd.underlying47 hi021 Ao18 x0_1.length co18 (ji13) (of_decide_eq_true (by assumption)) q21 hroom21; have hr21 := Kd.F_take (m := ((ji13) : Int).toNat) hC21 (by omega); have hy21 : y802.length = ((ji13) : Int).toNat := (by rw [Ny802.out, List.length_take]; omega); rw [← Ny802.out] at hr21; rw [← hy21] at hcut21; have HO806 := am (show Kd.V (Kd.int .u8) 5 _ w.heap.size _ (.slice Ao18 y802.length co18) y802 from Kd.V_mk (by omega) hr21); have HC806 := am (show y802.length ≤ co18 from by omega); clear hr21 hC21 hroom21 hi021 hsz21; have KY21 := am hy21; clear hy21; replace q21 := eq_true q21; obtain ⟨Ao22, co22, eo22⟩ := Kd.V_slice HO_6.out; subst eo22) | (go_at_call 62; (with_reducible refine (bytes_Compare.calls _ _ y802 _ _ x6_1 t807 _ ?side1 ?side2 ?side3 ?side4 A16.out).mono ?_); (case side1 => exact (Kd.V_reads' HO806.out).2.2); (case side2 => exact (Kd.V_reads' HO806.out).2.1); (case side3 => exact (Kd.V_reads' HO_6.out).2.2); (case side4 => exact (Kd.V_reads' HO_6.out).2.1); rintro e w23 ⟨rfl, hb⟩; replace HO_0 := am (Kd.V_below HO_0.out hb); replace HO_5 := am (Kd.S_below HO_5.out hb); replace HO_6 := am (Kd.V_below HO_6.out hb); replace HO797 := am (Kd.R_below HO797.out hb); replace HO800 := am (Kd.V_below HO800.out hb); replace HO806 := am (Kd.V_below HO806.out hb); replace HB := am (below_step HB.out hb); (try clear hb)))
    repeat ((with_reducible refine at_region ?_); go_quiet (first | (go_at_call 60; (with_reducible refine (rowcode_readRow.calls k1 (fun k_ => ((P0_ k_ ∨ w.heap.size ≤ k_) ∧ some k_ ≠ (u5 : Value).ownBlock)) _ _ x0_1 t795 t798 t801 _ ?side1 ?side2 A11.out).mono ?_); (case side1 => exact Tabs.below HT.out HB.out); (case side2 => exact HO_0.out); rintro e w19 ⟨v796, v799, rfl, ho0, ho1, hb⟩; replace HO_0 := am (Kd.V_elder' HO_0.out (Kd.R_base ho0) hb); replace HO_6 := am (Kd.V_elder' HO_6.out (Kd.R_base ho0) hb); have HO797 := am (Kd.R_lower (Kd.R_newM (M := fun k_ => (w.heap.size ≤ k_)) (Kd.R_mono (ok' := fun k_ => True) ho0 (fun _ hk_ => trivial)) (below_size HB.out) (fun k_ h_ => h_)) (below_size HB.out)); have HO800 := am (Kd.V_lower (Kd.V_mono (ok' := fun k_ => (P0_ k_ ∨ w.heap.size ≤ k_) ∧ some k_ ≠ (v796 : Value).ownBlock ∧ some k_ ≠ (u5 : Value).ownBlock) ho1 (fun k_ hk_ => ⟨Or.elim hk_.1 (fun hs_ => hs_.1) (fun hn_ => (.inr (Nat.le_trans (below_size HB.out) hn_))), hk_.2, Or.elim hk_.1 (fun hs_ => hs_.2) (fun hn_ => (Kd.fresh' (Kd.S_lt HO_5.out) k_ hn_))⟩)) (below_size HB.out)); replace HO_5 := am (Kd.S_elder' HO_5.out (Kd.R_base ho0) hb); replace HB := am (below_step HB.out hb); obtain ⟨Ao20, co20, eo20⟩ := Kd.V_slice HO800.out; subst eo20; have q21 : ((ji13) : Int) ≤ ((x0_1.length : Int) : Int) := of_decide_eq_true (by first | (with_reducible assumption) | assumption); obtain ⟨i021, hi021, _, hsz21, _⟩ := info_parts info5; have hroom21 : x0_1.length ≤ co18 := (Kd.V_reads' HO_0.out).2.1; have hC21 : Kd.F (Kd.int .u8) _ _ Ao18 x0_1.length x0_1 := (Kd.V_at (base := w.heap.size) HO_0.out).2.2; have hcut21 := cut_to (P := Tryd.prog) 47 5 .i64 Tryd.underlying47 hi021 Ao18 x0_1.length co18 (ji13) (of_decide_eq_true (by first | (with_reducible assumption) | assumption)) q21 hroom21; have hr21 := Kd.F_take (m := ((ji13) : Int).toNat) hC21 (by omega); have hy21 : y802.length = ((ji13) : Int).toNat := (by rw [Ny802.out, List.length_take]; omega); rw [← Ny802.out] at hr21; rw [← hy21] at hcut21; have HO806 := am (show Kd.V (Kd.int .u8) 5 _ w.heap.size _ (.slice Ao18 y802.length co18) y802 from Kd.V_mk (by omega) hr21); have HC806 := am (show y802.length ≤ co18 from by omega); clear hr21 hC21 hroom21 hi021 hsz21; have KY21 := am hy21; clear hy21; replace q21 := eq_true q21; obtain ⟨Ao22, co22, eo22⟩ := Kd.V_slice HO_6.out; subst eo22) | (go_at_call 62; (with_reducible refine (bytes_Compare.calls _ _ y802 _ _ x6_1 t807 _ ?side1 ?side2 ?side3 ?side4 A16.out).mono ?_); (case side1 => repeat (first | exact (Kd.V_reads' HO806.out).2.2 | (with_reducible refine Kd.C_alloc ?_ _) | (with_reducible refine Kd.C_drewN ?_ _) | (with_reducible refine Kd.C_drew ?_))); (case side2 => exact (Kd.V_reads' HO806.out).2.1); (case side3 => repeat (first | exact (Kd.V_reads' HO_6.out).2.2 | (with_reducible refine Kd.C_alloc ?_ _) | (with_reducible refine Kd.C_drewN ?_ _) | (with_reducible refine Kd.C_drew ?_))); (case side4 => exact (Kd.V_reads' HO_6.out).2.1); rintro e w23 ⟨rfl, hb⟩; replace HO_0 := am (Kd.V_below HO_0.out hb); replace HO_5 := am (Kd.S_below HO_5.out hb); replace HO_6 := am (Kd.V_below HO_6.out hb); replace HO797 := am (Kd.R_below HO797.out hb); replace HO800 := am (Kd.V_below HO800.out hb); replace HO806 := am (Kd.V_below HO806.out hb); replace HB := am (below_step HB.out hb); )); try go_wp2_with (first | (go_at_call 60; (with_reducible refine (rowcode_readRow.calls k1 (fun k_ => ((P0_ k_ ∨ w.heap.size ≤ k_) ∧ some k_ ≠ (u5 : Value).ownBlock)) _ _ x0_1 t795 t798 t801 _ ?side1 ?side2 A11.out).mono ?_); (case side1 => exact Tabs.below HT.out HB.out); (case side2 => exact HO_0.out); rintro e w19 ⟨v796, v799, rfl, ho0, ho1, hb⟩; replace HO_0 := am (Kd.V_elder' HO_0.out (Kd.R_base ho0) hb); replace HO_6 := am (Kd.V_elder' HO_6.out (Kd.R_base ho0) hb); have HO797 := am (Kd.R_lower (Kd.R_newM (M := fun k_ => (w.heap.size ≤ k_)) (Kd.R_mono (ok' := fun k_ => True) ho0 (fun _ hk_ => trivial)) (below_size HB.out) (fun k_ h_ => h_)) (below_size HB.out)); have HO800 := am (Kd.V_lower (Kd.V_mono (ok' := fun k_ => (P0_ k_ ∨ w.heap.size ≤ k_) ∧ some k_ ≠ (v796 : Value).ownBlock ∧ some k_ ≠ (u5 : Value).ownBlock) ho1 (fun k_ hk_ => ⟨Or.elim hk_.1 (fun hs_ => hs_.1) (fun hn_ => (.inr (Nat.le_trans (below_size HB.out) hn_))), hk_.2, Or.elim hk_.1 (fun hs_ => hs_.2) (fun hn_ => (Kd.fresh' (Kd.S_lt HO_5.out) k_ hn_))⟩)) (below_size HB.out)); replace HO_5 := am (Kd.S_elder' HO_5.out (Kd.R_base ho0) hb); replace HB := am (below_step HB.out hb); obtain ⟨Ao20, co20, eo20⟩ := Kd.V_slice HO800.out; subst eo20; have q21 : ((ji13) : Int) ≤ ((x0_1.length : Int) : Int) := of_decide_eq_true (by first | (with_reducible assumption) | assumption); obtain ⟨i021, hi021, _, hsz21, _⟩ := info_parts info5; have hroom21 : x0_1.length ≤ co18 := (Kd.V_reads' HO_0.out).2.1; have hC21 : Kd.F (Kd.int .u8) _ _ Ao18 x0_1.length x0_1 := (Kd.V_at (base := w.heap.size) HO_0.out).2.2; have hcut21 := cut_to (P := Tryd.prog) 47 5 .i64 Tryd.underlying47 hi021 Ao18 x0_1.length co18 (ji13) (of_decide_eq_true (by first | (with_reducible assumption) | assumption)) q21 hroom21; have hr21 := Kd.F_take (m := ((ji13) : Int).toNat) hC21 (by omega); have hy21 : y802.length = ((ji13) : Int).toNat := (by rw [Ny802.out, List.length_take]; omega); rw [← Ny802.out] at hr21; rw [← hy21] at hcut21; have HO806 := am (show Kd.V (Kd.int .u8) 5 _ w.heap.size _ (.slice Ao18 y802.length co18) y802 from Kd.V_mk (by omega) hr21); have HC806 := am (show y802.length ≤ co18 from by omega); clear hr21 hC21 hroom21 hi021 hsz21; have KY21 := am hy21; clear hy21; replace q21 := eq_true q21; obtain ⟨Ao22, co22, eo22⟩ := Kd.V_slice HO_6.out; subst eo22) | (go_at_call 62; (with_reducible refine (bytes_Compare.calls _ _ y802 _ _ x6_1 t807 _ ?side1 ?side2 ?side3 ?side4 A16.out).mono ?_); (case side1 => repeat (first | exact (Kd.V_reads' HO806.out).2.2 | (with_reducible refine Kd.C_alloc ?_ _) | (with_reducible refine Kd.C_drewN ?_ _) | (with_reducible refine Kd.C_drew ?_))); (case side2 => exact (Kd.V_reads' HO806.out).2.1); (case side3 => repeat (first | exact (Kd.V_reads' HO_6.out).2.2 | (with_reducible refine Kd.C_alloc ?_ _) | (with_reducible refine Kd.C_drewN ?_ _) | (with_reducible refine Kd.C_drew ?_))); (case side4 => exact (Kd.V_reads' HO_6.out).2.1); rintro e w23 ⟨rfl, hb⟩; replace HO_0 := am (Kd.V_below HO_0.out hb); replace HO_5 := am (Kd.S_below HO_5.out hb); replace HO_6 := am (Kd.V_below HO_6.out hb); replace HO797 := am (Kd.R_below HO797.out hb); replace HO800 := am (Kd.V_below HO800.out hb); replace HO806 := am (Kd.V_below HO806.out hb); replace HB := am (below_step HB.out hb); )))
    go_ret2
    exact ⟨_, by rfl, by exact Kd.S_nil _ _ _ _ _, by exact HB.out⟩
   rw [if_neg c17] at H
   have c17b0 := decide_eq_false c17
   clear c17
   replace H := its H
   obtain ⟨c24, H⟩ := H
   have LMc24 := am c24
   clear c24
   obtain ⟨y808, hy808⟩ : ∃ y_ : List (List (S42)), y_ = (x5_1 ++ [t795]) := ⟨_, rfl⟩
   replace H : (rowcode_ReadBag.l0 k1 t798 y808 y802 (Go.bits .or .u32 (Go.bits .or .u32 (Go.bits .or .u32 ((((rd l0 0) % 4294967296) * 16777216) % 4294967296) ((((rd l0 1) % 4294967296) * 65536) % 4294967296)) ((((rd l0 2) % 4294967296) * 256) % 4294967296)) ((rd l0 3) % 4294967296)) ((x41_1 + 1) % 4294967296)) = some (r1, r2) := by (rw [hy808]; with_reducible exact H)
   have Ny808 := am hy808
   clear hy808
   have H' := am H
   clear H
   obtain ⟨Ao25, co25, eo25⟩ := Kd.V_slice HO_0.out
   subst eo25
   go_wp2_with (first | (go_at_call 60; (with_reducible refine (rowcode_readRow.calls k1 (fun k_ => ((P0_ k_ ∨ w.heap.size ≤ k_) ∧ some k_ ≠ (u5 : Value).ownBlock)) _ _ x0_1 t795 t798 t801 _ ?side1 ?side2 A11.out).mono ?_); (case side1 => exact Tabs.below HT.out HB.out); (case side2 => exact HO_0.out); rintro e w26 ⟨v796, v799, rfl, ho0, ho1, hb⟩; replace HO_0 := am (Kd.V_elder' HO_0.out (Kd.R_base ho0) hb); replace HO_6 := am (Kd.V_elder' HO_6.out (Kd.R_base ho0) hb); have HO797 := am (Kd.R_lower (Kd.R_newM (M := fun k_ => (w.heap.size ≤ k_)) (Kd.R_mono (ok' := fun k_ => True) ho0 (fun _ hk_ => trivial)) (below_size HB.out) (fun k_ h_ => h_)) (below_size HB.out)); have HO800 := am (Kd.V_lower (Kd.V_mono (ok' := fun k_ => (P0_ k_ ∨ w.heap.size ≤ k_) ∧ some k_ ≠ (v796 : Value).ownBlock ∧ some k_ ≠ (u5 : Value).ownBlock) ho1 (fun k_ hk_ => ⟨Or.elim hk_.1 (fun hs_ => hs_.1) (fun hn_ => (.inr (Nat.le_trans (below_size HB.out) hn_))), hk_.2, Or.elim hk_.1 (fun hs_ => hs_.2) (fun hn_ => (Kd.fresh' (Kd.S_lt HO_5.out) k_ hn_))⟩)) (below_size HB.out)); replace HO_5 := am (Kd.S_elder' HO_5.out (Kd.R_base ho0) hb); replace HB := am (below_step HB.out hb); (try clear hb); (try clear ho0); (try clear ho1); obtain ⟨Ao27, co27, eo27⟩ := Kd.V_slice HO800.out; subst eo27; have q28 : ((ji13) : Int) ≤ ((x0_1.length : Int) : Int) := of_decide_eq_true (by assumption); obtain ⟨i028, hi028, _, hsz28, _⟩ := info_parts info5; have hroom28 : x0_1.length ≤ co25 := (Kd.V_reads' HO_0.out).2.1; have hC28 : Kd.F (Kd.int .u8) _ _ Ao25 x0_1.length x0_1 := (Kd.V_at (base := w.heap.size) HO_0.out).2.2; have hcut28 := cut_to (P := Tryd.prog) 47 5 .i64 Tryd.underlying47 hi028 Ao25 x0_1.length co25 (ji13) (of_decide_eq_true (by assumption)) q28 hroom28; have hr28 := Kd.F_take (m := ((ji13) : Int).toNat) hC28 (by omega); have hy28 : y802.length = ((ji13) : Int).toNat := (by rw [Ny802.out, List.length_take]; omega); rw [← Ny802.out] at hr28; rw [← hy28] at hcut28; have HO806 := am (show Kd.V (Kd.int .u8) 5 _ w.heap.size _ (.slice Ao25 y802.length co25) y802 from Kd.V_mk (by omega) hr28); have HC806 := am (show y802.length ≤ co25 from by omega); clear hr28 hC28 hroom28 hi028 hsz28; have KY28 := am hy28; clear hy28; replace q28 := eq_true q28; obtain ⟨Ao29, co29, eo29⟩ := Kd.V_slice HO_6.out; subst eo29) | (go_at_call 62; (with_reducible refine (bytes_Compare.calls _ _ y802 _ _ x6_1 t807 _ ?side1 ?side2 ?side3 ?side4 A16.out).mono ?_); (case side1 => exact (Kd.V_reads' HO806.out).2.2); (case side2 => exact (Kd.V_reads' HO806.out).2.1); (case side3 => exact (Kd.V_reads' HO_6.out).2.2); (case side4 => exact (Kd.V_reads' HO_6.out).2.1); rintro e w30 ⟨rfl, hb⟩; replace HO_0 := am (Kd.V_below HO_0.out hb); replace HO_5 := am (Kd.S_below HO_5.out hb); replace HO_6 := am (Kd.V_below HO_6.out hb); replace HO797 := am (Kd.R_below HO797.out hb); replace HO800 := am (Kd.V_below HO800.out hb); replace HO806 := am (Kd.V_below HO806.out hb); replace HB := am (below_step HB.out hb); (try clear hb); obtain ⟨Ao32, co32, eo32⟩ := Kd.R_slice HO797.out; subst eo32) | ((with_reducible refine gate_builtin (b := .append) (xs := #[.tmp 63, .tmp 65]) rfl ?_); at_builtin; refine Kd.S_append (Kd.slice 42 k42) (w0 := w) w.heap.size rfl (.tmp 63) (.tmp 65) 44 33 (.slice none 0 0) 24 rfl Tryd.underlying44 info33 rfl (by decide) (by omega) u5 x5_1 t795 [.slice Ao32 t795.length co32] (fun k_ => (w.heap.size ≤ k_)) (fun k_ => some k_ = (.slice Ao32 t795.length co32 : Value).ownBlock) rfl rfl ?aP (fun k_ hk_ => ((Kd.R_mono (ok' := fun k_ => ((fun k_ => (w.heap.size ≤ k_))) k_ ∧ some k_ ≠ (u5 : Value).ownBlock) (Kd.R_apart' (HO797.out) (Kd.S_typed HO_5.out) (by decide)) (fun k_ hk => ⟨hk.1.1, hk.2⟩))).1 k_ hk_.symm) ?aF ?aO ?aB ?aS ?aL ?_; (case aP => exact Kd.M_row (Kd.R_mono (Kd.R_tight rfl (Kd.R_mono (ok' := fun k_ => ((fun k_ => (w.heap.size ≤ k_))) k_ ∧ some k_ ≠ (u5 : Value).ownBlock) (Kd.R_apart' (HO797.out) (Kd.S_typed HO_5.out) (by decide)) (fun k_ hk => ⟨hk.1.1, hk.2⟩))) (fun _ h_ => h_))); (case aB => exact HB.out); (case aF => exact (fun k_ hk => (Nat.le_trans (below_size HB.out) hk))); (case aO => exact (by exact Kd.S_mono HO_5.out (fun k_ hk => ⟨hk.1, fun e_ => hk.2 e_⟩))); (case aS => exact (below_size HB.out)); (case aL => have := LMc24.out; omega); intro v809 w31 ho hb hg hat; rw [← Ny808.out] at ho; replace HO_0 := am (Kd.V_afterv (ok := (fun k_ => (P0_ k_ ∨ w.heap.size ≤ k_) ∧ some k_ ≠ (.slice Ao32 t795.length co32 : Value).ownBlock)) (by exact Kd.V_mono HO_0.out (fun _ hk => ⟨⟨hk.1.1, hk.2⟩, hk.1.2⟩)) hg hat); replace HO_6 := am (Kd.V_afterv (ok := (fun k_ => (P0_ k_ ∨ w.heap.size ≤ k_) ∧ some k_ ≠ (.slice Ao32 t795.length co32 : Value).ownBlock)) (by exact Kd.V_mono HO_6.out (fun _ hk => ⟨⟨hk.1.1, hk.2⟩, hk.1.2⟩)) hg hat); replace HO800 := am (Kd.V_afterv (ok := (fun k_ => (P0_ k_ ∨ w.heap.size ≤ k_) ∧ some k_ ≠ (.slice Ao32 t795.length co32 : Value).ownBlock)) (by exact Kd.V_mono HO800.out (fun _ hk => ⟨⟨hk.1, hk.2.1⟩, hk.2.2⟩)) hg hat); replace HO806 := am (Kd.V_afterv (ok := (fun k_ => (P0_ k_ ∨ w.heap.size ≤ k_) ∧ some k_ ≠ (.slice Ao32 t795.length co32 : Value).ownBlock)) (by exact Kd.V_mono HO806.out (fun _ hk => ⟨⟨hk.1.1, hk.2⟩, hk.1.2⟩)) hg hat); replace HB := am (hb); have HO810 := am (ho); clear HO_5 HO797; clear ho hb hg hat))
   repeat ((with_reducible refine at_region ?_); go_quiet (first | (go_at_call 60; (with_reducible refine (rowcode_readRow.calls k1 (fun k_ => ((P0_ k_ ∨ w.heap.size ≤ k_) ∧ some k_ ≠ (u5 : Value).ownBlock)) _ _ x0_1 t795 t798 t801 _ ?side1 ?side2 A11.out).mono ?_); (case side1 => exact Tabs.below HT.out HB.out); (case side2 => exact HO_0.out); rintro e w26 ⟨v796, v799, rfl, ho0, ho1, hb⟩; replace HO_0 := am (Kd.V_elder' HO_0.out (Kd.R_base ho0) hb); replace HO_6 := am (Kd.V_elder' HO_6.out (Kd.R_base ho0) hb); have HO797 := am (Kd.R_lower (Kd.R_newM (M := fun k_ => (w.heap.size ≤ k_)) (Kd.R_mono (ok' := fun k_ => True) ho0 (fun _ hk_ => trivial)) (below_size HB.out) (fun k_ h_ => h_)) (below_size HB.out)); have HO800 := am (Kd.V_lower (Kd.V_mono (ok' := fun k_ => (P0_ k_ ∨ w.heap.size ≤ k_) ∧ some k_ ≠ (v796 : Value).ownBlock ∧ some k_ ≠ (u5 : Value).ownBlock) ho1 (fun k_ hk_ => ⟨Or.elim hk_.1 (fun hs_ => hs_.1) (fun hn_ => (.inr (Nat.le_trans (below_size HB.out) hn_))), hk_.2, Or.elim hk_.1 (fun hs_ => hs_.2) (fun hn_ => (Kd.fresh' (Kd.S_lt HO_5.out) k_ hn_))⟩)) (below_size HB.out)); replace HO_5 := am (Kd.S_elder' HO_5.out (Kd.R_base ho0) hb); replace HB := am (below_step HB.out hb); obtain ⟨Ao27, co27, eo27⟩ := Kd.V_slice HO800.out; subst eo27; have q28 : ((ji13) : Int) ≤ ((x0_1.length : Int) : Int) := of_decide_eq_true (by first | (with_reducible assumption) | assumption); obtain ⟨i028, hi028, _, hsz28, _⟩ := info_parts info5; have hroom28 : x0_1.length ≤ co25 := (Kd.V_reads' HO_0.out).2.1; have hC28 : Kd.F (Kd.int .u8) _ _ Ao25 x0_1.length x0_1 := (Kd.V_at (base := w.heap.size) HO_0.out).2.2; have hcut28 := cut_to (P := Tryd.prog) 47 5 .i64 Tryd.underlying47 hi028 Ao25 x0_1.length co25 (ji13) (of_decide_eq_true (by first | (with_reducible assumption) | assumption)) q28 hroom28; have hr28 := Kd.F_take (m := ((ji13) : Int).toNat) hC28 (by omega); have hy28 : y802.length = ((ji13) : Int).toNat := (by rw [Ny802.out, List.length_take]; omega); rw [← Ny802.out] at hr28; rw [← hy28] at hcut28; have HO806 := am (show Kd.V (Kd.int .u8) 5 _ w.heap.size _ (.slice Ao25 y802.length co25) y802 from Kd.V_mk (by omega) hr28); have HC806 := am (show y802.length ≤ co25 from by omega); clear hr28 hC28 hroom28 hi028 hsz28; have KY28 := am hy28; clear hy28; replace q28 := eq_true q28; obtain ⟨Ao29, co29, eo29⟩ := Kd.V_slice HO_6.out; subst eo29) | (go_at_call 62; (with_reducible refine (bytes_Compare.calls _ _ y802 _ _ x6_1 t807 _ ?side1 ?side2 ?side3 ?side4 A16.out).mono ?_); (case side1 => repeat (first | exact (Kd.V_reads' HO806.out).2.2 | (with_reducible refine Kd.C_alloc ?_ _) | (with_reducible refine Kd.C_drewN ?_ _) | (with_reducible refine Kd.C_drew ?_))); (case side2 => exact (Kd.V_reads' HO806.out).2.1); (case side3 => repeat (first | exact (Kd.V_reads' HO_6.out).2.2 | (with_reducible refine Kd.C_alloc ?_ _) | (with_reducible refine Kd.C_drewN ?_ _) | (with_reducible refine Kd.C_drew ?_))); (case side4 => exact (Kd.V_reads' HO_6.out).2.1); rintro e w30 ⟨rfl, hb⟩; replace HO_0 := am (Kd.V_below HO_0.out hb); replace HO_5 := am (Kd.S_below HO_5.out hb); replace HO_6 := am (Kd.V_below HO_6.out hb); replace HO797 := am (Kd.R_below HO797.out hb); replace HO800 := am (Kd.V_below HO800.out hb); replace HO806 := am (Kd.V_below HO806.out hb); replace HB := am (below_step HB.out hb); obtain ⟨Ao32, co32, eo32⟩ := Kd.R_slice HO797.out; subst eo32) | ((with_reducible refine gate_builtin (b := .append) (xs := #[.tmp 63, .tmp 65]) rfl ?_); at_builtin; refine Kd.S_append (Kd.slice 42 k42) (w0 := w) w.heap.size rfl (.tmp 63) (.tmp 65) 44 33 (.slice none 0 0) 24 rfl Tryd.underlying44 info33 rfl (by decide) (by omega) u5 x5_1 t795 [.slice Ao32 t795.length co32] (fun k_ => (w.heap.size ≤ k_)) (fun k_ => some k_ = (.slice Ao32 t795.length co32 : Value).ownBlock) rfl rfl ?aP (fun k_ hk_ => ((Kd.R_mono (ok' := fun k_ => ((fun k_ => (w.heap.size ≤ k_))) k_ ∧ some k_ ≠ (u5 : Value).ownBlock) (Kd.R_apart' (HO797.out) (Kd.S_typed HO_5.out) (by decide)) (fun k_ hk => ⟨hk.1.1, hk.2⟩))).1 k_ hk_.symm) ?aF ?aO ?aB ?aS ?aL ?_; (case aP => exact Kd.M_row (Kd.R_mono (Kd.R_tight rfl (Kd.R_mono (ok' := fun k_ => ((fun k_ => (w.heap.size ≤ k_))) k_ ∧ some k_ ≠ (u5 : Value).ownBlock) (Kd.R_apart' (HO797.out) (Kd.S_typed HO_5.out) (by decide)) (fun k_ hk => ⟨hk.1.1, hk.2⟩))) (fun _ h_ => h_))); (case aB => exact HB.out); (case aF => exact (fun k_ hk => (Nat.le_trans (below_size HB.out) hk))); (case aO => exact (by exact Kd.S_mono HO_5.out (fun k_ hk => ⟨hk.1, fun e_ => hk.2 e_⟩))); (case aS => exact (below_size HB.out)); (case aL => have := LMc24.out; omega); intro v809 w31 ho hb hg hat; rw [← Ny808.out] at ho; replace HO_0 := am (Kd.V_afterv (ok := (fun k_ => (P0_ k_ ∨ w.heap.size ≤ k_) ∧ some k_ ≠ (.slice Ao32 t795.length co32 : Value).ownBlock)) (by exact Kd.V_mono HO_0.out (fun _ hk => ⟨⟨hk.1.1, hk.2⟩, hk.1.2⟩)) hg hat); replace HO_6 := am (Kd.V_afterv (ok := (fun k_ => (P0_ k_ ∨ w.heap.size ≤ k_) ∧ some k_ ≠ (.slice Ao32 t795.length co32 : Value).ownBlock)) (by exact Kd.V_mono HO_6.out (fun _ hk => ⟨⟨hk.1.1, hk.2⟩, hk.1.2⟩)) hg hat); replace HO800 := am (Kd.V_afterv (ok := (fun k_ => (P0_ k_ ∨ w.heap.size ≤ k_) ∧ some k_ ≠ (.slice Ao32 t795.length co32 : Value).ownBlock)) (by exact Kd.V_mono HO800.out (fun _ hk => ⟨⟨hk.1, hk.2.1⟩, hk.2.2⟩)) hg hat); replace HO806 := am (Kd.V_afterv (ok := (fun k_ => (P0_ k_ ∨ w.heap.size ≤ k_) ∧ some k_ ≠ (.slice Ao32 t795.length co32 : Value).ownBlock)) (by exact Kd.V_mono HO806.out (fun _ hk => ⟨⟨hk.1.1, hk.2⟩, hk.1.2⟩)) hg hat); replace HB := am (hb); have HO810 := am (ho); clear HO_5 HO797; clear ho hb hg hat)); try go_wp2_with (first | (go_at_call 60; (with_reducible refine (rowcode_readRow.calls k1 (fun k_ => ((P0_ k_ ∨ w.heap.size ≤ k_) ∧ some k_ ≠ (u5 : Value).ownBlock)) _ _ x0_1 t795 t798 t801 _ ?side1 ?side2 A11.out).mono ?_); (case side1 => exact Tabs.below HT.out HB.out); (case side2 => exact HO_0.out); rintro e w26 ⟨v796, v799, rfl, ho0, ho1, hb⟩; replace HO_0 := am (Kd.V_elder' HO_0.out (Kd.R_base ho0) hb); replace HO_6 := am (Kd.V_elder' HO_6.out (Kd.R_base ho0) hb); have HO797 := am (Kd.R_lower (Kd.R_newM (M := fun k_ => (w.heap.size ≤ k_)) (Kd.R_mono (ok' := fun k_ => True) ho0 (fun _ hk_ => trivial)) (below_size HB.out) (fun k_ h_ => h_)) (below_size HB.out)); have HO800 := am (Kd.V_lower (Kd.V_mono (ok' := fun k_ => (P0_ k_ ∨ w.heap.size ≤ k_) ∧ some k_ ≠ (v796 : Value).ownBlock ∧ some k_ ≠ (u5 : Value).ownBlock) ho1 (fun k_ hk_ => ⟨Or.elim hk_.1 (fun hs_ => hs_.1) (fun hn_ => (.inr (Nat.le_trans (below_size HB.out) hn_))), hk_.2, Or.elim hk_.1 (fun hs_ => hs_.2) (fun hn_ => (Kd.fresh' (Kd.S_lt HO_5.out) k_ hn_))⟩)) (below_size HB.out)); replace HO_5 := am (Kd.S_elder' HO_5.out (Kd.R_base ho0) hb); replace HB := am (below_step HB.out hb); obtain ⟨Ao27, co27, eo27⟩ := Kd.V_slice HO800.out; subst eo27; have q28 : ((ji13) : Int) ≤ ((x0_1.length : Int) : Int) := of_decide_eq_true (by first | (with_reducible assumption) | assumption); obtain ⟨i028, hi028, _, hsz28, _⟩ := info_parts info5; have hroom28 : x0_1.length ≤ co25 := (Kd.V_reads' HO_0.out).2.1; have hC28 : Kd.F (Kd.int .u8) _ _ Ao25 x0_1.length x0_1 := (Kd.V_at (base := w.heap.size) HO_0.out).2.2; have hcut28 := cut_to (P := Tryd.prog) 47 5 .i64 Tryd.underlying47 hi028 Ao25 x0_1.length co25 (ji13) (of_decide_eq_true (by first | (with_reducible assumption) | assumption)) q28 hroom28; have hr28 := Kd.F_take (m := ((ji13) : Int).toNat) hC28 (by omega); have hy28 : y802.length = ((ji13) : Int).toNat := (by rw [Ny802.out, List.length_take]; omega); rw [← Ny802.out] at hr28; rw [← hy28] at hcut28; have HO806 := am (show Kd.V (Kd.int .u8) 5 _ w.heap.size _ (.slice Ao25 y802.length co25) y802 from Kd.V_mk (by omega) hr28); have HC806 := am (show y802.length ≤ co25 from by omega); clear hr28 hC28 hroom28 hi028 hsz28; have KY28 := am hy28; clear hy28; replace q28 := eq_true q28; obtain ⟨Ao29, co29, eo29⟩ := Kd.V_slice HO_6.out; subst eo29) | (go_at_call 62; (with_reducible refine (bytes_Compare.calls _ _ y802 _ _ x6_1 t807 _ ?side1 ?side2 ?side3 ?side4 A16.out).mono ?_); (case side1 => repeat (first | exact (Kd.V_reads' HO806.out).2.2 | (with_reducible refine Kd.C_alloc ?_ _) | (with_reducible refine Kd.C_drewN ?_ _) | (with_reducible refine Kd.C_drew ?_))); (case side2 => exact (Kd.V_reads' HO806.out).2.1); (case side3 => repeat (first | exact (Kd.V_reads' HO_6.out).2.2 | (with_reducible refine Kd.C_alloc ?_ _) | (with_reducible refine Kd.C_drewN ?_ _) | (with_reducible refine Kd.C_drew ?_))); (case side4 => exact (Kd.V_reads' HO_6.out).2.1); rintro e w30 ⟨rfl, hb⟩; replace HO_0 := am (Kd.V_below HO_0.out hb); replace HO_5 := am (Kd.S_below HO_5.out hb); replace HO_6 := am (Kd.V_below HO_6.out hb); replace HO797 := am (Kd.R_below HO797.out hb); replace HO800 := am (Kd.V_below HO800.out hb); replace HO806 := am (Kd.V_below HO806.out hb); replace HB := am (below_step HB.out hb); obtain ⟨Ao32, co32, eo32⟩ := Kd.R_slice HO797.out; subst eo32) | ((with_reducible refine gate_builtin (b := .append) (xs := #[.tmp 63, .tmp 65]) rfl ?_); at_builtin; refine Kd.S_append (Kd.slice 42 k42) (w0 := w) w.heap.size rfl (.tmp 63) (.tmp 65) 44 33 (.slice none 0 0) 24 rfl Tryd.underlying44 info33 rfl (by decide) (by omega) u5 x5_1 t795 [.slice Ao32 t795.length co32] (fun k_ => (w.heap.size ≤ k_)) (fun k_ => some k_ = (.slice Ao32 t795.length co32 : Value).ownBlock) rfl rfl ?aP (fun k_ hk_ => ((Kd.R_mono (ok' := fun k_ => ((fun k_ => (w.heap.size ≤ k_))) k_ ∧ some k_ ≠ (u5 : Value).ownBlock) (Kd.R_apart' (HO797.out) (Kd.S_typed HO_5.out) (by decide)) (fun k_ hk => ⟨hk.1.1, hk.2⟩))).1 k_ hk_.symm) ?aF ?aO ?aB ?aS ?aL ?_; (case aP => exact Kd.M_row (Kd.R_mono (Kd.R_tight rfl (Kd.R_mono (ok' := fun k_ => ((fun k_ => (w.heap.size ≤ k_))) k_ ∧ some k_ ≠ (u5 : Value).ownBlock) (Kd.R_apart' (HO797.out) (Kd.S_typed HO_5.out) (by decide)) (fun k_ hk => ⟨hk.1.1, hk.2⟩))) (fun _ h_ => h_))); (case aB => exact HB.out); (case aF => exact (fun k_ hk => (Nat.le_trans (below_size HB.out) hk))); (case aO => exact (by exact Kd.S_mono HO_5.out (fun k_ hk => ⟨hk.1, fun e_ => hk.2 e_⟩))); (case aS => exact (below_size HB.out)); (case aL => have := LMc24.out; omega); intro v809 w31 ho hb hg hat; rw [← Ny808.out] at ho; replace HO_0 := am (Kd.V_afterv (ok := (fun k_ => (P0_ k_ ∨ w.heap.size ≤ k_) ∧ some k_ ≠ (.slice Ao32 t795.length co32 : Value).ownBlock)) (by exact Kd.V_mono HO_0.out (fun _ hk => ⟨⟨hk.1.1, hk.2⟩, hk.1.2⟩)) hg hat); replace HO_6 := am (Kd.V_afterv (ok := (fun k_ => (P0_ k_ ∨ w.heap.size ≤ k_) ∧ some k_ ≠ (.slice Ao32 t795.length co32 : Value).ownBlock)) (by exact Kd.V_mono HO_6.out (fun _ hk => ⟨⟨hk.1.1, hk.2⟩, hk.1.2⟩)) hg hat); replace HO800 := am (Kd.V_afterv (ok := (fun k_ => (P0_ k_ ∨ w.heap.size ≤ k_) ∧ some k_ ≠ (.slice Ao32 t795.length co32 : Value).ownBlock)) (by exact Kd.V_mono HO800.out (fun _ hk => ⟨⟨hk.1, hk.2.1⟩, hk.2.2⟩)) hg hat); replace HO806 := am (Kd.V_afterv (ok := (fun k_ => (P0_ k_ ∨ w.heap.size ≤ k_) ∧ some k_ ≠ (.slice Ao32 t795.length co32 : Value).ownBlock)) (by exact Kd.V_mono HO806.out (fun _ hk => ⟨⟨hk.1.1, hk.2⟩, hk.1.2⟩)) hg hat); replace HB := am (hb); have HO810 := am (ho); clear HO_5 HO797; clear ho hb hg hat)))
   go_roundg k1
   case measure => have := HK1.out; omega
   case rel => exact ⟨(t798), (y808), (y802), ((x41_1 + 1) % 4294967296), (by rfl), H', ⟨by have := HK1.out; omega⟩, ⟨by exact Kd.V_mono HO800.out (fun _ hk => ⟨hk.1.1, hk.2⟩)⟩, ⟨by exact HO810.out⟩, ⟨by exact Kd.V_mono HO806.out (fun _ hk => ⟨hk.1.1, hk.2⟩)⟩, ⟨by exact HB.out⟩⟩
def lockstepref02_ReadBag.l0 : Nat → List Int → Int → List (List (S42)) → Int → List Int → Option ((List (List (S42))) × Int)
 | 0, _, _, _, _, _ => none
 | k + 1, x0, x4, x5, x6, x7 => if (x5.length : Int) < x4 then (if 0 ≤ x6 then (if x6 ≤ (x0.length : Int) then ((lockstepref02_ReadRow.f k (x0.drop (x6 : Int).toNat)).bind fun bt820 => (if bt820.2.2 = 0 then (if x6 ≤ (wrap64 (x6 + bt820.2.1)) then (if (wrap64 (x6 + bt820.2.1)) ≤ (x0.length : Int) then ((some ((x0.take ((wrap64 (x6 + bt820.2.1)) : Int).toNat).drop (x6 : Int).toNat : List Int)).bind fun y825 => (if (x5.length : Int) > 0 then ((lockstepref02_less.f y825 x7).bind fun t830 => (if t830 = true then (some (([] : List (List (S42))), 20)) else (if x5.length < 5864062014805 then (lockstepref02_ReadBag.l0 k x0 x4 (x5 ++ [bt820.1]) (wrap64 (x6 + bt820.2.1)) y825) else (none)))) else (if x5.length < 5864062014805 then (lockstepref02_ReadBag.l0 k x0 x4 (x5 ++ [bt820.1]) (wrap64 (x6 + bt820.2.1)) y825) else (none)))) else (none)) else (none)) else (some (([] : List (List (S42))), bt820.2.2)))) else (none)) else (none)) else (if x6 < (x0.length : Int) then (some (([] : List (List (S42))), 5)) else (some (x5, 0)))
def lockstepref02_ReadBag.f (k : Nat) (l0 : List Int) : Option ((List (List (S42))) × Int) := if (l0.length : Int) < 4 then (some (([] : List (List (S42))), 4)) else (if 0 < (l0.length : Int) then (if 1 < (l0.length : Int) then (if 2 < (l0.length : Int) then (if 3 < (l0.length : Int) then (if (Go.bits .or .i64 (Go.bits .or .i64 (Go.bits .or .i64 (wrap64 ((wrap64 (rd l0 0)) * 16777216)) (wrap64 ((wrap64 (rd l0 1)) * 65536))) (wrap64 ((wrap64 (rd l0 2)) * 256))) (wrap64 (rd l0 3))) > 65536 then (some (([] : List (List (S42))), 20)) else (lockstepref02_ReadBag.l0 k l0 (Go.bits .or .i64 (Go.bits .or .i64 (Go.bits .or .i64 (wrap64 ((wrap64 (rd l0 0)) * 16777216)) (wrap64 ((wrap64 (rd l0 1)) * 65536))) (wrap64 ((wrap64 (rd l0 2)) * 256))) (wrap64 (rd l0 3))) ([] : List (List (S42))) 4 ([] : List Int))) else (none)) else (none)) else (none)) else (none))
set_option maxHeartbeats 8000000 in
set_option maxRecDepth 100000 in
theorem lockstepref02_ReadBag.calls (k : Nat) (P0_ : Nat → Prop) (A0 : Option Addr) (c0 : Nat) (l0 : List Int) (r1 : List (List (S42))) (r2 : Int) (w : World) (hs0 : Kd.V (Kd.int .u8) 5 w w.heap.size (fun k_ => P0_ k_) (.slice A0 l0.length c0) l0) (h : lockstepref02_ReadBag.f k l0 = some (r1, r2)) :
  Calls Tryd.prog 44 #[.slice A0 l0.length c0] w fun e w' => ∃ v0_ : Value, e = .returned (.tuple #[v0_, .int .i64 r2]) ∧ Kd.S (Kd.slice 42 k42) 33 w' w.heap.size (fun k_ => (w.heap.size ≤ k_)) v0_ r1 ∧ Below w.heap.size w w' := by
 have HO0 := am (show Kd.V (Kd.int .u8) 5 w w.heap.size (fun k_ => (P0_ k_ ∨ w.heap.size ≤ k_)) (.slice A0 l0.length c0) l0 from Kd.V_mono hs0 (fun k_ hk => .inl hk))
 have HB := am (Below.refl w.heap.size w)
 have H : (if (l0.length : Int) < 4 then (some (([] : List (List (S42))), 4)) else (if 0 < (l0.length : Int) then (if 1 < (l0.length : Int) then (if 2 < (l0.length : Int) then (if 3 < (l0.length : Int) then (if (Go.bits .or .i64 (Go.bits .or .i64 (Go.bits .or .i64 (wrap64 ((wrap64 (rd l0 0)) * 16777216)) (wrap64 ((wrap64 (rd l0 1)) * 65536))) (wrap64 ((wrap64 (rd l0 2)) * 256))) (wrap64 (rd l0 3))) > 65536 then (some (([] : List (List (S42))), 20)) else (lockstepref02_ReadBag.l0 k l0 (Go.bits .or .i64 (Go.bits .or .i64 (Go.bits .or .i64 (wrap64 ((wrap64 (rd l0 0)) * 16777216)) (wrap64 ((wrap64 (rd l0 1)) * 65536))) (wrap64 ((wrap64 (rd l0 2)) * 256))) (wrap64 (rd l0 3))) ([] : List (List (S42))) 4 ([] : List Int))) else (none)) else (none)) else (none)) else (none))) = some (r1, r2) := h
 clear h
 by_cases c2 : (l0.length : Int) < 4
 ·
  rw [if_pos c2] at H
  have c2b0 := decide_eq_true c2
  have c2b1 : decide (l0.length < 4) = true := decide_eq_true (by omega)
  clear c2
  simp only [Option.some.injEq, Prod.mk.injEq] at H
  obtain ⟨rfl, rfl⟩ := H
  go_enter Tryd.func44, Tryd.ntmps44
  go_wp2
  repeat ((with_reducible refine at_region ?_); go_quiet (fail); try go_wp2)
  go_ret2
  exact ⟨_, by rfl, by exact Kd.S_nil _ _ _ _ _, by exact HB.out⟩
 rw [if_neg c2] at H
 have c2b0 := decide_eq_false c2
 have c2b1 : decide (l0.length < 4) = false := decide_eq_false (by omega)
 clear c2
 replace H := its H
 obtain ⟨c3, H⟩ := H
 have c3b0 := decide_eq_true c3
 have c3b1 : decide (0 < l0.length) = true := decide_eq_true (by omega)
 clear c3
 replace H := its H
 obtain ⟨c4, H⟩ := H
 have c4b0 := decide_eq_true c4
 have c4b1 : decide (1 < l0.length) = true := decide_eq_true (by omega)
 clear c4
 replace H := its H
 obtain ⟨c5, H⟩ := H
 have c5b0 := decide_eq_true c5
 have c5b1 : decide (2 < l0.length) = true := decide_eq_true (by omega)
 clear c5
 replace H := its H
 obtain ⟨c6, H⟩ := H
 have c6b0 := decide_eq_true c6
 have c6b1 : decide (3 < l0.length) = true := decide_eq_true (by omega)
 clear c6
 by_cases c7 : (Go.bits .or .i64 (Go.bits .or .i64 (Go.bits .or .i64 (wrap64 ((wrap64 (rd l0 0)) * 16777216)) (wrap64 ((wrap64 (rd l0 1)) * 65536))) (wrap64 ((wrap64 (rd l0 2)) * 256))) (wrap64 (rd l0 3))) > 65536
 ·
  rw [if_pos c7] at H
  have c7b0 : decide (65536 < (Go.bits .or .i64 (Go.bits .or .i64 (Go.bits .or .i64 (wrap64 ((wrap64 (rd l0 0)) * 16777216)) (wrap64 ((wrap64 (rd l0 1)) * 65536))) (wrap64 ((wrap64 (rd l0 2)) * 256))) (wrap64 (rd l0 3)))) = true := decide_eq_true c7
  clear c7
  simp only [Option.some.injEq, Prod.mk.injEq] at H
  obtain ⟨rfl, rfl⟩ := H
  have p811 : 0 ≤ (0 : Int) := (by omega)
  have q811 : 0 < (l0.length : Int) := of_decide_eq_true (by assumption)
  obtain ⟨ad811, e811, hx811_0⟩ := Kd.at_int (Kd.V_reads' HO0.out).2.2 0 p811 q811
  cases e811
  have qi811 : (0 < l0.length) = True := eq_true (by omega)
  (try rw [show ((0 : Int)).toNat = 0 from rfl] at hx811_0)
  (try rw [Addr.add_zero'] at hx811_0)
  replace p811 := eq_true p811
  replace q811 := eq_true q811
  have p812 : 0 ≤ (1 : Int) := (by omega)
  have q812 : 1 < (l0.length : Int) := of_decide_eq_true (by assumption)
  obtain ⟨ad812, e812, hx812_0⟩ := Kd.at_int (Kd.V_reads' HO0.out).2.2 1 p812 q812
  obtain rfl : ad811 = ad812 := (by injection e812)
  (try simp only [show (1 : Int).toNat = 1 from rfl, Nat.reduceMul, Nat.reduceEqDiff, Go.Addr.add, ↓reduceIte] at hx812_0)
  have qi812 : (1 < l0.length) = True := eq_true (by omega)
  replace p812 := eq_true p812
  replace q812 := eq_true q812
  have p813 : 0 ≤ (2 : Int) := (by omega)
  have q813 : 2 < (l0.length : Int) := of_decide_eq_true (by assumption)
  obtain ⟨ad813, e813, hx813_0⟩ := Kd.at_int (Kd.V_reads' HO0.out).2.2 2 p813 q813
  obtain rfl : ad811 = ad813 := (by injection e813)
  (try simp only [show (2 : Int).toNat = 2 from rfl, Nat.reduceMul, Nat.reduceEqDiff, Go.Addr.add, ↓reduceIte] at hx813_0)
  have qi813 : (2 < l0.length) = True := eq_true (by omega)
  replace p813 := eq_true p813
  replace q813 := eq_true q813
  have p814 : 0 ≤ (3 : Int) := (by omega)
  have q814 : 3 < (l0.length : Int) := of_decide_eq_true (by assumption)
  obtain ⟨ad814, e814, hx814_0⟩ := Kd.at_int (Kd.V_reads' HO0.out).2.2 3 p814 q814
  obtain rfl : ad811 = ad814 := (by injection e814)
  (try simp only [show (3 : Int).toNat = 3 from rfl, Nat.reduceMul, Nat.reduceEqDiff, Go.Addr.add, ↓reduceIte] at hx814_0)
  have qi814 : (3 < l0.length) = True := eq_true (by omega)
  replace p814 := eq_true p814
  replace q814 := eq_true q814
  go_enter Tryd.func44, Tryd.ntmps44
  go_wp2
  repeat ((with_reducible refine at_region ?_); go_quiet (fail); try go_wp2)
  go_ret2
  exact ⟨_, by rfl, by exact Kd.S_nil _ _ _ _ _, by repeat ((with_reducible first | exact HB.out | apply pw_below_drewN))⟩
 rw [if_neg c7] at H
 have c7b0 : decide (65536 < (Go.bits .or .i64 (Go.bits .or .i64 (Go.bits .or .i64 (wrap64 ((wrap64 (rd l0 0)) * 16777216)) (wrap64 ((wrap64 (rd l0 1)) * 65536))) (wrap64 ((wrap64 (rd l0 2)) * 256))) (wrap64 (rd l0 3)))) = false := decide_eq_false c7
 clear c7
 have H' := am H
 clear H
 have p811 : 0 ≤ (0 : Int) := (by omega)
 have q811 : 0 < (l0.length : Int) := of_decide_eq_true (by assumption)
 obtain ⟨ad811, e811, hx811_0⟩ := Kd.at_int (Kd.V_reads' HO0.out).2.2 0 p811 q811
 cases e811
 have qi811 : (0 < l0.length) = True := eq_true (by omega)
 (try rw [show ((0 : Int)).toNat = 0 from rfl] at hx811_0)
 (try rw [Addr.add_zero'] at hx811_0)
 replace p811 := eq_true p811
 replace q811 := eq_true q811
 have p812 : 0 ≤ (1 : Int) := (by omega)
 have q812 : 1 < (l0.length : Int) := of_decide_eq_true (by assumption)
 obtain ⟨ad812, e812, hx812_0⟩ := Kd.at_int (Kd.V_reads' HO0.out).2.2 1 p812 q812
 obtain rfl : ad811 = ad812 := (by injection e812)
 (try simp only [show (1 : Int).toNat = 1 from rfl, Nat.reduceMul, Nat.reduceEqDiff, Go.Addr.add, ↓reduceIte] at hx812_0)
 have qi812 : (1 < l0.length) = True := eq_true (by omega)
 replace p812 := eq_true p812
 replace q812 := eq_true q812
 have p813 : 0 ≤ (2 : Int) := (by omega)
 have q813 : 2 < (l0.length : Int) := of_decide_eq_true (by assumption)
 obtain ⟨ad813, e813, hx813_0⟩ := Kd.at_int (Kd.V_reads' HO0.out).2.2 2 p813 q813
 obtain rfl : ad811 = ad813 := (by injection e813)
 (try simp only [show (2 : Int).toNat = 2 from rfl, Nat.reduceMul, Nat.reduceEqDiff, Go.Addr.add, ↓reduceIte] at hx813_0)
 have qi813 : (2 < l0.length) = True := eq_true (by omega)
 replace p813 := eq_true p813
 replace q813 := eq_true q813
 have p814 : 0 ≤ (3 : Int) := (by omega)
 have q814 : 3 < (l0.length : Int) := of_decide_eq_true (by assumption)
 obtain ⟨ad814, e814, hx814_0⟩ := Kd.at_int (Kd.V_reads' HO0.out).2.2 3 p814 q814
 obtain rfl : ad811 = ad814 := (by injection e814)
 (try simp only [show (3 : Int).toNat = 3 from rfl, Nat.reduceMul, Nat.reduceEqDiff, Go.Addr.add, ↓reduceIte] at hx814_0)
 have qi814 : (3 < l0.length) = True := eq_true (by omega)
 replace p814 := eq_true p814
 replace q814 := eq_true q814
 go_enter Tryd.func44, Tryd.ntmps44
 go_wp2
 repeat ((with_reducible refine at_region ?_); go_quiet (fail); try go_wp2)
 go_loopg [5, 6, 7] k (fun kq v5 v6 v7 w' => ∃ (x5_1 : List (List (S42))) (x6_1 : Int) (x7_1 : List Int), v6 = .int .i64 x6_1 ∧ Aside0 (lockstepref02_ReadBag.l0 kq l0 (Go.bits .or .i64 (Go.bits .or .i64 (Go.bits .or .i64 (wrap64 ((wrap64 (rd l0 0)) * 16777216)) (wrap64 ((wrap64 (rd l0 1)) * 65536))) (wrap64 ((wrap64 (rd l0 2)) * 256))) (wrap64 (rd l0 3))) x5_1 x6_1 x7_1 = some (r1, r2)) ∧ Aside0 (kq ≤ k) ∧ Aside0 (Kd.V (Kd.int .u8) 5 w' w.heap.size (fun k_ => (P0_ k_ ∨ w.heap.size ≤ k_) ∧ some k_ ≠ (v5 : Value).ownBlock) (.slice (some ad811) l0.length c0) l0) ∧ Aside0 (Kd.S (Kd.slice 42 k42) 33 w' w.heap.size (fun k_ => (w.heap.size ≤ k_)) v5 x5_1) ∧ Aside0 (Kd.V (Kd.int .u8) 5 w' w.heap.size (fun k_ => (P0_ k_ ∨ w.heap.size ≤ k_) ∧ some k_ ≠ (v5 : Value).ownBlock) v7 x7_1) ∧ Aside0 (Below w.heap.size w w'))
 case atStart => exact ⟨(([] : List (List (S42)))), (4), (([] : List Int)), (by rfl), H', ⟨Nat.le_refl _⟩, ⟨by (with_reducible repeat (apply Kd.V_drewN)); exact Kd.V_mono HO0.out (fun _ hk => ⟨hk, (by simp [Value.ownBlock])⟩)⟩, ⟨by exact Kd.S_nil _ _ _ _ _⟩, ⟨Kd.V_nil _ _ _ _ _⟩, ⟨by repeat ((with_reducible first | exact HB.out | apply pw_below_drewN))⟩⟩
 case round =>
  clear H'
  (try clear c2b0); (try clear c2b1); (try clear c3b0); (try clear c3b1); (try clear c4b0); (try clear c4b1); (try clear c5b0); (try clear c5b1); (try clear c6b0); (try clear c6b1); (try clear c7b0); (try clear hx811_0); (try clear hx812_0); (try clear hx813_0); (try clear hx814_0); (try clear p811); (try clear p812); (try clear p813); (try clear p814); (try clear q811); (try clear q812); (try clear q813)
  (try clear q814)
  obtain ⟨x5_1, x6_1, x7_1, rfl, HA, HK1, HO_0, HO_5, HO_7, HB⟩ := hrel
  cases gk with
  | zero => exact absurd HA.out (by simp [lockstepref02_ReadBag.l0])
  | succ k1 =>
   have H := HA.out
   clear HA
   simp only [lockstepref02_ReadBag.l0] at H
   by_cases c8 : (x5_1.length : Int) < (Go.bits .or .i64 (Go.bits .or .i64 (Go.bits .or .i64 (wrap64 ((wrap64 (rd l0 0)) * 16777216)) (wrap64 ((wrap64 (rd l0 1)) * 65536))) (wrap64 ((wrap64 (rd l0 2)) * 256))) (wrap64 (rd l0 3)))
   rotate_left
   ·
    rw [if_neg c8] at H
    have c8b0 := decide_eq_false c8
    clear c8
    by_cases c42 : x6_1 < (l0.length : Int)
    ·
     rw [if_pos c42] at H
     have c42b0 := decide_eq_true c42
     clear c42
     simp only [Option.some.injEq, Prod.mk.injEq] at H
     obtain ⟨rfl, rfl⟩ := H
     obtain ⟨Ao43, co43, eo43⟩ := Kd.S_slice HO_5.out
     subst eo43
     go_wp2
     repeat ((with_reducible refine at_region ?_); go_quiet (fail); try go_wp2)
     go_ret2
     exact ⟨_, by rfl, by exact Kd.S_nil _ _ _ _ _, by exact HB.out⟩
    rw [if_neg c42] at H
    have c42b0 := decide_eq_false c42
    clear c42
    simp only [Option.some.injEq, Prod.mk.injEq] at H
    obtain ⟨rfl, rfl⟩ := H
    obtain ⟨Ao44, co44, eo44⟩ := Kd.S_slice HO_5.out
    subst eo44
    go_wp2
    repeat ((with_reducible refine at_region ?_); go_quiet (fail); try go_wp2)
    go_ret2
    exact ⟨_, by rfl, by exact HO_5.out, by exact HB.out⟩
   rw [if_pos c8] at H
   have c8b0 := decide_eq_true c8
   clear c8
   replace H := its H
   obtain ⟨c9, H⟩ := H
   have c9b0 := eq_true c9
   have c9b1 := decide_eq_true c9
   clear c9
   replace H := its H
   obtain ⟨c10, H⟩ := H
   have c10b0 := eq_true c10
   have c10b1 := decide_eq_true c10
   clear c10
   obtain ⟨y815, hy815⟩ : ∃ y_ : List Int, y_ = (l0.drop (x6_1 : Int).toNat) := ⟨_, rfl⟩
   replace H : ((lockstepref02_ReadRow.f k1 y815).bind fun bt820 => (if bt820.2.2 = 0 then (if x6_1 ≤ (wrap64 (x6_1 + bt820.2.1)) then (if (wrap64 (x6_1 + bt820.2.1)) ≤ (l0.length : Int) then ((some ((l0.take ((wrap64 (x6_1 + bt820.2.1)) : Int).toNat).drop (x6_1 : Int).toNat : List Int)).bind fun y825 => (if (x5_1.length : Int) > 0 then ((lockstepref02_less.f y825 x7_1).bind fun t830 => (if t830 = true then (some (([] : List (List (S42))), 20)) else (if x5_1.length < 5864062014805 then (lockstepref02_ReadBag.l0 k1 l0 (Go.bits .or .i64 (Go.bits .or .i64 (Go.bits .or .i64 (wrap64 ((wrap64 (rd l0 0)) * 16777216)) (wrap64 ((wrap64 (rd l0 1)) * 65536))) (wrap64 ((wrap64 (rd l0 2)) * 256))) (wrap64 (rd l0 3))) (x5_1 ++ [bt820.1]) (wrap64 (x6_1 + bt820.2.1)) y825) else (none)))) else (if x5_1.length < 5864062014805 then (lockstepref02_ReadBag.l0 k1 l0 (Go.bits .or .i64 (Go.bits .or .i64 (Go.bits .or .i64 (wrap64 ((wrap64 (rd l0 0)) * 16777216)) (wrap64 ((wrap64 (rd l0 1)) * 65536))) (wrap64 ((wrap64 (rd l0 2)) * 256))) (wrap64 (rd l0 3))) (x5_1 ++ [bt820.1]) (wrap64 (x6_1 + bt820.2.1)) y825) else (none)))) else (none)) else (none)) else (some (([] : List (List (S42))), bt820.2.2)))) = some (r1, r2) := by (rw [hy815]; with_reducible exact H)
   have Ny815 := am hy815
   clear hy815
   replace H := Option.bind_eq_some_iff.mp H
   obtain ⟨⟨t820, t821, t822⟩, A110, H⟩ := H
   replace H : (if t822 = 0 then (if x6_1 ≤ (wrap64 (x6_1 + t821)) then (if (wrap64 (x6_1 + t821)) ≤ (l0.length : Int) then ((some ((l0.take ((wrap64 (x6_1 + t821)) : Int).toNat).drop (x6_1 : Int).toNat : List Int)).bind fun y825 => (if (x5_1.length : Int) > 0 then ((lockstepref02_less.f y825 x7_1).bind fun t830 => (if t830 = true then (some (([] : List (List (S42))), 20)) else (if x5_1.length < 5864062014805 then (lockstepref02_ReadBag.l0 k1 l0 (Go.bits .or .i64 (Go.bits .or .i64 (Go.bits .or .i64 (wrap64 ((wrap64 (rd l0 0)) * 16777216)) (wrap64 ((wrap64 (rd l0 1)) * 65536))) (wrap64 ((wrap64 (rd l0 2)) * 256))) (wrap64 (rd l0 3))) (x5_1 ++ [t820]) (wrap64 (x6_1 + t821)) y825) else (none)))) else (if x5_1.length < 5864062014805 then (lockstepref02_ReadBag.l0 k1 l0 (Go.bits .or .i64 (Go.bits .or .i64 (Go.bits .or .i64 (wrap64 ((wrap64 (rd l0 0)) * 16777216)) (wrap64 ((wrap64 (rd l0 1)) * 65536))) (wrap64 ((wrap64 (rd l0 2)) * 256))) (wrap64 (rd l0 3))) (x5_1 ++ [t820]) (wrap64 (x6_1 + t821)) y825) else (none)))) else (none)) else (none)) else (some (([] : List (List (S42))), t822))) = some (r1, r2) := H
   have A11 := am A110
   clear A110
   by_cases c12 : t822 = 0
   rotate_left
   ·
    rw [if_neg c12] at H
    have c12b0 : (t822 == 0) = false := beq_eq_false_iff_ne.mpr c12
    have c12b1 : (t822 != 0) = true := bne_iff_ne.mpr c12
    simp only [Option.some.injEq, Prod.mk.injEq] at H
    obtain ⟨rfl, rfl⟩ := H
    obtain ⟨Ao39, co39, eo39⟩ := Kd.S_slice HO_5.out
    subst eo39
    have q40 : (x6_1 : Int) ≤ ((l0.length : Int) : Int) := of_decide_eq_true (by assumption)
    obtain ⟨i040, hi040, _, hsz40, _⟩ := info_parts info5
    have hroom40 : l0.length ≤ c0 := (Kd.V_reads' HO_0.out).2.1
    have hC40 : Kd.F (Kd.int .u8) _ _ (some ad811) l0.length l0 := (Kd.V_at (base := w.heap.size) HO_0.out).2.2
    have q040 : (0 : Int) ≤ (x6_1 : Int) := of_decide_eq_true (by assumption)
    have hcut40 := cut_from (P := Tryd.prog) 47 5 .i64 Tryd.underlying47 hi040 1 hsz40 (some ad811) l0.length c0 x6_1 q040 q40
    have hr40 := Kd.F_cut (m := (x6_1 : Int).toNat) (c := c0) hC40 (by omega) hroom40
    obtain ⟨A40, hA40⟩ : ∃ A1, A1 = (if c0 = (x6_1 : Int).toNat then (some ad811) else ((some ad811) : Option Addr).map (·.add ((x6_1 : Int).toNat * 1))) := ⟨_, rfl⟩
    obtain ⟨c40, hc40⟩ : ∃ c1, c1 = c0 - (x6_1 : Int).toNat := ⟨_, rfl⟩
    have hy40 : y815.length = l0.length - (x6_1 : Int).toNat := (by rw [Ny815.out, List.length_drop] <;> omega)
    rw [show (l0).drop (x6_1 : Int).toNat = y815 from Ny815.out.symm] at hr40
    replace hr40 : Kd.F (Kd.int .u8) _ _ A40 y815.length y815 := (by rw [hA40]; exact hr40)
    rw [← hy40, ← hA40, ← hc40] at hcut40
    have HO819 := am (show Kd.V (Kd.int .u8) 5 _ w.heap.size _ (.slice A40 y815.length c40) y815 from Kd.V_mk (by rw [hy40, hc40]; exact Nat.sub_le_sub_right hroom40 _) hr40)
    have HC819 := am (show y815.length ≤ c40 from by rw [hy40, hc40]; exact Nat.sub_le_sub_right hroom40 _)
    clear hr40 hC40 hroom40 hi040 hsz40 hc40
    have KY40 := am hy40
    have KA40 := am hA40
    clear hy40 hA40
    replace q40 := eq_true q40
    go_wp2_with ((go_at_call 42; (with_reducible refine (lockstepref02_ReadRow.calls k1 _ _ y815 t820 t821 t822 _ ?side1 ?side2 A11.out).mono ?_); (case side1 => exact (Kd.V_reads' HO819.out).2.2); (case side2 => exact (Kd.V_reads' HO819.out).2.1); rintro e w41 ⟨v823, rfl, ho0, hb⟩; replace HO_0 := am (Kd.V_elder' HO_0.out (Kd.R_base ho0) hb); replace HO_5 := am (Kd.S_elder' HO_5.out (Kd.R_base ho0) hb); replace HO_7 := am (Kd.V_elder' HO_7.out (Kd.R_base ho0) hb); replace HO819 := am (Kd.V_elder' HO819.out (Kd.R_base ho0) hb); have HO824 := am (Kd.R_lower (Kd.R_newM (M := fun k_ => (w.heap.size ≤ k_)) ho0 (below_size HB.out) (fun k_ h_ => h_)) (below_size HB.out)); replace HB := am (below_step HB.out hb); (try clear hb); (try clear ho0)))
    repeat ((with_reducible refine at_region ?_); go_quiet (first | (go_at_call 42; (with_reducible refine (lockstepref02_ReadRow.calls k1 _ _ y815 t820 t821 t822 _ ?side1 ?side2 A11.out).mono ?_); (case side1 => repeat (first | exact (Kd.V_reads' HO819.out).2.2 | (with_reducible refine Kd.C_alloc ?_ _) | (with_reducible refine Kd.C_drewN ?_ _) | (with_reducible refine Kd.C_drew ?_))); (case side2 => exact (Kd.V_reads' HO819.out).2.1); rintro e w41 ⟨v823, rfl, ho0, hb⟩; replace HO_0 := am (Kd.V_elder' HO_0.out (Kd.R_base ho0) hb); replace HO_5 := am (Kd.S_elder' HO_5.out (Kd.R_base ho0) hb); replace HO_7 := am (Kd.V_elder' HO_7.out (Kd.R_base ho0) hb); replace HO819 := am (Kd.V_elder' HO819.out (Kd.R_base ho0) hb); have HO824 := am (Kd.R_lower (Kd.R_newM (M := fun k_ => (w.heap.size ≤ k_)) ho0 (below_size HB.out) (fun k_ h_ => h_)) (below_size HB.out)); replace HB := am (below_step HB.out hb); )); try go_wp2_with (first | (go_at_call 42; (with_reducible refine (lockstepref02_ReadRow.calls k1 _ _ y815 t820 t821 t822 _ ?side1 ?side2 A11.out).mono ?_); (case side1 => repeat (first | exact (Kd.V_reads' HO819.out).2.2 | (with_reducible refine Kd.C_alloc ?_ _) | (with_reducible refine Kd.C_drewN ?_ _) | (with_reducible refine Kd.C_drew ?_))); (case side2 => exact (Kd.V_reads' HO819.out).2.1); rintro e w41 ⟨v823, rfl, ho0, hb⟩; replace HO_0 := am (Kd.V_elder' HO_0.out (Kd.R_base ho0) hb); replace HO_5 := am (Kd.S_elder' HO_5.out (Kd.R_base ho0) hb); replace HO_7 := am (Kd.V_elder' HO_7.out (Kd.R_base ho0) hb); replace HO819 := am (Kd.V_elder' HO819.out (Kd.R_base ho0) hb); have HO824 := am (Kd.R_lower (Kd.R_newM (M := fun k_ => (w.heap.size ≤ k_)) ho0 (below_size HB.out) (fun k_ h_ => h_)) (below_size HB.out)); replace HB := am (below_step HB.out hb); )))
    go_ret2
    exact ⟨_, by rfl, by exact Kd.S_nil _ _ _ _ _, by exact HB.out⟩
   rw [if_pos c12] at H
   have c12b0 : (t822 == 0) = true := beq_iff_eq.mpr c12
   have c12b1 : (t822 != 0) = false := bne_eq_false_iff_eq.mpr c12
   clear c12
   have c13b0 := eq_true (of_decide_eq_true (by assumption) : 0 ≤ x6_1)
   replace H := its H
   obtain ⟨c14, H⟩ := H
   have c14b0 := eq_true c14
   have c14b1 := decide_eq_true c14
   replace H := its H
   obtain ⟨c15, H⟩ := H
   have c15b0 := eq_true c15
   have c15b1 := decide_eq_true c15
   obtain ⟨y825, hy825⟩ : ∃ y_ : List Int, y_ = ((l0.take ((wrap64 (x6_1 + t821)) : Int).toNat).drop (x6_1 : Int).toNat) := ⟨_, rfl⟩
   replace H : (if (x5_1.length : Int) > 0 then ((lockstepref02_less.f y825 x7_1).bind fun t830 => (if t830 = true then (some (([] : List (List (S42))), 20)) else (if x5_1.length < 5864062014805 then (lockstepref02_ReadBag.l0 k1 l0 (Go.bits .or .i64 (Go.bits .or .i64 (Go.bits .or .i64 (wrap64 ((wrap64 (rd l0 0)) * 16777216)) (wrap64 ((wrap64 (rd l0 1)) * 65536))) (wrap64 ((wrap64 (rd l0 2)) * 256))) (wrap64 (rd l0 3))) (x5_1 ++ [t820]) (wrap64 (x6_1 + t821)) y825) else (none)))) else (if x5_1.length < 5864062014805 then (lockstepref02_ReadBag.l0 k1 l0 (Go.bits .or .i64 (Go.bits .or .i64 (Go.bits .or .i64 (wrap64 ((wrap64 (rd l0 0)) * 16777216)) (wrap64 ((wrap64 (rd l0 1)) * 65536))) (wrap64 ((wrap64 (rd l0 2)) * 256))) (wrap64 (rd l0 3))) (x5_1 ++ [t820]) (wrap64 (x6_1 + t821)) y825) else (none))) = some (r1, r2) := by (have H2_ := (Option.bind_some _ _).symm.trans H; rw [hy825]; with_reducible exact H2_)
   have Ny825 := am hy825
   clear hy825
   by_cases c16 : (x5_1.length : Int) > 0
   rotate_left
   ·
    rw [if_neg c16] at H
    have c16b0 : decide (0 < (x5_1.length : Int)) = false := decide_eq_false c16
    have c16b1 : decide (0 < x5_1.length) = false := decide_eq_false (by omega)
    clear c16
    replace H := its H
    obtain ⟨c32, H⟩ := H
    have LMc32 := am c32
    clear c32
    obtain ⟨y834, hy834⟩ : ∃ y_ : List (List (S42)), y_ = (x5_1 ++ [t820]) := ⟨_, rfl⟩
    replace H : (lockstepref02_ReadBag.l0 k1 l0 (Go.bits .or .i64 (Go.bits .or .i64 (Go.bits .or .i64 (wrap64 ((wrap64 (rd l0 0)) * 16777216)) (wrap64 ((wrap64 (rd l0 1)) * 65536))) (wrap64 ((wrap64 (rd l0 2)) * 256))) (wrap64 (rd l0 3))) y834 (wrap64 (x6_1 + t821)) y825) = some (r1, r2) := by (rw [hy834]; with_reducible exact H)
    have Ny834 := am hy834
    clear hy834
    have H' := am H
    clear H
    obtain ⟨Ao33, co33, eo33⟩ := Kd.S_slice HO_5.out
    subst eo33
    have q34 : (x6_1 : Int) ≤ ((l0.length : Int) : Int) := of_decide_eq_true (by assumption)
    obtain ⟨i034, hi034, _, hsz34, _⟩ := info_parts info5
    have hroom34 : l0.length ≤ c0 := (Kd.V_reads' HO_0.out).2.1
    have hC34 : Kd.F (Kd.int .u8) _ _ (some ad811) l0.length l0 := (Kd.V_at (base := w.heap.size) HO_0.out).2.2
    have q034 : (0 : Int) ≤ (x6_1 : Int) := of_decide_eq_true (by assumption)
    have hcut34 := cut_from (P := Tryd.prog) 47 5 .i64 Tryd.underlying47 hi034 1 hsz34 (some ad811) l0.length c0 x6_1 q034 q34
    have hr34 := Kd.F_cut (m := (x6_1 : Int).toNat) (c := c0) hC34 (by omega) hroom34
    obtain ⟨A34, hA34⟩ : ∃ A1, A1 = (if c0 = (x6_1 : Int).toNat then (some ad811) else ((some ad811) : Option Addr).map (·.add ((x6_1 : Int).toNat * 1))) := ⟨_, rfl⟩
    obtain ⟨c34, hc34⟩ : ∃ c1, c1 = c0 - (x6_1 : Int).toNat := ⟨_, rfl⟩
    have hy34 : y815.length = l0.length - (x6_1 : Int).toNat := (by rw [Ny815.out, List.length_drop] <;> omega)
    rw [show (l0).drop (x6_1 : Int).toNat = y815 from Ny815.out.symm] at hr34
    replace hr34 : Kd.F (Kd.int .u8) _ _ A34 y815.length y815 := (by rw [hA34]; exact hr34)
    rw [← hy34, ← hA34, ← hc34] at hcut34
    have HO819 := am (show Kd.V (Kd.int .u8) 5 _ w.heap.size _ (.slice A34 y815.length c34) y815 from Kd.V_mk (by rw [hy34, hc34]; exact Nat.sub_le_sub_right hroom34 _) hr34)
    have HC819 := am (show y815.length ≤ c34 from by rw [hy34, hc34]; exact Nat.sub_le_sub_right hroom34 _)
    clear hr34 hC34 hroom34 hi034 hsz34 hc34
    have KY34 := am hy34
    have KA34 := am hA34
    clear hy34 hA34
    replace q34 := eq_true q34
    go_wp2_with (first | (go_at_call 42; (with_reducible refine (lockstepref02_ReadRow.calls k1 _ _ y815 t820 t821 t822 _ ?side1 ?side2 A11.out).mono ?_); (case side1 => exact (Kd.V_reads' HO819.out).2.2); (case side2 => exact (Kd.V_reads' HO819.out).2.1); rintro e w35 ⟨v823, rfl, ho0, hb⟩; replace HO_0 := am (Kd.V_elder' HO_0.out (Kd.R_base ho0) hb); replace HO_5 := am (Kd.S_elder' HO_5.out (Kd.R_base ho0) hb); replace HO_7 := am (Kd.V_elder' HO_7.out (Kd.R_base ho0) hb); replace HO819 := am (Kd.V_elder' HO819.out (Kd.R_base ho0) hb); have HO824 := am (Kd.R_lower (Kd.R_newM (M := fun k_ => (w.heap.size ≤ k_)) ho0 (below_size HB.out) (fun k_ h_ => h_)) (below_size HB.out)); replace HB := am (below_step HB.out hb); (try clear hb); (try clear ho0); have q36 : ((wrap64 (x6_1 + t821)) : Int) ≤ ((l0.length : Int) : Int) := of_decide_eq_true (by assumption); obtain ⟨i036, hi036, _, hsz36, _⟩ := info_parts info5; have hroom36 : l0.length ≤ c0 := (Kd.V_reads' HO_0.out).2.1; have hC36 : Kd.F (Kd.int .u8) _ _ (some ad811) l0.length l0 := (Kd.V_at (base := w.heap.size) HO_0.out).2.2; have ql36 : (x6_1 : Int) ≤ ((wrap64 (x6_1 + t821)) : Int) := of_decide_eq_true (by assumption); have q036 : (0 : Int) ≤ (x6_1 : Int) := of_decide_eq_true (by assumption); have hcut36 := cut_mid (P := Tryd.prog) 47 5 .i64 .i64 Tryd.underlying47 hi036 1 hsz36 (some ad811) l0.length c0 x6_1 (wrap64 (x6_1 + t821)) q036 ql36 q36 hroom36; have hr36 := Kd.F_mid (lo := (x6_1 : Int).toNat) (hi := ((wrap64 (x6_1 + t821)) : Int).toNat) (c := c0) hC36 (by omega) (by omega) hroom36; obtain ⟨A36, hA36⟩ : ∃ A1, A1 = (if c0 = (x6_1 : Int).toNat then (some ad811) else ((some ad811) : Option Addr).map (·.add ((x6_1 : Int).toNat * 1))) := ⟨_, rfl⟩; obtain ⟨c36, hc36⟩ : ∃ c1, c1 = c0 - (x6_1 : Int).toNat := ⟨_, rfl⟩; have hy36 : y825.length = ((wrap64 (x6_1 + t821)) : Int).toNat - (x6_1 : Int).toNat := (by rw [Ny825.out, List.length_drop, List.length_take] <;> omega); rw [show ((l0).take ((wrap64 (x6_1 + t821)) : Int).toNat).drop (x6_1 : Int).toNat = y825 from Ny825.out.symm] at hr36; replace hr36 : Kd.F (Kd.int .u8) _ _ A36 y825.length y825 := (by rw [hA36]; exact hr36); rw [← hy36, ← hA36, ← hc36] at hcut36; have HO829 := am (show Kd.V (Kd.int .u8) 5 _ w.heap.size _ (.slice A36 y825.length c36) y825 from Kd.V_mk (by rw [hy36, hc36]; exact Nat.sub_le_sub_right (Nat.le_trans (by omega) hroom36) _) hr36); have HC829 := am (show y825.length ≤ c36 from by rw [hy36, hc36]; exact Nat.sub_le_sub_right (Nat.le_trans (by omega) hroom36) _); clear hr36 hC36 hroom36 hi036 hsz36 hc36; have KY36 := am hy36; have KA36 := am hA36; clear hy36 hA36; replace q36 := eq_true q36; obtain ⟨Ao38, co38, eo38⟩ := Kd.R_slice HO824.out; subst eo38) | ((with_reducible refine gate_builtin (b := .append) (xs := #[.tmp 68, .tmp 70]) rfl ?_); at_builtin; refine Kd.S_append (Kd.slice 42 k42) (w0 := w) w.heap.size rfl (.tmp 68) (.tmp 70) 44 33 (.slice none 0 0) 24 rfl Tryd.underlying44 info33 rfl (by decide) (by omega) (.slice Ao33 x5_1.length co33) x5_1 t820 [.slice Ao38 t820.length co38] (fun k_ => (w.heap.size ≤ k_)) (fun k_ => some k_ = (.slice Ao38 t820.length co38 : Value).ownBlock) rfl rfl ?aP (fun k_ hk_ => ((Kd.R_mono (ok' := fun k_ => ((fun k_ => (w.heap.size ≤ k_))) k_ ∧ some k_ ≠ (.slice Ao33 x5_1.length co33 : Value).ownBlock) (Kd.R_apart' (HO824.out) (Kd.S_typed HO_5.out) (by decide)) (fun k_ hk => ⟨hk.1.1, hk.2⟩))).1 k_ hk_.symm) ?aF ?aO ?aB ?aS ?aL ?_; (case aP => exact Kd.M_row (Kd.R_mono (Kd.R_tight rfl (Kd.R_mono (ok' := fun k_ => ((fun k_ => (w.heap.size ≤ k_))) k_ ∧ some k_ ≠ (.slice Ao33 x5_1.length co33 : Value).ownBlock) (Kd.R_apart' (HO824.out) (Kd.S_typed HO_5.out) (by decide)) (fun k_ hk => ⟨hk.1.1, hk.2⟩))) (fun _ h_ => h_))); (case aB => exact HB.out); (case aF => exact (fun k_ hk => (Nat.le_trans (below_size HB.out) hk))); (case aO => exact (by exact Kd.S_mono HO_5.out (fun k_ hk => ⟨hk.1, fun e_ => hk.2 e_⟩))); (case aS => exact (below_size HB.out)); (case aL => have := LMc32.out; omega); intro v835 w37 ho hb hg hat; rw [← Ny834.out] at ho; replace HO_0 := am (Kd.V_afterv (ok := (fun k_ => (P0_ k_ ∨ w.heap.size ≤ k_) ∧ some k_ ≠ (.slice Ao38 t820.length co38 : Value).ownBlock)) (by exact Kd.V_mono HO_0.out (fun _ hk => ⟨⟨hk.1.1, hk.2⟩, hk.1.2⟩)) hg hat); replace HO_7 := am (Kd.V_afterv (ok := (fun k_ => (P0_ k_ ∨ w.heap.size ≤ k_) ∧ some k_ ≠ (.slice Ao38 t820.length co38 : Value).ownBlock)) (by exact Kd.V_mono HO_7.out (fun _ hk => ⟨⟨hk.1.1, hk.2⟩, hk.1.2⟩)) hg hat); replace HO819 := am (Kd.V_afterv (ok := (fun k_ => (P0_ k_ ∨ w.heap.size ≤ k_) ∧ some k_ ≠ (.slice Ao38 t820.length co38 : Value).ownBlock)) (by exact Kd.V_mono HO819.out (fun _ hk => ⟨⟨hk.1.1, hk.2⟩, hk.1.2⟩)) hg hat); replace HO829 := am (Kd.V_afterv (ok := (fun k_ => (P0_ k_ ∨ w.heap.size ≤ k_) ∧ some k_ ≠ (.slice Ao38 t820.length co38 : Value).ownBlock)) (by exact Kd.V_mono HO829.out (fun _ hk => ⟨⟨hk.1.1, hk.2⟩, hk.1.2⟩)) hg hat); replace HB := am (hb); have HO836 := am (ho); clear HO_5 HO824; clear ho hb hg hat))
    repeat ((with_reducible refine at_region ?_); go_quiet (first | (go_at_call 42; (with_reducible refine (lockstepref02_ReadRow.calls k1 _ _ y815 t820 t821 t822 _ ?side1 ?side2 A11.out).mono ?_); (case side1 => repeat (first | exact (Kd.V_reads' HO819.out).2.2 | (with_reducible refine Kd.C_alloc ?_ _) | (with_reducible refine Kd.C_drewN ?_ _) | (with_reducible refine Kd.C_drew ?_))); (case side2 => exact (Kd.V_reads' HO819.out).2.1); rintro e w35 ⟨v823, rfl, ho0, hb⟩; replace HO_0 := am (Kd.V_elder' HO_0.out (Kd.R_base ho0) hb); replace HO_5 := am (Kd.S_elder' HO_5.out (Kd.R_base ho0) hb); replace HO_7 := am (Kd.V_elder' HO_7.out (Kd.R_base ho0) hb); replace HO819 := am (Kd.V_elder' HO819.out (Kd.R_base ho0) hb); have HO824 := am (Kd.R_lower (Kd.R_newM (M := fun k_ => (w.heap.size ≤ k_)) ho0 (below_size HB.out) (fun k_ h_ => h_)) (below_size HB.out)); replace HB := am (below_step HB.out hb); have q36 : ((wrap64 (x6_1 + t821)) : Int) ≤ ((l0.length : Int) : Int) := of_decide_eq_true (by first | (with_reducible assumption) | assumption); obtain ⟨i036, hi036, _, hsz36, _⟩ := info_parts info5; have hroom36 : l0.length ≤ c0 := (Kd.V_reads' HO_0.out).2.1; have hC36 : Kd.F (Kd.int .u8) _ _ (some ad811) l0.length l0 := (Kd.V_at (base := w.heap.size) HO_0.out).2.2; have ql36 : (x6_1 : Int) ≤ ((wrap64 (x6_1 + t821)) : Int) := of_decide_eq_true (by first | (with_reducible assumption) | assumption); have q036 : (0 : Int) ≤ (x6_1 : Int) := of_decide_eq_true (by first | (with_reducible assumption) | assumption); have hcut36 := cut_mid (P := Tryd.prog) 47 5 .i64 .i64 Tryd.underlying47 hi036 1 hsz36 (some ad811) l0.length c0 x6_1 (wrap64 (x6_1 + t821)) q036 ql36 q36 hroom36; have hr36 := Kd.F_mid (lo := (x6_1 : Int).toNat) (hi := ((wrap64 (x6_1 + t821)) : Int).toNat) (c := c0) hC36 (by omega) (by omega) hroom36; obtain ⟨A36, hA36⟩ : ∃ A1, A1 = (if c0 = (x6_1 : Int).toNat then (some ad811) else ((some ad811) : Option Addr).map (·.add ((x6_1 : Int).toNat * 1))) := ⟨_, rfl⟩; obtain ⟨c36, hc36⟩ : ∃ c1, c1 = c0 - (x6_1 : Int).toNat := ⟨_, rfl⟩; have hy36 : y825.length = ((wrap64 (x6_1 + t821)) : Int).toNat - (x6_1 : Int).toNat := (by rw [Ny825.out, List.length_drop, List.length_take] <;> omega); rw [show ((l0).take ((wrap64 (x6_1 + t821)) : Int).toNat).drop (x6_1 : Int).toNat = y825 from Ny825.out.symm] at hr36; replace hr36 : Kd.F (Kd.int .u8) _ _ A36 y825.length y825 := (by rw [hA36]; exact hr36); rw [← hy36, ← hA36, ← hc36] at hcut36; have HO829 := am (show Kd.V (Kd.int .u8) 5 _ w.heap.size _ (.slice A36 y825.length c36) y825 from Kd.V_mk (by rw [hy36, hc36]; exact Nat.sub_le_sub_right (Nat.le_trans (by omega) hroom36) _) hr36); have HC829 := am (show y825.length ≤ c36 from by rw [hy36, hc36]; exact Nat.sub_le_sub_right (Nat.le_trans (by omega) hroom36) _); clear hr36 hC36 hroom36 hi036 hsz36 hc36; have KY36 := am hy36; have KA36 := am hA36; clear hy36 hA36; replace q36 := eq_true q36; obtain ⟨Ao38, co38, eo38⟩ := Kd.R_slice HO824.out; subst eo38) | ((with_reducible refine gate_builtin (b := .append) (xs := #[.tmp 68, .tmp 70]) rfl ?_); at_builtin; refine Kd.S_append (Kd.slice 42 k42) (w0 := w) w.heap.size rfl (.tmp 68) (.tmp 70) 44 33 (.slice none 0 0) 24 rfl Tryd.underlying44 info33 rfl (by decide) (by omega) (.slice Ao33 x5_1.length co33) x5_1 t820 [.slice Ao38 t820.length co38] (fun k_ => (w.heap.size ≤ k_)) (fun k_ => some k_ = (.slice Ao38 t820.length co38 : Value).ownBlock) rfl rfl ?aP (fun k_ hk_ => ((Kd.R_mono (ok' := fun k_ => ((fun k_ => (w.heap.size ≤ k_))) k_ ∧ some k_ ≠ (.slice Ao33 x5_1.length co33 : Value).ownBlock) (Kd.R_apart' (HO824.out) (Kd.S_typed HO_5.out) (by decide)) (fun k_ hk => ⟨hk.1.1, hk.2⟩))).1 k_ hk_.symm) ?aF ?aO ?aB ?aS ?aL ?_; (case aP => exact Kd.M_row (Kd.R_mono (Kd.R_tight rfl (Kd.R_mono (ok' := fun k_ => ((fun k_ => (w.heap.size ≤ k_))) k_ ∧ some k_ ≠ (.slice Ao33 x5_1.length co33 : Value).ownBlock) (Kd.R_apart' (HO824.out) (Kd.S_typed HO_5.out) (by decide)) (fun k_ hk => ⟨hk.1.1, hk.2⟩))) (fun _ h_ => h_))); (case aB => exact HB.out); (case aF => exact (fun k_ hk => (Nat.le_trans (below_size HB.out) hk))); (case aO => exact (by exact Kd.S_mono HO_5.out (fun k_ hk => ⟨hk.1, fun e_ => hk.2 e_⟩))); (case aS => exact (below_size HB.out)); (case aL => have := LMc32.out; omega); intro v835 w37 ho hb hg hat; rw [← Ny834.out] at ho; replace HO_0 := am (Kd.V_afterv (ok := (fun k_ => (P0_ k_ ∨ w.heap.size ≤ k_) ∧ some k_ ≠ (.slice Ao38 t820.length co38 : Value).ownBlock)) (by exact Kd.V_mono HO_0.out (fun _ hk => ⟨⟨hk.1.1, hk.2⟩, hk.1.2⟩)) hg hat); replace HO_7 := am (Kd.V_afterv (ok := (fun k_ => (P0_ k_ ∨ w.heap.size ≤ k_) ∧ some k_ ≠ (.slice Ao38 t820.length co38 : Value).ownBlock)) (by exact Kd.V_mono HO_7.out (fun _ hk => ⟨⟨hk.1.1, hk.2⟩, hk.1.2⟩)) hg hat); replace HO819 := am (Kd.V_afterv (ok := (fun k_ => (P0_ k_ ∨ w.heap.size ≤ k_) ∧ some k_ ≠ (.slice Ao38 t820.length co38 : Value).ownBlock)) (by exact Kd.V_mono HO819.out (fun _ hk => ⟨⟨hk.1.1, hk.2⟩, hk.1.2⟩)) hg hat); replace HO829 := am (Kd.V_afterv (ok := (fun k_ => (P0_ k_ ∨ w.heap.size ≤ k_) ∧ some k_ ≠ (.slice Ao38 t820.length co38 : Value).ownBlock)) (by exact Kd.V_mono HO829.out (fun _ hk => ⟨⟨hk.1.1, hk.2⟩, hk.1.2⟩)) hg hat); replace HB := am (hb); have HO836 := am (ho); clear HO_5 HO824; clear ho hb hg hat)); try go_wp2_with (first | (go_at_call 42; (with_reducible refine (lockstepref02_ReadRow.calls k1 _ _ y815 t820 t821 t822 _ ?side1 ?side2 A11.out).mono ?_); (case side1 => repeat (first | exact (Kd.V_reads' HO819.out).2.2 | (with_reducible refine Kd.C_alloc ?_ _) | (with_reducible refine Kd.C_drewN ?_ _) | (with_reducible refine Kd.C_drew ?_))); (case side2 => exact (Kd.V_reads' HO819.out).2.1); rintro e w35 ⟨v823, rfl, ho0, hb⟩; replace HO_0 := am (Kd.V_elder' HO_0.out (Kd.R_base ho0) hb); replace HO_5 := am (Kd.S_elder' HO_5.out (Kd.R_base ho0) hb); replace HO_7 := am (Kd.V_elder' HO_7.out (Kd.R_base ho0) hb); replace HO819 := am (Kd.V_elder' HO819.out (Kd.R_base ho0) hb); have HO824 := am (Kd.R_lower (Kd.R_newM (M := fun k_ => (w.heap.size ≤ k_)) ho0 (below_size HB.out) (fun k_ h_ => h_)) (below_size HB.out)); replace HB := am (below_step HB.out hb); have q36 : ((wrap64 (x6_1 + t821)) : Int) ≤ ((l0.length : Int) : Int) := of_decide_eq_true (by first | (with_reducible assumption) | assumption); obtain ⟨i036, hi036, _, hsz36, _⟩ := info_parts info5; have hroom36 : l0.length ≤ c0 := (Kd.V_reads' HO_0.out).2.1; have hC36 : Kd.F (Kd.int .u8) _ _ (some ad811) l0.length l0 := (Kd.V_at (base := w.heap.size) HO_0.out).2.2; have ql36 : (x6_1 : Int) ≤ ((wrap64 (x6_1 + t821)) : Int) := of_decide_eq_true (by first | (with_reducible assumption) | assumption); have q036 : (0 : Int) ≤ (x6_1 : Int) := of_decide_eq_true (by first | (with_reducible assumption) | assumption); have hcut36 := cut_mid (P := Tryd.prog) 47 5 .i64 .i64 Tryd.underlying47 hi036 1 hsz36 (some ad811) l0.length c0 x6_1 (wrap64 (x6_1 + t821)) q036 ql36 q36 hroom36; have hr36 := Kd.F_mid (lo := (x6_1 : Int).toNat) (hi := ((wrap64 (x6_1 + t821)) : Int).toNat) (c := c0) hC36 (by omega) (by omega) hroom36; obtain ⟨A36, hA36⟩ : ∃ A1, A1 = (if c0 = (x6_1 : Int).toNat then (some ad811) else ((some ad811) : Option Addr).map (·.add ((x6_1 : Int).toNat * 1))) := ⟨_, rfl⟩; obtain ⟨c36, hc36⟩ : ∃ c1, c1 = c0 - (x6_1 : Int).toNat := ⟨_, rfl⟩; have hy36 : y825.length = ((wrap64 (x6_1 + t821)) : Int).toNat - (x6_1 : Int).toNat := (by rw [Ny825.out, List.length_drop, List.length_take] <;> omega); rw [show ((l0).take ((wrap64 (x6_1 + t821)) : Int).toNat).drop (x6_1 : Int).toNat = y825 from Ny825.out.symm] at hr36; replace hr36 : Kd.F (Kd.int .u8) _ _ A36 y825.length y825 := (by rw [hA36]; exact hr36); rw [← hy36, ← hA36, ← hc36] at hcut36; have HO829 := am (show Kd.V (Kd.int .u8) 5 _ w.heap.size _ (.slice A36 y825.length c36) y825 from Kd.V_mk (by rw [hy36, hc36]; exact Nat.sub_le_sub_right (Nat.le_trans (by omega) hroom36) _) hr36); have HC829 := am (show y825.length ≤ c36 from by rw [hy36, hc36]; exact Nat.sub_le_sub_right (Nat.le_trans (by omega) hroom36) _); clear hr36 hC36 hroom36 hi036 hsz36 hc36; have KY36 := am hy36; have KA36 := am hA36; clear hy36 hA36; replace q36 := eq_true q36; obtain ⟨Ao38, co38, eo38⟩ := Kd.R_slice HO824.out; subst eo38) | ((with_reducible refine gate_builtin (b := .append) (xs := #[.tmp 68, .tmp 70]) rfl ?_); at_builtin; refine Kd.S_append (Kd.slice 42 k42) (w0 := w) w.heap.size rfl (.tmp 68) (.tmp 70) 44 33 (.slice none 0 0) 24 rfl Tryd.underlying44 info33 rfl (by decide) (by omega) (.slice Ao33 x5_1.length co33) x5_1 t820 [.slice Ao38 t820.length co38] (fun k_ => (w.heap.size ≤ k_)) (fun k_ => some k_ = (.slice Ao38 t820.length co38 : Value).ownBlock) rfl rfl ?aP (fun k_ hk_ => ((Kd.R_mono (ok' := fun k_ => ((fun k_ => (w.heap.size ≤ k_))) k_ ∧ some k_ ≠ (.slice Ao33 x5_1.length co33 : Value).ownBlock) (Kd.R_apart' (HO824.out) (Kd.S_typed HO_5.out) (by decide)) (fun k_ hk => ⟨hk.1.1, hk.2⟩))).1 k_ hk_.symm) ?aF ?aO ?aB ?aS ?aL ?_; (case aP => exact Kd.M_row (Kd.R_mono (Kd.R_tight rfl (Kd.R_mono (ok' := fun k_ => ((fun k_ => (w.heap.size ≤ k_))) k_ ∧ some k_ ≠ (.slice Ao33 x5_1.length co33 : Value).ownBlock) (Kd.R_apart' (HO824.out) (Kd.S_typed HO_5.out) (by decide)) (fun k_ hk => ⟨hk.1.1, hk.2⟩))) (fun _ h_ => h_))); (case aB => exact HB.out); (case aF => exact (fun k_ hk => (Nat.le_trans (below_size HB.out) hk))); (case aO => exact (by exact Kd.S_mono HO_5.out (fun k_ hk => ⟨hk.1, fun e_ => hk.2 e_⟩))); (case aS => exact (below_size HB.out)); (case aL => have := LMc32.out; omega); intro v835 w37 ho hb hg hat; rw [← Ny834.out] at ho; replace HO_0 := am (Kd.V_afterv (ok := (fun k_ => (P0_ k_ ∨ w.heap.size ≤ k_) ∧ some k_ ≠ (.slice Ao38 t820.length co38 : Value).ownBlock)) (by exact Kd.V_mono HO_0.out (fun _ hk => ⟨⟨hk.1.1, hk.2⟩, hk.1.2⟩)) hg hat); replace HO_7 := am (Kd.V_afterv (ok := (fun k_ => (P0_ k_ ∨ w.heap.size ≤ k_) ∧ some k_ ≠ (.slice Ao38 t820.length co38 : Value).ownBlock)) (by exact Kd.V_mono HO_7.out (fun _ hk => ⟨⟨hk.1.1, hk.2⟩, hk.1.2⟩)) hg hat); replace HO819 := am (Kd.V_afterv (ok := (fun k_ => (P0_ k_ ∨ w.heap.size ≤ k_) ∧ some k_ ≠ (.slice Ao38 t820.length co38 : Value).ownBlock)) (by exact Kd.V_mono HO819.out (fun _ hk => ⟨⟨hk.1.1, hk.2⟩, hk.1.2⟩)) hg hat); replace HO829 := am (Kd.V_afterv (ok := (fun k_ => (P0_ k_ ∨ w.heap.size ≤ k_) ∧ some k_ ≠ (.slice Ao38 t820.length co38 : Value).ownBlock)) (by exact Kd.V_mono HO829.out (fun _ hk => ⟨⟨hk.1.1, hk.2⟩, hk.1.2⟩)) hg hat); replace HB := am (hb); have HO836 := am (ho); clear HO_5 HO824; clear ho hb hg hat)))
    go_roundg k1
    case measure => have := HK1.out; omega
    case rel => exact ⟨(y834), (wrap64 (x6_1 + t821)), (y825), (by rfl), H', ⟨by have := HK1.out; omega⟩, ⟨by exact Kd.V_mono HO_0.out (fun _ hk => ⟨hk.1.1, hk.2⟩)⟩, ⟨by exact HO836.out⟩, ⟨by exact Kd.V_mono HO829.out (fun _ hk => ⟨hk.1.1, hk.2⟩)⟩, ⟨by exact HB.out⟩⟩
   rw [if_pos c16] at H
   have c16b0 : decide (0 < (x5_1.length : Int)) = true := decide_eq_true c16
   have c16b1 : decide (0 < x5_1.length) = true := decide_eq_true (by omega)
   clear c16
   replace H := Option.bind_eq_some_iff.mp H
   obtain ⟨t830, A170, H⟩ := H
   replace H : (if t830 = true then (some (([] : List (List (S42))), 20)) else (if x5_1.length < 5864062014805 then (lockstepref02_ReadBag.l0 k1 l0 (Go.bits .or .i64 (Go.bits .or .i64 (Go.bits .or .i64 (wrap64 ((wrap64 (rd l0 0)) * 16777216)) (wrap64 ((wrap64 (rd l0 1)) * 65536))) (wrap64 ((wrap64 (rd l0 2)) * 256))) (wrap64 (rd l0 3))) (x5_1 ++ [t820]) (wrap64 (x6_1 + t821)) y825) else (none))) = some (r1, r2) := H
   have A17 := am A170
   clear A170
   by_cases c18 : t830 = true
   ·
    subst c18
    have H1 : (some (([] : List (List (S42))), 20)) = some (r1, r2) := by rw [if_pos rfl] at H; exact H
    clear H
    have H := H1
    clear H1
    simp only [Option.some.injEq, Prod.mk.injEq] at H
    obtain ⟨rfl, rfl⟩ := H
    obtain ⟨Ao19, co19, eo19⟩ := Kd.S_slice HO_5.out
    subst eo19
    have q20 : (x6_1 : Int) ≤ ((l0.length : Int) : Int) := of_decide_eq_true (by assumption)
    obtain ⟨i020, hi020, _, hsz20, _⟩ := info_parts info5
    have hroom20 : l0.length ≤ c0 := (Kd.V_reads' HO_0.out).2.1
    have hC20 : Kd.F (Kd.int .u8) _ _ (some ad811) l0.length l0 := (Kd.V_at (base := w.heap.size) HO_0.out).2.2
    have q020 : (0 : Int) ≤ (x6_1 : Int) := of_decide_eq_true (by assumption)
    have hcut20 := cut_from (P := Tryd.prog) 47 5 .i64 Tryd.underlying47 hi020 1 hsz20 (some ad811) l0.length c0 x6_1 q020 q20
    have hr20 := Kd.F_cut (m := (x6_1 : Int).toNat) (c := c0) hC20 (by omega) hroom20
    obtain ⟨A20, hA20⟩ : ∃ A1, A1 = (if c0 = (x6_1 : Int).toNat then (some ad811) else ((some ad811) : Option Addr).map (·.add ((x6_1 : Int).toNat * 1))) := ⟨_, rfl⟩
    obtain ⟨c20, hc20⟩ : ∃ c1, c1 = c0 - (x6_1 : Int).toNat := ⟨_, rfl⟩
    have hy20 : y815.length = l0.length - (x6_1 : Int).toNat := (by rw [Ny815.out, List.length_drop] <;> omega)
    rw [show (l0).drop (x6_1 : Int).toNat = y815 from Ny815.out.symm] at hr20
    replace hr20 : Kd.F (Kd.int .u8) _ _ A20 y815.length y815 := (by rw [hA20]; exact hr20)
    rw [← hy20, ← hA20, ← hc20] at hcut20
    have HO819 := am (show Kd.V (Kd.int .u8) 5 _ w.heap.size _ (.slice A20 y815.length c20) y815 from Kd.V_mk (by rw [hy20, hc20]; exact Nat.sub_le_sub_right hroom20 _) hr20)
    have HC819 := am (show y815.length ≤ c20 from by rw [hy20, hc20]; exact Nat.sub_le_sub_right hroom20 _)
    clear hr20 hC20 hroom20 hi020 hsz20 hc20
    have KY20 := am hy20
    have KA20 := am hA20
    clear hy20 hA20
    replace q20 := eq_true q20
    go_wp2_with (first | (go_at_call 42; (with_reducible refine (lockstepref02_ReadRow.calls k1 _ _ y815 t820 t821 t822 _ ?side1 ?side2 A11.out).mono ?_); (case side1 => exact (Kd.V_reads' HO819.out).2.2); (case side2 => exact (Kd.V_reads' HO819.out).2.1); rintro e w21 ⟨v823, rfl, ho0, hb⟩; replace HO_0 := am (Kd.V_elder' HO_0.out (Kd.R_base ho0) hb); replace HO_5 := am (Kd.S_elder' HO_5.out (Kd.R_base ho0) hb); replace HO_7 := am (Kd.V_elder' HO_7.out (Kd.R_base ho0) hb); replace HO819 := am (Kd.V_elder' HO819.out (Kd.R_base ho0) hb); have HO824 := am (Kd.R_lower (Kd.R_newM (M := fun k_ => (w.heap.size ≤ k_)) ho0 (below_size HB.out) (fun k_ h_ => h_)) (below_size HB.out)); replace HB := am (below_step HB.out hb); (try clear hb); (try clear ho0); have q22 : ((wrap64 (x6_1 + t821)) : Int) ≤ ((l0.length : Int) : Int) := of_decide_eq_true (by assumption); obtain ⟨i022, hi022, _, hsz22, _⟩ := info_parts info5; have hroom22 : l0.length ≤ c0 := (Kd.V_reads' HO_0.out).2.1; have hC22 : Kd.F (Kd.int .u8) _ _ (some ad811) l0.length l0 := (Kd.V_at (base := w.heap.size) HO_0.out).2.2; have ql22 : (x6_1 : Int) ≤ ((wrap64 (x6_1 + t821)) : Int) := of_decide_eq_true (by assumption); have q022 : (0 : Int) ≤ (x6_1 : Int) := of_decide_eq_true (by assumption); have hcut22 := cut_mid (P := Tryd.prog) 47 5 .i64 .i64 Tryd.underlying47 hi022 1 hsz22 (some ad811) l0.length c0 x6_1 (wrap64 (x6_1 + t821)) q022 ql22 q22 hroom22; have hr22 := Kd.F_mid (lo := (x6_1 : Int).toNat) (hi := ((wrap64 (x6_1 + t821)) : Int).toNat) (c := c0) hC22 (by omega) (by omega) hroom22; obtain ⟨A22, hA22⟩ : ∃ A1, A1 = (if c0 = (x6_1 : Int).toNat then (some ad811) else ((some ad811) : Option Addr).map (·.add ((x6_1 : Int).toNat * 1))) := ⟨_, rfl⟩; obtain ⟨c22, hc22⟩ : ∃ c1, c1 = c0 - (x6_1 : Int).toNat := ⟨_, rfl⟩; have hy22 : y825.length = ((wrap64 (x6_1 + t821)) : Int).toNat - (x6_1 : Int).toNat := (by rw [Ny825.out, List.length_drop, List.length_take] <;> omega); rw [show ((l0).take ((wrap64 (x6_1 + t821)) : Int).toNat).drop (x6_1 : Int).toNat = y825 from Ny825.out.symm] at hr22; replace hr22 : Kd.F (Kd.int .u8) _ _ A22 y825.length y825 := (by rw [hA22]; exact hr22); rw [← hy22, ← hA22, ← hc22] at hcut22; have HO829 := am (show Kd.V (Kd.int .u8) 5 _ w.heap.size _ (.slice A22 y825.length c22) y825 from Kd.V_mk (by rw [hy22, hc22]; exact Nat.sub_le_sub_right (Nat.le_trans (by omega) hroom22) _) hr22); have HC829 := am (show y825.length ≤ c22 from by rw [hy22, hc22]; exact Nat.sub_le_sub_right (Nat.le_trans (by omega) hroom22) _); clear hr22 hC22 hroom22 hi022 hsz22 hc22; have KY22 := am hy22; have KA22 := am hA22; clear hy22 hA22; replace q22 := eq_true q22; obtain ⟨Ao23, co23, eo23⟩ := Kd.V_slice HO_7.out; subst eo23) | (go_at_call 65; (with_reducible refine (lockstepref02_less.calls _ _ y825 _ _ x7_1 true _ ?side1 ?side2 ?side3 ?side4 A17.out).mono ?_); (case side1 => exact (Kd.V_reads' HO829.out).2.2); (case side2 => exact (Kd.V_reads' HO829.out).2.1); (case side3 => exact (Kd.V_reads' HO_7.out).2.2); (case side4 => exact (Kd.V_reads' HO_7.out).2.1); rintro e w' ⟨rfl, ⟨nd, rfl⟩⟩))
    repeat ((with_reducible refine at_region ?_); go_quiet (first | (go_at_call 42; (with_reducible refine (lockstepref02_ReadRow.calls k1 _ _ y815 t820 t821 t822 _ ?side1 ?side2 A11.out).mono ?_); (case side1 => repeat (first | exact (Kd.V_reads' HO819.out).2.2 | (with_reducible refine Kd.C_alloc ?_ _) | (with_reducible refine Kd.C_drewN ?_ _) | (with_reducible refine Kd.C_drew ?_))); (case side2 => exact (Kd.V_reads' HO819.out).2.1); rintro e w21 ⟨v823, rfl, ho0, hb⟩; replace HO_0 := am (Kd.V_elder' HO_0.out (Kd.R_base ho0) hb); replace HO_5 := am (Kd.S_elder' HO_5.out (Kd.R_base ho0) hb); replace HO_7 := am (Kd.V_elder' HO_7.out (Kd.R_base ho0) hb); replace HO819 := am (Kd.V_elder' HO819.out (Kd.R_base ho0) hb); have HO824 := am (Kd.R_lower (Kd.R_newM (M := fun k_ => (w.heap.size ≤ k_)) ho0 (below_size HB.out) (fun k_ h_ => h_)) (below_size HB.out)); replace HB := am (below_step HB.out hb); have q22 : ((wrap64 (x6_1 + t821)) : Int) ≤ ((l0.length : Int) : Int) := of_decide_eq_true (by first | (with_reducible assumption) | assumption); obtain ⟨i022, hi022, _, hsz22, _⟩ := info_parts info5; have hroom22 : l0.length ≤ c0 := (Kd.V_reads' HO_0.out).2.1; have hC22 : Kd.F (Kd.int .u8) _ _ (some ad811) l0.length l0 := (Kd.V_at (base := w.heap.size) HO_0.out).2.2; have ql22 : (x6_1 : Int) ≤ ((wrap64 (x6_1 + t821)) : Int) := of_decide_eq_true (by first | (with_reducible assumption) | assumption); have q022 : (0 : Int) ≤ (x6_1 : Int) := of_decide_eq_true (by first | (with_reducible assumption) | assumption); have hcut22 := cut_mid (P := Tryd.prog) 47 5 .i64 .i64 Tryd.underlying47 hi022 1 hsz22 (some ad811) l0.length c0 x6_1 (wrap64 (x6_1 + t821)) q022 ql22 q22 hroom22; have hr22 := Kd.F_mid (lo := (x6_1 : Int).toNat) (hi := ((wrap64 (x6_1 + t821)) : Int).toNat) (c := c0) hC22 (by omega) (by omega) hroom22; obtain ⟨A22, hA22⟩ : ∃ A1, A1 = (if c0 = (x6_1 : Int).toNat then (some ad811) else ((some ad811) : Option Addr).map (·.add ((x6_1 : Int).toNat * 1))) := ⟨_, rfl⟩; obtain ⟨c22, hc22⟩ : ∃ c1, c1 = c0 - (x6_1 : Int).toNat := ⟨_, rfl⟩; have hy22 : y825.length = ((wrap64 (x6_1 + t821)) : Int).toNat - (x6_1 : Int).toNat := (by rw [Ny825.out, List.length_drop, List.length_take] <;> omega); rw [show ((l0).take ((wrap64 (x6_1 + t821)) : Int).toNat).drop (x6_1 : Int).toNat = y825 from Ny825.out.symm] at hr22; replace hr22 : Kd.F (Kd.int .u8) _ _ A22 y825.length y825 := (by rw [hA22]; exact hr22); rw [← hy22, ← hA22, ← hc22] at hcut22; have HO829 := am (show Kd.V (Kd.int .u8) 5 _ w.heap.size _ (.slice A22 y825.length c22) y825 from Kd.V_mk (by rw [hy22, hc22]; exact Nat.sub_le_sub_right (Nat.le_trans (by omega) hroom22) _) hr22); have HC829 := am (show y825.length ≤ c22 from by rw [hy22, hc22]; exact Nat.sub_le_sub_right (Nat.le_trans (by omega) hroom22) _); clear hr22 hC22 hroom22 hi022 hsz22 hc22; have KY22 := am hy22; have KA22 := am hA22; clear hy22 hA22; replace q22 := eq_true q22; obtain ⟨Ao23, co23, eo23⟩ := Kd.V_slice HO_7.out; subst eo23) | (go_at_call 65; (with_reducible refine (lockstepref02_less.calls _ _ y825 _ _ x7_1 true _ ?side1 ?side2 ?side3 ?side4 A17.out).mono ?_); (case side1 => repeat (first | exact (Kd.V_reads' HO829.out).2.2 | (with_reducible refine Kd.C_alloc ?_ _) | (with_reducible refine Kd.C_drewN ?_ _) | (with_reducible refine Kd.C_drew ?_))); (case side2 => exact (Kd.V_reads' HO829.out).2.1); (case side3 => repeat (first | exact (Kd.V_reads' HO_7.out).2.2 | (with_reducible refine Kd.C_alloc ?_ _) | (with_reducible refine Kd.C_drewN ?_ _) | (with_reducible refine Kd.C_drew ?_))); (case side4 => exact (Kd.V_reads' HO_7.out).2.1); rintro e w' ⟨rfl, ⟨nd, rfl⟩⟩)); try go_wp2_with (first | (go_at_call 42; (with_reducible refine (lockstepref02_ReadRow.calls k1 _ _ y815 t820 t821 t822 _ ?side1 ?side2 A11.out).mono ?_); (case side1 => repeat (first | exact (Kd.V_reads' HO819.out).2.2 | (with_reducible refine Kd.C_alloc ?_ _) | (with_reducible refine Kd.C_drewN ?_ _) | (with_reducible refine Kd.C_drew ?_))); (case side2 => exact (Kd.V_reads' HO819.out).2.1); rintro e w21 ⟨v823, rfl, ho0, hb⟩; replace HO_0 := am (Kd.V_elder' HO_0.out (Kd.R_base ho0) hb); replace HO_5 := am (Kd.S_elder' HO_5.out (Kd.R_base ho0) hb); replace HO_7 := am (Kd.V_elder' HO_7.out (Kd.R_base ho0) hb); replace HO819 := am (Kd.V_elder' HO819.out (Kd.R_base ho0) hb); have HO824 := am (Kd.R_lower (Kd.R_newM (M := fun k_ => (w.heap.size ≤ k_)) ho0 (below_size HB.out) (fun k_ h_ => h_)) (below_size HB.out)); replace HB := am (below_step HB.out hb); have q22 : ((wrap64 (x6_1 + t821)) : Int) ≤ ((l0.length : Int) : Int) := of_decide_eq_true (by first | (with_reducible assumption) | assumption); obtain ⟨i022, hi022, _, hsz22, _⟩ := info_parts info5; have hroom22 : l0.length ≤ c0 := (Kd.V_reads' HO_0.out).2.1; have hC22 : Kd.F (Kd.int .u8) _ _ (some ad811) l0.length l0 := (Kd.V_at (base := w.heap.size) HO_0.out).2.2; have ql22 : (x6_1 : Int) ≤ ((wrap64 (x6_1 + t821)) : Int) := of_decide_eq_true (by first | (with_reducible assumption) | assumption); have q022 : (0 : Int) ≤ (x6_1 : Int) := of_decide_eq_true (by first | (with_reducible assumption) | assumption); have hcut22 := cut_mid (P := Tryd.prog) 47 5 .i64 .i64 Tryd.underlying47 hi022 1 hsz22 (some ad811) l0.length c0 x6_1 (wrap64 (x6_1 + t821)) q022 ql22 q22 hroom22; have hr22 := Kd.F_mid (lo := (x6_1 : Int).toNat) (hi := ((wrap64 (x6_1 + t821)) : Int).toNat) (c := c0) hC22 (by omega) (by omega) hroom22; obtain ⟨A22, hA22⟩ : ∃ A1, A1 = (if c0 = (x6_1 : Int).toNat then (some ad811) else ((some ad811) : Option Addr).map (·.add ((x6_1 : Int).toNat * 1))) := ⟨_, rfl⟩; obtain ⟨c22, hc22⟩ : ∃ c1, c1 = c0 - (x6_1 : Int).toNat := ⟨_, rfl⟩; have hy22 : y825.length = ((wrap64 (x6_1 + t821)) : Int).toNat - (x6_1 : Int).toNat := (by rw [Ny825.out, List.length_drop, List.length_take] <;> omega); rw [show ((l0).take ((wrap64 (x6_1 + t821)) : Int).toNat).drop (x6_1 : Int).toNat = y825 from Ny825.out.symm] at hr22; replace hr22 : Kd.F (Kd.int .u8) _ _ A22 y825.length y825 := (by rw [hA22]; exact hr22); rw [← hy22, ← hA22, ← hc22] at hcut22; have HO829 := am (show Kd.V (Kd.int .u8) 5 _ w.heap.size _ (.slice A22 y825.length c22) y825 from Kd.V_mk (by rw [hy22, hc22]; exact Nat.sub_le_sub_right (Nat.le_trans (by omega) hroom22) _) hr22); have HC829 := am (show y825.length ≤ c22 from by rw [hy22, hc22]; exact Nat.sub_le_sub_right (Nat.le_trans (by omega) hroom22) _); clear hr22 hC22 hroom22 hi022 hsz22 hc22; have KY22 := am hy22; have KA22 := am hA22; clear hy22 hA22; replace q22 := eq_true q22; obtain ⟨Ao23, co23, eo23⟩ := Kd.V_slice HO_7.out; subst eo23) | (go_at_call 65; (with_reducible refine (lockstepref02_less.calls _ _ y825 _ _ x7_1 true _ ?side1 ?side2 ?side3 ?side4 A17.out).mono ?_); (case side1 => repeat (first | exact (Kd.V_reads' HO829.out).2.2 | (with_reducible refine Kd.C_alloc ?_ _) | (with_reducible refine Kd.C_drewN ?_ _) | (with_reducible refine Kd.C_drew ?_))); (case side2 => exact (Kd.V_reads' HO829.out).2.1); (case side3 => repeat (first | exact (Kd.V_reads' HO_7.out).2.2 | (with_reducible refine Kd.C_alloc ?_ _) | (with_reducible refine Kd.C_drewN ?_ _) | (with_reducible refine Kd.C_drew ?_))); (case side4 => exact (Kd.V_reads' HO_7.out).2.1); rintro e w' ⟨rfl, ⟨nd, rfl⟩⟩)))
    go_ret2
    exact ⟨_, by rfl, by exact Kd.S_nil _ _ _ _ _, by repeat ((with_reducible first | exact HB.out | apply pw_below_drewN))⟩
   replace c18 := Bool.eq_false_iff.mpr c18
   subst c18
   have H1 : (if x5_1.length < 5864062014805 then (lockstepref02_ReadBag.l0 k1 l0 (Go.bits .or .i64 (Go.bits .or .i64 (Go.bits .or .i64 (wrap64 ((wrap64 (rd l0 0)) * 16777216)) (wrap64 ((wrap64 (rd l0 1)) * 65536))) (wrap64 ((wrap64 (rd l0 2)) * 256))) (wrap64 (rd l0 3))) (x5_1 ++ [t820]) (wrap64 (x6_1 + t821)) y825) else (none)) = some (r1, r2) := by rw [if_neg (show ¬ (false = true) by decide)] at H; exact H
   clear H
   have H := H1
   clear H1
   replace H := its H
   obtain ⟨c24, H⟩ := H
   have LMc24 := am c24
   clear c24
   obtain ⟨y831, hy831⟩ : ∃ y_ : List (List (S42)), y_ = (x5_1 ++ [t820]) := ⟨_, rfl⟩
   replace H : (lockstepref02_ReadBag.l0 k1 l0 (Go.bits .or .i64 (Go.bits .or .i64 (Go.bits .or .i64 (wrap64 ((wrap64 (rd l0 0)) * 16777216)) (wrap64 ((wrap64 (rd l0 1)) * 65536))) (wrap64 ((wrap64 (rd l0 2)) * 256))) (wrap64 (rd l0 3))) y831 (wrap64 (x6_1 + t821)) y825) = some (r1, r2) := by (rw [hy831]; with_reducible exact H)
   have Ny831 := am hy831
   clear hy831
   have H' := am H
   clear H
   obtain ⟨Ao25, co25, eo25⟩ := Kd.S_slice HO_5.out
   subst eo25
   have q26 : (x6_1 : Int) ≤ ((l0.length : Int) : Int) := of_decide_eq_true (by assumption)
   obtain ⟨i026, hi026, _, hsz26, _⟩ := info_parts info5
   have hroom26 : l0.length ≤ c0 := (Kd.V_reads' HO_0.out).2.1
   have hC26 : Kd.F (Kd.int .u8) _ _ (some ad811) l0.length l0 := (Kd.V_at (base := w.heap.size) HO_0.out).2.2
   have q026 : (0 : Int) ≤ (x6_1 : Int) := of_decide_eq_true (by assumption)
   have hcut26 := cut_from (P := Tryd.prog) 47 5 .i64 Tryd.underlying47 hi026 1 hsz26 (some ad811) l0.length c0 x6_1 q026 q26
   have hr26 := Kd.F_cut (m := (x6_1 : Int).toNat) (c := c0) hC26 (by omega) hroom26
   obtain ⟨A26, hA26⟩ : ∃ A1, A1 = (if c0 = (x6_1 : Int).toNat then (some ad811) else ((some ad811) : Option Addr).map (·.add ((x6_1 : Int).toNat * 1))) := ⟨_, rfl⟩
   obtain ⟨c26, hc26⟩ : ∃ c1, c1 = c0 - (x6_1 : Int).toNat := ⟨_, rfl⟩
   have hy26 : y815.length = l0.length - (x6_1 : Int).toNat := (by rw [Ny815.out, List.length_drop] <;> omega)
   rw [show (l0).drop (x6_1 : Int).toNat = y815 from Ny815.out.symm] at hr26
   replace hr26 : Kd.F (Kd.int .u8) _ _ A26 y815.length y815 := (by rw [hA26]; exact hr26)
   rw [← hy26, ← hA26, ← hc26] at hcut26
   have HO819 := am (show Kd.V (Kd.int .u8) 5 _ w.heap.size _ (.slice A26 y815.length c26) y815 from Kd.V_mk (by rw [hy26, hc26]; exact Nat.sub_le_sub_right hroom26 _) hr26)
   have HC819 := am (show y815.length ≤ c26 from by rw [hy26, hc26]; exact Nat.sub_le_sub_right hroom26 _)
   clear hr26 hC26 hroom26 hi026 hsz26 hc26
   have KY26 := am hy26
   have KA26 := am hA26
   clear hy26 hA26
   replace q26 := eq_true q26
   go_wp2_with (first | (go_at_call 42; (with_reducible refine (lockstepref02_ReadRow.calls k1 _ _ y815 t820 t821 t822 _ ?side1 ?side2 A11.out).mono ?_); (case side1 => exact (Kd.V_reads' HO819.out).2.2); (case side2 => exact (Kd.V_reads' HO819.out).2.1); rintro e w27 ⟨v823, rfl, ho0, hb⟩; replace HO_0 := am (Kd.V_elder' HO_0.out (Kd.R_base ho0) hb); replace HO_5 := am (Kd.S_elder' HO_5.out (Kd.R_base ho0) hb); replace HO_7 := am (Kd.V_elder' HO_7.out (Kd.R_base ho0) hb); replace HO819 := am (Kd.V_elder' HO819.out (Kd.R_base ho0) hb); have HO824 := am (Kd.R_lower (Kd.R_newM (M := fun k_ => (w.heap.size ≤ k_)) ho0 (below_size HB.out) (fun k_ h_ => h_)) (below_size HB.out)); replace HB := am (below_step HB.out hb); (try clear hb); (try clear ho0); have q28 : ((wrap64 (x6_1 + t821)) : Int) ≤ ((l0.length : Int) : Int) := of_decide_eq_true (by assumption); obtain ⟨i028, hi028, _, hsz28, _⟩ := info_parts info5; have hroom28 : l0.length ≤ c0 := (Kd.V_reads' HO_0.out).2.1; have hC28 : Kd.F (Kd.int .u8) _ _ (some ad811) l0.length l0 := (Kd.V_at (base := w.heap.size) HO_0.out).2.2; have ql28 : (x6_1 : Int) ≤ ((wrap64 (x6_1 + t821)) : Int) := of_decide_eq_true (by assumption); have q028 : (0 : Int) ≤ (x6_1 : Int) := of_decide_eq_true (by assumption); have hcut28 := cut_mid (P := Tryd.prog) 47 5 .i64 .i64 Tryd.underlying47 hi028 1 hsz28 (some ad811) l0.length c0 x6_1 (wrap64 (x6_1 + t821)) q028 ql28 q28 hroom28; have hr28 := Kd.F_mid (lo := (x6_1 : Int).toNat) (hi := ((wrap64 (x6_1 + t821)) : Int).toNat) (c := c0) hC28 (by omega) (by omega) hroom28; obtain ⟨A28, hA28⟩ : ∃ A1, A1 = (if c0 = (x6_1 : Int).toNat then (some ad811) else ((some ad811) : Option Addr).map (·.add ((x6_1 : Int).toNat * 1))) := ⟨_, rfl⟩; obtain ⟨c28, hc28⟩ : ∃ c1, c1 = c0 - (x6_1 : Int).toNat := ⟨_, rfl⟩; have hy28 : y825.length = ((wrap64 (x6_1 + t821)) : Int).toNat - (x6_1 : Int).toNat := (by rw [Ny825.out, List.length_drop, List.length_take] <;> omega); rw [show ((l0).take ((wrap64 (x6_1 + t821)) : Int).toNat).drop (x6_1 : Int).toNat = y825 from Ny825.out.symm] at hr28; replace hr28 : Kd.F (Kd.int .u8) _ _ A28 y825.length y825 := (by rw [hA28]; exact hr28); rw [← hy28, ← hA28, ← hc28] at hcut28; have HO829 := am (show Kd.V (Kd.int .u8) 5 _ w.heap.size _ (.slice A28 y825.length c28) y825 from Kd.V_mk (by rw [hy28, hc28]; exact Nat.sub_le_sub_right (Nat.le_trans (by omega) hroom28) _) hr28); have HC829 := am (show y825.length ≤ c28 from by rw [hy28, hc28]; exact Nat.sub_le_sub_right (Nat.le_trans (by omega) hroom28) _); clear hr28 hC28 hroom28 hi028 hsz28 hc28; have KY28 := am hy28; have KA28 := am hA28; clear hy28 hA28; replace q28 := eq_true q28; obtain ⟨Ao29, co29, eo29⟩ := Kd.V_slice HO_7.out; subst eo29) | (go_at_call 65; (with_reducible refine (lockstepref02_less.calls _ _ y825 _ _ x7_1 false _ ?side1 ?side2 ?side3 ?side4 A17.out).mono ?_); (case side1 => exact (Kd.V_reads' HO829.out).2.2); (case side2 => exact (Kd.V_reads' HO829.out).2.1); (case side3 => exact (Kd.V_reads' HO_7.out).2.2); (case side4 => exact (Kd.V_reads' HO_7.out).2.1); rintro e w' ⟨rfl, ⟨nd, rfl⟩⟩; obtain ⟨Ao31, co31, eo31⟩ := Kd.R_slice HO824.out; subst eo31) | ((with_reducible refine gate_builtin (b := .append) (xs := #[.tmp 68, .tmp 70]) rfl ?_); at_builtin; refine Kd.S_append (Kd.slice 42 k42) (w0 := w) w.heap.size rfl (.tmp 68) (.tmp 70) 44 33 (.slice none 0 0) 24 rfl Tryd.underlying44 info33 rfl (by decide) (by omega) (.slice Ao25 x5_1.length co25) x5_1 t820 [.slice Ao31 t820.length co31] (fun k_ => (w.heap.size ≤ k_)) (fun k_ => some k_ = (.slice Ao31 t820.length co31 : Value).ownBlock) rfl rfl ?aP (fun k_ hk_ => ((Kd.R_mono (ok' := fun k_ => ((fun k_ => (w.heap.size ≤ k_))) k_ ∧ some k_ ≠ (.slice Ao25 x5_1.length co25 : Value).ownBlock) (Kd.R_apart' (HO824.out) (Kd.S_typed HO_5.out) (by decide)) (fun k_ hk => ⟨hk.1.1, hk.2⟩))).1 k_ hk_.symm) ?aF ?aO ?aB ?aS ?aL ?_; (case aP => exact Kd.M_row (Kd.R_mono (Kd.R_tight rfl (Kd.R_mono (ok' := fun k_ => ((fun k_ => (w.heap.size ≤ k_))) k_ ∧ some k_ ≠ (.slice Ao25 x5_1.length co25 : Value).ownBlock) (Kd.R_apart' (HO824.out) (Kd.S_typed HO_5.out) (by decide)) (fun k_ hk => ⟨hk.1.1, hk.2⟩))) (fun _ h_ => h_))); (case aB => exact (by repeat ((with_reducible first | exact HB.out | apply pw_below_drewN)))); (case aF => exact (fun k_ hk => (Nat.le_trans (below_size (by repeat ((with_reducible first | exact HB.out | apply pw_below_drewN)))) hk))); (case aO => exact (by (with_reducible repeat (apply Kd.S_drewN)); exact Kd.S_mono HO_5.out (fun k_ hk => ⟨hk.1, fun e_ => hk.2 e_⟩))); (case aS => exact (below_size (by repeat ((with_reducible first | exact HB.out | apply pw_below_drewN))))); (case aL => have := LMc24.out; omega); intro v832 w30 ho hb hg hat; rw [← Ny831.out] at ho; replace HO_0 := am (Kd.V_afterv (ok := (fun k_ => (P0_ k_ ∨ w.heap.size ≤ k_) ∧ some k_ ≠ (.slice Ao31 t820.length co31 : Value).ownBlock)) (by (with_reducible repeat (apply Kd.V_drewN)); exact Kd.V_mono HO_0.out (fun _ hk => ⟨⟨hk.1.1, hk.2⟩, hk.1.2⟩)) hg hat); replace HO_7 := am (Kd.V_afterv (ok := (fun k_ => (P0_ k_ ∨ w.heap.size ≤ k_) ∧ some k_ ≠ (.slice Ao31 t820.length co31 : Value).ownBlock)) (by (with_reducible repeat (apply Kd.V_drewN)); exact Kd.V_mono HO_7.out (fun _ hk => ⟨⟨hk.1.1, hk.2⟩, hk.1.2⟩)) hg hat); replace HO819 := am (Kd.V_afterv (ok := (fun k_ => (P0_ k_ ∨ w.heap.size ≤ k_) ∧ some k_ ≠ (.slice Ao31 t820.length co31 : Value).ownBlock)) (by (with_reducible repeat (apply Kd.V_drewN)); exact Kd.V_mono HO819.out (fun _ hk => ⟨⟨hk.1.1, hk.2⟩, hk.1.2⟩)) hg hat); replace HO829 := am (Kd.V_afterv (ok := (fun k_ => (P0_ k_ ∨ w.heap.size ≤ k_) ∧ some k_ ≠ (.slice Ao31 t820.length co31 : Value).ownBlock)) (by (with_reducible repeat (apply Kd.V_drewN)); exact Kd.V_mono HO829.out (fun _ hk => ⟨⟨hk.1.1, hk.2⟩, hk.1.2⟩)) hg hat); replace HB := am (hb); have HO833 := am (ho); clear HO_5 HO824; clear ho hb hg hat))
   repeat ((with_reducible refine at_region ?_); go_quiet (first | (go_at_call 42; (with_reducible refine (lockstepref02_ReadRow.calls k1 _ _ y815 t820 t821 t822 _ ?side1 ?side2 A11.out).mono ?_); (case side1 => repeat (first | exact (Kd.V_reads' HO819.out).2.2 | (with_reducible refine Kd.C_alloc ?_ _) | (with_reducible refine Kd.C_drewN ?_ _) | (with_reducible refine Kd.C_drew ?_))); (case side2 => exact (Kd.V_reads' HO819.out).2.1); rintro e w27 ⟨v823, rfl, ho0, hb⟩; replace HO_0 := am (Kd.V_elder' HO_0.out (Kd.R_base ho0) hb); replace HO_5 := am (Kd.S_elder' HO_5.out (Kd.R_base ho0) hb); replace HO_7 := am (Kd.V_elder' HO_7.out (Kd.R_base ho0) hb); replace HO819 := am (Kd.V_elder' HO819.out (Kd.R_base ho0) hb); have HO824 := am (Kd.R_lower (Kd.R_newM (M := fun k_ => (w.heap.size ≤ k_)) ho0 (below_size HB.out) (fun k_ h_ => h_)) (below_size HB.out)); replace HB := am (below_step HB.out hb); have q28 : ((wrap64 (x6_1 + t821)) : Int) ≤ ((l0.length : Int) : Int) := of_decide_eq_true (by first | (with_reducible assumption) | assumption); obtain ⟨i028, hi028, _, hsz28, _⟩ := info_parts info5; have hroom28 : l0.length ≤ c0 := (Kd.V_reads' HO_0.out).2.1; have hC28 : Kd.F (Kd.int .u8) _ _ (some ad811) l0.length l0 := (Kd.V_at (base := w.heap.size) HO_0.out).2.2; have ql28 : (x6_1 : Int) ≤ ((wrap64 (x6_1 + t821)) : Int) := of_decide_eq_true (by first | (with_reducible assumption) | assumption); have q028 : (0 : Int) ≤ (x6_1 : Int) := of_decide_eq_true (by first | (with_reducible assumption) | assumption); have hcut28 := cut_mid (P := Tryd.prog) 47 5 .i64 .i64 Tryd.underlying47 hi028 1 hsz28 (some ad811) l0.length c0 x6_1 (wrap64 (x6_1 + t821)) q028 ql28 q28 hroom28; have hr28 := Kd.F_mid (lo := (x6_1 : Int).toNat) (hi := ((wrap64 (x6_1 + t821)) : Int).toNat) (c := c0) hC28 (by omega) (by omega) hroom28; obtain ⟨A28, hA28⟩ : ∃ A1, A1 = (if c0 = (x6_1 : Int).toNat then (some ad811) else ((some ad811) : Option Addr).map (·.add ((x6_1 : Int).toNat * 1))) := ⟨_, rfl⟩; obtain ⟨c28, hc28⟩ : ∃ c1, c1 = c0 - (x6_1 : Int).toNat := ⟨_, rfl⟩; have hy28 : y825.length = ((wrap64 (x6_1 + t821)) : Int).toNat - (x6_1 : Int).toNat := (by rw [Ny825.out, List.length_drop, List.length_take] <;> omega); rw [show ((l0).take ((wrap64 (x6_1 + t821)) : Int).toNat).drop (x6_1 : Int).toNat = y825 from Ny825.out.symm] at hr28; replace hr28 : Kd.F (Kd.int .u8) _ _ A28 y825.length y825 := (by rw [hA28]; exact hr28); rw [← hy28, ← hA28, ← hc28] at hcut28; have HO829 := am (show Kd.V (Kd.int .u8) 5 _ w.heap.size _ (.slice A28 y825.length c28) y825 from Kd.V_mk (by rw [hy28, hc28]; exact Nat.sub_le_sub_right (Nat.le_trans (by omega) hroom28) _) hr28); have HC829 := am (show y825.length ≤ c28 from by rw [hy28, hc28]; exact Nat.sub_le_sub_right (Nat.le_trans (by omega) hroom28) _); clear hr28 hC28 hroom28 hi028 hsz28 hc28; have KY28 := am hy28; have KA28 := am hA28; clear hy28 hA28; replace q28 := eq_true q28; obtain ⟨Ao29, co29, eo29⟩ := Kd.V_slice HO_7.out; subst eo29) | (go_at_call 65; (with_reducible refine (lockstepref02_less.calls _ _ y825 _ _ x7_1 false _ ?side1 ?side2 ?side3 ?side4 A17.out).mono ?_); (case side1 => repeat (first | exact (Kd.V_reads' HO829.out).2.2 | (with_reducible refine Kd.C_alloc ?_ _) | (with_reducible refine Kd.C_drewN ?_ _) | (with_reducible refine Kd.C_drew ?_))); (case side2 => exact (Kd.V_reads' HO829.out).2.1); (case side3 => repeat (first | exact (Kd.V_reads' HO_7.out).2.2 | (with_reducible refine Kd.C_alloc ?_ _) | (with_reducible refine Kd.C_drewN ?_ _) | (with_reducible refine Kd.C_drew ?_))); (case side4 => exact (Kd.V_reads' HO_7.out).2.1); rintro e w' ⟨rfl, ⟨nd, rfl⟩⟩; obtain ⟨Ao31, co31, eo31⟩ := Kd.R_slice HO824.out; subst eo31) | ((with_reducible refine gate_builtin (b := .append) (xs := #[.tmp 68, .tmp 70]) rfl ?_); at_builtin; refine Kd.S_append (Kd.slice 42 k42) (w0 := w) w.heap.size rfl (.tmp 68) (.tmp 70) 44 33 (.slice none 0 0) 24 rfl Tryd.underlying44 info33 rfl (by decide) (by omega) (.slice Ao25 x5_1.length co25) x5_1 t820 [.slice Ao31 t820.length co31] (fun k_ => (w.heap.size ≤ k_)) (fun k_ => some k_ = (.slice Ao31 t820.length co31 : Value).ownBlock) rfl rfl ?aP (fun k_ hk_ => ((Kd.R_mono (ok' := fun k_ => ((fun k_ => (w.heap.size ≤ k_))) k_ ∧ some k_ ≠ (.slice Ao25 x5_1.length co25 : Value).ownBlock) (Kd.R_apart' (HO824.out) (Kd.S_typed HO_5.out) (by decide)) (fun k_ hk => ⟨hk.1.1, hk.2⟩))).1 k_ hk_.symm) ?aF ?aO ?aB ?aS ?aL ?_; (case aP => exact Kd.M_row (Kd.R_mono (Kd.R_tight rfl (Kd.R_mono (ok' := fun k_ => ((fun k_ => (w.heap.size ≤ k_))) k_ ∧ some k_ ≠ (.slice Ao25 x5_1.length co25 : Value).ownBlock) (Kd.R_apart' (HO824.out) (Kd.S_typed HO_5.out) (by decide)) (fun k_ hk => ⟨hk.1.1, hk.2⟩))) (fun _ h_ => h_))); (case aB => exact HB.out); (case aF => exact (fun k_ hk => (Nat.le_trans (below_size HB.out) hk))); (case aO => exact (by exact Kd.S_mono HO_5.out (fun k_ hk => ⟨hk.1, fun e_ => hk.2 e_⟩))); (case aS => exact (below_size HB.out)); (case aL => have := LMc24.out; omega); intro v832 w30 ho hb hg hat; rw [← Ny831.out] at ho; replace HO_0 := am (Kd.V_afterv (ok := (fun k_ => (P0_ k_ ∨ w.heap.size ≤ k_) ∧ some k_ ≠ (.slice Ao31 t820.length co31 : Value).ownBlock)) (by exact Kd.V_mono HO_0.out (fun _ hk => ⟨⟨hk.1.1, hk.2⟩, hk.1.2⟩)) hg hat); replace HO_7 := am (Kd.V_afterv (ok := (fun k_ => (P0_ k_ ∨ w.heap.size ≤ k_) ∧ some k_ ≠ (.slice Ao31 t820.length co31 : Value).ownBlock)) (by exact Kd.V_mono HO_7.out (fun _ hk => ⟨⟨hk.1.1, hk.2⟩, hk.1.2⟩)) hg hat); replace HO819 := am (Kd.V_afterv (ok := (fun k_ => (P0_ k_ ∨ w.heap.size ≤ k_) ∧ some k_ ≠ (.slice Ao31 t820.length co31 : Value).ownBlock)) (by exact Kd.V_mono HO819.out (fun _ hk => ⟨⟨hk.1.1, hk.2⟩, hk.1.2⟩)) hg hat); replace HO829 := am (Kd.V_afterv (ok := (fun k_ => (P0_ k_ ∨ w.heap.size ≤ k_) ∧ some k_ ≠ (.slice Ao31 t820.length co31 : Value).ownBlock)) (by exact Kd.V_mono HO829.out (fun _ hk => ⟨⟨hk.1.1, hk.2⟩, hk.1.2⟩)) hg hat); replace HB := am (hb); have HO833 := am (ho); clear HO_5 HO824; clear ho hb hg hat)); try go_wp2_with (first | (go_at_call 42; (with_reducible refine (lockstepref02_ReadRow.calls k1 _ _ y815 t820 t821 t822 _ ?side1 ?side2 A11.out).mono ?_); (case side1 => repeat (first | exact (Kd.V_reads' HO819.out).2.2 | (with_reducible refine Kd.C_alloc ?_ _) | (with_reducible refine Kd.C_drewN ?_ _) | (with_reducible refine Kd.C_drew ?_))); (case side2 => exact (Kd.V_reads' HO819.out).2.1); rintro e w27 ⟨v823, rfl, ho0, hb⟩; replace HO_0 := am (Kd.V_elder' HO_0.out (Kd.R_base ho0) hb); replace HO_5 := am (Kd.S_elder' HO_5.out (Kd.R_base ho0) hb); replace HO_7 := am (Kd.V_elder' HO_7.out (Kd.R_base ho0) hb); replace HO819 := am (Kd.V_elder' HO819.out (Kd.R_base ho0) hb); have HO824 := am (Kd.R_lower (Kd.R_newM (M := fun k_ => (w.heap.size ≤ k_)) ho0 (below_size HB.out) (fun k_ h_ => h_)) (below_size HB.out)); replace HB := am (below_step HB.out hb); have q28 : ((wrap64 (x6_1 + t821)) : Int) ≤ ((l0.length : Int) : Int) := of_decide_eq_true (by first | (with_reducible assumption) | assumption); obtain ⟨i028, hi028, _, hsz28, _⟩ := info_parts info5; have hroom28 : l0.length ≤ c0 := (Kd.V_reads' HO_0.out).2.1; have hC28 : Kd.F (Kd.int .u8) _ _ (some ad811) l0.length l0 := (Kd.V_at (base := w.heap.size) HO_0.out).2.2; have ql28 : (x6_1 : Int) ≤ ((wrap64 (x6_1 + t821)) : Int) := of_decide_eq_true (by first | (with_reducible assumption) | assumption); have q028 : (0 : Int) ≤ (x6_1 : Int) := of_decide_eq_true (by first | (with_reducible assumption) | assumption); have hcut28 := cut_mid (P := Tryd.prog) 47 5 .i64 .i64 Tryd.underlying47 hi028 1 hsz28 (some ad811) l0.length c0 x6_1 (wrap64 (x6_1 + t821)) q028 ql28 q28 hroom28; have hr28 := Kd.F_mid (lo := (x6_1 : Int).toNat) (hi := ((wrap64 (x6_1 + t821)) : Int).toNat) (c := c0) hC28 (by omega) (by omega) hroom28; obtain ⟨A28, hA28⟩ : ∃ A1, A1 = (if c0 = (x6_1 : Int).toNat then (some ad811) else ((some ad811) : Option Addr).map (·.add ((x6_1 : Int).toNat * 1))) := ⟨_, rfl⟩; obtain ⟨c28, hc28⟩ : ∃ c1, c1 = c0 - (x6_1 : Int).toNat := ⟨_, rfl⟩; have hy28 : y825.length = ((wrap64 (x6_1 + t821)) : Int).toNat - (x6_1 : Int).toNat := (by rw [Ny825.out, List.length_drop, List.length_take] <;> omega); rw [show ((l0).take ((wrap64 (x6_1 + t821)) : Int).toNat).drop (x6_1 : Int).toNat = y825 from Ny825.out.symm] at hr28; replace hr28 : Kd.F (Kd.int .u8) _ _ A28 y825.length y825 := (by rw [hA28]; exact hr28); rw [← hy28, ← hA28, ← hc28] at hcut28; have HO829 := am (show Kd.V (Kd.int .u8) 5 _ w.heap.size _ (.slice A28 y825.length c28) y825 from Kd.V_mk (by rw [hy28, hc28]; exact Nat.sub_le_sub_right (Nat.le_trans (by omega) hroom28) _) hr28); have HC829 := am (show y825.length ≤ c28 from by rw [hy28, hc28]; exact Nat.sub_le_sub_right (Nat.le_trans (by omega) hroom28) _); clear hr28 hC28 hroom28 hi028 hsz28 hc28; have KY28 := am hy28; have KA28 := am hA28; clear hy28 hA28; replace q28 := eq_true q28; obtain ⟨Ao29, co29, eo29⟩ := Kd.V_slice HO_7.out; subst eo29) | (go_at_call 65; (with_reducible refine (lockstepref02_less.calls _ _ y825 _ _ x7_1 false _ ?side1 ?side2 ?side3 ?side4 A17.out).mono ?_); (case side1 => repeat (first | exact (Kd.V_reads' HO829.out).2.2 | (with_reducible refine Kd.C_alloc ?_ _) | (with_reducible refine Kd.C_drewN ?_ _) | (with_reducible refine Kd.C_drew ?_))); (case side2 => exact (Kd.V_reads' HO829.out).2.1); (case side3 => repeat (first | exact (Kd.V_reads' HO_7.out).2.2 | (with_reducible refine Kd.C_alloc ?_ _) | (with_reducible refine Kd.C_drewN ?_ _) | (with_reducible refine Kd.C_drew ?_))); (case side4 => exact (Kd.V_reads' HO_7.out).2.1); rintro e w' ⟨rfl, ⟨nd, rfl⟩⟩; obtain ⟨Ao31, co31, eo31⟩ := Kd.R_slice HO824.out; subst eo31) | ((with_reducible refine gate_builtin (b := .append) (xs := #[.tmp 68, .tmp 70]) rfl ?_); at_builtin; refine Kd.S_append (Kd.slice 42 k42) (w0 := w) w.heap.size rfl (.tmp 68) (.tmp 70) 44 33 (.slice none 0 0) 24 rfl Tryd.underlying44 info33 rfl (by decide) (by omega) (.slice Ao25 x5_1.length co25) x5_1 t820 [.slice Ao31 t820.length co31] (fun k_ => (w.heap.size ≤ k_)) (fun k_ => some k_ = (.slice Ao31 t820.length co31 : Value).ownBlock) rfl rfl ?aP (fun k_ hk_ => ((Kd.R_mono (ok' := fun k_ => ((fun k_ => (w.heap.size ≤ k_))) k_ ∧ some k_ ≠ (.slice Ao25 x5_1.length co25 : Value).ownBlock) (Kd.R_apart' (HO824.out) (Kd.S_typed HO_5.out) (by decide)) (fun k_ hk => ⟨hk.1.1, hk.2⟩))).1 k_ hk_.symm) ?aF ?aO ?aB ?aS ?aL ?_; (case aP => exact Kd.M_row (Kd.R_mono (Kd.R_tight rfl (Kd.R_mono (ok' := fun k_ => ((fun k_ => (w.heap.size ≤ k_))) k_ ∧ some k_ ≠ (.slice Ao25 x5_1.length co25 : Value).ownBlock) (Kd.R_apart' (HO824.out) (Kd.S_typed HO_5.out) (by decide)) (fun k_ hk => ⟨hk.1.1, hk.2⟩))) (fun _ h_ => h_))); (case aB => exact HB.out); (case aF => exact (fun k_ hk => (Nat.le_trans (below_size HB.out) hk))); (case aO => exact (by exact Kd.S_mono HO_5.out (fun k_ hk => ⟨hk.1, fun e_ => hk.2 e_⟩))); (case aS => exact (below_size HB.out)); (case aL => have := LMc24.out; omega); intro v832 w30 ho hb hg hat; rw [← Ny831.out] at ho; replace HO_0 := am (Kd.V_afterv (ok := (fun k_ => (P0_ k_ ∨ w.heap.size ≤ k_) ∧ some k_ ≠ (.slice Ao31 t820.length co31 : Value).ownBlock)) (by exact Kd.V_mono HO_0.out (fun _ hk => ⟨⟨hk.1.1, hk.2⟩, hk.1.2⟩)) hg hat); replace HO_7 := am (Kd.V_afterv (ok := (fun k_ => (P0_ k_ ∨ w.heap.size ≤ k_) ∧ some k_ ≠ (.slice Ao31 t820.length co31 : Value).ownBlock)) (by exact Kd.V_mono HO_7.out (fun _ hk => ⟨⟨hk.1.1, hk.2⟩, hk.1.2⟩)) hg hat); replace HO819 := am (Kd.V_afterv (ok := (fun k_ => (P0_ k_ ∨ w.heap.size ≤ k_) ∧ some k_ ≠ (.slice Ao31 t820.length co31 : Value).ownBlock)) (by exact Kd.V_mono HO819.out (fun _ hk => ⟨⟨hk.1.1, hk.2⟩, hk.1.2⟩)) hg hat); replace HO829 := am (Kd.V_afterv (ok := (fun k_ => (P0_ k_ ∨ w.heap.size ≤ k_) ∧ some k_ ≠ (.slice Ao31 t820.length co31 : Value).ownBlock)) (by exact Kd.V_mono HO829.out (fun _ hk => ⟨⟨hk.1.1, hk.2⟩, hk.1.2⟩)) hg hat); replace HB := am (hb); have HO833 := am (ho); clear HO_5 HO824; clear ho hb hg hat)))
   go_roundg k1
   case measure => have := HK1.out; omega
   case rel => exact ⟨(y831), (wrap64 (x6_1 + t821)), (y825), (by rfl), H', ⟨by have := HK1.out; omega⟩, ⟨by exact Kd.V_mono HO_0.out (fun _ hk => ⟨hk.1.1, hk.2⟩)⟩, ⟨by exact HO833.out⟩, ⟨by exact Kd.V_mono HO829.out (fun _ hk => ⟨hk.1.1, hk.2⟩)⟩, ⟨by exact HB.out⟩⟩
mutual
def locksteplaw02_RowcodeRows.l0 : Nat → List (List (S42)) → List Int → List (List (S42)) → List Int → Int → Option (Bool)
 | 0, _, _, _, _, _ => none
 | k + 1, x0, x1, x5, x6, x7 => if x7 < (x0.length : Int) then (if 0 ≤ x7 then (if x7 < (x5.length : Int) then ((rowcode_Row.f k (rd_L5 x5 x7)).bind fun bt844 => ((lockstepref02_Row.f k (rd_L5 x0 x7)).bind fun bt849 => ((locksteplaw02_told.f k bt844.1 bt849.1).bind fun t853 => (if t853 = true then (if bt844.2 = bt849.2 then (locksteplaw02_RowcodeRows.l0 k x0 x1 x5 x6 (wrap64 (x7 + 1))) else (some false)) else (some false))))) else (none)) else (none)) else ((rowcode_Bag.f k x5).bind fun bt854 => ((lockstepref02_Bag.f k x0).bind fun bt858 => ((locksteplaw02_told.f k bt854.1 bt858.1).bind fun t862 => (if t862 = true then (if bt854.2 = bt858.2 then ((lockstepref02_Lists.f k x5 x0).bind fun t863 => (locksteplaw02_RowcodeRows.j1 k x1 x6 (!t863))) else (locksteplaw02_RowcodeRows.j1 k x1 x6 true)) else (locksteplaw02_RowcodeRows.j1 k x1 x6 true)))))
def locksteplaw02_RowcodeRows.j1 : Nat → List Int → List Int → Bool → Option (Bool)
 | 0, _, _, _ => none
 | k + 1, x1, x6, x85 => if x85 = true then (some false) else ((rowcode_ReadRow.f k x6).bind fun bt864 => ((lockstepref02_ReadRow.f k x1).bind fun bt869 => ((rowcode_ReadBag.f k x6).bind fun bt874 => ((lockstepref02_ReadBag.f k x1).bind fun bt878 => ((lockstepref02_Rows.f k bt864.1 bt869.1).bind fun t882 => (if t882 = true then (if bt864.2.1 = bt869.2.1 then (if bt864.2.2 = bt869.2.2 then ((lockstepref02_Lists.f k bt874.1 bt878.1).bind fun t883 => (if t883 = true then (if bt874.2 = bt878.2 then (some ((strOfNums x6).toList == (strOfNums x1).toList)) else (some false)) else (some false))) else (some false)) else (some false)) else (some false)))))))
end
def locksteplaw02_RowcodeRows.f (k : Nat) (l0 : List (List (S42))) (l1 : List Int) : Option (Bool) := (locksteplaw02_Owned.f k l0).bind fun t837 => ((locksteplaw02_own.f l1).bind fun t840 => (locksteplaw02_RowcodeRows.l0 k l0 l1 t837 t840 0))
set_option maxHeartbeats 8000000 in
set_option maxRecDepth 100000 in
theorem locksteplaw02_RowcodeRows.calls (k : Nat) (A0 : Option Addr) (c0 : Nat) (l0 : List (List (S42))) (A1 : Option Addr) (c1 : Nat) (l1 : List Int) (r : Bool) (w : World) (hT : Tabs w) (hr0 : Kd.C (Kd.slice 42 k42) w A0 l0.length l0) (hc0 : l0.length ≤ c0) (hr1 : Kd.C (Kd.int .u8) w A1 l1.length l1) (hc1 : l1.length ≤ c1) (h : locksteplaw02_RowcodeRows.f k l0 l1 = some r) (hr : r = true) :
  Calls Tryd.prog 8 #[.slice A0 l0.length c0, .slice A1 l1.length c1] w fun e w' => e = .returned (.bool r) ∧ Below w.heap.size w w' := by
 have HR := am hr
 clear hr
 have HT := am hT
 clear hT
 have HR0 := am hr0
 have HC0 := am hc0
 clear hr0 hc0
 have HR1 := am hr1
 have HC1 := am hc1
 clear hr1 hc1
 have HB := am (Below.refl w.heap.size w)
 have H : ((locksteplaw02_Owned.f k l0).bind fun t837 => ((locksteplaw02_own.f l1).bind fun t840 => (locksteplaw02_RowcodeRows.l0 k l0 l1 t837 t840 0))) = some r := h
 clear h
 replace H := Option.bind_eq_some_iff.mp H
 obtain ⟨t837, A30, H⟩ := H
 replace H : ((locksteplaw02_own.f l1).bind fun t840 => (locksteplaw02_RowcodeRows.l0 k l0 l1 t837 t840 0)) = some r := H
 have A3 := am A30
 clear A30
 replace H := Option.bind_eq_some_iff.mp H
 obtain ⟨t840, A40, H⟩ := H
 replace H : (locksteplaw02_RowcodeRows.l0 k l0 l1 t837 t840 0) = some r := H
 have A4 := am A40
 clear A40
 have H' := am H
 clear H
 go_enter Tryd.func8, Tryd.ntmps8
 go_wp2_with (first | ((with_reducible refine gate_callee (f := 37) rfl ?_); refine goesL_ (some 27) rfl rfl Tryd.func37 (by kernel_rfl) rfl #[.slice A0 l0.length c0] rfl (by (try simp only [List.map_toArray, List.map_cons, List.map_nil]); rfl) ?_; (with_reducible refine (locksteplaw02_Owned.calls k _ _ l0 t837 _ ?side1 ?side2 A3.out).mono ?_); (case side1 => exact HR0.out); (case side2 => exact HC0.out); rintro e w5 ⟨v838, rfl, ho0, hb⟩; refine ⟨_, rfl, ?_⟩; have HO839 := am (Kd.S_lower ho0 (below_size HB.out)); replace HB := am (below_step HB.out hb); (try clear hb); (try clear ho0)) | ((with_reducible refine gate_callee (f := 25) rfl ?_); refine goesL_ (some 29) rfl rfl Tryd.func25 (by kernel_rfl) rfl #[.slice A1 l1.length c1] rfl (by (try simp only [List.map_toArray, List.map_cons, List.map_nil]); rfl) ?_; (with_reducible refine (locksteplaw02_own.calls _ _ l1 t840 _ ?side1 ?side2 A4.out).mono ?_); (case side1 => exact (Kd.C_below HR1.out HB.out)); (case side2 => exact HC1.out); rintro e w6 ⟨v841, rfl, ho0, hb⟩; refine ⟨_, rfl, ?_⟩; replace HO839 := am (Kd.S_below HO839.out hb); have HO842 := am (Kd.R_lower ho0 (below_size HB.out)); replace HB := am (below_step HB.out hb); (try clear hb); (try clear ho0)))
 go_loopg [7] k (fun kq v7 w' => ∃ (x7_1 : Int), v7 = .int .i64 x7_1 ∧ Aside0 (locksteplaw02_RowcodeRows.l0 kq l0 l1 t837 t840 x7_1 = some r) ∧ Aside0 (kq ≤ k) ∧ Aside0 (Kd.S (Kd.slice 42 k42) 33 w' w.heap.size (fun _ => True) v838 t837) ∧ Aside0 (Kd.R (Kd.int .u8) 5 w' w.heap.size (fun _ => True) v841 t840) ∧ Aside0 (Below w.heap.size w w'))
 case atStart => exact ⟨(0), (by rfl), H', ⟨Nat.le_refl _⟩, ⟨by exact HO839.out⟩, ⟨by exact HO842.out⟩, ⟨by exact HB.out⟩⟩
 case round =>
  clear H'
  obtain ⟨x7_1, rfl, HA, HK1, HO_5, HO_6, HB⟩ := hrel
  cases gk with
  | zero => exact absurd HA.out (by simp [locksteplaw02_RowcodeRows.l0])
  | succ k1 =>
   have H := HA.out
   clear HA
   simp only [locksteplaw02_RowcodeRows.l0] at H
   by_cases c7 : x7_1 < (l0.length : Int)
   ·
    rw [if_pos c7] at H
    have c7b0 := decide_eq_true c7
    clear c7
    replace H := its H
    obtain ⟨c8, H⟩ := H
    have c8b0 := decide_eq_true c8
    clear c8
    replace H := its H
    obtain ⟨c9, H⟩ := H
    have c9b0 := decide_eq_true c9
    clear c9
    replace H := Option.bind_eq_some_iff.mp H
    obtain ⟨⟨t844, t845⟩, A100, H⟩ := H
    replace H : ((lockstepref02_Row.f k1 (rd_L5 l0 x7_1)).bind fun bt849 => ((locksteplaw02_told.f k1 t844 bt849.1).bind fun t853 => (if t853 = true then (if t845 = bt849.2 then (locksteplaw02_RowcodeRows.l0 k1 l0 l1 t837 t840 (wrap64 (x7_1 + 1))) else (some false)) else (some false)))) = some r := H
    have A10 := am A100
    clear A100
    replace H := Option.bind_eq_some_iff.mp H
    obtain ⟨⟨t849, t850⟩, A110, H⟩ := H
    replace H : ((locksteplaw02_told.f k1 t844 t849).bind fun t853 => (if t853 = true then (if t845 = t850 then (locksteplaw02_RowcodeRows.l0 k1 l0 l1 t837 t840 (wrap64 (x7_1 + 1))) else (some false)) else (some false))) = some r := H
    have A11 := am A110
    clear A110
    replace H := Option.bind_eq_some_iff.mp H
    obtain ⟨t853, A120, H⟩ := H
    replace H : (if t853 = true then (if t845 = t850 then (locksteplaw02_RowcodeRows.l0 k1 l0 l1 t837 t840 (wrap64 (x7_1 + 1))) else (some false)) else (some false)) = some r := H
    have A12 := am A120
    clear A120
    by_cases c13 : t853 = true
    rotate_left
    ·
     replace c13 := Bool.eq_false_iff.mpr c13
     subst c13
     have H1 : (some false) = some r := by rw [if_neg (show ¬ (false = true) by decide)] at H; exact H
     clear H
     have H := H1
     clear H1
     exact absurd (Option.some.inj H) (by rw [HR.out]; simp)
    subst c13
    have H1 : (if t845 = t850 then (locksteplaw02_RowcodeRows.l0 k1 l0 l1 t837 t840 (wrap64 (x7_1 + 1))) else (some false)) = some r := by rw [if_pos rfl] at H; exact H
    clear H
    have H := H1
    clear H1
    by_cases c14 : t845 = t850
    rotate_left
    ·
     rw [if_neg c14] at H
     have c14b0 : (t845 == t850) = false := beq_eq_false_iff_ne.mpr c14
     have c14b1 : (t845 != t850) = true := bne_iff_ne.mpr c14
     exact absurd (Option.some.inj H) (by rw [HR.out]; simp)
    rw [if_pos c14] at H
    have c14b0 : (t845 == t850) = true := beq_iff_eq.mpr c14
    have c14b1 : (t845 != t850) = false := bne_eq_false_iff_eq.mpr c14
    clear c14
    have H' := am H
    clear H
    obtain ⟨Ao15, co15, eo15⟩ := Kd.S_slice HO_5.out
    subst eo15
    have p843 : 0 ≤ (x7_1 : Int) := of_decide_eq_true (by assumption)
    have q843 : x7_1 < (t837.length : Int) := of_decide_eq_true (by assumption)
    obtain ⟨ad843, A843_0, c843_0, e843, hx843_0, hl843_0, hi843_0⟩ := at_L5 (Kd.S_reads' HO_5.out).2.2 x7_1 p843 q843
    cases e843
    obtain ⟨ce843, hce843, hMe843, hcc843⟩ := Kd.S_get HO_5.out [] x7_1 p843 (by exact q843)
    obtain ⟨ve843_0, rfl, ge843_0⟩ := hMe843
    have hv843_0 := hcc843 0 _ rfl
    rw [Nat.add_zero, show ((Kd.slice 42 k42)).sz = 1 from rfl, Nat.mul_one] at hv843_0
    replace hv843_0 := Option.some.inj (hv843_0.symm.trans hx843_0)
    rw [hv843_0] at ge843_0
    have HL843_0 := am (show Kd.R k42 42 _ _ _ _ (rd_L5 t837 x7_1) from ge843_0)
    clear hv843_0 ge843_0
    clear hcc843 hce843
    have HR843_0 := am hi843_0
    have HC843_0 := am hl843_0
    clear hi843_0 hl843_0
    replace p843 := eq_true p843
    replace q843 := eq_true q843
    go_wp2_with (first | ((with_reducible refine gate_callee (f := 23) rfl ?_); refine goesL_ (some 41) rfl rfl Tryd.func23 (by kernel_rfl) rfl #[.slice A843_0 (rd_L5 t837 x7_1).length c843_0] rfl (by (try simp only [List.map_toArray, List.map_cons, List.map_nil]); rfl) ?_; (with_reducible refine (rowcode_Row.calls k1 _ _ (rd_L5 t837 x7_1) t844 t845 _ ?side1 ?side2 ?side3 A10.out).mono ?_); (case side1 => exact Tabs.below HT.out HB.out); (case side2 => exact HR843_0.out); (case side3 => exact HC843_0.out); rintro e w16 ⟨v846, rfl, ho0, hb⟩; refine ⟨_, rfl, ?_⟩; replace HO_5 := am (Kd.S_below HO_5.out hb); replace HL843_0 := am (Kd.R_below HL843_0.out hb); have HO847 := am (Kd.R_lower (Kd.R_new' ho0 (Kd.R_lt HO_6.out)) (below_size HB.out)); replace HO_6 := am (Kd.R_elder' HO_6.out (Kd.R_base ho0) hb); replace HR843_0 := am (Kd.C_below HR843_0.out hb); replace HB := am (below_step HB.out hb); (try clear hb); (try clear ho0); have p848 : 0 ≤ (x7_1 : Int) := of_decide_eq_true (by assumption); have q848 : x7_1 < (l0.length : Int) := of_decide_eq_true (by assumption); obtain ⟨ad848, A848_0, c848_0, e848, hx848_0, hl848_0, hi848_0⟩ := at_L5 HR0.out x7_1 p848 q848; cases e848; replace hx848_0 := (HB.out.cell (World.block_lt_of_cell? w _ hx848_0)).trans hx848_0; have HR848_0 := am hi848_0; have HC848_0 := am hl848_0; clear hi848_0 hl848_0; replace p848 := eq_true p848; replace q848 := eq_true q848) | ((with_reducible refine gate_callee (f := 38) rfl ?_); refine goesL_ (some 49) rfl rfl Tryd.func38 (by kernel_rfl) rfl #[.slice A848_0 (rd_L5 l0 x7_1).length c848_0] rfl (by (try simp only [List.map_toArray, List.map_cons, List.map_nil]); rfl) ?_; (with_reducible refine (lockstepref02_Row.calls k1 _ _ (rd_L5 l0 x7_1) t849 t850 _ ?side1 ?side2 A11.out).mono ?_); (case side1 => exact (Kd.C_below HR848_0.out HB.out)); (case side2 => exact HC848_0.out); rintro e w17 ⟨v851, rfl, ho0, hb⟩; refine ⟨_, rfl, ?_⟩; replace HO_5 := am (Kd.S_below HO_5.out hb); replace HL843_0 := am (Kd.R_below HL843_0.out hb); have HO852 := am (Kd.R_lower (Kd.R_new' (Kd.R_new' ho0 (Kd.R_lt HO_6.out)) (Kd.R_lt HO847.out)) (below_size HB.out)); replace HO_6 := am (Kd.R_elder' HO_6.out (Kd.R_base ho0) hb); replace HO847 := am (Kd.R_elder' HO847.out (Kd.R_base ho0) hb); replace HR843_0 := am (Kd.C_below HR843_0.out hb); replace HB := am (below_step HB.out hb); (try clear hb); (try clear ho0); obtain ⟨Ao18, co18, eo18⟩ := Kd.R_slice HO847.out; subst eo18; obtain ⟨Ao19, co19, eo19⟩ := Kd.R_slice HO852.out; subst eo19) | ((with_reducible refine gate_callee (f := 29) rfl ?_); refine goesL_ (some 54) rfl rfl Tryd.func29 (by kernel_rfl) rfl #[.slice Ao18 t844.length co18, .slice Ao19 t849.length co19] rfl (by (try simp only [List.map_toArray, List.map_cons, List.map_nil]); rfl) ?_; (with_reducible refine (locksteplaw02_told.calls k1 (fun k_ => some k_ = (.slice Ao18 t844.length co18 : Value).ownBlock) (.slice Ao18 t844.length co18) t844 _ _ t849 true w _ ?side1 ?side2 ?side3 ?side4 A12.out).mono ?_); (case side1 => exact HB.out); (case side2 => exact Kd.R_tight rfl HO847.out); (case side3 => exact Kd.C_kept_own (HO852.out) (fun k_ hk_ hs_ => (hk_.2) hs_)); (case side4 => exact (Kd.R_reads' HO852.out).2.1); rintro e w20 ⟨rfl, hb, hkp⟩; refine ⟨_, rfl, ?_⟩; replace HO_5 := am (Kd.S_mono (ok' := fun k_ => True) (Kd.S_keptB ((Kd.S_apart' HO_5.out (Kd.R_typed HO847.out) (by decide))) hkp (fun k_ hk_ hs_ => (hk_.2) hs_)) (fun k_ hk_ => trivial)); replace HO_6 := am (Kd.R_mono (ok' := fun k_ => some k_ ≠ (.slice Ao19 t849.length co19 : Value).ownBlock) (Kd.R_keptB (HO_6.out) hkp (fun k_ hk_ hs_ => (hk_.1.2) hs_)) (fun k_ hk_ => hk_.1.2)); replace HO852 := am (Kd.R_mono (ok' := fun k_ => some k_ ≠ (v841 : Value).ownBlock) (Kd.R_keptB (HO852.out) hkp (fun k_ hk_ hs_ => (hk_.2) hs_)) (fun k_ hk_ => hk_.1.1.2)); replace HB := am (hb); clear HO847 HL843_0; (try clear hb); (try clear hkp)))
    go_roundg k1
    case measure => have := HK1.out; omega
    case rel => exact ⟨(wrap64 (x7_1 + 1)), (by rfl), H', ⟨by have := HK1.out; omega⟩, ⟨by exact HO_5.out⟩, ⟨by exact Kd.R_mono HO_6.out (fun _ hk => trivial)⟩, ⟨by exact HB.out⟩⟩
   rw [if_neg c7] at H
   have c7b0 := decide_eq_false c7
   clear c7
   replace H := Option.bind_eq_some_iff.mp H
   obtain ⟨⟨t854, t855⟩, A210, H⟩ := H
   replace H : ((lockstepref02_Bag.f k1 l0).bind fun bt858 => ((locksteplaw02_told.f k1 t854 bt858.1).bind fun t862 => (if t862 = true then (if t855 = bt858.2 then ((lockstepref02_Lists.f k1 t837 l0).bind fun t863 => (locksteplaw02_RowcodeRows.j1 k1 l1 t840 (!t863))) else (locksteplaw02_RowcodeRows.j1 k1 l1 t840 true)) else (locksteplaw02_RowcodeRows.j1 k1 l1 t840 true)))) = some r := H
   have A21 := am A210
   clear A210
   replace H := Option.bind_eq_some_iff.mp H
   obtain ⟨⟨t858, t859⟩, A220, H⟩ := H
   replace H : ((locksteplaw02_told.f k1 t854 t858).bind fun t862 => (if t862 = true then (if t855 = t859 then ((lockstepref02_Lists.f k1 t837 l0).bind fun t863 => (locksteplaw02_RowcodeRows.j1 k1 l1 t840 (!t863))) else (locksteplaw02_RowcodeRows.j1 k1 l1 t840 true)) else (locksteplaw02_RowcodeRows.j1 k1 l1 t840 true))) = some r := H
   have A22 := am A220
   clear A220
   have HC23 := am H
   clear H
   obtain ⟨Ao24, co24, eo24⟩ := Kd.S_slice HO_5.out
   subst eo24
   go_upto_region 11 with (first | ((with_reducible refine gate_callee (f := 39) rfl ?_); refine goesL_ (some 63) rfl rfl Tryd.func39 (by kernel_rfl) rfl #[.slice Ao24 t837.length co24] rfl (by (try simp only [List.map_toArray, List.map_cons, List.map_nil]); rfl) ?_; (with_reducible refine (rowcode_Bag.calls k1 _ _ t837 t854 t855 _ ?side1 ?side2 ?side3 A21.out).mono ?_); (case side1 => exact Tabs.below HT.out HB.out); (case side2 => exact (Kd.S_reads' HO_5.out).2.2); (case side3 => exact (Kd.S_reads' HO_5.out).2.1); rintro e w25 ⟨v856, rfl, ho0, hb⟩; refine ⟨_, rfl, ?_⟩; replace HO_5 := am (Kd.S_below HO_5.out hb); have HO857 := am (Kd.R_lower (Kd.R_new' ho0 (Kd.R_lt HO_6.out)) (below_size HB.out)); replace HO_6 := am (Kd.R_elder' HO_6.out (Kd.R_base ho0) hb); replace HB := am (below_step HB.out hb); (try clear hb); (try clear ho0)) | ((with_reducible refine gate_callee (f := 40) rfl ?_); refine goesL_ (some 68) rfl rfl Tryd.func40 (by kernel_rfl) rfl #[.slice A0 l0.length c0] rfl (by (try simp only [List.map_toArray, List.map_cons, List.map_nil]); rfl) ?_; (with_reducible refine (lockstepref02_Bag.calls k1 _ _ l0 t858 t859 _ ?side1 ?side2 A22.out).mono ?_); (case side1 => exact (Kd.C_below HR0.out HB.out)); (case side2 => exact HC0.out); rintro e w26 ⟨v860, rfl, ho0, hb⟩; refine ⟨_, rfl, ?_⟩; replace HO_5 := am (Kd.S_below HO_5.out hb); have HO861 := am (Kd.R_lower (Kd.R_new' (Kd.R_new' ho0 (Kd.R_lt HO_6.out)) (Kd.R_lt HO857.out)) (below_size HB.out)); replace HO_6 := am (Kd.R_elder' HO_6.out (Kd.R_base ho0) hb); replace HO857 := am (Kd.R_elder' HO857.out (Kd.R_base ho0) hb); replace HB := am (below_step HB.out hb); (try clear hb); (try clear ho0)))
   go_cut [85] (fun v85 wc => ∃ (kq : Nat) (x85_22 : Bool), v85 = .bool x85_22 ∧ Aside0 (locksteplaw02_RowcodeRows.j1 kq l1 t840 x85_22 = some r) ∧ Aside0 (kq ≤ k1) ∧ Aside0 (Kd.R (Kd.int .u8) 5 wc w.heap.size (fun _ => True) v841 t840) ∧ Aside0 (Below w.heap.size w wc))
   case first =>
    have H := HC23.out
    clear HC23
    replace H := Option.bind_eq_some_iff.mp H
    obtain ⟨t862, A270, H⟩ := H
    replace H : (if t862 = true then (if t855 = t859 then ((lockstepref02_Lists.f k1 t837 l0).bind fun t863 => (locksteplaw02_RowcodeRows.j1 k1 l1 t840 (!t863))) else (locksteplaw02_RowcodeRows.j1 k1 l1 t840 true)) else (locksteplaw02_RowcodeRows.j1 k1 l1 t840 true)) = some r := H
    have A27 := am A270
    clear A270
    by_cases c28 : t862 = true
    rotate_left
    ·
     replace c28 := Bool.eq_false_iff.mpr c28
     subst c28
     have H1 : (locksteplaw02_RowcodeRows.j1 k1 l1 t840 true) = some r := by rw [if_neg (show ¬ (false = true) by decide)] at H; exact H
     clear H
     have H := H1
     clear H1
     have H' := am H
     clear H
     obtain ⟨Ao38, co38, eo38⟩ := Kd.R_slice HO857.out
     subst eo38
     obtain ⟨Ao39, co39, eo39⟩ := Kd.R_slice HO861.out
     subst eo39
     go_wp2_with (((with_reducible refine gate_callee (f := 29) rfl ?_); refine goesL_ (some 73) rfl rfl Tryd.func29 (by kernel_rfl) rfl #[.slice Ao38 t854.length co38, .slice Ao39 t858.length co39] rfl (by (try simp only [List.map_toArray, List.map_cons, List.map_nil]); rfl) ?_; (with_reducible refine (locksteplaw02_told.calls k1 (fun k_ => some k_ = (.slice Ao38 t854.length co38 : Value).ownBlock) (.slice Ao38 t854.length co38) t854 _ _ t858 false w _ ?side1 ?side2 ?side3 ?side4 A27.out).mono ?_); (case side1 => exact HB.out); (case side2 => exact Kd.R_tight rfl HO857.out); (case side3 => exact Kd.C_kept_own (HO861.out) (fun k_ hk_ hs_ => (hk_.2) hs_)); (case side4 => exact (Kd.R_reads' HO861.out).2.1); rintro e w40 ⟨rfl, hb, hkp⟩; refine ⟨_, rfl, ?_⟩; replace HO_5 := am (Kd.S_mono (ok' := fun k_ => True) (Kd.S_keptB ((Kd.S_apart' HO_5.out (Kd.R_typed HO857.out) (by decide))) hkp (fun k_ hk_ hs_ => (hk_.2) hs_)) (fun k_ hk_ => trivial)); replace HO_6 := am (Kd.R_mono (ok' := fun k_ => some k_ ≠ (.slice Ao39 t858.length co39 : Value).ownBlock) (Kd.R_keptB (HO_6.out) hkp (fun k_ hk_ hs_ => (hk_.1.2) hs_)) (fun k_ hk_ => hk_.1.2)); replace HO861 := am (Kd.R_mono (ok' := fun k_ => some k_ ≠ (v841 : Value).ownBlock) (Kd.R_keptB (HO861.out) hkp (fun k_ hk_ hs_ => (hk_.2) hs_)) (fun k_ hk_ => hk_.1.1.2)); replace HB := am (hb); clear HO857; (try clear hb); (try clear hkp)))
     go_meet
     case rel => exact ⟨_, (true), (by with_reducible rfl), H', ⟨by have := HK1.out; omega⟩, ⟨by exact Kd.R_mono HO_6.out (fun _ hk => trivial)⟩, ⟨by exact HB.out⟩⟩
    subst c28
    have H1 : (if t855 = t859 then ((lockstepref02_Lists.f k1 t837 l0).bind fun t863 => (locksteplaw02_RowcodeRows.j1 k1 l1 t840 (!t863))) else (locksteplaw02_RowcodeRows.j1 k1 l1 t840 true)) = some r := by rw [if_pos rfl] at H; exact H
    clear H
    have H := H1
    clear H1
    by_cases c29 : t855 = t859
    rotate_left
    ·
     rw [if_neg c29] at H
     have c29b0 : (t855 == t859) = false := beq_eq_false_iff_ne.mpr c29
     have c29b1 : (t855 != t859) = true := bne_iff_ne.mpr c29
     (skip)
     have H' := am H
     clear H
     obtain ⟨Ao35, co35, eo35⟩ := Kd.R_slice HO857.out
     subst eo35
     obtain ⟨Ao36, co36, eo36⟩ := Kd.R_slice HO861.out
     subst eo36
     go_wp2_with (((with_reducible refine gate_callee (f := 29) rfl ?_); refine goesL_ (some 73) rfl rfl Tryd.func29 (by kernel_rfl) rfl #[.slice Ao35 t854.length co35, .slice Ao36 t858.length co36] rfl (by (try simp only [List.map_toArray, List.map_cons, List.map_nil]); rfl) ?_; (with_reducible refine (locksteplaw02_told.calls k1 (fun k_ => some k_ = (.slice Ao35 t854.length co35 : Value).ownBlock) (.slice Ao35 t854.length co35) t854 _ _ t858 true w _ ?side1 ?side2 ?side3 ?side4 A27.out).mono ?_); (case side1 => exact HB.out); (case side2 => exact Kd.R_tight rfl HO857.out); (case side3 => exact Kd.C_kept_own (HO861.out) (fun k_ hk_ hs_ => (hk_.2) hs_)); (case side4 => exact (Kd.R_reads' HO861.out).2.1); rintro e w37 ⟨rfl, hb, hkp⟩; refine ⟨_, rfl, ?_⟩; replace HO_5 := am (Kd.S_mono (ok' := fun k_ => True) (Kd.S_keptB ((Kd.S_apart' HO_5.out (Kd.R_typed HO857.out) (by decide))) hkp (fun k_ hk_ hs_ => (hk_.2) hs_)) (fun k_ hk_ => trivial)); replace HO_6 := am (Kd.R_mono (ok' := fun k_ => some k_ ≠ (.slice Ao36 t858.length co36 : Value).ownBlock) (Kd.R_keptB (HO_6.out) hkp (fun k_ hk_ hs_ => (hk_.1.2) hs_)) (fun k_ hk_ => hk_.1.2)); replace HO861 := am (Kd.R_mono (ok' := fun k_ => some k_ ≠ (v841 : Value).ownBlock) (Kd.R_keptB (HO861.out) hkp (fun k_ hk_ hs_ => (hk_.2) hs_)) (fun k_ hk_ => hk_.1.1.2)); replace HB := am (hb); clear HO857; (try clear hb); (try clear hkp)))
     go_meet
     case rel => exact ⟨_, (true), (by with_reducible rfl), H', ⟨by have := HK1.out; omega⟩, ⟨by exact Kd.R_mono HO_6.out (fun _ hk => trivial)⟩, ⟨by exact HB.out⟩⟩
    rw [if_pos c29] at H
    have c29b0 : (t855 == t859) = true := beq_iff_eq.mpr c29
    have c29b1 : (t855 != t859) = false := bne_eq_false_iff_eq.mpr c29
    clear c29
    (skip)
    replace H := Option.bind_eq_some_iff.mp H
    obtain ⟨t863, A300, H⟩ := H
    replace H : (locksteplaw02_RowcodeRows.j1 k1 l1 t840 (!t863)) = some r := H
    have A30 := am A300
    clear A300
    have H' := am H
    clear H
    obtain ⟨Ao31, co31, eo31⟩ := Kd.R_slice HO857.out
    subst eo31
    obtain ⟨Ao32, co32, eo32⟩ := Kd.R_slice HO861.out
    subst eo32
    go_wp2_with (first | ((with_reducible refine gate_callee (f := 29) rfl ?_); refine goesL_ (some 73) rfl rfl Tryd.func29 (by kernel_rfl) rfl #[.slice Ao31 t854.length co31, .slice Ao32 t858.length co32] rfl (by (try simp only [List.map_toArray, List.map_cons, List.map_nil]); rfl) ?_; (with_reducible refine (locksteplaw02_told.calls k1 (fun k_ => some k_ = (.slice Ao31 t854.length co31 : Value).ownBlock) (.slice Ao31 t854.length co31) t854 _ _ t858 true w _ ?side1 ?side2 ?side3 ?side4 A27.out).mono ?_); (case side1 => exact HB.out); (case side2 => exact Kd.R_tight rfl HO857.out); (case side3 => exact Kd.C_kept_own (HO861.out) (fun k_ hk_ hs_ => (hk_.2) hs_)); (case side4 => exact (Kd.R_reads' HO861.out).2.1); rintro e w33 ⟨rfl, hb, hkp⟩; refine ⟨_, rfl, ?_⟩; replace HO_5 := am (Kd.S_mono (ok' := fun k_ => True) (Kd.S_keptB ((Kd.S_apart' HO_5.out (Kd.R_typed HO857.out) (by decide))) hkp (fun k_ hk_ hs_ => (hk_.2) hs_)) (fun k_ hk_ => trivial)); replace HO_6 := am (Kd.R_mono (ok' := fun k_ => some k_ ≠ (.slice Ao32 t858.length co32 : Value).ownBlock) (Kd.R_keptB (HO_6.out) hkp (fun k_ hk_ hs_ => (hk_.1.2) hs_)) (fun k_ hk_ => hk_.1.2)); replace HO861 := am (Kd.R_mono (ok' := fun k_ => some k_ ≠ (v841 : Value).ownBlock) (Kd.R_keptB (HO861.out) hkp (fun k_ hk_ hs_ => (hk_.2) hs_)) (fun k_ hk_ => hk_.1.1.2)); replace HB := am (hb); clear HO857; (try clear hb); (try clear hkp)) | (go_at_call 41; (with_reducible refine (lockstepref02_Lists.calls k1 _ _ t837 _ _ l0 t863 _ ?side1 ?side2 ?side3 ?side4 A30.out).mono ?_); (case side1 => exact (Kd.S_reads' HO_5.out).2.2); (case side2 => exact (Kd.S_reads' HO_5.out).2.1); (case side3 => exact (Kd.C_below HR0.out HB.out)); (case side4 => exact HC0.out); rintro e w34 ⟨rfl, hb⟩; replace HO_5 := am (Kd.S_below HO_5.out hb); replace HO_6 := am (Kd.R_below HO_6.out hb); replace HO861 := am (Kd.R_below HO861.out hb); replace HB := am (below_step HB.out hb); (try clear hb)))
    go_meet
    case rel => exact ⟨_, (!t863), (by with_reducible rfl), H', ⟨by have := HK1.out; omega⟩, ⟨by exact Kd.R_mono HO_6.out (fun _ hk => trivial)⟩, ⟨by exact HB.out⟩⟩
   case rest =>
    clear HC23
    (try clear c7b0)
    obtain ⟨kq, x85_22, rfl, HA, HJ22, HO_6, HB⟩ := hcut
    cases kq with
    | zero => exact absurd HA.out (by simp [locksteplaw02_RowcodeRows.j1])
    | succ kj22 =>
     have H := HA.out
     clear HA
     simp only [locksteplaw02_RowcodeRows.j1] at H
     by_cases c41 : x85_22 = true
     ·
      subst c41
      have H1 : (some false) = some r := by rw [if_pos rfl] at H; exact H
      clear H
      have H := H1
      clear H1
      exact absurd (Option.some.inj H) (by rw [HR.out]; simp)
     replace c41 := Bool.eq_false_iff.mpr c41
     subst c41
     have H1 : ((rowcode_ReadRow.f kj22 t840).bind fun bt864 => ((lockstepref02_ReadRow.f kj22 l1).bind fun bt869 => ((rowcode_ReadBag.f kj22 t840).bind fun bt874 => ((lockstepref02_ReadBag.f kj22 l1).bind fun bt878 => ((lockstepref02_Rows.f kj22 bt864.1 bt869.1).bind fun t882 => (if t882 = true then (if bt864.2.1 = bt869.2.1 then (if bt864.2.2 = bt869.2.2 then ((lockstepref02_Lists.f kj22 bt874.1 bt878.1).bind fun t883 => (if t883 = true then (if bt874.2 = bt878.2 then (some ((strOfNums t840).toList == (strOfNums l1).toList)) else (some false)) else (some false))) else (some false)) else (some false)) else (some false))))))) = some r := by rw [if_neg (show ¬ (false = true) by decide)] at H; exact H
     clear H
     have H := H1
     clear H1
     replace H := Option.bind_eq_some_iff.mp H
     obtain ⟨⟨t864, t865, t866⟩, A420, H⟩ := H
     replace H : ((lockstepref02_ReadRow.f kj22 l1).bind fun bt869 => ((rowcode_ReadBag.f kj22 t840).bind fun bt874 => ((lockstepref02_ReadBag.f kj22 l1).bind fun bt878 => ((lockstepref02_Rows.f kj22 t864 bt869.1).bind fun t882 => (if t882 = true then (if t865 = bt869.2.1 then (if t866 = bt869.2.2 then ((lockstepref02_Lists.f kj22 bt874.1 bt878.1).bind fun t883 => (if t883 = true then (if bt874.2 = bt878.2 then (some ((strOfNums t840).toList == (strOfNums l1).toList)) else (some false)) else (some false))) else (some false)) else (some false)) else (some false)))))) = some r := H
     have A42 := am A420
     clear A420
     replace H := Option.bind_eq_some_iff.mp H
     obtain ⟨⟨t869, t870, t871⟩, A430, H⟩ := H
     replace H : ((rowcode_ReadBag.f kj22 t840).bind fun bt874 => ((lockstepref02_ReadBag.f kj22 l1).bind fun bt878 => ((lockstepref02_Rows.f kj22 t864 t869).bind fun t882 => (if t882 = true then (if t865 = t870 then (if t866 = t871 then ((lockstepref02_Lists.f kj22 bt874.1 bt878.1).bind fun t883 => (if t883 = true then (if bt874.2 = bt878.2 then (some ((strOfNums t840).toList == (strOfNums l1).toList)) else (some false)) else (some false))) else (some false)) else (some false)) else (some false))))) = some r := H
     have A43 := am A430
     clear A430
     replace H := Option.bind_eq_some_iff.mp H
     obtain ⟨⟨t874, t877⟩, A440, H⟩ := H
     replace H : ((lockstepref02_ReadBag.f kj22 l1).bind fun bt878 => ((lockstepref02_Rows.f kj22 t864 t869).bind fun t882 => (if t882 = true then (if t865 = t870 then (if t866 = t871 then ((lockstepref02_Lists.f kj22 t874 bt878.1).bind fun t883 => (if t883 = true then (if t877 = bt878.2 then (some ((strOfNums t840).toList == (strOfNums l1).toList)) else (some false)) else (some false))) else (some false)) else (some false)) else (some false)))) = some r := H
     have A44 := am A440
     clear A440
     replace H := Option.bind_eq_some_iff.mp H
     obtain ⟨⟨t878, t881⟩, A450, H⟩ := H
     replace H : ((lockstepref02_Rows.f kj22 t864 t869).bind fun t882 => (if t882 = true then (if t865 = t870 then (if t866 = t871 then ((lockstepref02_Lists.f kj22 t874 t878).bind fun t883 => (if t883 = true then (if t877 = t881 then (some ((strOfNums t840).toList == (strOfNums l1).toList)) else (some false)) else (some false))) else (some false)) else (some false)) else (some false))) = some r := H
     have A45 := am A450
     clear A450
     replace H := Option.bind_eq_some_iff.mp H
     obtain ⟨t882, A460, H⟩ := H
     replace H : (if t882 = true then (if t865 = t870 then (if t866 = t871 then ((lockstepref02_Lists.f kj22 t874 t878).bind fun t883 => (if t883 = true then (if t877 = t881 then (some ((strOfNums t840).toList == (strOfNums l1).toList)) else (some false)) else (some false))) else (some false)) else (some false)) else (some false)) = some r := H
     have A46 := am A460
     clear A460
     by_cases c47 : t882 = true
     rotate_left
     ·
      replace c47 := Bool.eq_false_iff.mpr c47
      subst c47
      have H1 : (some false) = some r := by rw [if_neg (show ¬ (false = true) by decide)] at H; exact H
      clear H
      have H := H1
      clear H1
      exact absurd (Option.some.inj H) (by rw [HR.out]; simp)
     subst c47
     have H1 : (if t865 = t870 then (if t866 = t871 then ((lockstepref02_Lists.f kj22 t874 t878).bind fun t883 => (if t883 = true then (if t877 = t881 then (some ((strOfNums t840).toList == (strOfNums l1).toList)) else (some false)) else (some false))) else (some false)) else (some false)) = some r := by rw [if_pos rfl] at H; exact H
     clear H
     have H := H1
     clear H1
     by_cases c48 : t865 = t870
     rotate_left
     ·
      rw [if_neg c48] at H
      have c48b0 : (t865 == t870) = false := beq_eq_false_iff_ne.mpr c48
      have c48b1 : (t865 != t870) = true := bne_iff_ne.mpr c48
      exact absurd (Option.some.inj H) (by rw [HR.out]; simp)
     rw [if_pos c48] at H
     have c48b0 : (t865 == t870) = true := beq_iff_eq.mpr c48
     have c48b1 : (t865 != t870) = false := bne_eq_false_iff_eq.mpr c48
     clear c48
     by_cases c49 : t866 = t871
     rotate_left
     ·
      rw [if_neg c49] at H
      have c49b0 : (t866 == t871) = false := beq_eq_false_iff_ne.mpr c49
      have c49b1 : (t866 != t871) = true := bne_iff_ne.mpr c49
      exact absurd (Option.some.inj H) (by rw [HR.out]; simp)
     rw [if_pos c49] at H
     have c49b0 : (t866 == t871) = true := beq_iff_eq.mpr c49
     have c49b1 : (t866 != t871) = false := bne_eq_false_iff_eq.mpr c49
     clear c49
     replace H := Option.bind_eq_some_iff.mp H
     obtain ⟨t883, A500, H⟩ := H
     replace H : (if t883 = true then (if t877 = t881 then (some ((strOfNums t840).toList == (strOfNums l1).toList)) else (some false)) else (some false)) = some r := H
     have A50 := am A500
     clear A500
     by_cases c51 : t883 = true
     rotate_left
     ·
      replace c51 := Bool.eq_false_iff.mpr c51
      subst c51
      have H1 : (some false) = some r := by rw [if_neg (show ¬ (false = true) by decide)] at H; exact H
      clear H
      have H := H1
      clear H1
      exact absurd (Option.some.inj H) (by rw [HR.out]; simp)
     subst c51
     have H1 : (if t877 = t881 then (some ((strOfNums t840).toList == (strOfNums l1).toList)) else (some false)) = some r := by rw [if_pos rfl] at H; exact H
     clear H
     have H := H1
     clear H1
     by_cases c52 : t877 = t881
     rotate_left
     ·
      rw [if_neg c52] at H
      have c52b0 : (t877 == t881) = false := beq_eq_false_iff_ne.mpr c52
      have c52b1 : (t877 != t881) = true := bne_iff_ne.mpr c52
      exact absurd (Option.some.inj H) (by rw [HR.out]; simp)
     rw [if_pos c52] at H
     have c52b0 : (t877 == t881) = true := beq_iff_eq.mpr c52
     have c52b1 : (t877 != t881) = false := bne_eq_false_iff_eq.mpr c52
     clear c52
     obtain rfl := Option.some.inj H
     obtain ⟨Ao53, co53, eo53⟩ := Kd.R_slice HO_6.out
     subst eo53
     go_wp2_with (first | ((with_reducible refine gate_callee (f := 33) rfl ?_); refine goesL_ (some 88) rfl rfl Tryd.func33 (by kernel_rfl) rfl #[.slice Ao53 t840.length co53] rfl (by (try simp only [List.map_toArray, List.map_cons, List.map_nil]); rfl) ?_; (with_reducible refine (rowcode_ReadRow.calls kj22 _ _ t840 t864 t865 t866 _ ?side1 ?side2 ?side3 A42.out).mono ?_); (case side1 => exact Tabs.below HT.out HB.out); (case side2 => exact (Kd.R_reads' HO_6.out).2.2); (case side3 => exact (Kd.R_reads' HO_6.out).2.1); rintro e w54 ⟨v867, rfl, ho0, hb⟩; refine ⟨_, rfl, ?_⟩; replace HO_6 := am (Kd.R_below HO_6.out hb); have HO868 := am (Kd.R_lower ho0 (below_size HB.out)); replace HB := am (below_step HB.out hb); (try clear hb); (try clear ho0)) | ((with_reducible refine gate_callee (f := 42) rfl ?_); refine goesL_ (some 94) rfl rfl Tryd.func42 (by kernel_rfl) rfl #[.slice A1 l1.length c1] rfl (by (try simp only [List.map_toArray, List.map_cons, List.map_nil]); rfl) ?_; (with_reducible refine (lockstepref02_ReadRow.calls kj22 _ _ l1 t869 t870 t871 _ ?side1 ?side2 A43.out).mono ?_); (case side1 => exact (Kd.C_below HR1.out HB.out)); (case side2 => exact HC1.out); rintro e w55 ⟨v872, rfl, ho0, hb⟩; refine ⟨_, rfl, ?_⟩; replace HO_6 := am (Kd.R_below HO_6.out hb); have HO873 := am (Kd.R_lower (Kd.R_new' ho0 (Kd.R_lt HO868.out)) (below_size HB.out)); replace HO868 := am (Kd.R_elder' HO868.out (Kd.R_base ho0) hb); replace HB := am (below_step HB.out hb); (try clear hb); (try clear ho0)) | ((with_reducible refine gate_callee (f := 43) rfl ?_); refine goesL_ (some 100) rfl rfl Tryd.func43 (by kernel_rfl) rfl #[.slice Ao53 t840.length co53] rfl (by (try simp only [List.map_toArray, List.map_cons, List.map_nil]); rfl) ?_; (with_reducible refine (rowcode_ReadBag.calls kj22 (fun k_ => some k_ = (.slice Ao53 t840.length co53 : Value).ownBlock) _ _ t840 t874 t877 _ ?side1 ?side2 A44.out).mono ?_); (case side1 => exact Tabs.below HT.out HB.out); (case side2 => exact Kd.R_V (Kd.R_tight rfl (Kd.R_apart' (Kd.R_apart' (HO_6.out) (Kd.R_typed HO868.out) (by decide)) (Kd.R_typed HO873.out) (by decide)))); rintro e w56 ⟨v875, rfl, ho0, hb⟩; refine ⟨_, rfl, ?_⟩; replace HO_6 := am (Kd.R_below HO_6.out hb); have HO876 := am (Kd.S_lower (Kd.S_new' (Kd.S_new' (Kd.S_mono (ok' := fun k_ => True) ho0 (fun _ hk_ => trivial)) (Kd.R_lt HO868.out)) (Kd.R_lt HO873.out)) (below_size HB.out)); replace HO868 := am (Kd.R_below HO868.out hb); replace HO873 := am (Kd.R_below HO873.out hb); replace HB := am (below_step HB.out hb); (try clear hb); (try clear ho0)) | ((with_reducible refine gate_callee (f := 44) rfl ?_); refine goesL_ (some 105) rfl rfl Tryd.func44 (by kernel_rfl) rfl #[.slice A1 l1.length c1] rfl (by (try simp only [List.map_toArray, List.map_cons, List.map_nil]); rfl) ?_; (with_reducible refine (lockstepref02_ReadBag.calls kj22 (fun k_ => k_ < w.heap.size) _ _ l1 t878 t881 _ ?side1 A45.out).mono ?_); (case side1 => exact Kd.V_mk HC1.out (Kd.F_below (Kd.C_F (Kd.heap_int .u8) HR1.out) HB.out)); rintro e w57 ⟨v879, rfl, ho0, hb⟩; refine ⟨_, rfl, ?_⟩; replace HO_6 := am (Kd.R_below HO_6.out hb); have HO880 := am (Kd.S_lower (Kd.S_new' (Kd.S_new' (Kd.S_new' (Kd.S_mono (ok' := fun k_ => True) ho0 (fun _ hk_ => trivial)) (Kd.R_lt HO868.out)) (Kd.R_lt HO873.out)) (Kd.S_lt HO876.out)) (below_size HB.out)); replace HO868 := am (Kd.R_below HO868.out hb); replace HO873 := am (Kd.R_below HO873.out hb); replace HO876 := am (Kd.S_elder' HO876.out (Kd.S_base ho0) hb); replace HB := am (below_step HB.out hb); (try clear hb); (try clear ho0); obtain ⟨Ao58, co58, eo58⟩ := Kd.R_slice HO868.out; subst eo58; obtain ⟨Ao59, co59, eo59⟩ := Kd.R_slice HO873.out; subst eo59) | ((with_reducible refine gate_callee (f := 34) rfl ?_); refine goesL_ (some 110) rfl rfl Tryd.func34 (by kernel_rfl) rfl #[.slice Ao58 t864.length co58, .slice Ao59 t869.length co59] rfl (by (try simp only [List.map_toArray, List.map_cons, List.map_nil]); rfl) ?_; (with_reducible refine (lockstepref02_Rows.calls kj22 _ _ t864 _ _ t869 true _ ?side1 ?side2 ?side3 ?side4 A46.out).mono ?_); (case side1 => exact (Kd.R_reads' HO868.out).2.2); (case side2 => exact (Kd.R_reads' HO868.out).2.1); (case side3 => exact (Kd.R_reads' HO873.out).2.2); (case side4 => exact (Kd.R_reads' HO873.out).2.1); rintro e w60 ⟨rfl, hb⟩; refine ⟨_, rfl, ?_⟩; replace HO_6 := am (Kd.R_below HO_6.out hb); replace HO868 := am (Kd.R_below HO868.out hb); replace HO873 := am (Kd.R_below HO873.out hb); replace HO876 := am (Kd.S_below HO876.out hb); replace HO880 := am (Kd.S_below HO880.out hb); replace HB := am (below_step HB.out hb); (try clear hb); obtain ⟨Ao61, co61, eo61⟩ := Kd.S_slice HO876.out; subst eo61; obtain ⟨Ao62, co62, eo62⟩ := Kd.S_slice HO880.out; subst eo62) | (go_at_call 41; (with_reducible refine (lockstepref02_Lists.calls kj22 _ _ t874 _ _ t878 true _ ?side1 ?side2 ?side3 ?side4 A50.out).mono ?_); (case side1 => exact (Kd.S_reads' HO876.out).2.2); (case side2 => exact (Kd.S_reads' HO876.out).2.1); (case side3 => exact (Kd.S_reads' HO880.out).2.2); (case side4 => exact (Kd.S_reads' HO880.out).2.1); rintro e w63 ⟨rfl, hb⟩; replace HO_6 := am (Kd.R_below HO_6.out hb); replace HO868 := am (Kd.R_below HO868.out hb); replace HO873 := am (Kd.R_below HO873.out hb); replace HO876 := am (Kd.S_below HO876.out hb); replace HO880 := am (Kd.S_below HO880.out hb); replace HB := am (below_step HB.out hb); (try clear hb); have hcv64 := own_string (P := Tryd.prog) Tryd.underlying47 Tryd.underlying5 Tryd.underlying9 (Kd.own_of_R HO_6.out); have hcv65 := Kd.C_string (P := Tryd.prog) (A := A1) (c := c1) Tryd.underlying47 Tryd.underlying5 Tryd.underlying9 (Kd.C_below HR1.out HB.out)))
     go_ret
     exact ⟨by rfl, by exact HB.out⟩
end Go.Proofs.YthghcpeedmconaaDoor.X
end
section
namespace Go.Proofs.YthghcpeedmconaaDoor.X
open Go.RowKit Go.Proofs.YthghcpeedmconaaDoorW.PrintWords
set_option linter.unusedVariables false
def rowRead : Nat → List Int → List S42 → List S42 × List Int × Int
  | 0, _, _ => ([], [], 4)
  | _ + 1, [], _ => ([], [], 4)
  | n + 1, x :: l, acc =>
    if x = 0 then (acc, l, 0)
    else if acc.length = 16 then ([], [], 20)
    else if (valRead (x :: l)).2.2.2.2 = 0 then rowRead n (valRead (x :: l)).2.2.2.1 (acc ++ [⟨(valRead (x :: l)).1, (valRead (x :: l)).2.1, (valRead (x :: l)).2.2.1⟩])
    else ([], [], (valRead (x :: l)).2.2.2.2)
theorem isB_rest {l : List Int} (hB : isB l) (h : (valRead l).2.2.2.2 = 0) : isB (valRead l).2.2.2.1 ∧ (valRead l).2.2.2.1.length < l.length ∧ ∃ c : List Int, l = c ++ (valRead l).2.2.2.1 := by
  have hback := valRead_back l hB
  generalize valRead l = x at *
  obtain ⟨t, m, s, rest, e⟩ := x
  simp only [] at h hback ⊢
  subst h
  obtain ⟨hcan, hcode⟩ := hback t m s rest rfl
  obtain ⟨c', l', e', _⟩ := code_ne hcan
  refine ⟨fun x hx => hB x (by rw [hcode]; exact List.mem_append_right _ hx), ?_, _, hcode⟩
  rw [hcode, e']
  simp
  omega
theorem prow_loop : ∀ (n : Nat) (x : List Int) (acc : List S42) (k : Nat), isB x → x.length < 140737488355328 → acc.length ≤ 16 → 17 ≤ n + acc.length → 2 * x.length + 61 + n ≤ k →
    rowcode_readRow.l0 k x acc = some (rowRead n x acc)
  | 0, x, acc, k, hB, hl, ha, hn, hk => by omega
  | n + 1, [], acc, k, hB, hl, ha, hn, hk => by
    obtain ⟨k, rfl⟩ : ∃ m, k = m + 1 := ⟨k - 1, by omega⟩
    rw [rowcode_readRow.l0, if_pos (by simp)]
    rfl
  | n + 1, x :: l, acc, k, hB, hl, ha, hn, hk => by
    obtain ⟨k, rfl⟩ : ∃ m, k = m + 1 := ⟨k - 1, by omega⟩
    have hlen : (x :: l).length = l.length + 1 := rfl
    rw [rowcode_readRow.l0, if_neg (by omega), if_pos (by omega), show rd (x :: l) 0 = x from rfl]
    unfold rowRead
    by_cases h0 : x = 0
    · rw [if_pos h0, if_pos h0, if_pos (by omega)]
      rfl
    · rw [if_neg h0, if_neg h0]
      by_cases h16 : acc.length = 16
      · rw [if_pos (by omega), if_pos h16]
      · rw [if_neg (by omega), if_neg h16, read_eq _ hB hl k (by omega), Option.bind_some]
        by_cases he : (valRead (x :: l)).2.2.2.2 = 0
        · obtain ⟨h1, h2, -⟩ := isB_rest hB he
          rw [if_pos he, if_pos he, if_pos (by omega)]
          exact prow_loop n _ _ k h1 (by omega) (by rw [List.length_append]; simp; omega) (by rw [List.length_append]; simp; omega) (by omega)
        · rw [if_neg he, if_neg he]
theorem prow_eq (x : List Int) (k : Nat) (hB : isB x) (hl : x.length < 140737488355328) (hk : 2 * x.length + 90 ≤ k) : rowcode_readRow.f k x = some (rowRead 17 x []) :=
  prow_loop 17 x [] k hB hl (by simp) (by simp) (by omega)
theorem rowRead_ok (x : List Int) (hB : isB x) (hl : x.length < 140737488355328) : ((rowRead 17 x []).2.2 ≠ 0 ∧ (rowRead 17 x []).1 = []) ∨
    ((rowRead 17 x []).2.2 = 0 ∧ (∀ v ∈ (rowRead 17 x []).1, Can v) ∧ (rowRead 17 x []).1.length ≤ 16 ∧ x = codes (rowRead 17 x []).1 ++ (rowRead 17 x []).2.1) := by
  obtain ⟨row, rest, err, h1, h2⟩ := readRow_back x.length x (Nat.le_refl _) hB [] (3 * x.length + 100) (by simp) hl (Nat.le_refl _)
  have h3 := prow_eq x (3 * x.length + 100) hB hl (by omega)
  unfold rowcode_readRow.f at h3
  rw [h3] at h1
  have h4 := Option.some.inj h1
  rw [h4]
  rcases h2 with h2 | ⟨h2, r, h5, h6, h7, h8⟩
  · exact .inl h2
  · rw [List.nil_append] at h5
    subst h5
    exact .inr ⟨h2, h6, by simpa using h7, h8⟩
def rowFin (l : List Int) : List S42 × Int × Int := if (rowRead 17 l []).2.2 = 0 then ((rowRead 17 l []).1, (l.length : Int) - ((rowRead 17 l []).2.1.length : Int), 0) else ([], 0, (rowRead 17 l []).2.2)
theorem rest_le {x : List Int} (hB : isB x) (hl : x.length < 140737488355328) (h : (rowRead 17 x []).2.2 = 0) : (rowRead 17 x []).2.1.length + 1 ≤ x.length ∧ isB (rowRead 17 x []).2.1 := by
  rcases rowRead_ok x hB hl with ⟨h1, _⟩ | ⟨_, h2, _, h4⟩
  · exact absurd h h1
  · have h5 := (codes_len _ h2).1
    have h6 := congrArg List.length h4
    rw [List.length_append] at h6
    refine ⟨by omega, fun b hb => hB b ?_⟩
    rw [h4]
    exact List.mem_append_right _ hb
theorem pRow_eq (x : List Int) (k : Nat) (hB : isB x) (hl : x.length < 140737488355328) (hk : 2 * x.length + 90 ≤ k) : rowcode_ReadRow.f k x = some (rowFin x) := by
  unfold rowcode_ReadRow.f rowFin
  rw [prow_eq x k hB hl hk, Option.bind_some]
  by_cases he : (rowRead 17 x []).2.2 = 0
  · have := rest_le hB hl he
    rw [if_pos he, if_pos he, show wrap64 ((x.length : Int) - ((rowRead 17 x []).2.1.length : Int)) = (x.length : Int) - ((rowRead 17 x []).2.1.length : Int) by unfold wrap64; omega]
  · rw [if_neg he, if_neg he]
theorem rrow_loop (X : List Int) (hX : isB X) (hl : X.length < 140737488355328) : ∀ (n at_ : Nat) (acc : List S42) (k : Nat), at_ ≤ X.length → acc.length ≤ 16 → 17 ≤ n + acc.length → X.length + 121 + n ≤ k →
    lockstepref02_ReadRow.l0 k X acc (at_ : Int) = some (if (rowRead n (X.drop at_) acc).2.2 = 0 then ((rowRead n (X.drop at_) acc).1, (X.length : Int) - ((rowRead n (X.drop at_) acc).2.1.length : Int), 0) else ([], 0, (rowRead n (X.drop at_) acc).2.2))
  | 0, at_, acc, k, h, ha, hn, hk => by omega
  | n + 1, at_, acc, k, h, ha, hn, hk => by
    obtain ⟨k, rfl⟩ : ∃ m, k = m + 1 := ⟨k - 1, by omega⟩
    rw [lockstepref02_ReadRow.l0]
    by_cases hat : at_ = X.length
    · rw [if_pos (by omega), List.drop_eq_nil_of_le (by omega)]
      rfl
    · have hlt : at_ < X.length := by omega
      have hd := drop_rd hlt
      have hBd : isB (X.drop at_) := isB_drop hX _
      have hdl : (X.drop at_).length = X.length - at_ := List.length_drop
      rw [if_neg (by omega), if_pos (by omega), if_pos (by omega)]
      have hval : Int.toNat (at_ : Int) = at_ := Int.toNat_natCast _
      rw [hval, hd]
      unfold rowRead
      by_cases h0 : rd X (at_ : Int) = 0
      · rw [if_pos h0, if_pos h0, if_pos rfl]
        have e : wrap64 ((at_ : Int) + 1) = (X.length : Int) - ((X.drop (at_ + 1)).length : Int) := by rw [List.length_drop]; unfold wrap64; omega
        rw [e]
      · rw [if_neg h0, if_neg h0]
        by_cases h16 : acc.length = 16
        · rw [if_pos (by omega), if_pos h16]
          rfl
        · rw [if_neg (by omega), if_neg h16, if_pos (by omega), ← hd, rRead_eq _ hBd (by omega) k (by omega), Option.bind_some]
          unfold took
          by_cases he : (valRead (X.drop at_)).2.2.2.2 = 0
          · obtain ⟨h1, h2, c, h3⟩ := isB_rest hBd he
            simp only [if_pos he, if_true]
            rw [if_pos (by omega)]
            have h4 := congrArg List.length h3
            rw [List.length_append] at h4
            have e1 : wrap64 ((at_ : Int) + (((X.drop at_).length : Int) - ((valRead (X.drop at_)).2.2.2.1.length : Int))) = ((at_ + c.length : Nat) : Int) := by unfold wrap64; omega
            have e2 : X.drop (at_ + c.length) = (valRead (X.drop at_)).2.2.2.1 := by
              rw [← List.drop_drop]
              conv => lhs; rw [h3]
              exact List.drop_left
            have := rrow_loop X hX hl n (at_ + c.length) (acc ++ [⟨(valRead (X.drop at_)).1, (valRead (X.drop at_)).2.1, (valRead (X.drop at_)).2.2.1⟩]) k (by omega) (by rw [List.length_append]; simp; omega) (by rw [List.length_append]; simp; omega) (by omega)
            rw [e2] at this
            rw [e1]
            exact this
          · simp only [if_neg he]
theorem rrow_eq (x : List Int) (k : Nat) (hB : isB x) (hl : x.length < 140737488355328) (hk : x.length + 140 ≤ k) : lockstepref02_ReadRow.f k x = some (rowFin x) := by
  have := rrow_loop x hB hl 17 0 [] k (by omega) (by simp) (by simp) (by omega)
  rw [List.drop_zero] at this
  exact this
theorem drop_of_eq {x c r : List Int} (h : x = c ++ r) : x.drop c.length = r := by subst h; exact List.drop_left
def bagRead : Nat → List Int → List (List S42) → List Int → List (List S42) × Int
  | 0, x, acc, _ => if 0 < x.length then ([], 5) else (acc, 0)
  | d + 1, x, acc, last =>
    if (rowRead 17 x []).2.2 = 0 then
      (if cmpL (x.take (x.length - (rowRead 17 x []).2.1.length)) last < 0 then ([], 20)
       else bagRead d (rowRead 17 x []).2.1 (acc ++ [(rowRead 17 x []).1]) (x.take (x.length - (rowRead 17 x []).2.1.length)))
    else ([], (rowRead 17 x []).2.2)
theorem pbag_loop (N : Nat) (hN : N ≤ 65536) : ∀ (d : Nat) (x : List Int) (acc : List (List S42)) (last : List Int) (k : Nat), acc.length + d = N → isB x → x.length < 140737488355328 → 2 * x.length + 91 + d ≤ k →
    rowcode_ReadBag.l0 k x acc last (N : Int) (acc.length : Int) = some (bagRead d x acc last)
  | 0, x, acc, last, k, h, hB, hl, hk => by
    obtain ⟨k, rfl⟩ : ∃ m, k = m + 1 := ⟨k - 1, by omega⟩
    rw [rowcode_ReadBag.l0, if_neg (by omega)]
    unfold bagRead
    by_cases h0 : 0 < x.length
    · rw [if_pos (by omega), if_pos h0]
    · rw [if_neg (by omega), if_neg h0]
  | d + 1, x, acc, last, k, h, hB, hl, hk => by
    obtain ⟨k, rfl⟩ : ∃ m, k = m + 1 := ⟨k - 1, by omega⟩
    rw [rowcode_ReadBag.l0, if_pos (by omega), prow_eq x k hB hl (by omega), Option.bind_some]
    unfold bagRead
    by_cases he : (rowRead 17 x []).2.2 = 0
    · obtain ⟨h1, h2⟩ := rest_le hB hl he
      have e : wrap64 ((x.length : Int) - ((rowRead 17 x []).2.1.length : Int)) = ((x.length - (rowRead 17 x []).2.1.length : Nat) : Int) := by unfold wrap64; omega
      rw [if_pos he, if_pos he, e, if_pos (by omega), if_pos (by omega), Option.bind_some, Int.toNat_natCast]
      rw [show bytes_Compare.f (x.take (x.length - (rowRead 17 x []).2.1.length)) last = some (cmpL (x.take (x.length - (rowRead 17 x []).2.1.length)) last) from rfl, Option.bind_some]
      by_cases hc : cmpL (x.take (x.length - (rowRead 17 x []).2.1.length)) last < 0
      · rw [if_pos hc, if_pos hc]
      · rw [if_neg hc, if_neg hc, if_pos (by omega)]
        have := pbag_loop N hN d (rowRead 17 x []).2.1 (acc ++ [(rowRead 17 x []).1]) (x.take (x.length - (rowRead 17 x []).2.1.length)) k (by rw [List.length_append, List.length_singleton]; omega) h2 (by omega) (by omega)
        rw [List.length_append, List.length_singleton] at this
        rw [show (((acc.length : Int) + 1) % 4294967296) = ((acc.length + 1 : Nat) : Int) by omega]
        exact this
    · rw [if_neg he, if_neg he]
theorem cmpL_nil (a : List Int) : ¬ cmpL a [] < 0 := by
  unfold cmpL
  cases a with
  | nil => decide
  | cons => simp [Lib.bytesOf, Lib.compareBytes]
theorem rbag_loop (X : List Int) (hX : isB X) (hl : X.length < 140737488355328) (N : Nat) (hN : N ≤ 65536) : ∀ (d at_ : Nat) (acc : List (List S42)) (last : List Int) (k : Nat), acc.length + d = N → at_ ≤ X.length → (acc.length = 0 → last = []) → X.length + 141 + d ≤ k →
    lockstepref02_ReadBag.l0 k X (N : Int) acc (at_ : Int) last = some (bagRead d (X.drop at_) acc last)
  | 0, at_, acc, last, k, h, ha, hz, hk => by
    obtain ⟨k, rfl⟩ : ∃ m, k = m + 1 := ⟨k - 1, by omega⟩
    rw [lockstepref02_ReadBag.l0, if_neg (by omega)]
    unfold bagRead
    rw [List.length_drop]
    by_cases h0 : at_ < X.length
    · rw [if_pos (by omega), if_pos (by omega)]
    · rw [if_neg (by omega), if_neg (by omega)]
  | d + 1, at_, acc, last, k, h, ha, hz, hk => by
    obtain ⟨k, rfl⟩ : ∃ m, k = m + 1 := ⟨k - 1, by omega⟩
    have hBd : isB (X.drop at_) := isB_drop hX _
    have hdl : (X.drop at_).length = X.length - at_ := List.length_drop
    have hval : Int.toNat (at_ : Int) = at_ := Int.toNat_natCast _
    rw [lockstepref02_ReadBag.l0, if_pos (by omega), if_pos (by omega), if_pos (by omega), hval, rrow_eq _ k hBd (by omega) (by omega), Option.bind_some]
    unfold bagRead rowFin
    by_cases he : (rowRead 17 (X.drop at_) []).2.2 = 0
    · obtain ⟨h1, h2⟩ := rest_le hBd (by omega) he
      have hok := rowRead_ok (X.drop at_) hBd (by omega)
      simp only [if_pos he, if_true]
      have e : wrap64 ((at_ : Int) + (((X.drop at_).length : Int) - ((rowRead 17 (X.drop at_) []).2.1.length : Int))) = ((at_ + ((X.drop at_).length - (rowRead 17 (X.drop at_) []).2.1.length) : Nat) : Int) := by unfold wrap64; omega
      rw [e, if_pos (by omega), if_pos (by omega), Option.bind_some, Int.toNat_natCast]
      have e2 : (X.take (at_ + ((X.drop at_).length - (rowRead 17 (X.drop at_) []).2.1.length))).drop at_ = (X.drop at_).take ((X.drop at_).length - (rowRead 17 (X.drop at_) []).2.1.length) := by
        rw [List.drop_take]
        congr 1
        omega
      have e3 : X.drop (at_ + ((X.drop at_).length - (rowRead 17 (X.drop at_) []).2.1.length)) = (rowRead 17 (X.drop at_) []).2.1 := by
        rcases hok with ⟨h5, _⟩ | ⟨_, h6, _, h8⟩
        · exact absurd he h5
        · rw [← List.drop_drop]
          have h9 := congrArg List.length h8
          rw [List.length_append] at h9
          have h10 : (X.drop at_).length - (rowRead 17 (X.drop at_) []).2.1.length = (codes (rowRead 17 (X.drop at_) []).1).length := by omega
          rw [h10]
          exact drop_of_eq h8
      rw [e2]
      have ih := rbag_loop X hX hl N hN d (at_ + ((X.drop at_).length - (rowRead 17 (X.drop at_) []).2.1.length)) (acc ++ [(rowRead 17 (X.drop at_) []).1]) ((X.drop at_).take ((X.drop at_).length - (rowRead 17 (X.drop at_) []).2.1.length)) k (by rw [List.length_append, List.length_singleton]; omega) (by omega) (by intro h; rw [List.length_append, List.length_singleton] at h; omega) (by omega)
      rw [e3] at ih
      by_cases hacc : acc.length = 0
      · rw [if_neg (by omega), if_pos (by omega), hz hacc, if_neg (cmpL_nil _)]
        exact ih
      · rw [if_pos (by omega), less_eq, Option.bind_some]
        by_cases hc : cmpL ((X.drop at_).take ((X.drop at_).length - (rowRead 17 (X.drop at_) []).2.1.length)) last < 0
        · rw [decide_eq_true hc, if_pos rfl, if_pos hc]
        · rw [decide_eq_false hc, if_neg (by decide), if_pos (by omega), if_neg hc]
          exact ih
    · simp only [if_neg he]
def bagFin (x : List Int) : List (List S42) × Int :=
  if x.length < 4 then ([], 4) else if headN (rd x 0) (rd x 1) (rd x 2) (rd x 3) > 65536 then ([], 20) else bagRead (headN (rd x 0) (rd x 1) (rd x 2) (rd x 3)).toNat (x.drop 4) [] []
theorem head_pos {x : List Int} (hB : isB x) (h : 4 ≤ x.length) : (0 ≤ rd x 0 ∧ rd x 0 < 256) ∧ (0 ≤ rd x 1 ∧ rd x 1 < 256) ∧ (0 ≤ rd x 2 ∧ rd x 2 < 256) ∧ (0 ≤ rd x 3 ∧ rd x 3 < 256) :=
  ⟨rd_isB hB (i := 0) (by omega), rd_isB hB (i := 1) (by omega), rd_isB hB (i := 2) (by omega), rd_isB hB (i := 3) (by omega)⟩
theorem pReadBag_eq (x : List Int) (hB : isB x) (hl : x.length < 140737488355328) (k : Nat) (hk : 2 * x.length + 70000 ≤ k) : rowcode_ReadBag.f k x = some (bagFin x) := by
  unfold rowcode_ReadBag.f bagFin
  by_cases h4 : x.length < 4
  · rw [if_pos (by omega), if_pos h4]
  · obtain ⟨h0, h1, h2, h3⟩ := head_pos hB (by omega)
    rw [if_neg (by omega), if_neg h4, if_pos (by omega), if_pos (by omega), if_pos (by omega), if_pos (by omega), head_u32 _ _ _ _ h0 h1 h2 h3]
    have hp : 0 ≤ headN (rd x 0) (rd x 1) (rd x 2) (rd x 3) := by unfold headN; omega
    generalize headN (rd x 0) (rd x 1) (rd x 2) (rd x 3) = N at *
    by_cases hN : N > 65536
    · rw [if_pos hN, if_pos hN]
    · rw [if_neg hN, if_neg hN, if_pos (by omega)]
      have := pbag_loop N.toNat (by omega) N.toNat (x.drop 4) [] [] k (by simp) (isB_drop hB _) (by rw [List.length_drop]; omega) (by rw [List.length_drop]; omega)
      rw [Int.toNat_of_nonneg hp] at this
      exact this
theorem rReadBag_eq (x : List Int) (hB : isB x) (hl : x.length < 140737488355328) (k : Nat) (hk : 2 * x.length + 70000 ≤ k) : lockstepref02_ReadBag.f k x = some (bagFin x) := by
  unfold lockstepref02_ReadBag.f bagFin
  by_cases h4 : x.length < 4
  · rw [if_pos (by omega), if_pos h4]
  · obtain ⟨h0, h1, h2, h3⟩ := head_pos hB (by omega)
    rw [if_neg (by omega), if_neg h4, if_pos (by omega), if_pos (by omega), if_pos (by omega), if_pos (by omega), head_i64 _ _ _ _ h0 h1 h2 h3]
    have hp : 0 ≤ headN (rd x 0) (rd x 1) (rd x 2) (rd x 3) := by unfold headN; omega
    generalize headN (rd x 0) (rd x 1) (rd x 2) (rd x 3) = N at *
    by_cases hN : N > 65536
    · rw [if_pos hN, if_pos hN]
    · rw [if_neg hN, if_neg hN]
      have := rbag_loop x hB hl N.toNat (by omega) N.toNat 4 [] [] k (by simp) (by omega) (fun _ => rfl) (by omega)
      rw [Int.toNat_of_nonneg hp] at this
      exact this
theorem bagRead_short : ∀ (d : Nat) (x : List Int) (acc : List (List S42)) (last : List Int), isB x → x.length < 140737488355328 → (∀ r ∈ acc, r.length ≤ 16) → ∀ r ∈ (bagRead d x acc last).1, r.length ≤ 16
  | 0, x, acc, last, hB, hl, ha, r, hr => by
    unfold bagRead at hr
    by_cases h0 : 0 < x.length
    · rw [if_pos h0] at hr; simp at hr
    · rw [if_neg h0] at hr; exact ha r hr
  | d + 1, x, acc, last, hB, hl, ha, r, hr => by
    unfold bagRead at hr
    by_cases he : (rowRead 17 x []).2.2 = 0
    · rw [if_pos he] at hr
      by_cases hc : cmpL (x.take (x.length - (rowRead 17 x []).2.1.length)) last < 0
      · rw [if_pos hc] at hr; simp at hr
      · rw [if_neg hc] at hr
        obtain ⟨h1, h2⟩ := rest_le hB hl he
        refine bagRead_short d _ _ _ h2 (by omega) ?_ r hr
        intro q hq
        rcases List.mem_append.1 hq with hq | hq
        · exact ha q hq
        · rw [List.mem_singleton.1 hq]
          rcases rowRead_ok x hB hl with ⟨h5, _⟩ | ⟨_, _, h6, _⟩
          · exact absurd he h5
          · exact h6
    · rw [if_neg he] at hr; simp at hr
theorem bagRead_len : ∀ (d : Nat) (x : List Int) (acc : List (List S42)) (last : List Int), (bagRead d x acc last).1.length ≤ acc.length + d
  | 0, x, acc, last => by
    unfold bagRead
    by_cases h0 : 0 < x.length
    · rw [if_pos h0]; simp
    · rw [if_neg h0]; simp
  | d + 1, x, acc, last => by
    unfold bagRead
    by_cases he : (rowRead 17 x []).2.2 = 0
    · rw [if_pos he]
      by_cases hc : cmpL (x.take (x.length - (rowRead 17 x []).2.1.length)) last < 0
      · rw [if_pos hc]; simp
      · rw [if_neg hc]
        have := bagRead_len d (rowRead 17 x []).2.1 (acc ++ [(rowRead 17 x []).1]) (x.take (x.length - (rowRead 17 x []).2.1.length))
        rw [List.length_append, List.length_singleton] at this
        omega
    · rw [if_neg he]; simp
theorem bagFin_short (x : List Int) (hB : isB x) (hl : x.length < 140737488355328) : (∀ r ∈ (bagFin x).1, r.length ≤ 16) ∧ (bagFin x).1.length ≤ 65536 := by
  unfold bagFin
  by_cases h4 : x.length < 4
  · rw [if_pos h4]; exact ⟨fun r hr => by simp at hr, by simp⟩
  · rw [if_neg h4]
    by_cases hN : headN (rd x 0) (rd x 1) (rd x 2) (rd x 3) > 65536
    · rw [if_pos hN]; exact ⟨fun r hr => by simp at hr, by simp⟩
    · rw [if_neg hN]
      refine ⟨bagRead_short _ _ _ _ (isB_drop hB _) (by rw [List.length_drop]; omega) (fun r hr => by simp at hr), ?_⟩
      have := bagRead_len (headN (rd x 0) (rd x 1) (rd x 2) (rd x 3)).toNat (x.drop 4) [] []
      simp only [List.length_nil] at this
      omega
theorem rows_self_loop (r : List S42) (hr : r.length < 9223372036854775807) : ∀ (d i : Nat), i + d = r.length → ∀ (k : Nat), d + 1 ≤ k → lockstepref02_Rows.l0 k r r (i : Int) = some true
  | 0, i, h, k, hk => by
    obtain ⟨k, rfl⟩ : ∃ m, k = m + 1 := ⟨k - 1, by omega⟩
    rw [lockstepref02_Rows.l0, if_neg (by omega)]
  | d + 1, i, h, k, hk => by
    obtain ⟨k, rfl⟩ : ∃ m, k = m + 1 := ⟨k - 1, by omega⟩
    rw [lockstepref02_Rows.l0, if_pos (by omega), if_pos (by omega), if_pos (by omega)]
    unfold lockstepref02_Same.f
    rw [if_pos rfl, if_pos rfl, beq_self_eq_true, Option.bind_some, if_pos rfl, w1 i (by omega)]
    exact rows_self_loop r hr d (i + 1) (by omega) k (by omega)
theorem rows_self (r : List S42) (hr : r.length < 9223372036854775807) (k : Nat) (hk : r.length + 1 ≤ k) : lockstepref02_Rows.f k r r = some true := by
  unfold lockstepref02_Rows.f
  rw [if_pos rfl]
  exact rows_self_loop r hr r.length 0 (by omega) k hk
theorem lists_self_loop (l : List (List S42)) (M : Nat) (hM : M < 9223372036854775807) (hr : ∀ r ∈ l, r.length ≤ M) (hl : l.length < 9223372036854775807) : ∀ (d i : Nat), i + d = l.length → ∀ (k : Nat), d + M + 2 ≤ k → lockstepref02_Lists.l0 k l l (i : Int) = some true
  | 0, i, h, k, hk => by
    obtain ⟨k, rfl⟩ : ∃ m, k = m + 1 := ⟨k - 1, by omega⟩
    rw [lockstepref02_Lists.l0, if_neg (by omega)]
  | d + 1, i, h, k, hk => by
    obtain ⟨k, rfl⟩ : ∃ m, k = m + 1 := ⟨k - 1, by omega⟩
    have hi : i < l.length := by omega
    have := hr _ (mem5 hi)
    rw [lockstepref02_Lists.l0, if_pos (by omega), if_pos (by omega), if_pos (by omega), rows_self _ (by omega) k (by omega), Option.bind_some, if_pos rfl, w1 i (by omega)]
    exact lists_self_loop l M hM hr hl d (i + 1) (by omega) k (by omega)
theorem lists_self (l : List (List S42)) (M : Nat) (hM : M < 9223372036854775807) (hr : ∀ r ∈ l, r.length ≤ M) (hl : l.length < 9223372036854775807) (k : Nat) (hk : l.length + M + 2 ≤ k) : lockstepref02_Lists.f k l l = some true := by
  unfold lockstepref02_Lists.f
  rw [if_pos rfl]
  exact lists_self_loop l M hM hr hl l.length 0 (by omega) k hk
theorem Own_eq (r : List S42) (hr : r.length ≤ 4398046510976) : locksteplaw02_Own.f r = some r := by
  unfold locksteplaw02_Own.f
  have hw : wrap64 ((r.length : Int) + 1) = (r.length : Int) + 1 := by unfold wrap64; omega
  rw [hw, if_pos (by omega), if_pos (by omega), Option.bind_some, if_pos (by simp; omega), List.nil_append]
theorem Owned_loop (l : List (List S42)) (hl : l.length ≤ 5864062014634) (hr : ∀ r ∈ l, r.length ≤ 4398046510976) : ∀ (d i : Nat), i + d = l.length → ∀ (k : Nat), d + 1 ≤ k → locksteplaw02_Owned.l0 k l (l.take i) (i : Int) = some l
  | 0, i, h, k, hk => by
    obtain ⟨k, rfl⟩ : ∃ m, k = m + 1 := ⟨k - 1, by omega⟩
    rw [locksteplaw02_Owned.l0, if_neg (by omega), List.take_of_length_le (by omega)]
  | d + 1, i, h, k, hk => by
    obtain ⟨k, rfl⟩ : ∃ m, k = m + 1 := ⟨k - 1, by omega⟩
    have hi : i < l.length := by omega
    have ht : l.take (i + 1) = l.take i ++ [rd_L5 l (i : Int)] := by
      rw [List.take_add_one]
      unfold rd_L5
      rw [List.getD_eq_getElem?_getD, Int.toNat_natCast, List.getElem?_eq_getElem hi]
      rfl
    rw [locksteplaw02_Owned.l0, if_pos (by omega), if_pos (by omega), Own_eq _ (hr _ (mem5 hi)), Option.bind_some, if_pos (by rw [List.length_take]; omega), w1 i (by omega), ← ht]
    exact Owned_loop l hl hr d (i + 1) (by omega) k (by omega)
theorem Owned_eq (l : List (List S42)) (hl : l.length ≤ 5864062014634) (hr : ∀ r ∈ l, r.length ≤ 4398046510976) (k : Nat) (hk : l.length + 1 ≤ k) : locksteplaw02_Owned.f k l = some l := by
  unfold locksteplaw02_Owned.f
  have hw : wrap64 ((l.length : Int) + 1) = (l.length : Int) + 1 := by unfold wrap64; omega
  rw [hw, if_pos (by omega), if_pos (by omega)]
  exact Owned_loop l hl hr l.length 0 (by omega) k hk
theorem told_self (l : List Int) (hl : l.length < 140737488355328) (k : Nat) (hk : l.length + 1 ≤ k) : locksteplaw02_told.f k l l = some true := by
  rw [told_eq l l hl k hk, beq_self_eq_true]
theorem rowOut_len (r : List S42) (hn : ∀ v ∈ r, I64 v.f1) : (rowOut r).1.length ≤ 140000 := by
  by_cases h : (rowOut r).2 = 0
  · have hf := fine_of hn h
    rw [hf.out]
    exact hf.code_len.2
  · unfold rowOut at h ⊢
    by_cases h1 : 16 < r.length
    · rw [if_pos h1]; simp
    · rw [if_neg h1] at h ⊢
      by_cases h2 : rowErr r = 0
      · rw [if_pos h2] at h; exact absurd rfl h
      · rw [if_neg h2]; simp
theorem bagOut_len (l : List (List S42)) (hn : ∀ r ∈ l, ∀ v ∈ r, I64 v.f1) : (bagOut l).1.length ≤ 9175040004 := by
  unfold bagOut
  by_cases h1 : 65536 < l.length
  · rw [if_pos h1]; simp
  · rw [if_neg h1]
    by_cases h2 : bagErr l = 0
    · rw [if_pos h2]
      have hf := fine_all hn h2
      have := flat_len (x := srt (l.map codes)) (fun y hy => by obtain ⟨r, hr, rfl⟩ := List.mem_map.1 (srt_mem.1 hy); exact (hf r hr).code_len.2)
      rw [srt_len, List.length_map] at this
      show (hdr l.length ++ _).length ≤ _
      rw [List.length_append, hdr_len]
      omega
    · rw [if_neg h2]; simp
theorem Rows_loop (l : List (List S42)) (m : List Int) (M C : Nat) (hC : C = 9175080000) (hM : M ≤ 4398046510976) (hl : l.length ≤ 5864062014634) (hr : ∀ r ∈ l, r.length ≤ M) (hn : ∀ r ∈ l, ∀ v ∈ r, I64 v.f1) (hB : isB m) (hm : m.length ≤ 140737488351232) :
    ∀ (d i : Nat), i + d = l.length → ∀ (k : Nat), d + l.length + M + 2 * m.length + C + 100000 ≤ k → locksteplaw02_RowcodeRows.l0 k l m l m (i : Int) = some true
  | 0, i, h, k, hk => by
    obtain ⟨k, rfl⟩ : ∃ j, k = j + 1 + 1 := ⟨k - 2, by omega⟩
    have hbl := bagOut_len l hn
    obtain ⟨hs1, hs2⟩ := bagFin_short m hB (by omega)
    rw [locksteplaw02_RowcodeRows.l0, if_neg (by omega), pBag_eq l hn (k + 1) (by omega), Option.bind_some, rBag_eq l hn (k + 1) (by omega), Option.bind_some, told_self _ (by omega) (k + 1) (by omega), Option.bind_some, if_pos rfl, if_pos rfl,
      lists_self l M (by omega) hr (by omega) (k + 1) (by omega), Option.bind_some, locksteplaw02_RowcodeRows.j1, if_neg (by decide), pRow_eq m k hB (by omega) (by omega), Option.bind_some, rrow_eq m k hB (by omega) (by omega), Option.bind_some,
      pReadBag_eq m hB (by omega) k (by omega), Option.bind_some, rReadBag_eq m hB (by omega) k (by omega), Option.bind_some]
    have hrow : (rowFin m).1.length ≤ 16 := by
      unfold rowFin
      by_cases he : (rowRead 17 m []).2.2 = 0
      · rw [if_pos he]
        rcases rowRead_ok m hB (by omega) with ⟨h5, _⟩ | ⟨_, _, h6, _⟩
        · exact absurd he h5
        · exact h6
      · rw [if_neg he]; simp
    rw [rows_self _ (by omega) k (by omega), Option.bind_some, if_pos rfl, if_pos rfl, if_pos rfl, lists_self _ 16 (by omega) hs1 (by omega) k (by omega), Option.bind_some, if_pos rfl, if_pos rfl, beq_self_eq_true]
  | d + 1, i, h, k, hk => by
    obtain ⟨k, rfl⟩ : ∃ j, k = j + 1 := ⟨k - 1, by omega⟩
    have hi : i < l.length := by omega
    have hni := hn _ (mem5 hi)
    have hle := rowOut_len _ hni
    rw [locksteplaw02_RowcodeRows.l0, if_pos (by omega), if_pos (by omega), if_pos (by omega), Row_eq _ hni k (by omega), Option.bind_some, rRow_eq _ hni k (by omega), Option.bind_some, told_self _ (by omega) k (by omega), Option.bind_some, if_pos rfl, if_pos rfl, w1 i (by omega)]
    exact Rows_loop l m M C hC hM hl hr hn hB hm d (i + 1) (by omega) k (by omega)
theorem RowcodeRows_true (l : List (List S42)) (m : List Int) (hl : l.length ≤ 5864062014634) (hr : ∀ r ∈ l, r.length ≤ 4398046510976) (hn : ∀ r ∈ l, ∀ v ∈ r, I64 v.f1) (hB : isB m) (hm : m.length ≤ 140737488351232) : ∃ k, locksteplaw02_RowcodeRows.f k l m = some true := by
  refine ⟨2 * l.length + 4398046510976 + 2 * m.length + 9175080000 + 100000, ?_⟩
  unfold locksteplaw02_RowcodeRows.f
  rw [Owned_eq l hl hr _ (by omega), Option.bind_some, own_eq2 m (by omega), Option.bind_some]
  exact Rows_loop l m 4398046510976 9175080000 rfl (Nat.le_refl _) hl hr hn hB hm l.length 0 (by omega) _ (by omega)
end Go.Proofs.YthghcpeedmconaaDoor.X
end

/- Part 3 of a claim of this seat: texts merged by a program of the claim's session (wip/bundle.py). -/
import Derived.Test.YthghcpeedmconaaDoorZRr1
import Derived.Test.YthghcpeedmconaaDoorZRr2
section
namespace Go.Proofs.YthghcpeedmconaaDoor.X
open Go.RowKit Go.Proofs.YthghcpeedmconaaDoorW.PrintWords Go.Proofs.YthghcpeedmconaaDoorW.PrintLast Go.Proofs.YthghcpeedmconaaDoorW.PrintMore
attribute [local go_sem] max2_int min2_int max_two min_two max_three min_three max_four min_four
set_option linter.unusedVariables false
set_option linter.unusedSimpArgs false
def rowcode_read.f (k : Nat) (l0 : List Int) : Option (Int × Int × ByteArray × List Int × Int) := if (l0.length : Int) = 0 then (some (0, 0, (⟨#[]⟩ : ByteArray), ([] : List Int), 4)) else (if 0 < (l0.length : Int) then (if 1 ≤ (l0.length : Int) then ((some (l0.drop 1 : List Int)).bind fun y505 => (if (rd l0 0) = 1 then (some (0, 0, (⟨#[]⟩ : ByteArray), y505, 0)) else (if (rd l0 0) = 2 then ((rowcode_number.f k y505).bind fun bt510 => (some (bt510.1, bt510.2.1, bt510.2.2.1, bt510.2.2.2.1, bt510.2.2.2.2))) else (if (rd l0 0) = 3 then ((rowcode_text.f k y505).bind fun bt517 => (some (bt517.1, bt517.2.1, bt517.2.2.1, bt517.2.2.2.1, bt517.2.2.2.2))) else (if (rd l0 0) = 4 then (if (y505.length : Int) = 0 then (some (0, 0, (⟨#[]⟩ : ByteArray), ([] : List Int), 4)) else (if 0 < (y505.length : Int) then (if (rd y505 0) > 1 then (some (0, 0, (⟨#[]⟩ : ByteArray), ([] : List Int), 20)) else (if 1 ≤ (y505.length : Int) then (some (4, wrap64 (rd y505 0), (⟨#[]⟩ : ByteArray), (y505.drop 1), 0)) else (none))) else (none))) else (some (0, 0, (⟨#[]⟩ : ByteArray), ([] : List Int), 20))))))) else (none)) else (none))
def rowcode_read.T16 : Bool × List (List Nat × List Nat) := (true, [([], []), ([0], [0]), ([1], [1]), ([2], [2]), ([3], [3]), ([], []), ([5], [5]), ([4, 0, 1, 2, 3, 4], [4]), ([6, 7, 0, 1, 2, 3, 4, 5, 6, 7], [6]), ([8, 0, 1, 2, 3, 4, 5, 6, 7, 8], [])])
def rowcode_read.B16 : List Nat := [0, 1, 3, 7, 15, 0, 32, 31, 255, 511]
theorem rowcode_read.tab16 : rtab .any (opsOf Tryd.f57 16) = rowcode_read.T16 := by kernel_rfl
theorem rowcode_read.bits16 : waitsOk rowcode_read.T16.2 rowcode_read.B16 = true := by kernel_rfl
set_option maxHeartbeats 8000000 in
set_option maxRecDepth 100000 in
theorem rowcode_read.calls (k : Nat) (P0_ : Nat → Prop) (A0 : Option Addr) (c0 : Nat) (l0 : List Int) (r1 : Int) (r2 : Int) (r3 : ByteArray) (r4 : List Int) (r5 : Int) (w : World) (hT : Tabs w) (hs0 : Kd.V (Kd.int .u8) 5 w w.heap.size (fun k_ => P0_ k_) (.slice A0 l0.length c0) l0) (h : rowcode_read.f k l0 = some (r1, r2, r3, r4, r5)) :
  Calls Tryd.prog 57 #[.slice A0 l0.length c0] w fun e w' => ∃ v3_ : Value, e = .returned (.tuple #[.agg #[.int .i64 r1, .int .i64 r2, .string r3], v3_, .int .i64 r5]) ∧ Kd.V (Kd.int .u8) 5 w' w.heap.size (fun k_ => (P0_ k_ ∨ w.heap.size ≤ k_)) v3_ r4 ∧ Below w.heap.size w w' := by
 have hu42 := Tryd.underlying42
 have HT := am hT
 clear hT
 have HO0 := am (show Kd.V (Kd.int .u8) 5 w w.heap.size (fun k_ => (P0_ k_ ∨ w.heap.size ≤ k_)) (.slice A0 l0.length c0) l0 from Kd.V_mono hs0 (fun k_ hk => .inl hk))
 have HB := am (Below.refl w.heap.size w)
 have H : (if (l0.length : Int) = 0 then (some (0, 0, (⟨#[]⟩ : ByteArray), ([] : List Int), 4)) else (if 0 < (l0.length : Int) then (if 1 ≤ (l0.length : Int) then ((some (l0.drop 1 : List Int)).bind fun y505 => (if (rd l0 0) = 1 then (some (0, 0, (⟨#[]⟩ : ByteArray), y505, 0)) else (if (rd l0 0) = 2 then ((rowcode_number.f k y505).bind fun bt510 => (some (bt510.1, bt510.2.1, bt510.2.2.1, bt510.2.2.2.1, bt510.2.2.2.2))) else (if (rd l0 0) = 3 then ((rowcode_text.f k y505).bind fun bt517 => (some (bt517.1, bt517.2.1, bt517.2.2.1, bt517.2.2.2.1, bt517.2.2.2.2))) else (if (rd l0 0) = 4 then (if (y505.length : Int) = 0 then (some (0, 0, (⟨#[]⟩ : ByteArray), ([] : List Int), 4)) else (if 0 < (y505.length : Int) then (if (rd y505 0) > 1 then (some (0, 0, (⟨#[]⟩ : ByteArray), ([] : List Int), 20)) else (if 1 ≤ (y505.length : Int) then (some (4, wrap64 (rd y505 0), (⟨#[]⟩ : ByteArray), (y505.drop 1), 0)) else (none))) else (none))) else (some (0, 0, (⟨#[]⟩ : ByteArray), ([] : List Int), 20))))))) else (none)) else (none))) = some (r1, r2, r3, r4, r5) := h
 clear h
 by_cases c2 : (l0.length : Int) = 0
 ·
  rw [if_pos c2] at H
  have c2b0 : ((l0.length : Int) == 0) = true := beq_iff_eq.mpr c2
  have c2b1 : ((l0.length : Int) != 0) = false := bne_eq_false_iff_eq.mpr c2
  clear c2
  simp only [Option.some.injEq, Prod.mk.injEq] at H
  obtain ⟨rfl, rfl, rfl, rfl, rfl⟩ := H
  go_enter Tryd.func57, Tryd.ntmps57
  go_wp2_with (((with_reducible refine gate_dst (N := 2) rfl ?_); refine box_event ?hg (N := 2) ?hd (cs := #[.int .i64 0, .int .i64 0, .string (⟨#[]⟩ : ByteArray)]) (t := 42) ?hr ?_; (case hd => rfl); (case hg => rfl); (case hr => (go_simp; done)); intro gb503 hg w3 hbox hb; replace HO0 := am (Kd.V_below (Kd.V_elderB HO0.out gb503 (Nat.le_of_eq hg.symm)) hb); have BK503 := am (hbox); have GW503 := am ((by rw [hg]; exact (below_size HB.out) : w.heap.size ≤ gb503)); have GE503 := am ((by rw [hg]; exact (below_size HB.out) : w.heap.size ≤ gb503)); replace HB := am (below_step HB.out hb); clear hb hbox hg; have hcz4_0 : w3.cell? ⟨gb503, 0, none⟩ = some (.int .i64 0) := (blk_cell BK503.out 0).trans rfl; have hcz4_1 : w3.cell? ⟨gb503, 1, none⟩ = some (.int .i64 0) := (blk_cell BK503.out 1).trans rfl; have hcz4_2 : w3.cell? ⟨gb503, 2, none⟩ = some (.string (⟨#[]⟩ : ByteArray)) := (blk_cell BK503.out 2).trans rfl; have hfz4_0 := blk_frozen BK503.out 0; have hfz4_1 := blk_frozen BK503.out 1; have hfz4_2 := blk_frozen BK503.out 2))
  refine bodyPost_ret (results_ctt rfl _ _ gb503 42 #[.int .i64 0, .int .i64 0, .string (⟨#[]⟩ : ByteArray)] (0, 0) _ rfl (by refine blk_put (cs := #[.int .i64 0, .int .i64 0, .string (⟨#[]⟩ : ByteArray)]) ?_ 2 _ rfl; refine blk_put (cs := #[.int .i64 0, .int .i64 0, .string (⟨#[]⟩ : ByteArray)]) ?_ 1 _ rfl; refine blk_put (cs := #[.int .i64 0, .int .i64 0, .string (⟨#[]⟩ : ByteArray)]) ?_ 0 _ rfl; exact BK503.out) Tryd.underlying42 rfl (by kernel_rfl)) rfl ?_
  exact ⟨_, by rfl, Kd.V_nil _ _ _ _ _, by repeat ((with_reducible first | exact HB.out | refine below_set ?_ GE503.out))⟩
 rw [if_neg c2] at H
 have c2b0 : ((l0.length : Int) == 0) = false := beq_eq_false_iff_ne.mpr c2
 have c2b1 : ((l0.length : Int) != 0) = true := bne_iff_ne.mpr c2
 have c2b2 : ¬ (l0 = []) := fun h_ => c2 (by rw [h_]; rfl)
 replace H := its H
 obtain ⟨c5, H⟩ := H
 have c5b0 := decide_eq_true c5
 have c5b1 : decide (0 < l0.length) = true := decide_eq_true (by omega)
 clear c5
 replace H := its H
 obtain ⟨c6, H⟩ := H
 have c6b0 := eq_true c6
 have c6b1 := decide_eq_true c6
 clear c6
 obtain ⟨y505, hy505⟩ : ∃ y_ : List Int, y_ = (l0.drop 1) := ⟨_, rfl⟩
 replace H : (if (rd l0 0) = 1 then (some (0, 0, (⟨#[]⟩ : ByteArray), y505, 0)) else (if (rd l0 0) = 2 then ((rowcode_number.f k y505).bind fun bt510 => (some (bt510.1, bt510.2.1, bt510.2.2.1, bt510.2.2.2.1, bt510.2.2.2.2))) else (if (rd l0 0) = 3 then ((rowcode_text.f k y505).bind fun bt517 => (some (bt517.1, bt517.2.1, bt517.2.2.1, bt517.2.2.2.1, bt517.2.2.2.2))) else (if (rd l0 0) = 4 then (if (y505.length : Int) = 0 then (some (0, 0, (⟨#[]⟩ : ByteArray), ([] : List Int), 4)) else (if 0 < (y505.length : Int) then (if (rd y505 0) > 1 then (some (0, 0, (⟨#[]⟩ : ByteArray), ([] : List Int), 20)) else (if 1 ≤ (y505.length : Int) then (some (4, wrap64 (rd y505 0), (⟨#[]⟩ : ByteArray), (y505.drop 1), 0)) else (none))) else (none))) else (some (0, 0, (⟨#[]⟩ : ByteArray), ([] : List Int), 20)))))) = some (r1, r2, r3, r4, r5) := by (have H2_ := (Option.bind_some _ _).symm.trans H; rw [hy505]; with_reducible exact H2_)
 have Ny505 := am hy505
 clear hy505
 by_cases c7 : (rd l0 0) = 1
 ·
  rw [if_pos c7] at H
  have c7b0 : ((rd l0 0) == 1) = true := beq_iff_eq.mpr c7
  have c7b1 : ((rd l0 0) != 1) = false := bne_eq_false_iff_eq.mpr c7
  clear c7
  simp only [Option.some.injEq, Prod.mk.injEq] at H
  obtain ⟨rfl, rfl, rfl, rfl, rfl⟩ := H
  go_enter Tryd.func57, Tryd.ntmps57
  try go_wp2_with (((with_reducible refine gate_dst (N := 2) rfl ?_); refine box_event ?hg (N := 2) ?hd (cs := #[.int .i64 0, .int .i64 0, .string (⟨#[]⟩ : ByteArray)]) (t := 42) ?hr ?_; (case hd => rfl); (case hg => rfl); (case hr => (go_simp; done)); intro gb503 hg w8 hbox hb; replace HO0 := am (Kd.V_below (Kd.V_elderB HO0.out gb503 (Nat.le_of_eq hg.symm)) hb); have BK503 := am (hbox); have GW503 := am ((by rw [hg]; exact (below_size HB.out) : w.heap.size ≤ gb503)); have GE503 := am ((by rw [hg]; exact (below_size HB.out) : w.heap.size ≤ gb503)); replace HB := am (below_step HB.out hb); clear hb hbox hg))
  have n0_ := am (Kd.V_drew HO0.out)
  have n1_ := am (blk_drew BK503.out)
  have n2_ := am (below_drew1 HB.out)
  clear HO0
  clear BK503
  clear HB
  have HO0 := n0_
  have BK503 := n1_
  have HB := n2_
  clear n0_ n1_ n2_
  have p504 : 0 ≤ (0 : Int) := (by omega)
  have q504 : 0 < (l0.length : Int) := of_decide_eq_true (by assumption)
  obtain ⟨ad504, e504, hx504_0⟩ := Kd.at_int (Kd.V_reads' HO0.out).2.2 0 p504 q504
  cases e504
  have qi504 : (0 < l0.length) = True := eq_true (by omega)
  (try rw [show ((0 : Int)).toNat = 0 from rfl] at hx504_0)
  (try rw [Addr.add_zero'] at hx504_0)
  replace p504 := eq_true p504
  replace q504 := eq_true q504
  have q10 : (1 : Int) ≤ ((l0.length : Int) : Int) := of_decide_eq_true (by assumption)
  obtain ⟨i010, hi010, _, hsz10, _⟩ := info_parts info5
  have hroom10 : l0.length ≤ c0 := (Kd.V_reads' HO0.out).2.1
  have hC10 : Kd.F (Kd.int .u8) _ _ (some ad504) l0.length l0 := (Kd.V_at (base := w.heap.size) HO0.out).2.2
  have hcut10 := cut_from (P := Tryd.prog) 47 5 .i64 Tryd.underlying47 hi010 1 hsz10 (some ad504) l0.length c0 1 (by omega) q10
  have hr10 := Kd.F_cut (m := (1 : Int).toNat) (c := c0) hC10 (by omega) hroom10
  obtain ⟨A10, hA10⟩ : ∃ A1, A1 = (if c0 = (1 : Int).toNat then (some ad504) else ((some ad504) : Option Addr).map (·.add ((1 : Int).toNat * 1))) := ⟨_, rfl⟩
  obtain ⟨c10, hc10⟩ : ∃ c1, c1 = c0 - (1 : Int).toNat := ⟨_, rfl⟩
  have hy10 : y505.length = l0.length - (1 : Int).toNat := (by rw [Ny505.out, List.length_drop] <;> omega)
  rw [show (l0).drop (1 : Int).toNat = y505 from Ny505.out.symm] at hr10
  replace hr10 : Kd.F (Kd.int .u8) _ _ A10 y505.length y505 := (by rw [hA10]; exact hr10)
  rw [← hy10, ← hA10, ← hc10] at hcut10
  have HO509 := am (show Kd.V (Kd.int .u8) 5 _ w.heap.size _ (.slice A10 y505.length c10) y505 from Kd.V_mk (by rw [hy10, hc10]; exact Nat.sub_le_sub_right hroom10 _) hr10)
  have HC509 := am (show y505.length ≤ c10 from by rw [hy10, hc10]; exact Nat.sub_le_sub_right hroom10 _)
  clear hr10 hC10 hroom10 hi010 hsz10 hc10
  have KY10 := am hy10
  have KA10 := am hA10
  clear hy10 hA10
  replace q10 := eq_true q10
  refine start_ (n := 7) (S := fun w' => w'.cell? ad504 = some (.int .u8 (rd l0 0))) (ds := []) #[false, false, false, false, false, false, false] (by kernel_rfl) rfl rfl (hx504_0) (fun hHeld => ?_)
  generalize w8.drew = w9 at HO0 BK503 HB HO509 hx504_0 hHeld ⊢
  refine pure_ (i := 0) (N := some 10) (v := ?_) (a' := ?_) #[true, false, false, false, false, false, false] rfl rfl (by kernel_rfl) (fun _ _ _ h => h) (Or.inl ⟨by rfl, ?_⟩) ?_ ?_
  rotate_left
  ·
   intro w'
   go_simp
   with_reducible rfl
  rotate_left
  ·
   simp only [Act.put, sa, sb, sc, i64_w, i32_w]
   rfl
  refine pure_ (i := 1) (N := some 11) (v := ?_) (a' := ?_) #[true, true, false, false, false, false, false] rfl rfl (by kernel_rfl) (fun _ _ _ h => h) (Or.inl ⟨by rfl, ?_⟩) ?_ ?_
  rotate_left
  ·
   intro w'
   go_simp
   with_reducible rfl
  rotate_left
  ·
   simp only [Act.put, sa, sb, sc, i64_w, i32_w]
   rfl
  refine pure_ (i := 3) (N := some 13) (v := ?_) (a' := ?_) #[true, true, false, true, false, false, false] rfl rfl (by kernel_rfl) (fun _ _ _ h => h) (Or.inl ⟨by rfl, ?_⟩) ?_ ?_
  rotate_left
  ·
   intro w'
   go_simp
   with_reducible rfl
  rotate_left
  ·
   simp only [Act.put, sa, sb, sc, i64_w, i32_w]
   rfl
  refine pure_ (i := 4) (N := some 14) (v := ?_) (a' := ?_) #[true, true, false, true, true, false, false] rfl rfl (by kernel_rfl) (fun _ _ _ h => h) (Or.inl ⟨by rfl, ?_⟩) ?_ ?_
  rotate_left
  ·
   intro w'
   go_simp
   with_reducible rfl
  rotate_left
  ·
   simp only [Act.put, sa, sb, sc, i64_w, i32_w]
   rfl
  refine take_ (i := 2) (N := some 12) (v := ?_) (a' := ?_) #[true, true, true, true, true, false, false] rfl rfl (by kernel_rfl) (fun _ _ _ h => h) (Or.inl ⟨by rfl, ?_⟩) hHeld ?_ ?_
  rotate_left
  ·
   intro w' s0
   go_simp
   with_reducible rfl
  rotate_left
  ·
   simp only [Act.put, sa, sb, sc, i64_w, i32_w]
   rfl
  refine pure_ (i := 5) (N := some 5) (v := ?_) (a' := ?_) #[true, true, true, true, true, true, false] rfl rfl (by kernel_rfl) (fun _ _ _ h => h) (Or.inl ⟨by rfl, ?_⟩) ?_ ?_
  rotate_left
  ·
   intro w'
   go_simp
   with_reducible rfl
  rotate_left
  ·
   simp only [Act.put, sa, sb, sc, i64_w, i32_w]
   rfl
  refine pure_ (i := 6) (N := some 0) (v := ?_) (a' := ?_) #[true, true, true, true, true, true, true] rfl rfl (by kernel_rfl) (fun _ _ _ h => h) (Or.inl ⟨by rfl, ?_⟩) ?_ ?_
  rotate_left
  ·
   intro w'
   go_simp
   with_reducible rfl
  rotate_left
  ·
   simp only [Act.put, sa, sb, sc, i64_w, i32_w]
   rfl
  refine done_ (by kernel_rfl) ?_
  have hcz11_0 : w9.cell? ⟨gb503, 0, none⟩ = some (.int .i64 0) := (blk_cell BK503.out 0).trans rfl
  have hcz11_1 : w9.cell? ⟨gb503, 1, none⟩ = some (.int .i64 0) := (blk_cell BK503.out 1).trans rfl
  have hcz11_2 : w9.cell? ⟨gb503, 2, none⟩ = some (.string (⟨#[]⟩ : ByteArray)) := (blk_cell BK503.out 2).trans rfl
  have hfz11_0 := blk_frozen BK503.out 0
  have hfz11_1 := blk_frozen BK503.out 1
  have hfz11_2 := blk_frozen BK503.out 2
  try go_wp2
  refine bodyPost_ret (results_ctt rfl _ _ gb503 42 #[.int .i64 0, .int .i64 0, .string (⟨#[]⟩ : ByteArray)] (0, 0) _ rfl (by refine blk_put (cs := #[.int .i64 0, .int .i64 0, .string (⟨#[]⟩ : ByteArray)]) ?_ 2 _ rfl; refine blk_put (cs := #[.int .i64 0, .int .i64 0, .string (⟨#[]⟩ : ByteArray)]) ?_ 1 _ rfl; refine blk_put (cs := #[.int .i64 0, .int .i64 0, .string (⟨#[]⟩ : ByteArray)]) ?_ 0 _ rfl; exact BK503.out) Tryd.underlying42 rfl (by kernel_rfl)) rfl ?_
  exact ⟨_, by rfl, by exact Kd.V_mono (Kd.V_far (p := ⟨gb503, 2, none⟩) (Kd.V_far (p := ⟨gb503, 1, none⟩) (Kd.V_far (p := ⟨gb503, 0, none⟩) (Kd.V_mono HO509.out (fun k_ hk => (⟨hk, hk.2⟩ : _ ∧ k_ ≠ gb503))) (fun _ hk => hk.2) (.int .i64 0)) (fun _ hk => hk.2) (.int .i64 0)) (fun _ hk => hk.2) (.string (⟨#[]⟩ : ByteArray))) (fun _ hk => hk.1.1), by repeat ((with_reducible first | exact HB.out | refine below_set ?_ GE503.out))⟩
 rw [if_neg c7] at H
 have c7b0 : ((rd l0 0) == 1) = false := beq_eq_false_iff_ne.mpr c7
 have c7b1 : ((rd l0 0) != 1) = true := bne_iff_ne.mpr c7
 by_cases c12 : (rd l0 0) = 2
 ·
  rw [if_pos c12] at H
  have c12b0 : ((rd l0 0) == 2) = true := beq_iff_eq.mpr c12
  have c12b1 : ((rd l0 0) != 2) = false := bne_eq_false_iff_eq.mpr c12
  clear c12
  replace H := Option.bind_eq_some_iff.mp H
  obtain ⟨⟨t510, t511, t512, t513, t516⟩, A130, H⟩ := H
  replace H : (some (t510, t511, t512, t513, t516)) = some (r1, r2, r3, r4, r5) := H
  have A13 := am A130
  clear A130
  simp only [Option.some.injEq, Prod.mk.injEq] at H
  obtain ⟨rfl, rfl, rfl, rfl, rfl⟩ := H
  go_enter Tryd.func57, Tryd.ntmps57
  try go_wp2_with (((with_reducible refine gate_dst (N := 2) rfl ?_); refine box_event ?hg (N := 2) ?hd (cs := #[.int .i64 0, .int .i64 0, .string (⟨#[]⟩ : ByteArray)]) (t := 42) ?hr ?_; (case hd => rfl); (case hg => rfl); (case hr => (go_simp; done)); intro gb503 hg w14 hbox hb; replace HO0 := am (Kd.V_below (Kd.V_elderB HO0.out gb503 (Nat.le_of_eq hg.symm)) hb); have BK503 := am (hbox); have GW503 := am ((by rw [hg]; exact (below_size HB.out) : w.heap.size ≤ gb503)); have GE503 := am ((by rw [hg]; exact (below_size HB.out) : w.heap.size ≤ gb503)); replace HB := am (below_step HB.out hb); clear hb hbox hg))
  have n0_ := am (Kd.V_drew HO0.out)
  have n1_ := am (blk_drew BK503.out)
  have n2_ := am (below_drew1 HB.out)
  clear HO0
  clear BK503
  clear HB
  have HO0 := n0_
  have BK503 := n1_
  have HB := n2_
  clear n0_ n1_ n2_
  have p504 : 0 ≤ (0 : Int) := (by omega)
  have q504 : 0 < (l0.length : Int) := of_decide_eq_true (by assumption)
  obtain ⟨ad504, e504, hx504_0⟩ := Kd.at_int (Kd.V_reads' HO0.out).2.2 0 p504 q504
  cases e504
  have qi504 : (0 < l0.length) = True := eq_true (by omega)
  (try rw [show ((0 : Int)).toNat = 0 from rfl] at hx504_0)
  (try rw [Addr.add_zero'] at hx504_0)
  replace p504 := eq_true p504
  replace q504 := eq_true q504
  have q16 : (1 : Int) ≤ ((l0.length : Int) : Int) := of_decide_eq_true (by assumption)
  obtain ⟨i016, hi016, _, hsz16, _⟩ := info_parts info5
  have hroom16 : l0.length ≤ c0 := (Kd.V_reads' HO0.out).2.1
  have hC16 : Kd.F (Kd.int .u8) _ _ (some ad504) l0.length l0 := (Kd.V_at (base := w.heap.size) HO0.out).2.2
  have hcut16 := cut_from (P := Tryd.prog) 47 5 .i64 Tryd.underlying47 hi016 1 hsz16 (some ad504) l0.length c0 1 (by omega) q16
  have hr16 := Kd.F_cut (m := (1 : Int).toNat) (c := c0) hC16 (by omega) hroom16
  obtain ⟨A16, hA16⟩ : ∃ A1, A1 = (if c0 = (1 : Int).toNat then (some ad504) else ((some ad504) : Option Addr).map (·.add ((1 : Int).toNat * 1))) := ⟨_, rfl⟩
  obtain ⟨c16, hc16⟩ : ∃ c1, c1 = c0 - (1 : Int).toNat := ⟨_, rfl⟩
  have hy16 : y505.length = l0.length - (1 : Int).toNat := (by rw [Ny505.out, List.length_drop] <;> omega)
  rw [show (l0).drop (1 : Int).toNat = y505 from Ny505.out.symm] at hr16
  replace hr16 : Kd.F (Kd.int .u8) _ _ A16 y505.length y505 := (by rw [hA16]; exact hr16)
  rw [← hy16, ← hA16, ← hc16] at hcut16
  have HO509 := am (show Kd.V (Kd.int .u8) 5 _ w.heap.size _ (.slice A16 y505.length c16) y505 from Kd.V_mk (by rw [hy16, hc16]; exact Nat.sub_le_sub_right hroom16 _) hr16)
  have HC509 := am (show y505.length ≤ c16 from by rw [hy16, hc16]; exact Nat.sub_le_sub_right hroom16 _)
  clear hr16 hC16 hroom16 hi016 hsz16 hc16
  have KY16 := am hy16
  have KA16 := am hA16
  clear hy16 hA16
  replace q16 := eq_true q16
  refine start_ (n := 7) (S := fun w' => w'.cell? ad504 = some (.int .u8 (rd l0 0))) (ds := []) #[false, false, false, false, false, false, false] (by kernel_rfl) rfl rfl (hx504_0) (fun hHeld => ?_)
  generalize w14.drew = w15 at HO0 BK503 HB HO509 hx504_0 hHeld ⊢
  refine pure_ (i := 0) (N := some 10) (v := ?_) (a' := ?_) #[true, false, false, false, false, false, false] rfl rfl (by kernel_rfl) (fun _ _ _ h => h) (Or.inl ⟨by rfl, ?_⟩) ?_ ?_
  rotate_left
  ·
   intro w'
   go_simp
   with_reducible rfl
  rotate_left
  ·
   simp only [Act.put, sa, sb, sc, i64_w, i32_w]
   rfl
  refine pure_ (i := 1) (N := some 11) (v := ?_) (a' := ?_) #[true, true, false, false, false, false, false] rfl rfl (by kernel_rfl) (fun _ _ _ h => h) (Or.inl ⟨by rfl, ?_⟩) ?_ ?_
  rotate_left
  ·
   intro w'
   go_simp
   with_reducible rfl
  rotate_left
  ·
   simp only [Act.put, sa, sb, sc, i64_w, i32_w]
   rfl
  refine pure_ (i := 3) (N := some 13) (v := ?_) (a' := ?_) #[true, true, false, true, false, false, false] rfl rfl (by kernel_rfl) (fun _ _ _ h => h) (Or.inl ⟨by rfl, ?_⟩) ?_ ?_
  rotate_left
  ·
   intro w'
   go_simp
   with_reducible rfl
  rotate_left
  ·
   simp only [Act.put, sa, sb, sc, i64_w, i32_w]
   rfl
  refine pure_ (i := 4) (N := some 14) (v := ?_) (a' := ?_) #[true, true, false, true, true, false, false] rfl rfl (by kernel_rfl) (fun _ _ _ h => h) (Or.inl ⟨by rfl, ?_⟩) ?_ ?_
  rotate_left
  ·
   intro w'
   go_simp
   with_reducible rfl
  rotate_left
  ·
   simp only [Act.put, sa, sb, sc, i64_w, i32_w]
   rfl
  refine take_ (i := 2) (N := some 12) (v := ?_) (a' := ?_) #[true, true, true, true, true, false, false] rfl rfl (by kernel_rfl) (fun _ _ _ h => h) (Or.inl ⟨by rfl, ?_⟩) hHeld ?_ ?_
  rotate_left
  ·
   intro w' s0
   go_simp
   with_reducible rfl
  rotate_left
  ·
   simp only [Act.put, sa, sb, sc, i64_w, i32_w]
   rfl
  refine pure_ (i := 5) (N := some 5) (v := ?_) (a' := ?_) #[true, true, true, true, true, true, false] rfl rfl (by kernel_rfl) (fun _ _ _ h => h) (Or.inl ⟨by rfl, ?_⟩) ?_ ?_
  rotate_left
  ·
   intro w'
   go_simp
   with_reducible rfl
  rotate_left
  ·
   simp only [Act.put, sa, sb, sc, i64_w, i32_w]
   rfl
  refine pure_ (i := 6) (N := some 0) (v := ?_) (a' := ?_) #[true, true, true, true, true, true, true] rfl rfl (by kernel_rfl) (fun _ _ _ h => h) (Or.inl ⟨by rfl, ?_⟩) ?_ ?_
  rotate_left
  ·
   intro w'
   go_simp
   with_reducible rfl
  rotate_left
  ·
   simp only [Act.put, sa, sb, sc, i64_w, i32_w]
   rfl
  refine done_ (by kernel_rfl) ?_
  try go_wp2_with (((with_reducible refine gate_callee (f := 76) rfl ?_); refine goesL_ (some 23) rfl rfl Tryd.func76 (by kernel_rfl) rfl #[.slice A16 y505.length c16] rfl (by (try simp only [List.map_toArray, List.map_cons, List.map_nil]); rfl) ?_; (with_reducible refine (rowcode_number.calls k (fun k_ => ((P0_ k_ ∨ w.heap.size ≤ k_) ∧ k_ ≠ gb503)) _ _ y505 t510 t511 t512 t513 t516 _ ?side1 A13.out).mono ?_); (case side1 => exact HO509.out); rintro e w17 ⟨v514, rfl, ho0, hb⟩; refine ⟨_, rfl, ?_⟩; replace HO0 := am (Kd.V_below HO0.out hb); replace HO509 := am (Kd.V_below HO509.out hb); have HO515 := am (Kd.V_lower (Kd.V_mono (ok' := fun k_ => (P0_ k_ ∨ w.heap.size ≤ k_) ∧ k_ ≠ gb503) ho0 (fun k_ hk_ => ⟨Or.elim hk_ (fun hs_ => hs_.1) (fun hn_ => (.inr (Nat.le_trans (below_size HB.out) hn_))), Or.elim hk_ (fun hs_ => hs_.2) (fun hn_ => (Kd.freshB (g := gb503) (o := .cells #[.int .i64 0, .int .i64 0, .string (⟨#[]⟩ : ByteArray)] 42 (0, 0)) (by exact BK503.out) k_ hn_))⟩)) (below_size HB.out)); replace BK503 := am (blk_below (g := gb503) (o := .cells #[.int .i64 0, .int .i64 0, .string (⟨#[]⟩ : ByteArray)] 42 (0, 0)) (by exact BK503.out) hb); replace HB := am (below_step HB.out hb); (try clear hb); (try clear ho0); have hcz18_0 : w17.cell? ⟨gb503, 0, none⟩ = some (.int .i64 0) := (blk_cell BK503.out 0).trans rfl; have hcz18_1 : w17.cell? ⟨gb503, 1, none⟩ = some (.int .i64 0) := (blk_cell BK503.out 1).trans rfl; have hcz18_2 : w17.cell? ⟨gb503, 2, none⟩ = some (.string (⟨#[]⟩ : ByteArray)) := (blk_cell BK503.out 2).trans rfl; have hfz18_0 := blk_frozen BK503.out 0; have hfz18_1 := blk_frozen BK503.out 1; have hfz18_2 := blk_frozen BK503.out 2))
  refine bodyPost_ret (results_ctt rfl _ _ gb503 42 #[.int .i64 t510, .int .i64 t511, .string t512] (0, 0) _ rfl (by refine blk_put (cs := #[.int .i64 t510, .int .i64 t511, .string (⟨#[]⟩ : ByteArray)]) ?_ 2 _ rfl; refine blk_put (cs := #[.int .i64 t510, .int .i64 0, .string (⟨#[]⟩ : ByteArray)]) ?_ 1 _ rfl; refine blk_put (cs := #[.int .i64 0, .int .i64 0, .string (⟨#[]⟩ : ByteArray)]) ?_ 0 _ rfl; exact BK503.out) Tryd.underlying42 rfl (by kernel_rfl)) rfl ?_
  exact ⟨_, by rfl, by exact Kd.V_mono (Kd.V_far (p := ⟨gb503, 2, none⟩) (Kd.V_far (p := ⟨gb503, 1, none⟩) (Kd.V_far (p := ⟨gb503, 0, none⟩) (Kd.V_mono HO515.out (fun k_ hk => (⟨hk, hk.2⟩ : _ ∧ k_ ≠ gb503))) (fun _ hk => hk.2) (.int .i64 t510)) (fun _ hk => hk.2) (.int .i64 t511)) (fun _ hk => hk.2) (.string t512)) (fun _ hk => hk.1.1), by repeat ((with_reducible first | exact HB.out | refine below_set ?_ GE503.out))⟩
 rw [if_neg c12] at H
 have c12b0 : ((rd l0 0) == 2) = false := beq_eq_false_iff_ne.mpr c12
 have c12b1 : ((rd l0 0) != 2) = true := bne_iff_ne.mpr c12
 by_cases c19 : (rd l0 0) = 3
 ·
  rw [if_pos c19] at H
  have c19b0 : ((rd l0 0) == 3) = true := beq_iff_eq.mpr c19
  have c19b1 : ((rd l0 0) != 3) = false := bne_eq_false_iff_eq.mpr c19
  clear c19
  replace H := Option.bind_eq_some_iff.mp H
  obtain ⟨⟨t517, t518, t519, t520, t523⟩, A200, H⟩ := H
  replace H : (some (t517, t518, t519, t520, t523)) = some (r1, r2, r3, r4, r5) := H
  have A20 := am A200
  clear A200
  simp only [Option.some.injEq, Prod.mk.injEq] at H
  obtain ⟨rfl, rfl, rfl, rfl, rfl⟩ := H
  go_enter Tryd.func57, Tryd.ntmps57
  try go_wp2_with (((with_reducible refine gate_dst (N := 2) rfl ?_); refine box_event ?hg (N := 2) ?hd (cs := #[.int .i64 0, .int .i64 0, .string (⟨#[]⟩ : ByteArray)]) (t := 42) ?hr ?_; (case hd => rfl); (case hg => rfl); (case hr => (go_simp; done)); intro gb503 hg w21 hbox hb; replace HO0 := am (Kd.V_below (Kd.V_elderB HO0.out gb503 (Nat.le_of_eq hg.symm)) hb); have BK503 := am (hbox); have GW503 := am ((by rw [hg]; exact (below_size HB.out) : w.heap.size ≤ gb503)); have GE503 := am ((by rw [hg]; exact (below_size HB.out) : w.heap.size ≤ gb503)); replace HB := am (below_step HB.out hb); clear hb hbox hg))
  have n0_ := am (Kd.V_drew HO0.out)
  have n1_ := am (blk_drew BK503.out)
  have n2_ := am (below_drew1 HB.out)
  clear HO0
  clear BK503
  clear HB
  have HO0 := n0_
  have BK503 := n1_
  have HB := n2_
  clear n0_ n1_ n2_
  have p504 : 0 ≤ (0 : Int) := (by omega)
  have q504 : 0 < (l0.length : Int) := of_decide_eq_true (by assumption)
  obtain ⟨ad504, e504, hx504_0⟩ := Kd.at_int (Kd.V_reads' HO0.out).2.2 0 p504 q504
  cases e504
  have qi504 : (0 < l0.length) = True := eq_true (by omega)
  (try rw [show ((0 : Int)).toNat = 0 from rfl] at hx504_0)
  (try rw [Addr.add_zero'] at hx504_0)
  replace p504 := eq_true p504
  replace q504 := eq_true q504
  have q23 : (1 : Int) ≤ ((l0.length : Int) : Int) := of_decide_eq_true (by assumption)
  obtain ⟨i023, hi023, _, hsz23, _⟩ := info_parts info5
  have hroom23 : l0.length ≤ c0 := (Kd.V_reads' HO0.out).2.1
  have hC23 : Kd.F (Kd.int .u8) _ _ (some ad504) l0.length l0 := (Kd.V_at (base := w.heap.size) HO0.out).2.2
  have hcut23 := cut_from (P := Tryd.prog) 47 5 .i64 Tryd.underlying47 hi023 1 hsz23 (some ad504) l0.length c0 1 (by omega) q23
  have hr23 := Kd.F_cut (m := (1 : Int).toNat) (c := c0) hC23 (by omega) hroom23
  obtain ⟨A23, hA23⟩ : ∃ A1, A1 = (if c0 = (1 : Int).toNat then (some ad504) else ((some ad504) : Option Addr).map (·.add ((1 : Int).toNat * 1))) := ⟨_, rfl⟩
  obtain ⟨c23, hc23⟩ : ∃ c1, c1 = c0 - (1 : Int).toNat := ⟨_, rfl⟩
  have hy23 : y505.length = l0.length - (1 : Int).toNat := (by rw [Ny505.out, List.length_drop] <;> omega)
  rw [show (l0).drop (1 : Int).toNat = y505 from Ny505.out.symm] at hr23
  replace hr23 : Kd.F (Kd.int .u8) _ _ A23 y505.length y505 := (by rw [hA23]; exact hr23)
  rw [← hy23, ← hA23, ← hc23] at hcut23
  have HO509 := am (show Kd.V (Kd.int .u8) 5 _ w.heap.size _ (.slice A23 y505.length c23) y505 from Kd.V_mk (by rw [hy23, hc23]; exact Nat.sub_le_sub_right hroom23 _) hr23)
  have HC509 := am (show y505.length ≤ c23 from by rw [hy23, hc23]; exact Nat.sub_le_sub_right hroom23 _)
  clear hr23 hC23 hroom23 hi023 hsz23 hc23
  have KY23 := am hy23
  have KA23 := am hA23
  clear hy23 hA23
  replace q23 := eq_true q23
  refine start_ (n := 7) (S := fun w' => w'.cell? ad504 = some (.int .u8 (rd l0 0))) (ds := []) #[false, false, false, false, false, false, false] (by kernel_rfl) rfl rfl (hx504_0) (fun hHeld => ?_)
  generalize w21.drew = w22 at HO0 BK503 HB HO509 hx504_0 hHeld ⊢
  refine pure_ (i := 0) (N := some 10) (v := ?_) (a' := ?_) #[true, false, false, false, false, false, false] rfl rfl (by kernel_rfl) (fun _ _ _ h => h) (Or.inl ⟨by rfl, ?_⟩) ?_ ?_
  rotate_left
  ·
   intro w'
   go_simp
   with_reducible rfl
  rotate_left
  ·
   simp only [Act.put, sa, sb, sc, i64_w, i32_w]
   rfl
  refine pure_ (i := 1) (N := some 11) (v := ?_) (a' := ?_) #[true, true, false, false, false, false, false] rfl rfl (by kernel_rfl) (fun _ _ _ h => h) (Or.inl ⟨by rfl, ?_⟩) ?_ ?_
  rotate_left
  ·
   intro w'
   go_simp
   with_reducible rfl
  rotate_left
  ·
   simp only [Act.put, sa, sb, sc, i64_w, i32_w]
   rfl
  refine pure_ (i := 3) (N := some 13) (v := ?_) (a' := ?_) #[true, true, false, true, false, false, false] rfl rfl (by kernel_rfl) (fun _ _ _ h => h) (Or.inl ⟨by rfl, ?_⟩) ?_ ?_
  rotate_left
  ·
   intro w'
   go_simp
   with_reducible rfl
  rotate_left
  ·
   simp only [Act.put, sa, sb, sc, i64_w, i32_w]
   rfl
  refine pure_ (i := 4) (N := some 14) (v := ?_) (a' := ?_) #[true, true, false, true, true, false, false] rfl rfl (by kernel_rfl) (fun _ _ _ h => h) (Or.inl ⟨by rfl, ?_⟩) ?_ ?_
  rotate_left
  ·
   intro w'
   go_simp
   with_reducible rfl
  rotate_left
  ·
   simp only [Act.put, sa, sb, sc, i64_w, i32_w]
   rfl
  refine take_ (i := 2) (N := some 12) (v := ?_) (a' := ?_) #[true, true, true, true, true, false, false] rfl rfl (by kernel_rfl) (fun _ _ _ h => h) (Or.inl ⟨by rfl, ?_⟩) hHeld ?_ ?_
  rotate_left
  ·
   intro w' s0
   go_simp
   with_reducible rfl
  rotate_left
  ·
   simp only [Act.put, sa, sb, sc, i64_w, i32_w]
   rfl
  refine pure_ (i := 5) (N := some 5) (v := ?_) (a' := ?_) #[true, true, true, true, true, true, false] rfl rfl (by kernel_rfl) (fun _ _ _ h => h) (Or.inl ⟨by rfl, ?_⟩) ?_ ?_
  rotate_left
  ·
   intro w'
   go_simp
   with_reducible rfl
  rotate_left
  ·
   simp only [Act.put, sa, sb, sc, i64_w, i32_w]
   rfl
  refine pure_ (i := 6) (N := some 0) (v := ?_) (a' := ?_) #[true, true, true, true, true, true, true] rfl rfl (by kernel_rfl) (fun _ _ _ h => h) (Or.inl ⟨by rfl, ?_⟩) ?_ ?_
  rotate_left
  ·
   intro w'
   go_simp
   with_reducible rfl
  rotate_left
  ·
   simp only [Act.put, sa, sb, sc, i64_w, i32_w]
   rfl
  refine done_ (by kernel_rfl) ?_
  try go_wp2_with (((with_reducible refine gate_callee (f := 77) rfl ?_); refine goesL_ (some 30) rfl rfl Tryd.func77 (by kernel_rfl) rfl #[.slice A23 y505.length c23] rfl (by (try simp only [List.map_toArray, List.map_cons, List.map_nil]); rfl) ?_; (with_reducible refine (rowcode_text.calls k (fun k_ => ((P0_ k_ ∨ w.heap.size ≤ k_) ∧ k_ ≠ gb503)) _ _ y505 t517 t518 t519 t520 t523 _ ?side1 ?side2 A20.out).mono ?_); (case side1 => exact Tabs.below HT.out HB.out); (case side2 => exact HO509.out); rintro e w24 ⟨v521, rfl, ho0, hb⟩; refine ⟨_, rfl, ?_⟩; replace HO0 := am (Kd.V_below HO0.out hb); replace HO509 := am (Kd.V_below HO509.out hb); have HO522 := am (Kd.V_lower (Kd.V_mono (ok' := fun k_ => (P0_ k_ ∨ w.heap.size ≤ k_) ∧ k_ ≠ gb503) ho0 (fun k_ hk_ => ⟨Or.elim hk_ (fun hs_ => hs_.1) (fun hn_ => (.inr (Nat.le_trans (below_size HB.out) hn_))), Or.elim hk_ (fun hs_ => hs_.2) (fun hn_ => (Kd.freshB (g := gb503) (o := .cells #[.int .i64 0, .int .i64 0, .string (⟨#[]⟩ : ByteArray)] 42 (0, 0)) (by exact BK503.out) k_ hn_))⟩)) (below_size HB.out)); replace BK503 := am (blk_below (g := gb503) (o := .cells #[.int .i64 0, .int .i64 0, .string (⟨#[]⟩ : ByteArray)] 42 (0, 0)) (by exact BK503.out) hb); replace HB := am (below_step HB.out hb); (try clear hb); (try clear ho0); have hcz25_0 : w24.cell? ⟨gb503, 0, none⟩ = some (.int .i64 0) := (blk_cell BK503.out 0).trans rfl; have hcz25_1 : w24.cell? ⟨gb503, 1, none⟩ = some (.int .i64 0) := (blk_cell BK503.out 1).trans rfl; have hcz25_2 : w24.cell? ⟨gb503, 2, none⟩ = some (.string (⟨#[]⟩ : ByteArray)) := (blk_cell BK503.out 2).trans rfl; have hfz25_0 := blk_frozen BK503.out 0; have hfz25_1 := blk_frozen BK503.out 1; have hfz25_2 := blk_frozen BK503.out 2))
  refine bodyPost_ret (results_ctt rfl _ _ gb503 42 #[.int .i64 t517, .int .i64 t518, .string t519] (0, 0) _ rfl (by refine blk_put (cs := #[.int .i64 t517, .int .i64 t518, .string (⟨#[]⟩ : ByteArray)]) ?_ 2 _ rfl; refine blk_put (cs := #[.int .i64 t517, .int .i64 0, .string (⟨#[]⟩ : ByteArray)]) ?_ 1 _ rfl; refine blk_put (cs := #[.int .i64 0, .int .i64 0, .string (⟨#[]⟩ : ByteArray)]) ?_ 0 _ rfl; exact BK503.out) Tryd.underlying42 rfl (by kernel_rfl)) rfl ?_
  exact ⟨_, by rfl, by exact Kd.V_mono (Kd.V_far (p := ⟨gb503, 2, none⟩) (Kd.V_far (p := ⟨gb503, 1, none⟩) (Kd.V_far (p := ⟨gb503, 0, none⟩) (Kd.V_mono HO522.out (fun k_ hk => (⟨hk, hk.2⟩ : _ ∧ k_ ≠ gb503))) (fun _ hk => hk.2) (.int .i64 t517)) (fun _ hk => hk.2) (.int .i64 t518)) (fun _ hk => hk.2) (.string t519)) (fun _ hk => hk.1.1), by repeat ((with_reducible first | exact HB.out | refine below_set ?_ GE503.out))⟩
 rw [if_neg c19] at H
 have c19b0 : ((rd l0 0) == 3) = false := beq_eq_false_iff_ne.mpr c19
 have c19b1 : ((rd l0 0) != 3) = true := bne_iff_ne.mpr c19
 by_cases c26 : (rd l0 0) = 4
 rotate_left
 ·
  rw [if_neg c26] at H
  have c26b0 : ((rd l0 0) == 4) = false := beq_eq_false_iff_ne.mpr c26
  have c26b1 : ((rd l0 0) != 4) = true := bne_iff_ne.mpr c26
  simp only [Option.some.injEq, Prod.mk.injEq] at H
  obtain ⟨rfl, rfl, rfl, rfl, rfl⟩ := H
  go_enter Tryd.func57, Tryd.ntmps57
  try go_wp2_with (((with_reducible refine gate_dst (N := 2) rfl ?_); refine box_event ?hg (N := 2) ?hd (cs := #[.int .i64 0, .int .i64 0, .string (⟨#[]⟩ : ByteArray)]) (t := 42) ?hr ?_; (case hd => rfl); (case hg => rfl); (case hr => (go_simp; done)); intro gb503 hg w47 hbox hb; replace HO0 := am (Kd.V_below (Kd.V_elderB HO0.out gb503 (Nat.le_of_eq hg.symm)) hb); have BK503 := am (hbox); have GW503 := am ((by rw [hg]; exact (below_size HB.out) : w.heap.size ≤ gb503)); have GE503 := am ((by rw [hg]; exact (below_size HB.out) : w.heap.size ≤ gb503)); replace HB := am (below_step HB.out hb); clear hb hbox hg))
  have n0_ := am (Kd.V_drew HO0.out)
  have n1_ := am (blk_drew BK503.out)
  have n2_ := am (below_drew1 HB.out)
  clear HO0
  clear BK503
  clear HB
  have HO0 := n0_
  have BK503 := n1_
  have HB := n2_
  clear n0_ n1_ n2_
  have p504 : 0 ≤ (0 : Int) := (by omega)
  have q504 : 0 < (l0.length : Int) := of_decide_eq_true (by assumption)
  obtain ⟨ad504, e504, hx504_0⟩ := Kd.at_int (Kd.V_reads' HO0.out).2.2 0 p504 q504
  cases e504
  have qi504 : (0 < l0.length) = True := eq_true (by omega)
  (try rw [show ((0 : Int)).toNat = 0 from rfl] at hx504_0)
  (try rw [Addr.add_zero'] at hx504_0)
  replace p504 := eq_true p504
  replace q504 := eq_true q504
  have q49 : (1 : Int) ≤ ((l0.length : Int) : Int) := of_decide_eq_true (by assumption)
  obtain ⟨i049, hi049, _, hsz49, _⟩ := info_parts info5
  have hroom49 : l0.length ≤ c0 := (Kd.V_reads' HO0.out).2.1
  have hC49 : Kd.F (Kd.int .u8) _ _ (some ad504) l0.length l0 := (Kd.V_at (base := w.heap.size) HO0.out).2.2
  have hcut49 := cut_from (P := Tryd.prog) 47 5 .i64 Tryd.underlying47 hi049 1 hsz49 (some ad504) l0.length c0 1 (by omega) q49
  have hr49 := Kd.F_cut (m := (1 : Int).toNat) (c := c0) hC49 (by omega) hroom49
  obtain ⟨A49, hA49⟩ : ∃ A1, A1 = (if c0 = (1 : Int).toNat then (some ad504) else ((some ad504) : Option Addr).map (·.add ((1 : Int).toNat * 1))) := ⟨_, rfl⟩
  obtain ⟨c49, hc49⟩ : ∃ c1, c1 = c0 - (1 : Int).toNat := ⟨_, rfl⟩
  have hy49 : y505.length = l0.length - (1 : Int).toNat := (by rw [Ny505.out, List.length_drop] <;> omega)
  rw [show (l0).drop (1 : Int).toNat = y505 from Ny505.out.symm] at hr49
  replace hr49 : Kd.F (Kd.int .u8) _ _ A49 y505.length y505 := (by rw [hA49]; exact hr49)
  rw [← hy49, ← hA49, ← hc49] at hcut49
  have HO509 := am (show Kd.V (Kd.int .u8) 5 _ w.heap.size _ (.slice A49 y505.length c49) y505 from Kd.V_mk (by rw [hy49, hc49]; exact Nat.sub_le_sub_right hroom49 _) hr49)
  have HC509 := am (show y505.length ≤ c49 from by rw [hy49, hc49]; exact Nat.sub_le_sub_right hroom49 _)
  clear hr49 hC49 hroom49 hi049 hsz49 hc49
  have KY49 := am hy49
  have KA49 := am hA49
  clear hy49 hA49
  replace q49 := eq_true q49
  refine start_ (n := 7) (S := fun w' => w'.cell? ad504 = some (.int .u8 (rd l0 0))) (ds := []) #[false, false, false, false, false, false, false] (by kernel_rfl) rfl rfl (hx504_0) (fun hHeld => ?_)
  generalize w47.drew = w48 at HO0 BK503 HB HO509 hx504_0 hHeld ⊢
  refine pure_ (i := 0) (N := some 10) (v := ?_) (a' := ?_) #[true, false, false, false, false, false, false] rfl rfl (by kernel_rfl) (fun _ _ _ h => h) (Or.inl ⟨by rfl, ?_⟩) ?_ ?_
  rotate_left
  ·
   intro w'
   go_simp
   with_reducible rfl
  rotate_left
  ·
   simp only [Act.put, sa, sb, sc, i64_w, i32_w]
   rfl
  refine pure_ (i := 1) (N := some 11) (v := ?_) (a' := ?_) #[true, true, false, false, false, false, false] rfl rfl (by kernel_rfl) (fun _ _ _ h => h) (Or.inl ⟨by rfl, ?_⟩) ?_ ?_
  rotate_left
  ·
   intro w'
   go_simp
   with_reducible rfl
  rotate_left
  ·
   simp only [Act.put, sa, sb, sc, i64_w, i32_w]
   rfl
  refine pure_ (i := 3) (N := some 13) (v := ?_) (a' := ?_) #[true, true, false, true, false, false, false] rfl rfl (by kernel_rfl) (fun _ _ _ h => h) (Or.inl ⟨by rfl, ?_⟩) ?_ ?_
  rotate_left
  ·
   intro w'
   go_simp
   with_reducible rfl
  rotate_left
  ·
   simp only [Act.put, sa, sb, sc, i64_w, i32_w]
   rfl
  refine pure_ (i := 4) (N := some 14) (v := ?_) (a' := ?_) #[true, true, false, true, true, false, false] rfl rfl (by kernel_rfl) (fun _ _ _ h => h) (Or.inl ⟨by rfl, ?_⟩) ?_ ?_
  rotate_left
  ·
   intro w'
   go_simp
   with_reducible rfl
  rotate_left
  ·
   simp only [Act.put, sa, sb, sc, i64_w, i32_w]
   rfl
  refine take_ (i := 2) (N := some 12) (v := ?_) (a' := ?_) #[true, true, true, true, true, false, false] rfl rfl (by kernel_rfl) (fun _ _ _ h => h) (Or.inl ⟨by rfl, ?_⟩) hHeld ?_ ?_
  rotate_left
  ·
   intro w' s0
   go_simp
   with_reducible rfl
  rotate_left
  ·
   simp only [Act.put, sa, sb, sc, i64_w, i32_w]
   rfl
  refine pure_ (i := 5) (N := some 5) (v := ?_) (a' := ?_) #[true, true, true, true, true, true, false] rfl rfl (by kernel_rfl) (fun _ _ _ h => h) (Or.inl ⟨by rfl, ?_⟩) ?_ ?_
  rotate_left
  ·
   intro w'
   go_simp
   with_reducible rfl
  rotate_left
  ·
   simp only [Act.put, sa, sb, sc, i64_w, i32_w]
   rfl
  refine pure_ (i := 6) (N := some 0) (v := ?_) (a' := ?_) #[true, true, true, true, true, true, true] rfl rfl (by kernel_rfl) (fun _ _ _ h => h) (Or.inl ⟨by rfl, ?_⟩) ?_ ?_
  rotate_left
  ·
   intro w'
   go_simp
   with_reducible rfl
  rotate_left
  ·
   simp only [Act.put, sa, sb, sc, i64_w, i32_w]
   rfl
  refine done_ (by kernel_rfl) ?_
  have hcz50_0 : w48.cell? ⟨gb503, 0, none⟩ = some (.int .i64 0) := (blk_cell BK503.out 0).trans rfl
  have hcz50_1 : w48.cell? ⟨gb503, 1, none⟩ = some (.int .i64 0) := (blk_cell BK503.out 1).trans rfl
  have hcz50_2 : w48.cell? ⟨gb503, 2, none⟩ = some (.string (⟨#[]⟩ : ByteArray)) := (blk_cell BK503.out 2).trans rfl
  have hfz50_0 := blk_frozen BK503.out 0
  have hfz50_1 := blk_frozen BK503.out 1
  have hfz50_2 := blk_frozen BK503.out 2
  try go_wp2
  refine bodyPost_ret (results_ctt rfl _ _ gb503 42 #[.int .i64 0, .int .i64 0, .string (⟨#[]⟩ : ByteArray)] (0, 0) _ rfl (by refine blk_put (cs := #[.int .i64 0, .int .i64 0, .string (⟨#[]⟩ : ByteArray)]) ?_ 2 _ rfl; refine blk_put (cs := #[.int .i64 0, .int .i64 0, .string (⟨#[]⟩ : ByteArray)]) ?_ 1 _ rfl; refine blk_put (cs := #[.int .i64 0, .int .i64 0, .string (⟨#[]⟩ : ByteArray)]) ?_ 0 _ rfl; exact BK503.out) Tryd.underlying42 rfl (by kernel_rfl)) rfl ?_
  exact ⟨_, by rfl, Kd.V_nil _ _ _ _ _, by repeat ((with_reducible first | exact HB.out | refine below_set ?_ GE503.out))⟩
 rw [if_pos c26] at H
 have c26b0 : ((rd l0 0) == 4) = true := beq_iff_eq.mpr c26
 have c26b1 : ((rd l0 0) != 4) = false := bne_eq_false_iff_eq.mpr c26
 clear c26
 by_cases c27 : (y505.length : Int) = 0
 ·
  rw [if_pos c27] at H
  have c27b0 : ((y505.length : Int) == 0) = true := beq_iff_eq.mpr c27
  have c27b1 : ((y505.length : Int) != 0) = false := bne_eq_false_iff_eq.mpr c27
  clear c27
  simp only [Option.some.injEq, Prod.mk.injEq] at H
  obtain ⟨rfl, rfl, rfl, rfl, rfl⟩ := H
  go_enter Tryd.func57, Tryd.ntmps57
  try go_wp2_with (((with_reducible refine gate_dst (N := 2) rfl ?_); refine box_event ?hg (N := 2) ?hd (cs := #[.int .i64 0, .int .i64 0, .string (⟨#[]⟩ : ByteArray)]) (t := 42) ?hr ?_; (case hd => rfl); (case hg => rfl); (case hr => (go_simp; done)); intro gb503 hg w28 hbox hb; replace HO0 := am (Kd.V_below (Kd.V_elderB HO0.out gb503 (Nat.le_of_eq hg.symm)) hb); have BK503 := am (hbox); have GW503 := am ((by rw [hg]; exact (below_size HB.out) : w.heap.size ≤ gb503)); have GE503 := am ((by rw [hg]; exact (below_size HB.out) : w.heap.size ≤ gb503)); replace HB := am (below_step HB.out hb); clear hb hbox hg))
  have n0_ := am (Kd.V_drew HO0.out)
  have n1_ := am (blk_drew BK503.out)
  have n2_ := am (below_drew1 HB.out)
  clear HO0
  clear BK503
  clear HB
  have HO0 := n0_
  have BK503 := n1_
  have HB := n2_
  clear n0_ n1_ n2_
  have p504 : 0 ≤ (0 : Int) := (by omega)
  have q504 : 0 < (l0.length : Int) := of_decide_eq_true (by assumption)
  obtain ⟨ad504, e504, hx504_0⟩ := Kd.at_int (Kd.V_reads' HO0.out).2.2 0 p504 q504
  cases e504
  have qi504 : (0 < l0.length) = True := eq_true (by omega)
  (try rw [show ((0 : Int)).toNat = 0 from rfl] at hx504_0)
  (try rw [Addr.add_zero'] at hx504_0)
  replace p504 := eq_true p504
  replace q504 := eq_true q504
  have q30 : (1 : Int) ≤ ((l0.length : Int) : Int) := of_decide_eq_true (by assumption)
  obtain ⟨i030, hi030, _, hsz30, _⟩ := info_parts info5
  have hroom30 : l0.length ≤ c0 := (Kd.V_reads' HO0.out).2.1
  have hC30 : Kd.F (Kd.int .u8) _ _ (some ad504) l0.length l0 := (Kd.V_at (base := w.heap.size) HO0.out).2.2
  have hcut30 := cut_from (P := Tryd.prog) 47 5 .i64 Tryd.underlying47 hi030 1 hsz30 (some ad504) l0.length c0 1 (by omega) q30
  have hr30 := Kd.F_cut (m := (1 : Int).toNat) (c := c0) hC30 (by omega) hroom30
  obtain ⟨A30, hA30⟩ : ∃ A1, A1 = (if c0 = (1 : Int).toNat then (some ad504) else ((some ad504) : Option Addr).map (·.add ((1 : Int).toNat * 1))) := ⟨_, rfl⟩
  obtain ⟨c30, hc30⟩ : ∃ c1, c1 = c0 - (1 : Int).toNat := ⟨_, rfl⟩
  have hy30 : y505.length = l0.length - (1 : Int).toNat := (by rw [Ny505.out, List.length_drop] <;> omega)
  rw [show (l0).drop (1 : Int).toNat = y505 from Ny505.out.symm] at hr30
  replace hr30 : Kd.F (Kd.int .u8) _ _ A30 y505.length y505 := (by rw [hA30]; exact hr30)
  rw [← hy30, ← hA30, ← hc30] at hcut30
  have HO509 := am (show Kd.V (Kd.int .u8) 5 _ w.heap.size _ (.slice A30 y505.length c30) y505 from Kd.V_mk (by rw [hy30, hc30]; exact Nat.sub_le_sub_right hroom30 _) hr30)
  have HC509 := am (show y505.length ≤ c30 from by rw [hy30, hc30]; exact Nat.sub_le_sub_right hroom30 _)
  clear hr30 hC30 hroom30 hi030 hsz30 hc30
  have KY30 := am hy30
  have KA30 := am hA30
  clear hy30 hA30
  replace q30 := eq_true q30
  refine start_ (n := 7) (S := fun w' => w'.cell? ad504 = some (.int .u8 (rd l0 0))) (ds := []) #[false, false, false, false, false, false, false] (by kernel_rfl) rfl rfl (hx504_0) (fun hHeld => ?_)
  generalize w28.drew = w29 at HO0 BK503 HB HO509 hx504_0 hHeld ⊢
  refine pure_ (i := 0) (N := some 10) (v := ?_) (a' := ?_) #[true, false, false, false, false, false, false] rfl rfl (by kernel_rfl) (fun _ _ _ h => h) (Or.inl ⟨by rfl, ?_⟩) ?_ ?_
  rotate_left
  ·
   intro w'
   go_simp
   with_reducible rfl
  rotate_left
  ·
   simp only [Act.put, sa, sb, sc, i64_w, i32_w]
   rfl
  refine pure_ (i := 1) (N := some 11) (v := ?_) (a' := ?_) #[true, true, false, false, false, false, false] rfl rfl (by kernel_rfl) (fun _ _ _ h => h) (Or.inl ⟨by rfl, ?_⟩) ?_ ?_
  rotate_left
  ·
   intro w'
   go_simp
   with_reducible rfl
  rotate_left
  ·
   simp only [Act.put, sa, sb, sc, i64_w, i32_w]
   rfl
  refine pure_ (i := 3) (N := some 13) (v := ?_) (a' := ?_) #[true, true, false, true, false, false, false] rfl rfl (by kernel_rfl) (fun _ _ _ h => h) (Or.inl ⟨by rfl, ?_⟩) ?_ ?_
  rotate_left
  ·
   intro w'
   go_simp
   with_reducible rfl
  rotate_left
  ·
   simp only [Act.put, sa, sb, sc, i64_w, i32_w]
   rfl
  refine pure_ (i := 4) (N := some 14) (v := ?_) (a' := ?_) #[true, true, false, true, true, false, false] rfl rfl (by kernel_rfl) (fun _ _ _ h => h) (Or.inl ⟨by rfl, ?_⟩) ?_ ?_
  rotate_left
  ·
   intro w'
   go_simp
   with_reducible rfl
  rotate_left
  ·
   simp only [Act.put, sa, sb, sc, i64_w, i32_w]
   rfl
  refine take_ (i := 2) (N := some 12) (v := ?_) (a' := ?_) #[true, true, true, true, true, false, false] rfl rfl (by kernel_rfl) (fun _ _ _ h => h) (Or.inl ⟨by rfl, ?_⟩) hHeld ?_ ?_
  rotate_left
  ·
   intro w' s0
   go_simp
   with_reducible rfl
  rotate_left
  ·
   simp only [Act.put, sa, sb, sc, i64_w, i32_w]
   rfl
  refine pure_ (i := 5) (N := some 5) (v := ?_) (a' := ?_) #[true, true, true, true, true, true, false] rfl rfl (by kernel_rfl) (fun _ _ _ h => h) (Or.inl ⟨by rfl, ?_⟩) ?_ ?_
  rotate_left
  ·
   intro w'
   go_simp
   with_reducible rfl
  rotate_left
  ·
   simp only [Act.put, sa, sb, sc, i64_w, i32_w]
   rfl
  refine pure_ (i := 6) (N := some 0) (v := ?_) (a' := ?_) #[true, true, true, true, true, true, true] rfl rfl (by kernel_rfl) (fun _ _ _ h => h) (Or.inl ⟨by rfl, ?_⟩) ?_ ?_
  rotate_left
  ·
   intro w'
   go_simp
   with_reducible rfl
  rotate_left
  ·
   simp only [Act.put, sa, sb, sc, i64_w, i32_w]
   rfl
  refine done_ (by kernel_rfl) ?_
  have hcz31_0 : w29.cell? ⟨gb503, 0, none⟩ = some (.int .i64 0) := (blk_cell BK503.out 0).trans rfl
  have hcz31_1 : w29.cell? ⟨gb503, 1, none⟩ = some (.int .i64 0) := (blk_cell BK503.out 1).trans rfl
  have hcz31_2 : w29.cell? ⟨gb503, 2, none⟩ = some (.string (⟨#[]⟩ : ByteArray)) := (blk_cell BK503.out 2).trans rfl
  have hfz31_0 := blk_frozen BK503.out 0
  have hfz31_1 := blk_frozen BK503.out 1
  have hfz31_2 := blk_frozen BK503.out 2
  try go_wp2
  refine bodyPost_ret (results_ctt rfl _ _ gb503 42 #[.int .i64 0, .int .i64 0, .string (⟨#[]⟩ : ByteArray)] (0, 0) _ rfl (by refine blk_put (cs := #[.int .i64 0, .int .i64 0, .string (⟨#[]⟩ : ByteArray)]) ?_ 2 _ rfl; refine blk_put (cs := #[.int .i64 0, .int .i64 0, .string (⟨#[]⟩ : ByteArray)]) ?_ 1 _ rfl; refine blk_put (cs := #[.int .i64 0, .int .i64 0, .string (⟨#[]⟩ : ByteArray)]) ?_ 0 _ rfl; exact BK503.out) Tryd.underlying42 rfl (by kernel_rfl)) rfl ?_
  exact ⟨_, by rfl, Kd.V_nil _ _ _ _ _, by repeat ((with_reducible first | exact HB.out | refine below_set ?_ GE503.out))⟩
 rw [if_neg c27] at H
 have c27b0 : ((y505.length : Int) == 0) = false := beq_eq_false_iff_ne.mpr c27
 have c27b1 : ((y505.length : Int) != 0) = true := bne_iff_ne.mpr c27
 have c27b2 : ¬ (y505 = []) := fun h_ => c27 (by rw [h_]; rfl)
 replace H := its H
 obtain ⟨c32, H⟩ := H
 have c32b0 := decide_eq_true c32
 have c32b1 : decide (0 < y505.length) = true := decide_eq_true (by omega)
 clear c32
 by_cases c33 : (rd y505 0) > 1
 ·
  rw [if_pos c33] at H
  have c33b0 : decide (1 < (rd y505 0)) = true := decide_eq_true c33
  clear c33
  simp only [Option.some.injEq, Prod.mk.injEq] at H
  obtain ⟨rfl, rfl, rfl, rfl, rfl⟩ := H
  go_enter Tryd.func57, Tryd.ntmps57
  try go_wp2_with (((with_reducible refine gate_dst (N := 2) rfl ?_); refine box_event ?hg (N := 2) ?hd (cs := #[.int .i64 0, .int .i64 0, .string (⟨#[]⟩ : ByteArray)]) (t := 42) ?hr ?_; (case hd => rfl); (case hg => rfl); (case hr => (go_simp; done)); intro gb503 hg w34 hbox hb; replace HO0 := am (Kd.V_below (Kd.V_elderB HO0.out gb503 (Nat.le_of_eq hg.symm)) hb); have BK503 := am (hbox); have GW503 := am ((by rw [hg]; exact (below_size HB.out) : w.heap.size ≤ gb503)); have GE503 := am ((by rw [hg]; exact (below_size HB.out) : w.heap.size ≤ gb503)); replace HB := am (below_step HB.out hb); clear hb hbox hg))
  have n0_ := am (Kd.V_drew HO0.out)
  have n1_ := am (blk_drew BK503.out)
  have n2_ := am (below_drew1 HB.out)
  clear HO0
  clear BK503
  clear HB
  have HO0 := n0_
  have BK503 := n1_
  have HB := n2_
  clear n0_ n1_ n2_
  have p504 : 0 ≤ (0 : Int) := (by omega)
  have q504 : 0 < (l0.length : Int) := of_decide_eq_true (by assumption)
  obtain ⟨ad504, e504, hx504_0⟩ := Kd.at_int (Kd.V_reads' HO0.out).2.2 0 p504 q504
  cases e504
  have qi504 : (0 < l0.length) = True := eq_true (by omega)
  (try rw [show ((0 : Int)).toNat = 0 from rfl] at hx504_0)
  (try rw [Addr.add_zero'] at hx504_0)
  replace p504 := eq_true p504
  replace q504 := eq_true q504
  have q36 : (1 : Int) ≤ ((l0.length : Int) : Int) := of_decide_eq_true (by assumption)
  obtain ⟨i036, hi036, _, hsz36, _⟩ := info_parts info5
  have hroom36 : l0.length ≤ c0 := (Kd.V_reads' HO0.out).2.1
  have hC36 : Kd.F (Kd.int .u8) _ _ (some ad504) l0.length l0 := (Kd.V_at (base := w.heap.size) HO0.out).2.2
  have hcut36 := cut_from (P := Tryd.prog) 47 5 .i64 Tryd.underlying47 hi036 1 hsz36 (some ad504) l0.length c0 1 (by omega) q36
  have hr36 := Kd.F_cut (m := (1 : Int).toNat) (c := c0) hC36 (by omega) hroom36
  obtain ⟨A36, hA36⟩ : ∃ A1, A1 = (if c0 = (1 : Int).toNat then (some ad504) else ((some ad504) : Option Addr).map (·.add ((1 : Int).toNat * 1))) := ⟨_, rfl⟩
  obtain ⟨c36, hc36⟩ : ∃ c1, c1 = c0 - (1 : Int).toNat := ⟨_, rfl⟩
  have hy36 : y505.length = l0.length - (1 : Int).toNat := (by rw [Ny505.out, List.length_drop] <;> omega)
  rw [show (l0).drop (1 : Int).toNat = y505 from Ny505.out.symm] at hr36
  replace hr36 : Kd.F (Kd.int .u8) _ _ A36 y505.length y505 := (by rw [hA36]; exact hr36)
  rw [← hy36, ← hA36, ← hc36] at hcut36
  have HO509 := am (show Kd.V (Kd.int .u8) 5 _ w.heap.size _ (.slice A36 y505.length c36) y505 from Kd.V_mk (by rw [hy36, hc36]; exact Nat.sub_le_sub_right hroom36 _) hr36)
  have HC509 := am (show y505.length ≤ c36 from by rw [hy36, hc36]; exact Nat.sub_le_sub_right hroom36 _)
  clear hr36 hC36 hroom36 hi036 hsz36 hc36
  have KY36 := am hy36
  have KA36 := am hA36
  clear hy36 hA36
  replace q36 := eq_true q36
  refine start_ (n := 7) (S := fun w' => w'.cell? ad504 = some (.int .u8 (rd l0 0))) (ds := []) #[false, false, false, false, false, false, false] (by kernel_rfl) rfl rfl (hx504_0) (fun hHeld => ?_)
  generalize w34.drew = w35 at HO0 BK503 HB HO509 hx504_0 hHeld ⊢
  refine pure_ (i := 0) (N := some 10) (v := ?_) (a' := ?_) #[true, false, false, false, false, false, false] rfl rfl (by kernel_rfl) (fun _ _ _ h => h) (Or.inl ⟨by rfl, ?_⟩) ?_ ?_
  rotate_left
  ·
   intro w'
   go_simp
   with_reducible rfl
  rotate_left
  ·
   simp only [Act.put, sa, sb, sc, i64_w, i32_w]
   rfl
  refine pure_ (i := 1) (N := some 11) (v := ?_) (a' := ?_) #[true, true, false, false, false, false, false] rfl rfl (by kernel_rfl) (fun _ _ _ h => h) (Or.inl ⟨by rfl, ?_⟩) ?_ ?_
  rotate_left
  ·
   intro w'
   go_simp
   with_reducible rfl
  rotate_left
  ·
   simp only [Act.put, sa, sb, sc, i64_w, i32_w]
   rfl
  refine pure_ (i := 3) (N := some 13) (v := ?_) (a' := ?_) #[true, true, false, true, false, false, false] rfl rfl (by kernel_rfl) (fun _ _ _ h => h) (Or.inl ⟨by rfl, ?_⟩) ?_ ?_
  rotate_left
  ·
   intro w'
   go_simp
   with_reducible rfl
  rotate_left
  ·
   simp only [Act.put, sa, sb, sc, i64_w, i32_w]
   rfl
  refine pure_ (i := 4) (N := some 14) (v := ?_) (a' := ?_) #[true, true, false, true, true, false, false] rfl rfl (by kernel_rfl) (fun _ _ _ h => h) (Or.inl ⟨by rfl, ?_⟩) ?_ ?_
  rotate_left
  ·
   intro w'
   go_simp
   with_reducible rfl
  rotate_left
  ·
   simp only [Act.put, sa, sb, sc, i64_w, i32_w]
   rfl
  refine take_ (i := 2) (N := some 12) (v := ?_) (a' := ?_) #[true, true, true, true, true, false, false] rfl rfl (by kernel_rfl) (fun _ _ _ h => h) (Or.inl ⟨by rfl, ?_⟩) hHeld ?_ ?_
  rotate_left
  ·
   intro w' s0
   go_simp
   with_reducible rfl
  rotate_left
  ·
   simp only [Act.put, sa, sb, sc, i64_w, i32_w]
   rfl
  refine pure_ (i := 5) (N := some 5) (v := ?_) (a' := ?_) #[true, true, true, true, true, true, false] rfl rfl (by kernel_rfl) (fun _ _ _ h => h) (Or.inl ⟨by rfl, ?_⟩) ?_ ?_
  rotate_left
  ·
   intro w'
   go_simp
   with_reducible rfl
  rotate_left
  ·
   simp only [Act.put, sa, sb, sc, i64_w, i32_w]
   rfl
  refine pure_ (i := 6) (N := some 0) (v := ?_) (a' := ?_) #[true, true, true, true, true, true, true] rfl rfl (by kernel_rfl) (fun _ _ _ h => h) (Or.inl ⟨by rfl, ?_⟩) ?_ ?_
  rotate_left
  ·
   intro w'
   go_simp
   with_reducible rfl
  rotate_left
  ·
   simp only [Act.put, sa, sb, sc, i64_w, i32_w]
   rfl
  refine done_ (by kernel_rfl) ?_
  have p524 : 0 ≤ (0 : Int) := (by omega)
  have q524 : 0 < (y505.length : Int) := of_decide_eq_true (by assumption)
  obtain ⟨ad524, e524, hx524_0⟩ := Kd.at_int (Kd.V_reads' HO509.out).2.2 0 p524 q524
  cases e524
  have qi524 : (0 < y505.length) = True := eq_true (by omega)
  (try rw [show ((0 : Int)).toNat = 0 from rfl] at hx524_0)
  (try rw [Addr.add_zero'] at hx524_0)
  replace p524 := eq_true p524
  replace q524 := eq_true q524
  have hcz37_0 : w35.cell? ⟨gb503, 0, none⟩ = some (.int .i64 0) := (blk_cell BK503.out 0).trans rfl
  have hcz37_1 : w35.cell? ⟨gb503, 1, none⟩ = some (.int .i64 0) := (blk_cell BK503.out 1).trans rfl
  have hcz37_2 : w35.cell? ⟨gb503, 2, none⟩ = some (.string (⟨#[]⟩ : ByteArray)) := (blk_cell BK503.out 2).trans rfl
  have hfz37_0 := blk_frozen BK503.out 0
  have hfz37_1 := blk_frozen BK503.out 1
  have hfz37_2 := blk_frozen BK503.out 2
  try go_wp2
  refine bodyPost_ret (results_ctt rfl _ _ gb503 42 #[.int .i64 0, .int .i64 0, .string (⟨#[]⟩ : ByteArray)] (0, 0) _ rfl (by refine blk_put (cs := #[.int .i64 0, .int .i64 0, .string (⟨#[]⟩ : ByteArray)]) ?_ 2 _ rfl; refine blk_put (cs := #[.int .i64 0, .int .i64 0, .string (⟨#[]⟩ : ByteArray)]) ?_ 1 _ rfl; refine blk_put (cs := #[.int .i64 0, .int .i64 0, .string (⟨#[]⟩ : ByteArray)]) ?_ 0 _ rfl; exact BK503.out) Tryd.underlying42 rfl (by kernel_rfl)) rfl ?_
  exact ⟨_, by rfl, Kd.V_nil _ _ _ _ _, by repeat ((with_reducible first | exact HB.out | refine below_set ?_ GE503.out))⟩
 rw [if_neg c33] at H
 have c33b0 : decide (1 < (rd y505 0)) = false := decide_eq_false c33
 clear c33
 replace H := its H
 obtain ⟨c38, H⟩ := H
 have c38b0 := eq_true c38
 have c38b1 := decide_eq_true c38
 clear c38
 obtain ⟨y526, hy526⟩ : ∃ y_ : List Int, y_ = (y505.drop 1) := ⟨_, rfl⟩
 replace H : (some (4, wrap64 (rd y505 0), (⟨#[]⟩ : ByteArray), y526, 0)) = some (r1, r2, r3, r4, r5) := by (rw [hy526]; with_reducible exact H)
 have Ny526 := am hy526
 clear hy526
 simp only [Option.some.injEq, Prod.mk.injEq] at H
 obtain ⟨rfl, rfl, rfl, rfl, rfl⟩ := H
 go_enter Tryd.func57, Tryd.ntmps57
 try go_wp2_with (((with_reducible refine gate_dst (N := 2) rfl ?_); refine box_event ?hg (N := 2) ?hd (cs := #[.int .i64 0, .int .i64 0, .string (⟨#[]⟩ : ByteArray)]) (t := 42) ?hr ?_; (case hd => rfl); (case hg => rfl); (case hr => (go_simp; done)); intro gb503 hg w39 hbox hb; replace HO0 := am (Kd.V_below (Kd.V_elderB HO0.out gb503 (Nat.le_of_eq hg.symm)) hb); have BK503 := am (hbox); have GW503 := am ((by rw [hg]; exact (below_size HB.out) : w.heap.size ≤ gb503)); have GE503 := am ((by rw [hg]; exact (below_size HB.out) : w.heap.size ≤ gb503)); replace HB := am (below_step HB.out hb); clear hb hbox hg))
 have n0_ := am (Kd.V_drew HO0.out)
 have n1_ := am (blk_drew BK503.out)
 have n2_ := am (below_drew1 HB.out)
 clear HO0
 clear BK503
 clear HB
 have HO0 := n0_
 have BK503 := n1_
 have HB := n2_
 clear n0_ n1_ n2_
 have p504 : 0 ≤ (0 : Int) := (by omega)
 have q504 : 0 < (l0.length : Int) := of_decide_eq_true (by assumption)
 obtain ⟨ad504, e504, hx504_0⟩ := Kd.at_int (Kd.V_reads' HO0.out).2.2 0 p504 q504
 cases e504
 have qi504 : (0 < l0.length) = True := eq_true (by omega)
 (try rw [show ((0 : Int)).toNat = 0 from rfl] at hx504_0)
 (try rw [Addr.add_zero'] at hx504_0)
 replace p504 := eq_true p504
 replace q504 := eq_true q504
 have q41 : (1 : Int) ≤ ((l0.length : Int) : Int) := of_decide_eq_true (by assumption)
 obtain ⟨i041, hi041, _, hsz41, _⟩ := info_parts info5
 have hroom41 : l0.length ≤ c0 := (Kd.V_reads' HO0.out).2.1
 have hC41 : Kd.F (Kd.int .u8) _ _ (some ad504) l0.length l0 := (Kd.V_at (base := w.heap.size) HO0.out).2.2
 have hcut41 := cut_from (P := Tryd.prog) 47 5 .i64 Tryd.underlying47 hi041 1 hsz41 (some ad504) l0.length c0 1 (by omega) q41
 have hr41 := Kd.F_cut (m := (1 : Int).toNat) (c := c0) hC41 (by omega) hroom41
 obtain ⟨A41, hA41⟩ : ∃ A1, A1 = (if c0 = (1 : Int).toNat then (some ad504) else ((some ad504) : Option Addr).map (·.add ((1 : Int).toNat * 1))) := ⟨_, rfl⟩
 obtain ⟨c41, hc41⟩ : ∃ c1, c1 = c0 - (1 : Int).toNat := ⟨_, rfl⟩
 have hy41 : y505.length = l0.length - (1 : Int).toNat := (by rw [Ny505.out, List.length_drop] <;> omega)
 rw [show (l0).drop (1 : Int).toNat = y505 from Ny505.out.symm] at hr41
 replace hr41 : Kd.F (Kd.int .u8) _ _ A41 y505.length y505 := (by rw [hA41]; exact hr41)
 rw [← hy41, ← hA41, ← hc41] at hcut41
 have HO509 := am (show Kd.V (Kd.int .u8) 5 _ w.heap.size _ (.slice A41 y505.length c41) y505 from Kd.V_mk (by rw [hy41, hc41]; exact Nat.sub_le_sub_right hroom41 _) hr41)
 have HC509 := am (show y505.length ≤ c41 from by rw [hy41, hc41]; exact Nat.sub_le_sub_right hroom41 _)
 clear hr41 hC41 hroom41 hi041 hsz41 hc41
 have KY41 := am hy41
 have KA41 := am hA41
 clear hy41 hA41
 replace q41 := eq_true q41
 refine start_ (n := 7) (S := fun w' => w'.cell? ad504 = some (.int .u8 (rd l0 0))) (ds := []) #[false, false, false, false, false, false, false] (by kernel_rfl) rfl rfl (hx504_0) (fun hHeld => ?_)
 generalize w39.drew = w40 at HO0 BK503 HB HO509 hx504_0 hHeld ⊢
 refine pure_ (i := 0) (N := some 10) (v := ?_) (a' := ?_) #[true, false, false, false, false, false, false] rfl rfl (by kernel_rfl) (fun _ _ _ h => h) (Or.inl ⟨by rfl, ?_⟩) ?_ ?_
 rotate_left
 ·
  intro w'
  go_simp
  with_reducible rfl
 rotate_left
 ·
  simp only [Act.put, sa, sb, sc, i64_w, i32_w]
  rfl
 refine pure_ (i := 1) (N := some 11) (v := ?_) (a' := ?_) #[true, true, false, false, false, false, false] rfl rfl (by kernel_rfl) (fun _ _ _ h => h) (Or.inl ⟨by rfl, ?_⟩) ?_ ?_
 rotate_left
 ·
  intro w'
  go_simp
  with_reducible rfl
 rotate_left
 ·
  simp only [Act.put, sa, sb, sc, i64_w, i32_w]
  rfl
 refine pure_ (i := 3) (N := some 13) (v := ?_) (a' := ?_) #[true, true, false, true, false, false, false] rfl rfl (by kernel_rfl) (fun _ _ _ h => h) (Or.inl ⟨by rfl, ?_⟩) ?_ ?_
 rotate_left
 ·
  intro w'
  go_simp
  with_reducible rfl
 rotate_left
 ·
  simp only [Act.put, sa, sb, sc, i64_w, i32_w]
  rfl
 refine pure_ (i := 4) (N := some 14) (v := ?_) (a' := ?_) #[true, true, false, true, true, false, false] rfl rfl (by kernel_rfl) (fun _ _ _ h => h) (Or.inl ⟨by rfl, ?_⟩) ?_ ?_
 rotate_left
 ·
  intro w'
  go_simp
  with_reducible rfl
 rotate_left
 ·
  simp only [Act.put, sa, sb, sc, i64_w, i32_w]
  rfl
 refine take_ (i := 2) (N := some 12) (v := ?_) (a' := ?_) #[true, true, true, true, true, false, false] rfl rfl (by kernel_rfl) (fun _ _ _ h => h) (Or.inl ⟨by rfl, ?_⟩) hHeld ?_ ?_
 rotate_left
 ·
  intro w' s0
  go_simp
  with_reducible rfl
 rotate_left
 ·
  simp only [Act.put, sa, sb, sc, i64_w, i32_w]
  rfl
 refine pure_ (i := 5) (N := some 5) (v := ?_) (a' := ?_) #[true, true, true, true, true, true, false] rfl rfl (by kernel_rfl) (fun _ _ _ h => h) (Or.inl ⟨by rfl, ?_⟩) ?_ ?_
 rotate_left
 ·
  intro w'
  go_simp
  with_reducible rfl
 rotate_left
 ·
  simp only [Act.put, sa, sb, sc, i64_w, i32_w]
  rfl
 refine pure_ (i := 6) (N := some 0) (v := ?_) (a' := ?_) #[true, true, true, true, true, true, true] rfl rfl (by kernel_rfl) (fun _ _ _ h => h) (Or.inl ⟨by rfl, ?_⟩) ?_ ?_
 rotate_left
 ·
  intro w'
  go_simp
  with_reducible rfl
 rotate_left
 ·
  simp only [Act.put, sa, sb, sc, i64_w, i32_w]
  rfl
 refine done_ (by kernel_rfl) ?_
 have p524 : 0 ≤ (0 : Int) := (by omega)
 have q524 : 0 < (y505.length : Int) := of_decide_eq_true (by assumption)
 obtain ⟨ad524, e524, hx524_0⟩ := Kd.at_int (Kd.V_reads' HO509.out).2.2 0 p524 q524
 cases e524
 have qi524 : (0 < y505.length) = True := eq_true (by omega)
 (try rw [show ((0 : Int)).toNat = 0 from rfl] at hx524_0)
 (try rw [Addr.add_zero'] at hx524_0)
 replace p524 := eq_true p524
 replace q524 := eq_true q524
 try go_wp2
 have n0_ := am (Kd.V_drew HO0.out)
 have n1_ := am (Kd.V_drew HO509.out)
 have n2_ := am (blk_drew BK503.out)
 have n3_ := am (below_drew1 HB.out)
 clear HO0
 clear HO509
 clear BK503
 clear HB
 have HO0 := n0_
 have HO509 := n1_
 have BK503 := n2_
 have HB := n3_
 clear n0_ n1_ n2_ n3_
 have p525 : 0 ≤ (0 : Int) := (by omega)
 have q525 : 0 < (y505.length : Int) := of_decide_eq_true (by assumption)
 obtain ⟨ad525, e525, hx525_0⟩ := Kd.at_int (Kd.V_reads' HO509.out).2.2 0 p525 q525
 obtain rfl : ad524 = ad525 := (by injection e525)
 have qi525 : (0 < y505.length) = True := eq_true (by omega)
 (try rw [show ((0 : Int)).toNat = 0 from rfl] at hx525_0)
 (try rw [Addr.add_zero'] at hx525_0)
 replace p525 := eq_true p525
 replace q525 := eq_true q525
 have q43 : (1 : Int) ≤ ((y505.length : Int) : Int) := of_decide_eq_true (by assumption)
 obtain ⟨i043, hi043, _, hsz43, _⟩ := info_parts info5
 have hroom43 : y505.length ≤ c41 := (Kd.V_reads' HO509.out).2.1
 have hC43 : Kd.F (Kd.int .u8) _ _ (some ad524) y505.length y505 := (Kd.V_at (base := w.heap.size) HO509.out).2.2
 have hcut43 := cut_from (P := Tryd.prog) 47 5 .i64 Tryd.underlying47 hi043 1 hsz43 (some ad524) y505.length c41 1 (by omega) q43
 have hr43 := Kd.F_cut (m := (1 : Int).toNat) (c := c41) hC43 (by omega) hroom43
 obtain ⟨A43, hA43⟩ : ∃ A1, A1 = (if c41 = (1 : Int).toNat then (some ad524) else ((some ad524) : Option Addr).map (·.add ((1 : Int).toNat * 1))) := ⟨_, rfl⟩
 obtain ⟨c43, hc43⟩ : ∃ c1, c1 = c41 - (1 : Int).toNat := ⟨_, rfl⟩
 have hy43 : y526.length = y505.length - (1 : Int).toNat := (by rw [Ny526.out, List.length_drop] <;> omega)
 rw [show (y505).drop (1 : Int).toNat = y526 from Ny526.out.symm] at hr43
 replace hr43 : Kd.F (Kd.int .u8) _ _ A43 y526.length y526 := (by rw [hA43]; exact hr43)
 rw [← hy43, ← hA43, ← hc43] at hcut43
 have HO530 := am (show Kd.V (Kd.int .u8) 5 _ w.heap.size _ (.slice A43 y526.length c43) y526 from Kd.V_mk (by rw [hy43, hc43]; exact Nat.sub_le_sub_right hroom43 _) hr43)
 have HC530 := am (show y526.length ≤ c43 from by rw [hy43, hc43]; exact Nat.sub_le_sub_right hroom43 _)
 clear hr43 hC43 hroom43 hi043 hsz43 hc43
 have KY43 := am hy43
 have KA43 := am hA43
 clear hy43 hA43
 replace q43 := eq_true q43
 refine start_ (n := 10) (S := fun w' => w'.cell? ad524 = some (.int .u8 (rd y505 0))) (ds := []) #[false, false, false, false, false, false, false, false, false, false] (by kernel_rfl) rfl rfl (hx525_0) (fun hHeld => ?_); refine with_tabW rowcode_read.tab16 rowcode_read.bits16 (fun HT_ HW_ => ?_)
 generalize w40.drew = w42 at HO0 HO509 BK503 HB HO530 hx525_0 hHeld ⊢
 refine pu HT_ (v := ?_) (a' := ?_) 0 45 rfl rfl (by kernel_rfl) (fun _ _ _ h => h) (Or.inl ⟨by rfl, ?_⟩) ?_ ?_
 rotate_left
 ·
  intro w'
  go_simp
  with_reducible rfl
 rotate_left
 ·
  simp only [Act.put, sa, sb, sc, i64_w, i32_w]
  rfl
 refine pu HT_ (v := ?_) (a' := ?_) 1 46 rfl rfl (by kernel_rfl) (fun _ _ _ h => h) (Or.inl ⟨by rfl, ?_⟩) ?_ ?_
 rotate_left
 ·
  intro w'
  go_simp
  with_reducible rfl
 rotate_left
 ·
  simp only [Act.put, sa, sb, sc, i64_w, i32_w]
  rfl
 refine pu HT_ (v := ?_) (a' := ?_) 5 50 rfl rfl (by kernel_rfl) (fun _ _ _ h => h) (Or.inl ⟨by rfl, ?_⟩) ?_ ?_
 rotate_left
 ·
  intro w'
  go_simp
  with_reducible rfl
 rotate_left
 ·
  simp only [Act.put, sa, sb, sc, i64_w, i32_w]
  rfl
 refine pu HT_ (v := ?_) (a' := ?_) 6 51 rfl rfl (by kernel_rfl) (fun _ _ _ h => h) (Or.inl ⟨by rfl, ?_⟩) ?_ ?_
 rotate_left
 ·
  intro w'
  go_simp
  with_reducible rfl
 rotate_left
 ·
  simp only [Act.put, sa, sb, sc, i64_w, i32_w]
  rfl
 refine take_ (i := 2) (N := some 47) (v := ?_) (a' := ?_) #[true, true, true, false, false, true, true, false, false, false] rfl rfl (take_ofW HT_.out HW_.out (by kernel_rfl)) (fun _ _ _ h => h) (Or.inl ⟨by rfl, ?_⟩) hHeld ?_ ?_
 rotate_left
 ·
  intro w' s0
  go_simp
  with_reducible rfl
 rotate_left
 ·
  simp only [Act.put, sa, sb, sc, i64_w, i32_w]
  rfl
 refine pu HT_ (v := ?_) (a' := ?_) 3 48 rfl rfl (by kernel_rfl) (fun _ _ _ h => h) (Or.inl ⟨by rfl, ?_⟩) ?_ ?_
 rotate_left
 ·
  intro w'
  go_simp
  with_reducible rfl
 rotate_left
 ·
  simp only [Act.put, sa, sb, sc, i64_w, i32_w]
  rfl
 refine pu HT_ (v := ?_) (a' := ?_) 4 49 rfl rfl (by kernel_rfl) (fun _ _ _ h => h) (Or.inl ⟨by rfl, ?_⟩) ?_ ?_
 rotate_left
 ·
  intro w'
  go_simp
  with_reducible rfl
 rotate_left
 ·
  simp only [Act.put, sa, sb, sc, i64_w, i32_w]
  rfl
 refine one_ (i := 7) (N := none) #[true, true, true, true, true, true, true, true, false, false] rfl rfl (one_of HT_.out (by kernel_rfl)) (by decide) (fun K hK => ?_)
 have hs44 : w42.cell? ⟨gb503, 0, none⟩ = some (.int .i64 0) := (blk_cell BK503.out 0).trans rfl
 have hfs44 := blk_frozen BK503.out 0
 have hs45 : w42.cell? ⟨gb503, 1, none⟩ = some (.int .i64 0) := (blk_cell BK503.out 1).trans rfl
 have hfs45 := blk_frozen BK503.out 1
 have hs46 : w42.cell? ⟨gb503, 2, none⟩ = some (.string (⟨#[]⟩ : ByteArray)) := (blk_cell BK503.out 2).trans rfl
 have hfs46 := blk_frozen BK503.out 2
 refine skip_ (w1 := ?_) (by rfl) rfl ?_ ?_
 rotate_left
 ·
  go_simp
  rfl
 refine hK.out _ _ (((cell_far (p := ⟨gb503, _, none⟩) (by exact Kd.own_blk (Kd.V_away HO509.out (fun _ hk => hk.2))) _).trans (((cell_far (p := ⟨gb503, _, none⟩) (by exact Kd.own_blk (Kd.V_away HO509.out (fun _ hk => hk.2))) _).trans (((cell_far (p := ⟨gb503, _, none⟩) (by exact Kd.own_blk (Kd.V_away HO509.out (fun _ hk => hk.2))) _).trans (hHeld))))))) (fun hHeld => ?_)
 clear hK K
 refine pu HT_ (v := ?_) (a' := ?_) 8 3 rfl rfl (by kernel_rfl) (fun _ _ _ h => h) (Or.inl ⟨by rfl, ?_⟩) ?_ ?_
 rotate_left
 ·
  intro w'
  go_simp
  with_reducible rfl
 rotate_left
 ·
  simp only [Act.put, sa, sb, sc, i64_w, i32_w]
  rfl
 refine pu HT_ (v := ?_) (a' := ?_) 9 4 rfl rfl (by kernel_rfl) (fun _ _ _ h => h) (Or.inl ⟨by rfl, ?_⟩) ?_ ?_
 rotate_left
 ·
  intro w'
  go_simp
  with_reducible rfl
 rotate_left
 ·
  simp only [Act.put, sa, sb, sc, i64_w, i32_w]
  rfl
 refine done_ (done_of HT_.out (by kernel_rfl)) ?_
 try go_wp2
 refine bodyPost_ret (results_ctt rfl _ _ gb503 42 #[.int .i64 4, .int .i64 (wrap64 (rd y505 0)), .string (⟨#[]⟩ : ByteArray)] (0, 0) _ rfl (by refine blk_put (cs := #[.int .i64 4, .int .i64 (wrap64 (rd y505 0)), .string (⟨#[]⟩ : ByteArray)]) ?_ 2 _ rfl; refine blk_put (cs := #[.int .i64 4, .int .i64 0, .string (⟨#[]⟩ : ByteArray)]) ?_ 1 _ rfl; refine blk_put (cs := #[.int .i64 0, .int .i64 0, .string (⟨#[]⟩ : ByteArray)]) ?_ 0 _ rfl; exact BK503.out) Tryd.underlying42 rfl (by kernel_rfl)) rfl ?_
 exact ⟨_, by rfl, by exact Kd.V_mono (Kd.V_far (p := ⟨gb503, 2, none⟩) (Kd.V_far (p := ⟨gb503, 1, none⟩) (Kd.V_far (p := ⟨gb503, 0, none⟩) (Kd.V_mono HO530.out (fun k_ hk => (⟨hk, hk.2⟩ : _ ∧ k_ ≠ gb503))) (fun _ hk => hk.2) (.int .i64 4)) (fun _ hk => hk.2) (.int .i64 (wrap64 (rd y505 0)))) (fun _ hk => hk.2) (.string (⟨#[]⟩ : ByteArray))) (fun _ hk => hk.1.1), by repeat ((with_reducible first | exact HB.out | refine below_set ?_ GE503.out))⟩
end Go.Proofs.YthghcpeedmconaaDoor.X
end
section
namespace Go.Proofs.YthghcpeedmconaaDoor.X
open Go.RowKit Go.Proofs.YthghcpeedmconaaDoorW.PrintWords Go.Proofs.YthghcpeedmconaaDoorW.PrintLast Go.Proofs.YthghcpeedmconaaDoorW.PrintMore
attribute [local go_sem] max2_int min2_int max_two min_two max_three min_three max_four min_four
end Go.Proofs.YthghcpeedmconaaDoor.X
end
section
namespace Go.Proofs.YthghcpeedmconaaDoor.X
set_option linter.unusedVariables false
set_option linter.unusedSimpArgs false
open Go.RowKit Go.Proofs.YthghcpeedmconaaDoorW.PrintWords Go.Proofs.YthghcpeedmconaaDoorW.PrintLast Go.Proofs.YthghcpeedmconaaDoorW.PrintMore
open Num
abbrev Rd := Int × Int × ByteArray × List Int × Int
def bad (e : Int) : Rd := (0, 0, (⟨#[]⟩ : ByteArray), ([] : List Int), e)
def valF (a : Int) (l : List Int) : Int := l.foldl (fun a b => a * 256 + b) a
def valB (l : List Int) : Int := valF 0 l
theorem valF_cons (a b : Int) (l : List Int) : valF a (b :: l) = valF (a * 256 + b) l := rfl
theorem valF_eq : ∀ (l : List Int) (a : Int), valF a l = a * 256 ^ l.length + valB l
  | [], a => by show a = a * 256 ^ 0 + 0; rw [Int.pow_zero]; omega
  | b :: l, a => by
    unfold valB
    rw [valF_cons, valF_cons, valF_eq l (a * 256 + b), valF_eq l (0 * 256 + b), List.length_cons, Int.pow_succ]
    rw [Int.add_mul, Int.zero_mul, Int.zero_add, Int.mul_assoc, Int.mul_comm 256]
    omega
theorem isB_tail {b : Int} {l : List Int} (h : isB (b :: l)) : isB l := fun x hx => h x (List.mem_cons_of_mem _ hx)
theorem isB_head {b : Int} {l : List Int} (h : isB (b :: l)) : 0 ≤ b ∧ b < 256 := h b List.mem_cons_self
theorem isB_take {l : List Int} (h : isB l) (n : Nat) : isB (l.take n) := fun x hx => h x (List.mem_of_mem_take hx)
theorem isB_drop {l : List Int} (h : isB l) (n : Nat) : isB (l.drop n) := fun x hx => h x (List.mem_of_mem_drop hx)
theorem valB_bound : ∀ (l : List Int), isB l → 0 ≤ valB l ∧ valB l < 256 ^ l.length
  | [], _ => ⟨Int.le_refl _, by decide⟩
  | b :: l, h => by
    obtain ⟨h1, h2⟩ := valB_bound l (isB_tail h)
    obtain ⟨b1, b2⟩ := isB_head h
    have e : valB (b :: l) = b * 256 ^ l.length + valB l := by
      unfold valB
      rw [valF_cons, valF_eq, Int.zero_mul, Int.zero_add]; rfl
    have hp : (0 : Int) < 256 ^ l.length := Int.pow_pos (by decide)
    rw [e, List.length_cons, Int.pow_succ]
    have m1 : 0 ≤ b * 256 ^ l.length := Int.mul_nonneg b1 (Int.le_of_lt hp)
    have m2 : b * 256 ^ l.length ≤ 255 * 256 ^ l.length := Int.mul_le_mul_of_nonneg_right (by omega) (Int.le_of_lt hp)
    omega
theorem be_val : ∀ (l : List Int), isB l → be l.length (valB l) = l
  | [], _ => rfl
  | b :: l, h => by
    have ih := be_val l (isB_tail h)
    obtain ⟨b1, b2⟩ := isB_head h
    obtain ⟨h1, h2⟩ := valB_bound l (isB_tail h)
    have e : valB (b :: l) = b * 256 ^ l.length + valB l := by
      unfold valB
      rw [valF_cons, valF_eq, Int.zero_mul, Int.zero_add]; rfl
    have hp : (256 : Int) ^ l.length ≠ 0 := Int.ne_of_gt (Int.pow_pos (by decide))
    rw [e, List.length_cons]
    show ((b * 256 ^ l.length + valB l) / 256 ^ l.length) % 256 :: be l.length (b * 256 ^ l.length + valB l) = b :: l
    have hm := be_mod 0 b (valB l) l.length
    rw [Nat.zero_add] at hm
    rw [hm, ih, Int.add_comm, Int.add_mul_ediv_right _ _ hp, Int.ediv_eq_zero_of_lt h1 h2, Int.zero_add, Int.emod_eq_of_lt b1 b2]
def inI (n : Int) : Bool := decide (-9223372036854775808 ≤ n ∧ n ≤ 9223372036854775807)
def numOf (t N : Int) (rest : List Int) : Rd :=
  if t = 2 then (if inI N then (2, N, (⟨#[]⟩ : ByteArray), rest, 0) else bad 20)
  else if t = 1 then (if N % 10000 = 0 ∧ inI (N / 10000) then (1, N / 10000, (⟨#[]⟩ : ByteArray), rest, 0) else bad 20)
  else bad 20
def numRead (y : List Int) : Rd := if y.length < 11 then bad 4 else numOf (y.getD 10 0) (valB (y.take 10) - 604462909807314587353088) (y.drop 11)
theorem xor_max (x : Nat) (hx : x < 18446744073709551616) : Go.bits .xor .u64 (IntKind.max .u64) (x : Int) = ((18446744073709551615 - x : Nat) : Int) := by
  have h := bits_xor_u64_nat 18446744073709551615 x (by omega) hx
  have e : (18446744073709551615 ^^^ x : Nat) = 18446744073709551615 - x := by
    have h1 : (BitVec.allOnes 64 ^^^ BitVec.ofNat 64 x).toNat = (~~~ (BitVec.ofNat 64 x)).toNat := by rw [BitVec.allOnes_xor]
    rw [BitVec.toNat_xor, BitVec.toNat_not, BitVec.toNat_allOnes, BitVec.toNat_ofNat, Nat.mod_eq_of_lt (by omega)] at h1
    exact h1
  rw [e] at h
  exact h
theorem units_eq (x lo : Int) (h0 : -32768 ≤ x) (h1 : x < 32768) (h2 : 0 ≤ lo) (h3 : lo < 18446744073709551616) (k : Nat) (hk : 30 ≤ k) :
    rowcode_units.f k x lo = some (if (x * 18446744073709551616 + lo) % 10000 = 0 ∧ inI ((x * 18446744073709551616 + lo) / 10000) then ((x * 18446744073709551616 + lo) / 10000, false) else (0, true)) := by
  obtain ⟨k, rfl⟩ : ∃ m, k = m + 2 := ⟨k - 2, by omega⟩
  obtain ⟨L, rfl⟩ := Int.eq_ofNat_of_zero_le h2
  have main : ∀ (neg : Bool) (A : Nat) (H l : Nat), A = H * 18446744073709551616 + l → l < 18446744073709551616 → H < 18446744073709551616 → (x * 18446744073709551616 + (L : Int)) = (if neg then -(A : Int) else (A : Int)) → (neg = true → 0 < A) →
      rowcode_units.j0 (k + 2) neg (H : Int) (l : Int) = some (if (x * 18446744073709551616 + (L : Int)) % 10000 = 0 ∧ inI ((x * 18446744073709551616 + (L : Int)) / 10000) then ((x * 18446744073709551616 + (L : Int)) / 10000, false) else (0, true)) := by
    intro neg A H l hA hl hH hN hpos
    rw [hN]
    rw [rowcode_units.j0]
    by_cases hc : 10000 ≤ H
    · rw [if_pos (by omega), if_neg]
      unfold inI
      intro h
      obtain ⟨ha, hb⟩ := h
      have hb := of_decide_eq_true hb
      cases neg
      · rw [if_neg (by decide)] at ha hb; omega
      · rw [if_pos rfl] at ha hb; omega
    · rw [if_neg (by omega)]
      have hd := bits_Div64.eq H l 10000 (by decide) hl (by omega) (k + 1) (by omega)
      rw [show ((10000 : Nat) : Int) = 10000 from rfl] at hd
      rw [hd, Option.bind_some, ← hA]
      have hq : A / 10000 < 18446744073709551616 := by omega
      have hdm := Nat.div_add_mod A 10000
      generalize hQ : A / 10000 = Q at *
      generalize hR : A % 10000 = R at *
      have hRl : R < 10000 := by rw [← hR]; exact Nat.mod_lt _ (by decide)
      by_cases hr : R = 0
      · rw [if_pos (by rw [hr]; rfl)]
        unfold inI
        by_cases hb : 9223372036854775808 < Q
        · rw [if_pos (by simp only []; omega), rowcode_units.j1, if_pos rfl, if_neg]
          intro h
          have hb2 := of_decide_eq_true h.2
          cases neg
          · rw [if_neg (by decide)] at hb2; omega
          · rw [if_pos rfl] at hb2; omega
        · rw [if_neg (by simp only []; omega)]
          by_cases he : Q = 9223372036854775808
          · rw [if_pos (by simp only []; omega), rowcode_units.j1]
            cases neg
            · rw [if_pos (by rfl), if_neg]
              intro h
              have hb2 := of_decide_eq_true h.2
              rw [if_neg (by decide)] at hb2
              omega
            · rw [if_neg (by decide), if_pos (by rfl), if_pos]
              · rw [if_pos rfl]
                congr 2
                rw [IntKind.wrap_u64]
                unfold wrap64
                omega
              · rw [if_pos rfl]
                exact ⟨by omega, decide_eq_true (by omega)⟩
          · rw [if_neg (by simp only []; omega), rowcode_units.j1, if_neg (by decide)]
            cases neg
            · simp only [Bool.false_eq_true, if_false]
              rw [if_pos ⟨by omega, decide_eq_true (by omega)⟩]
              congr 2
              unfold wrap64
              omega
            · simp only [if_true]
              rw [if_pos ⟨by omega, decide_eq_true (by omega)⟩]
              congr 2
              rw [IntKind.wrap_u64]
              unfold wrap64
              omega
      · rw [if_neg (by simp only []; omega), rowcode_units.j1, if_pos rfl, if_neg]
        intro h
        have ha := h.1
        cases neg
        · rw [if_neg (by decide)] at ha; omega
        · rw [if_pos rfl] at ha; omega
  unfold rowcode_units.f
  by_cases hneg : x < 0
  · rw [if_pos hneg, xor_max L (by omega)]
    unfold bits_Add64.f
    rw [if_pos (by omega), Option.bind_some, decide_eq_true hneg]
    have hX : IntKind.u64.wrap x = (((x + 18446744073709551616).toNat : Nat) : Int) := by rw [IntKind.wrap_u64]; omega
    rw [hX, xor_max _ (by omega)]
    have e1 : IntKind.u64.wrap ((((18446744073709551615 - (x + 18446744073709551616).toNat) : Nat) : Int) + (((18446744073709551615 - L : Nat) : Int) + 1 + 0) / 18446744073709551616) = (((-x - (if L = 0 then 0 else 1)).toNat : Nat) : Int) := by
      rw [IntKind.wrap_u64]
      split <;> omega
    have e2 : (((18446744073709551615 - L : Nat) : Int) + 1 + 0) % 18446744073709551616 = ((if L = 0 then 0 else 18446744073709551616 - L : Nat) : Int) := by
      split <;> omega
    simp only [e1, e2]
    refine main true (-(x * 18446744073709551616 + (L : Int))).toNat _ _ ?_ ?_ ?_ ?_ ?_
    · split <;> omega
    · split <;> omega
    · split <;> omega
    · rw [if_pos rfl]; omega
    · intro _; omega
  · rw [if_neg hneg, decide_eq_false hneg]
    have hX : IntKind.u64.wrap x = ((x.toNat : Nat) : Int) := by rw [IntKind.wrap_u64]; omega
    rw [hX]
    refine main false (x * 18446744073709551616 + (L : Int)).toNat _ _ ?_ ?_ ?_ ?_ ?_
    · omega
    · omega
    · omega
    · rw [if_neg (by decide)]; omega
    · intro h; cases h
theorem or_byte (a b : Int) (ha : 0 ≤ a) (ha2 : a < 72057594037927936) (hb : 0 ≤ b ∧ b < 256) : Go.bits .or .u64 (IntKind.u64.wrap (a * 256)) (IntKind.u64.wrap b) = a * 256 + b := by
  obtain ⟨A, rfl⟩ := Int.eq_ofNat_of_zero_le ha
  obtain ⟨B, rfl⟩ := Int.eq_ofNat_of_zero_le hb.1
  have e1 : IntKind.u64.wrap ((A : Int) * 256) = ((A * 256 : Nat) : Int) := by rw [IntKind.wrap_u64]; omega
  have e2 : IntKind.u64.wrap (B : Int) = (B : Int) := by rw [IntKind.wrap_u64]; omega
  rw [e1, e2, bits_or_u64_nat _ _ (by omega) (by omega)]
  have h := Nat.two_pow_add_eq_or_of_lt (i := 8) (show B < 2 ^ 8 by omega) A
  rw [show (2 : Nat) ^ 8 = 256 from rfl, Nat.mul_comm] at h
  rw [← h]
  omega
theorem rd_getD (l : List Int) (i : Nat) : rd l (i : Int) = l.getD i 0 := by unfold rd; rw [Int.toNat_natCast]
theorem drop_rd {l : List Int} {i : Nat} (hi : i < l.length) : l.drop i = rd l (i : Int) :: l.drop (i + 1) := by
  rw [rd_getD, List.drop_eq_getElem_cons hi, List.getD_eq_getElem?_getD, List.getElem?_eq_getElem hi]
  rfl
theorem rd_isB {l : List Int} (h : isB l) {i : Nat} (hi : i < l.length) : 0 ≤ rd l (i : Int) ∧ rd l (i : Int) < 256 := by
  rw [rd_getD, List.getD_eq_getElem?_getD, List.getElem?_eq_getElem hi]
  exact h _ (List.getElem_mem hi)
theorem num_loop (y z : List Int) (hz : isB z) (hl : z.length = 8) (x : Int) : ∀ (d i : Nat), i + d = 8 → ∀ (a : Int) (k : Nat), 0 ≤ a → a < 256 ^ i → d + 40 ≤ k →
    ∃ k', 40 ≤ k' + 1 ∧ rowcode_number.l0 k y x a z 8 (i : Int) = rowcode_number.l0 (k' + 1) y x (valF a (z.drop i)) z 8 8
  | 0, i, h, a, k, h0, h1, hk => by
    have : i = 8 := by omega
    subst this
    rw [List.drop_eq_nil_of_le (by omega)]
    exact ⟨k - 1, by omega, by rw [show k - 1 + 1 = k by omega]; rfl⟩
  | d + 1, i, h, a, k, h0, h1, hk => by
    obtain ⟨k, rfl⟩ : ∃ m, k = m + 1 := ⟨k - 1, by omega⟩
    have hi : i < z.length := by omega
    have hb := rd_isB hz hi
    have hp : (256 : Int) ^ i ≤ 72057594037927936 := by
      have h7 : i = 0 ∨ i = 1 ∨ i = 2 ∨ i = 3 ∨ i = 4 ∨ i = 5 ∨ i = 6 ∨ i = 7 := by omega
      rcases h7 with rfl | rfl | rfl | rfl | rfl | rfl | rfl | rfl <;> decide
    rw [rowcode_number.l0, if_pos (by omega), if_pos (by omega), if_pos (by omega), or_byte a _ h0 (by omega) hb, show wrap64 ((i : Int) + 1) = ((i + 1 : Nat) : Int) by unfold wrap64; omega]
    have ih := num_loop y z hz hl x d (i + 1) (by omega) (a * 256 + rd z (i : Int)) k (by omega) (by rw [Int.pow_succ]; omega) (by omega)
    rw [drop_rd hi, valF_cons]
    exact ih
theorem val10 (y : List Int) (hl : 10 ≤ y.length) : valB (y.take 10) = (y.getD 0 0 * 256 + y.getD 1 0) * 18446744073709551616 + valB ((y.take 10).drop 2) := by
  obtain ⟨a, y, rfl⟩ : ∃ a z, y = a :: z := by cases y with | nil => simp at hl | cons a z => exact ⟨a, z, rfl⟩
  obtain ⟨b, y, rfl⟩ : ∃ a z, y = a :: z := by cases y with | nil => simp at hl | cons a z => exact ⟨a, z, rfl⟩
  show valF 0 (a :: b :: y.take 8) = (a * 256 + b) * 18446744073709551616 + valB (y.take 8)
  rw [valF_cons, valF_cons, valF_eq, List.length_take, Nat.min_eq_left (by simp at hl; omega), show (256 : Int) ^ 8 = 18446744073709551616 by decide]
  omega
theorem number_eq (y : List Int) (hB : isB y) (hm : y.length ≤ 9223372036854775807) (k : Nat) (hk : 50 ≤ k) : rowcode_number.f k y = some (numRead y) := by
  unfold rowcode_number.f numRead
  by_cases hl : y.length < 11
  · rw [if_pos (by omega), if_pos hl]; rfl
  · rw [if_neg (by omega), if_neg hl, if_pos (by omega), if_pos (by omega), if_pos (by decide), if_pos (by omega), Option.bind_some]
    have hz : isB ((y.take 10).drop 2) := isB_drop (isB_take hB _) _
    have hzl : ((y.take 10).drop 2).length = 8 := by rw [List.length_drop, List.length_take]; omega
    rw [hzl]
    have b0 := rd_isB hB (i := 0) (by omega)
    have b1 := rd_isB hB (i := 1) (by omega)
    have b10 := rd_isB hB (i := 10) (by omega)
    have hv := val10 y (by omega)
    obtain ⟨v0, v1⟩ := valB_bound _ hz
    rw [hzl, show (256 : Int) ^ 8 = 18446744073709551616 by decide] at v1
    rw [show ((0 : Nat) : Int) = 0 from rfl] at b0
    rw [show ((1 : Nat) : Int) = 1 from rfl] at b1
    rw [show ((10 : Nat) : Int) = 10 from rfl] at b10
    have r0 : rd y 0 = y.getD 0 0 := rd_getD y 0
    have r1 : rd y 1 = y.getD 1 0 := rd_getD y 1
    have r10 : rd y 10 = y.getD 10 0 := rd_getD y 10
    obtain ⟨k', hk', hloop⟩ := num_loop y _ hz hzl (wrap64 ((wrap64 ((wrap64 ((wrap64 (rd y 0)) * 256)) + (wrap64 (rd y 1)))) - 32768)) 8 0 (by omega) 0 k (by omega) (by decide) (by omega)
    rw [show ((0 : Nat) : Int) = 0 from rfl] at hloop
    rw [show ((8 : Nat) : Int) = 8 from rfl, hloop]
    rw [List.drop_zero]
    have ex : wrap64 ((wrap64 ((wrap64 ((wrap64 (rd y 0)) * 256)) + (wrap64 (rd y 1)))) - 32768) = rd y 0 * 256 + rd y 1 - 32768 := by
      unfold wrap64
      omega
    rw [ex, hv, ← r0, ← r1, ← r10]
    have hlow : valF 0 ((y.take 10).drop 2) = valB ((y.take 10).drop 2) := rfl
    rw [hlow]
    generalize valB ((y.take 10).drop 2) = lo at *
    rw [rowcode_number.l0, if_neg (by decide), if_pos (by omega)]
    generalize rd y 0 = p0 at *
    generalize rd y 1 = p1 at *
    generalize rd y 10 = t at *
    have hN : (p0 * 256 + p1) * 18446744073709551616 + lo - 604462909807314587353088 = (p0 * 256 + p1 - 32768) * 18446744073709551616 + lo := by omega
    rw [hN]
    generalize hX : p0 * 256 + p1 - 32768 = x at *
    unfold numOf
    by_cases t2 : t = 2
    · subst t2
      rw [if_pos rfl, if_pos rfl]
      obtain ⟨W, hW⟩ : ∃ W, wrap64 lo = W := ⟨_, rfl⟩
      have hWc : (lo < 9223372036854775808 ∧ W = lo) ∨ (9223372036854775808 ≤ lo ∧ W = lo - 18446744073709551616) := by rw [← hW]; unfold wrap64; omega
      rw [hW]
      by_cases hx : x = W / 9223372036854775808
      · rw [if_pos hx, if_pos (by omega), if_pos]
        · rw [show x * 18446744073709551616 + lo = W by omega, show wrap64 2 = 2 by unfold wrap64; omega]
        · unfold inI
          exact decide_eq_true (by omega)
      · rw [if_neg hx, if_neg]
        · rfl
        · unfold inI
          intro h
          have := of_decide_eq_true h
          omega
    · rw [if_neg t2, if_neg t2]
      by_cases t1 : t = 1
      · subst t1
        rw [if_pos rfl, if_pos rfl, units_eq x lo (by omega) (by omega) v0 v1 k' (by omega), Option.bind_some]
        by_cases hc : (x * 18446744073709551616 + lo) % 10000 = 0 ∧ inI ((x * 18446744073709551616 + lo) / 10000)
        · rw [if_pos hc, if_pos hc, if_neg (show ¬ (false = true) by decide), if_pos (by omega), show wrap64 1 = 1 by unfold wrap64; omega]
        · rw [if_neg hc, if_neg hc, if_pos rfl]; rfl
      · rw [if_neg t1, if_neg t1]; rfl
def txtRead (acc : List Int) : List Int → Rd
  | [] => bad 4
  | x :: l =>
    if x ≠ 0 then txtRead (acc ++ [x]) l
    else match l with
      | [] => bad 4
      | y :: m => if y = 255 then txtRead (acc ++ [0]) m else if y = 0 then (if chk 3 0 (strOfNums acc) = 0 then (3, 0, strOfNums acc, m, 0) else bad 20) else bad 20
theorem txt_nil (acc : List Int) : txtRead acc [] = bad 4 := by unfold txtRead; rfl
theorem txt_ne (acc : List Int) {x : Int} (h : x ≠ 0) (l : List Int) : txtRead acc (x :: l) = txtRead (acc ++ [x]) l := by
  conv => lhs; unfold txtRead
  exact if_pos h
theorem txt_one (acc : List Int) : txtRead acc [0] = bad 4 := by
  unfold txtRead
  exact if_neg (by simp)
theorem txt_two (acc : List Int) (y : Int) (m : List Int) : txtRead acc (0 :: y :: m) = if y = 255 then txtRead (acc ++ [0]) m else if y = 0 then (if chk 3 0 (strOfNums acc) = 0 then (3, 0, strOfNums acc, m, 0) else bad 20) else bad 20 := by
  conv => lhs; unfold txtRead
  exact if_neg (by simp)
theorem txt_pass : ∀ (p : List Int) (acc q : List Int), (∀ x ∈ p, x ≠ 0) → txtRead acc (p ++ q) = txtRead (acc ++ p) q
  | [], acc, q, _ => by rw [List.nil_append, List.append_nil]
  | x :: p, acc, q, h => by
    rw [List.cons_append, txt_ne _ (h x List.mem_cons_self), txt_pass p _ q (fun y hy => h y (List.mem_cons_of_mem _ hy)), List.append_assoc]
    rfl
theorem idx_split : ∀ (l : List Int), isB l → (Lib.indexByte (Lib.bytesOf l) (0 : Int).toNat.toUInt8 = -1 ∧ ∀ x ∈ l, x ≠ 0) ∨
    ∃ p q, l = p ++ 0 :: q ∧ (∀ x ∈ p, x ≠ 0) ∧ Lib.indexByte (Lib.bytesOf l) (0 : Int).toNat.toUInt8 = p.length
  | [], _ => Or.inl ⟨rfl, fun x hx => by simp at hx⟩
  | b :: l, h => by
    have hb := isB_head h
    have e : Lib.indexByte (Lib.bytesOf (b :: l)) (0 : Int).toNat.toUInt8 = if (UInt8.ofNat b.toNat == (0 : Int).toNat.toUInt8) = true then 0 else if (Lib.indexByte (Lib.bytesOf l) (0 : Int).toNat.toUInt8 == -1) = true then -1 else Lib.indexByte (Lib.bytesOf l) (0 : Int).toNat.toUInt8 + 1 := rfl
    by_cases h0 : b = 0
    · right
      subst h0
      exact ⟨[], l, rfl, fun x hx => by simp at hx, by rw [e, if_pos (by decide)]; rfl⟩
    · have hne : ¬ (UInt8.ofNat b.toNat == (0 : Int).toNat.toUInt8) = true := by
        intro hh
        have := congrArg UInt8.toNat (beq_iff_eq.mp hh)
        have e1 : (UInt8.ofNat b.toNat).toNat = b.toNat % 256 := rfl
        have e2 : ((0 : Int).toNat.toUInt8).toNat = 0 := rfl
        rw [e1, e2] at this
        omega
      rcases idx_split l (isB_tail h) with ⟨i1, i2⟩ | ⟨p, q, i1, i2, i3⟩
      · left
        refine ⟨by rw [e, if_neg hne, if_pos (by rw [i1]; rfl)], fun x hx => ?_⟩
        rcases List.mem_cons.mp hx with hx | hx
        · rw [hx]; exact h0
        · exact i2 x hx
      · right
        refine ⟨b :: p, q, by rw [i1]; rfl, fun x hx => ?_, ?_⟩
        · rcases List.mem_cons.mp hx with hx | hx
          · rw [hx]; exact h0
          · exact i2 x hx
        · rw [e, if_neg hne, if_neg, i3]
          · rw [List.length_cons]; omega
          · intro hh
            have := beq_iff_eq.mp hh
            omega
theorem txt_all (p acc : List Int) (h : ∀ x ∈ p, x ≠ 0) : txtRead acc p = bad 4 := by
  have := txt_pass p acc [] h
  rw [List.append_nil] at this
  rw [this, txt_nil]
theorem rd_app (p q : List Int) (x : Int) : rd (p ++ x :: q) ((p.length : Nat) : Int) = x := by
  rw [rd_getD, List.getD_eq_getElem?_getD, List.getElem?_append_right (Nat.le_refl _), Nat.sub_self]; rfl
theorem text_loop : ∀ (n : Nat) (l : List Int), l.length ≤ n → isB l → ∀ (acc : List Int) (k : Nat), acc.length + l.length < 140737488355328 → 2 * n + 10 ≤ k →
    rowcode_text.l0 k l acc = some (txtRead acc l)
  | n, l, hn, hB, acc, k, hl, hk => by
    obtain ⟨k, rfl⟩ : ∃ m, k = m + 2 := ⟨k - 2, by omega⟩
    rw [rowcode_text.l0]
    unfold bytes_IndexByte.f
    rw [Option.bind_some]
    rcases idx_split l hB with ⟨i1, i2⟩ | ⟨p, q, rfl, i2, i3⟩
    · rw [i1, if_pos (by decide), rowcode_text.j1, if_pos rfl, txt_all l acc i2]; rfl
    · rw [i3, if_neg (by omega)]
      have hlen : (p ++ 0 :: q).length = p.length + q.length + 1 := by simp; omega
      rw [rowcode_text.j1]
      have w1 : wrap64 ((p.length : Int) + 1) = ((p.length + 1 : Nat) : Int) := by unfold wrap64; omega
      have w2 : wrap64 ((p.length : Int) + 2) = ((p.length + 2 : Nat) : Int) := by unfold wrap64; omega
      rw [w1, w2, hlen, txt_pass p acc _ i2]
      cases q with
      | nil =>
        rw [if_pos (by simp), txt_one]; rfl
      | cons y m =>
        have hy := isB_head (isB_tail (fun x hx => hB x (List.mem_append_right _ hx)) : isB (y :: m))
        simp only [List.length_cons] at hlen hl hn ⊢
        rw [if_neg (by simp; omega), if_pos (by omega), if_pos (by omega), Option.bind_some]
        have ht : (p ++ 0 :: y :: m).take ((p.length : Int).toNat) = p := by rw [Int.toNat_natCast, List.take_left]
        rw [ht, if_pos (by omega), Option.bind_some, if_pos (by omega), if_pos (by omega), if_pos (by omega), if_pos (by omega)]
        have hd : (p ++ 0 :: y :: m).drop (((p.length + 2 : Nat) : Int).toNat) = m := by
          rw [Int.toNat_natCast, List.drop_append, Nat.add_sub_cancel_left, List.drop_eq_nil_of_le (by omega)]; rfl
        have hr : rd (p ++ 0 :: y :: m) ((p.length + 1 : Nat) : Int) = y := by
          have := rd_app (p ++ [0]) m y
          rw [List.append_assoc, List.length_append] at this
          exact this
        rw [hd, hr, Option.bind_some, txt_two]
        by_cases y255 : y = 255
        · rw [if_pos y255, if_pos (by rw [List.length_append]; omega), if_pos y255]
          cases n with
          | zero => omega
          | succ n =>
            exact text_loop n m (by omega) (fun x hx => hB x (List.mem_append_right _ (List.mem_cons_of_mem _ (List.mem_cons_of_mem _ hx)))) _ k (by rw [List.length_append, List.length_append]; simp only [List.length_cons, List.length_nil]; omega) (by omega)
        · rw [if_neg y255, if_neg y255]
          by_cases y0 : y = 0
          · rw [if_pos y0, if_pos y0]
            obtain ⟨k, rfl⟩ : ∃ m, k = m + 1 := ⟨k - 1, by omega⟩
            rw [value_Check.eq, Option.bind_some]
            split <;> rfl
          · rw [if_neg y0, if_neg y0]; rfl
theorem text_eq (l : List Int) (hB : isB l) (hl : l.length < 140737488355328) (k : Nat) (hk : 2 * l.length + 10 ≤ k) : rowcode_text.f k l = some (txtRead [] l) :=
  text_loop l.length l (Nat.le_refl _) hB [] k (by simpa using hl) hk
def boolRead : List Int → Rd
  | [] => bad 4
  | b :: m => if b > 1 then bad 20 else (4, b, (⟨#[]⟩ : ByteArray), m, 0)
def valRead : List Int → Rd
  | [] => bad 4
  | tag :: y => if tag = 1 then (0, 0, (⟨#[]⟩ : ByteArray), y, 0) else if tag = 2 then numRead y else if tag = 3 then txtRead [] y else if tag = 4 then boolRead y else bad 20
theorem valRead_cons (tag : Int) (y : List Int) : valRead (tag :: y) = if tag = 1 then (0, 0, (⟨#[]⟩ : ByteArray), y, 0) else if tag = 2 then numRead y else if tag = 3 then txtRead [] y else if tag = 4 then boolRead y else bad 20 := rfl
theorem read_eq (l : List Int) (hB : isB l) (hl : l.length < 140737488355328) (k : Nat) (hk : 2 * l.length + 60 ≤ k) : rowcode_read.f k l = some (valRead l) := by
  unfold rowcode_read.f
  cases l with
  | nil => rfl
  | cons tag y =>
    simp only [List.length_cons] at hl hk ⊢
    have hy := isB_tail hB
    rw [if_neg (by omega), if_pos (by omega), if_pos (by omega), Option.bind_some]
    have hr : rd (tag :: y) 0 = tag := rfl
    have hd : (tag :: y).drop 1 = y := rfl
    rw [hr, hd]
    rw [valRead_cons]
    by_cases t1 : tag = 1
    · rw [if_pos t1, if_pos t1]
    rw [if_neg t1, if_neg t1]
    by_cases t2 : tag = 2
    · rw [if_pos t2, if_pos t2, number_eq y hy (by omega) k (by omega), Option.bind_some]
    rw [if_neg t2, if_neg t2]
    by_cases t3 : tag = 3
    · rw [if_pos t3, if_pos t3, text_eq y hy (by omega) k (by omega), Option.bind_some]
    rw [if_neg t3, if_neg t3]
    by_cases t4 : tag = 4
    · rw [if_pos t4, if_pos t4]
      cases y with
      | nil => rfl
      | cons b m =>
        have hb := isB_head hy
        have hr2 : rd (b :: m) 0 = b := rfl
        rw [hr2]
        simp only [List.length_cons]
        rw [if_neg (by omega), if_pos (by omega)]
        rw [show boolRead (b :: m) = if b > 1 then bad 20 else (4, b, (⟨#[]⟩ : ByteArray), m, 0) from rfl]
        by_cases b1 : b > 1
        · rw [if_pos b1, if_pos b1]; rfl
        · rw [if_neg b1, if_neg b1, if_pos (by omega)]
          rw [show wrap64 b = b by unfold wrap64; omega]
          rfl
    · rw [if_neg t4, if_neg t4]; rfl
end Go.Proofs.YthghcpeedmconaaDoor.X
end
section
namespace Go.Proofs.YthghcpeedmconaaDoor.X
set_option linter.unusedVariables false
set_option linter.unusedSimpArgs false
open Go.RowKit Go.Proofs.YthghcpeedmconaaDoorW.PrintWords Go.Proofs.YthghcpeedmconaaDoorW.PrintLast Go.Proofs.YthghcpeedmconaaDoorW.PrintMore
open Num
def unB (l : List UInt8) : List Int := l.map fun b => (b.toNat : Int)
theorem u8_back (b : UInt8) : ((b.toNat : Int)).toNat.toUInt8 = b := by
  apply UInt8.toNat.inj
  rw [Int.toNat_natCast]
  show b.toNat % 256 = b.toNat
  have := b.toNat_lt
  omega
theorem strOf_data (l : List Int) : (strOfNums l).data.toList = l.map fun x => x.toNat.toUInt8 := by
  have := strOf_toList l
  rw [show (strOfNums l).toList = (strOfNums l).data.toList from ByteArray.toList_eq _] at this
  exact this
theorem unB_back (p : List UInt8) : (unB p).map (fun x => x.toNat.toUInt8) = p := by
  unfold unB
  rw [List.map_map]
  conv => rhs; rw [← List.map_id p]
  exact List.map_congr_left fun b _ => u8_back b
theorem inI_I64 {n : Int} (h : inI n = true) : I64 n := by
  unfold inI at h
  have h' : -9223372036854775808 ≤ n ∧ n ≤ 9223372036854775807 := of_decide_eq_true h
  exact h'
theorem bad_ne {e t n : Int} {s : ByteArray} {rest : List Int} (he : e ≠ 0) (h : bad e = (t, n, s, rest, 0)) : False := he (congrArg (fun x : Rd => x.2.2.2.2) h)
theorem byte_unB {x : Int} (h : 0 ≤ x ∧ x < 256) (h0 : x ≠ 0) : ∃ b : UInt8, b ≠ 0 ∧ (b.toNat : Int) = x := by
  refine ⟨x.toNat.toUInt8, fun hb => ?_, u8_toNat h⟩
  have := u8_toNat h
  rw [hb] at this
  exact h0 this.symm
theorem txt_back : ∀ (m : Nat) (l : List Int), l.length ≤ m → isB l → ∀ (acc : List Int) (t n : Int) (s : ByteArray) (rest : List Int), txtRead acc l = (t, n, s, rest, 0) →
    ∃ p : List UInt8, l = escB p ++ 0 :: 0 :: rest ∧ s = strOfNums (acc ++ unB p) ∧ t = 3 ∧ n = 0 ∧ chk 3 0 s = 0
  | m, [], _, _, acc, t, n, s, rest, h => by rw [txt_nil] at h; exact (bad_ne (by decide) h).elim
  | 0, x :: l, hm, _, _, _, _, _, _, _ => by simp at hm
  | m + 1, x :: l, hm, hB, acc, t, n, s, rest, h => by
    simp only [List.length_cons] at hm
    by_cases h0 : x = 0
    · subst h0
      cases l with
      | nil => rw [txt_one] at h; exact (bad_ne (by decide) h).elim
      | cons y q =>
        rw [txt_two] at h
        simp only [List.length_cons] at hm
        by_cases y1 : y = 255
        · rw [if_pos y1] at h
          obtain ⟨p, e1, e2, e3⟩ := txt_back m q (by omega) (isB_tail (isB_tail hB)) _ t n s rest h
          refine ⟨0 :: p, by rw [escB_z, e1, y1]; rfl, ?_, e3⟩
          rw [e2, List.append_assoc]; rfl
        · rw [if_neg y1] at h
          by_cases y0 : y = 0
          · rw [if_pos y0] at h
            by_cases hc : chk 3 0 (strOfNums acc) = 0
            · rw [if_pos hc] at h
              injection h with h1 h
              injection h with h2 h
              injection h with h3 h
              injection h with h4 h
              subst h1 h2 h3 h4 y0
              exact ⟨[], rfl, by rw [show unB [] = [] from rfl, List.append_nil], rfl, rfl, hc⟩
            · rw [if_neg hc] at h; exact (bad_ne (by decide) h).elim
          · rw [if_neg y0] at h; exact (bad_ne (by decide) h).elim
    · rw [txt_ne _ h0] at h
      obtain ⟨p, e1, e2, e3⟩ := txt_back m l (by omega) (isB_tail hB) _ t n s rest h
      obtain ⟨b, hb, hx⟩ := byte_unB (isB_head hB) h0
      refine ⟨b :: p, by rw [escB_n hb, e1, hx]; rfl, ?_, e3⟩
      rw [e2, List.append_assoc, ← hx]; rfl
theorem valRead_back (l : List Int) (hB : isB l) (t n : Int) (s : ByteArray) (rest : List Int) (h : valRead l = (t, n, s, rest, 0)) : Can ⟨t, n, s⟩ ∧ l = code ⟨t, n, s⟩ ++ rest := by
  cases l with
  | nil => exact (bad_ne (by decide) h).elim
  | cons tag y =>
    rw [valRead_cons] at h
    have hy := isB_tail hB
    by_cases t1 : tag = 1
    · rw [if_pos t1] at h
      injection h with h1 h
      injection h with h2 h
      injection h with h3 h
      injection h with h4 h
      subst h1 h2 h3 h4 t1
      exact ⟨⟨rfl, by unfold I64; decide⟩, by rw [code_null rfl]; rfl⟩
    rw [if_neg t1] at h
    by_cases t2 : tag = 2
    · rw [if_pos t2] at h
      unfold numRead at h
      by_cases hl : y.length < 11
      · rw [if_pos hl] at h; exact (bad_ne (by decide) h).elim
      rw [if_neg hl] at h
      have hz : isB (y.take 10) := isB_take hy _
      have hzl : (y.take 10).length = 10 := by rw [List.length_take]; omega
      have hbe := be_val (y.take 10) hz
      rw [hzl] at hbe
      have hsplit : y = y.take 10 ++ ([y.getD 10 0] ++ y.drop 11) := by
        conv => lhs; rw [← List.take_append_drop 10 y]
        congr 1
        rw [List.drop_eq_getElem_cons (show 10 < y.length by omega), List.getD_eq_getElem?_getD, List.getElem?_eq_getElem (show 10 < y.length by omega)]
        rfl
      have ht := isB_drop hy 10
      generalize hT : y.getD 10 0 = T at *
      generalize hq : y.take 10 = q at *
      generalize hw : y.drop 11 = w at *
      unfold numOf at h
      by_cases T2 : T = 2
      · rw [if_pos T2] at h
        by_cases hi : inI (valB q - 604462909807314587353088) = true
        · rw [if_pos hi] at h
          injection h with h1 h
          injection h with h2 h
          injection h with h3 h
          injection h with h4 h
          subst h1 h2 h3 h4 t2 T2
          refine ⟨⟨rfl, inI_I64 hi⟩, ?_⟩
          rw [code_num (Or.inr rfl), hsplit]
          unfold sv
          rw [if_pos rfl, show valB q - 604462909807314587353088 + 604462909807314587353088 = valB q by omega, hbe]
          show 2 :: (q ++ ([2] ++ w)) = 2 :: ((q ++ [2]) ++ w)
          rw [List.append_assoc]
        · rw [if_neg hi] at h; exact (bad_ne (by decide) h).elim
      · rw [if_neg T2] at h
        by_cases T1 : T = 1
        · rw [if_pos T1] at h
          by_cases hi : (valB q - 604462909807314587353088) % 10000 = 0 ∧ inI ((valB q - 604462909807314587353088) / 10000) = true
          · rw [if_pos hi] at h
            injection h with h1 h
            injection h with h2 h
            injection h with h3 h
            injection h with h4 h
            subst h1 h2 h3 h4 t2 T1
            refine ⟨⟨rfl, inI_I64 hi.2⟩, ?_⟩
            rw [code_num (Or.inl rfl), hsplit]
            unfold sv
            simp only []
            have hi1 := hi.1
            rw [if_neg (by decide), show (valB q - 604462909807314587353088) / 10000 * 10000 + 604462909807314587353088 = valB q by omega, hbe]
            show 2 :: (q ++ ([1] ++ w)) = 2 :: ((q ++ [1]) ++ w)
            rw [List.append_assoc]
          · rw [if_neg hi] at h; exact (bad_ne (by decide) h).elim
        · rw [if_neg T1] at h; exact (bad_ne (by decide) h).elim
    rw [if_neg t2] at h
    by_cases t3 : tag = 3
    · rw [if_pos t3] at h
      obtain ⟨p, e1, e2, rfl, rfl, e5⟩ := txt_back y.length y (Nat.le_refl _) hy [] t n s rest h
      subst t3
      refine ⟨⟨e5, show I64 0 by unfold I64; decide⟩, ?_⟩
      have hp : s.data.toList = p := by rw [e2, List.nil_append, strOf_data, unB_back]
      rw [code_text rfl, e1, hp, List.cons_append, List.append_assoc]
      rfl
    rw [if_neg t3] at h
    by_cases t4 : tag = 4
    · rw [if_pos t4] at h
      cases y with
      | nil => exact (bad_ne (by decide) h).elim
      | cons b q =>
        rw [show boolRead (b :: q) = if b > 1 then bad 20 else (4, b, (⟨#[]⟩ : ByteArray), q, 0) from rfl] at h
        have hb := isB_head hy
        by_cases b1 : b > 1
        · rw [if_pos b1] at h; exact (bad_ne (by decide) h).elim
        · rw [if_neg b1] at h
          injection h with h1 h
          injection h with h2 h
          injection h with h3 h
          injection h with h4 h
          subst h1 h2 h3 h4 t4
          refine ⟨⟨?_, by unfold I64; constructor <;> (simp only []; omega)⟩, ?_⟩
          · unfold X.chk
            simp only []
            rw [if_neg (by decide), if_pos trivial, if_pos (by omega)]
          · rw [code_bool rfl]
            simp only []
            rw [show b % 256 = b by omega]
            rfl
    · rw [if_neg t4] at h; exact (bad_ne (by decide) h).elim
end Go.Proofs.YthghcpeedmconaaDoor.X
end
section
namespace Go.Proofs.YthghcpeedmconaaDoor.X
open Go.RowKit Go.Proofs.YthghcpeedmconaaDoorW.PrintWords Go.Proofs.YthghcpeedmconaaDoorW.PrintLast Go.Proofs.YthghcpeedmconaaDoorW.PrintMore
attribute [local go_sem] max2_int min2_int max_two min_two max_three min_three max_four min_four
end Go.Proofs.YthghcpeedmconaaDoor.X
end
section
namespace Go.Proofs.YthghcpeedmconaaDoor.X
open Go.RowKit Go.Proofs.YthghcpeedmconaaDoorW.PrintWords Go.Proofs.YthghcpeedmconaaDoorW.PrintLast Go.Proofs.YthghcpeedmconaaDoorW.PrintMore
attribute [local go_sem] max2_int min2_int max_two min_two max_three min_three max_four min_four
set_option linter.unusedVariables false
set_option linter.unusedSimpArgs false
def rowcode_Row.f (k : Nat) (l0 : List (S42)) : Option (List Int × Int) := (rowcode_row.f k l0).bind fun bt297 => (some (bt297.1, bt297.2))
set_option maxHeartbeats 8000000 in
set_option maxRecDepth 100000 in
theorem rowcode_Row.calls (k : Nat) (A0 : Option Addr) (c0 : Nat) (l0 : List (S42)) (r1 : List Int) (r2 : Int) (w : World) (hT : Tabs w) (hr0 : Kd.C k42 w A0 l0.length l0) (hc0 : l0.length ≤ c0) (h : rowcode_Row.f k l0 = some (r1, r2)) :
  Calls Tryd.prog 23 #[.slice A0 l0.length c0] w fun e w' => ∃ v0_ : Value, e = .returned (.tuple #[v0_, .int .i64 r2]) ∧ Kd.R (Kd.int .u8) 5 w' w.heap.size (fun _ => True) v0_ r1 ∧ Below w.heap.size w w' := by
 have HT := Aside0.mk hT
 clear hT
 have HR0 := Aside0.mk hr0
 have HC0 := Aside0.mk hc0
 clear hr0 hc0
 have HB := Aside0.mk (Below.refl w.heap.size w)
 have H : ((rowcode_row.f k l0).bind fun bt297 => (some (bt297.1, bt297.2))) = some (r1, r2) := h
 clear h
 replace H := Option.bind_eq_some_iff.mp H
 obtain ⟨⟨t297, t298⟩, A20, H⟩ := H
 replace H : (some (t297, t298)) = some (r1, r2) := H
 have A2 := Aside0.mk A20
 clear A20
 simp only [Option.some.injEq, Prod.mk.injEq] at H
 obtain ⟨rfl, rfl⟩ := H
 go_enter Tryd.func23, Tryd.ntmps23
 go_wp2_with (first | ((with_reducible refine gate_callee (f := 45) rfl ?_); refine goesL_ (some 5) rfl rfl Tryd.func45 (by kernel_rfl) rfl #[.slice A0 l0.length c0] rfl (by (try simp only [List.map_toArray, List.map_cons, List.map_nil]); first | done | rfl | (simp only [List.length_drop, List.length_take]; rfl)) ?_; (with_reducible refine (rowcode_row.calls k _ _ l0 t297 t298 _ ?side1 ?side2 ?side3 A2.out).mono ?_); (case side1 => exact Tabs.below HT.out (by repeat (first | (with_reducible first | exact HB.out | apply below_alloc | apply pw_below_drewN | apply below_drew1) | exact HB.out))); (case side2 => repeat (first | exact HR0.out | (with_reducible refine Kd.C_alloc ?_ _) | (with_reducible refine Kd.C_drewN ?_ _) | (with_reducible refine Kd.C_drew ?_))); (case side3 => exact HC0.out); rintro e w3 ⟨v299, rfl, ho0, hb⟩; refine ⟨_, rfl, ?_⟩; have n0_ := Aside0.mk (Kd.R_lower ho0 (below_size (by repeat (first | (with_reducible first | exact HB.out | apply below_alloc | apply pw_below_drewN | apply below_drew1) | exact HB.out)))); have n1_ := Aside0.mk (below_step (by repeat (first | (with_reducible first | exact HB.out | apply below_alloc | apply pw_below_drewN | apply below_drew1) | exact HB.out)) hb); clear HB; have HO300 := n0_; have HB := n1_; clear n0_ n1_; (try clear hb); (try clear hb2); (try clear hk); (try clear hi); (try clear ho0)))
 go_ret2
 exact ⟨_, by first | rfl | (simp [errW_none, errW_some] <;> rfl) | (simp [*, errW_none, errW_some] <;> rfl), by (with_reducible repeat (first | apply Kd.R_alloc | apply Kd.R_drewN | apply Kd.R_drew)); exact HO300.out, by repeat (first | (with_reducible first | exact HB.out | apply below_alloc | apply pw_below_drewN | apply below_drew1) | exact HB.out)⟩
end Go.Proofs.YthghcpeedmconaaDoor.X
end
section
namespace Go.Proofs.YthghcpeedmconaaDoor.X
open Go.RowKit Go.Proofs.YthghcpeedmconaaDoorW.PrintWords Go.Proofs.YthghcpeedmconaaDoorW.PrintLast Go.Proofs.YthghcpeedmconaaDoorW.PrintMore
attribute [local go_sem] max2_int min2_int max_two min_two max_three min_three max_four min_four
end Go.Proofs.YthghcpeedmconaaDoor.X
end
section
namespace Go.Proofs.YthghcpeedmconaaDoor.X
set_option linter.unusedVariables false
set_option linter.unusedSimpArgs false
open Go.RowKit Go.Proofs.YthghcpeedmconaaDoorW.PrintWords Go.Proofs.YthghcpeedmconaaDoorW.PrintLast Go.Proofs.YthghcpeedmconaaDoorW.PrintMore
open Num
theorem mem_rd {r : List S42} {i : Nat} (hi : i < r.length) : rd_T42 r (i : Int) ∈ r := by
  unfold rd_T42
  rw [List.getD_eq_getElem?_getD, Int.toNat_natCast, List.getElem?_eq_getElem hi]
  exact List.getElem_mem hi
theorem rows_loop (r s : List S42) (hr : ∀ v ∈ r, I64 v.f1) (hs : ∀ v ∈ s, I64 v.f1) (m : Nat) (hm : m ≤ r.length) (hm2 : m ≤ s.length) (hm3 : m = r.length ∨ m = s.length) (hb : m ≤ 9223372036854775807) : ∀ (d i : Nat), i + d = m → ∀ (k : Nat), d + 6 ≤ k →
    value_Rows.l0 k r s (m : Int) (i : Int) = some (ords (r.drop i) (s.drop i))
  | 0, i, h, k, hk => by
    obtain ⟨k, rfl⟩ : ∃ m, k = m + 1 := ⟨k - 1, by omega⟩
    rw [value_Rows.l0, if_neg (by omega), cmpi_eq, Option.bind_some]
    congr 1
    by_cases e : r.length = s.length
    · rw [List.drop_eq_nil_of_le (show r.length ≤ i by omega), List.drop_eq_nil_of_le (show s.length ≤ i by omega), e, ci_self]; rfl
    · by_cases e2 : r.length < s.length
      · rw [List.drop_eq_nil_of_le (show r.length ≤ i by omega), getD_drop (show i < s.length by omega), ci_lt (by omega)]; rfl
      · rw [List.drop_eq_nil_of_le (show s.length ≤ i by omega), getD_drop (show i < r.length by omega), ci_gt (by omega)]; rfl
  | d + 1, i, h, k, hk => by
    obtain ⟨k, rfl⟩ : ∃ m, k = m + 5 := ⟨k - 5, by omega⟩
    have hi : i < r.length := by omega
    have hi2 : i < s.length := by omega
    rw [show k + 5 = (k + 4) + 1 by omega, value_Rows.l0, if_pos (by omega), if_pos (by omega), if_pos (by omega), if_pos (by omega), getD_drop hi, getD_drop hi2,
      value_Order.eq k _ _ _ _ _ _ (hr _ (mem_rd hi)) (hs _ (mem_rd hi2)), Option.bind_some, show wrap64 ((i : Int) + 1) = ((i + 1 : Nat) : Int) by unfold wrap64; omega,
      rows_loop r s hr hs m hm hm2 hm3 hb d (i + 1) (by omega) (k + 4) (by omega)]
    show _ = some (orI (ord (rd_T42 r i) (rd_T42 s i)) (ords (r.drop (i + 1)) (s.drop (i + 1))))
    unfold orI
    by_cases e : ord (rd_T42 r i) (rd_T42 s i) = 0
    · rw [if_pos e, if_pos e]
    · rw [if_neg e, if_neg e]
theorem value_Rows.eq (r s : List S42) (hr : ∀ v ∈ r, I64 v.f1) (hs : ∀ v ∈ s, I64 v.f1) (hl : r.length ≤ 9223372036854775807) (k : Nat) (hk : r.length + 6 ≤ k ∨ s.length + 6 ≤ k) : value_Rows.f k r s = some (ords r s) := by
  unfold value_Rows.f
  have e : mn (r.length : Int) (s.length : Int) = ((min r.length s.length : Nat) : Int) := by unfold mn; omega
  rw [e]
  have := rows_loop r s hr hs (min r.length s.length) (by omega) (by omega) (by omega) (by omega) (min r.length s.length) 0 (by omega) k (by omega)
  rw [List.drop_zero, List.drop_zero] at this
  exact this
theorem Row_eq (r : List S42) (hn : ∀ v ∈ r, I64 v.f1) (k : Nat) (hk : 30 ≤ k) : rowcode_Row.f k r = some (rowOut r) := by
  unfold rowcode_Row.f
  rw [row_eq r hn k hk, Option.bind_some]
end Go.Proofs.YthghcpeedmconaaDoor.X
end
section
namespace Go.Proofs.YthghcpeedmconaaDoor.X
open Go.RowKit Go.Proofs.YthghcpeedmconaaDoorW.PrintWords Go.Proofs.YthghcpeedmconaaDoorW.PrintLast Go.Proofs.YthghcpeedmconaaDoorW.PrintMore
attribute [local go_sem] max2_int min2_int max_two min_two max_three min_three max_four min_four
set_option linter.unusedVariables false
set_option linter.unusedSimpArgs false
def locksteplaw02_own.f (l0 : List Int) : Option (List Int) := if 0 ≤ (wrap64 ((l0.length : Int) + 2)) then (if (wrap64 ((l0.length : Int) + 2) : Int).toNat ≤ 281474976710656 then ((some (([] : List Int) : List Int)).bind fun y447 => (if y447.length + l0.length < 140737488355328 then (some (y447 ++ l0)) else (none))) else (none)) else (none)
set_option maxHeartbeats 8000000 in
set_option maxRecDepth 100000 in
theorem locksteplaw02_own.calls (A0 : Option Addr) (c0 : Nat) (l0 : List Int) (r : List Int) (w : World) (hr0 : Kd.C (Kd.int .u8) w A0 l0.length l0) (hc0 : l0.length ≤ c0) (h : locksteplaw02_own.f l0 = some r) :
  Calls Tryd.prog 25 #[.slice A0 l0.length c0] w fun e w' => ∃ v0_ : Value, e = .returned (v0_) ∧ Kd.R (Kd.int .u8) 5 w' w.heap.size (fun _ => True) v0_ r ∧ Below w.heap.size w w' := by
 have HR0 := Aside0.mk hr0
 have HC0 := Aside0.mk hc0
 clear hr0 hc0
 have HB := Aside0.mk (Below.refl w.heap.size w)
 have H : (if 0 ≤ (wrap64 ((l0.length : Int) + 2)) then (if (wrap64 ((l0.length : Int) + 2) : Int).toNat ≤ 281474976710656 then ((some (([] : List Int) : List Int)).bind fun y447 => (if y447.length + l0.length < 140737488355328 then (some (y447 ++ l0)) else (none))) else (none)) else (none)) = some r := h
 clear h
 obtain ⟨ji2, hji2⟩ : ∃ j_ : Int, (wrap64 ((l0.length : Int) + 2)) = j_ := ⟨_, rfl⟩
 replace H : (if 0 ≤ (ji2) then (if (ji2 : Int).toNat ≤ 281474976710656 then ((some (([] : List Int) : List Int)).bind fun y447 => (if y447.length + l0.length < 140737488355328 then (some (y447 ++ l0)) else (none))) else (none)) else (none)) = some r := by first | (rw [hji2] at H; exact H) | (simp only [hji2] at H ⊢; exact H)
 have hji2w : (IntKind.i64.wrap ((l0.length : Int) + 2)) = ji2 := (i64_w _).trans hji2
 by_cases c3 : 0 ≤ (ji2)
 ·
  rw [if_pos c3] at H
  have c3b0 := eq_true c3
  have c3b1 : decide (0 ≤ (ji2)) = true := decide_eq_true c3
  clear c3
  by_cases c4 : (ji2 : Int).toNat ≤ 281474976710656
  ·
   rw [if_pos c4] at H
   have c4b0 := eq_true c4
   have c4b1 : decide ((ji2 : Int).toNat ≤ 281474976710656) = true := decide_eq_true c4
   clear c4
   obtain ⟨y447, hy447⟩ : ∃ y_ : List Int, y_ = (([] : List Int)) := ⟨_, rfl⟩
   replace H : (if y447.length + l0.length < 140737488355328 then (some (y447 ++ l0)) else (none)) = some r := by first | (rw [hy447]; with_reducible exact H) | (have H2_ := (Option.bind_some _ _).symm.trans H; rw [hy447]; with_reducible exact H2_) | (have H2_ := (Option.bind_some _ _).symm.trans H; with_reducible exact H2_) | with_reducible exact H | (rw [hy447]; exact H) | exact H
   have Ny447 := Aside0.mk hy447
   clear hy447
   by_cases c5 : y447.length + l0.length < 140737488355328
   ·
    rw [if_pos c5] at H
    have LMc5 := Aside0.mk c5
    clear c5
    obtain ⟨y450, hy450⟩ : ∃ y_ : List Int, y_ = (y447 ++ l0) := ⟨_, rfl⟩
    replace H : (some y450) = some r := by first | (rw [hy450]; with_reducible exact H) | (have H2_ := (Option.bind_some _ _).symm.trans H; rw [hy450]; with_reducible exact H2_) | (have H2_ := (Option.bind_some _ _).symm.trans H; with_reducible exact H2_) | with_reducible exact H | (rw [hy450]; exact H) | exact H
    have Ny450 := Aside0.mk hy450
    clear hy450
    obtain rfl := Option.some.inj H
    go_enter Tryd.func25, Tryd.ntmps25
    go_wp2_with (first | ((with_reducible refine gate_dst (N := 6) rfl ?_); refine Kd.R_make0 (Kd.int .u8) _ 5 rfl (N := 6) rfl 47 _ _ rfl ji2 rfl rfl Tryd.underlying47 (.int .u8 0) 1 info5 rfl (by decide) (by omega) 0 (ok := fun _ => True) (okp := fun _ => True) rfl (fun _ hk => hk) trivial (of_decide_eq_true (by first | (with_reducible assumption) | assumption)) (Nat.le_trans (Nat.mul_le_mul_right _ (of_decide_eq_true (by first | (with_reducible assumption) | assumption) : ji2.toNat ≤ 281474976710656)) (by omega)) (Below.refl _ _) (Nat.le_refl _) ?_; intro v448 w6 ho7 hb hg_ hnew_; clear hg_ hnew_; (first | rw [← Ny447.out] at ho7 | (simp only [Int.reduceToNat] at ho7; rw [← Ny447.out] at ho7)); have n0_ := Aside0.mk (Kd.R_lower ho7 (below_size (by repeat (first | (with_reducible first | exact HB.out | apply below_alloc | apply pw_below_drewN | apply below_drew1) | exact HB.out)))); have n1_ := Aside0.mk (below_step (by repeat (first | (with_reducible first | exact HB.out | apply below_alloc | apply pw_below_drewN | apply below_drew1) | exact HB.out)) hb); clear HB; have HO449 := n0_; have HB := n1_; clear n0_ n1_; clear hb ho7) | ((with_reducible refine gate_builtin (b := .append) (xs := #[.tmp 6, .tmp 7]) rfl ?_); at_builtin; refine Kd.R_append_rows (Kd.int .u8) (w0 := w) w.heap.size rfl (.tmp 6) (.tmp 7) 47 5 (.int .u8 0) 1 rfl Tryd.underlying47 info5 rfl (by decide) (by omega) v448 y447 l0 _ _ _ (fun _ => True) (fun _ => False) rfl rfl ?aO ?aR (fun _ _ h => h) (fun _ h => h.elim) ?aF ?aB ?aS ?aL ?_; (case aR => repeat (first | exact (Kd.C_below HR0.out HB.out) | (with_reducible refine Kd.C_alloc ?_ _) | (with_reducible refine Kd.C_drewN ?_ _) | (with_reducible refine Kd.C_drew ?_))); (case aB => exact (by repeat (first | (with_reducible first | exact HB.out | apply below_alloc | apply pw_below_drewN | apply below_drew1) | exact HB.out))); (case aF => exact (fun _ _ => trivial)); (case aO => exact (by (with_reducible repeat (first | apply Kd.R_alloc | apply Kd.R_drewN | apply Kd.R_drew)); exact HO449.out)); (case aS => exact (below_size (by repeat (first | (with_reducible first | exact HB.out | apply below_alloc | apply pw_below_drewN | apply below_drew1) | exact HB.out)))); (case aL => have := LMc5.out; omega); intro v451 w8 ho hb hg hat; rw [← Ny450.out] at ho; have n0_ := Aside0.mk (hb); have n1_ := Aside0.mk (ho); clear HB; clear HO449; have HB := n0_; have HO452 := n1_; clear n0_ n1_; clear ho hb hg hat))
    go_ret
    exact ⟨_, by first | rfl | (simp [errW_none, errW_some] <;> rfl) | (simp only [← hji2]; first | rfl | (simp [errW_none, errW_some] <;> rfl)) | (simp [*, errW_none, errW_some] <;> rfl), by (with_reducible repeat (first | apply Kd.R_alloc | apply Kd.R_drewN | apply Kd.R_drew)); exact HO452.out, by repeat (first | (with_reducible first | exact HB.out | apply below_alloc | apply pw_below_drewN | apply below_drew1) | exact HB.out)⟩
   ·
    rw [if_neg c5] at H
    exact absurd H (by simp)
  ·
   rw [if_neg c4] at H
   exact absurd H (by simp)
 ·
  rw [if_neg c3] at H
  exact absurd H (by simp)
def lockstepref02_Same.f (a0_0 : Int) (a0_1 : Int) (a0_2 : ByteArray) (a1_0 : Int) (a1_1 : Int) (a1_2 : ByteArray) : Option (Bool) := if a0_0 = a1_0 then (if a0_1 = a1_1 then (some (a0_2.toList == a1_2.toList)) else (some false)) else (some false)
set_option maxHeartbeats 8000000 in
set_option maxRecDepth 100000 in
theorem lockstepref02_Same.calls (a0_0 : Int) (a0_1 : Int) (a0_2 : ByteArray) (a1_0 : Int) (a1_1 : Int) (a1_2 : ByteArray) (r : Bool) (w : World) (h : lockstepref02_Same.f a0_0 a0_1 a0_2 a1_0 a1_1 a1_2 = some r) :
  Calls Tryd.prog 30 #[.agg #[.int .i64 a0_0, .int .i64 a0_1, .string a0_2], .agg #[.int .i64 a1_0, .int .i64 a1_1, .string a1_2]] w fun e w' => e = .returned (.bool r) ∧ Below w.heap.size w w' := by
 have hu42 := Tryd.underlying42
 have HB := am (Below.refl w.heap.size w)
 have H : (if a0_0 = a1_0 then (if a0_1 = a1_1 then (some (a0_2.toList == a1_2.toList)) else (some false)) else (some false)) = some r := h
 clear h
 by_cases c3 : a0_0 = a1_0
 rotate_left
 ·
  rw [if_neg c3] at H
  have c3b0 : (a0_0 == a1_0) = false := beq_eq_false_iff_ne.mpr c3
  have c3b1 : (a0_0 != a1_0) = true := bne_iff_ne.mpr c3
  obtain rfl := Option.some.inj H
  go_enter Tryd.func30, Tryd.ntmps30
  go_wp2_with (first | ((with_reducible refine gate_dst (N := 2) rfl ?_); refine box_event ?hg (N := 2) ?hd (cs := #[.int .i64 a0_0, .int .i64 a0_1, .string a0_2]) (t := 42) ?hr ?_; (case hd => rfl); (case hg => rfl); (case hr => (go_simp; done)); intro gb588 hg w15 hbox hb; have BK588 := am (hbox); have GW588 := am ((by rw [hg]; exact (below_size HB.out) : w.heap.size ≤ gb588)); have GE588 := am ((by rw [hg]; exact (below_size HB.out) : w.heap.size ≤ gb588)); replace HB := am (below_step HB.out hb); clear hb hbox hg) | ((with_reducible refine gate_dst (N := 3) rfl ?_); refine box_event ?hg (N := 3) ?hd (cs := #[.int .i64 a1_0, .int .i64 a1_1, .string a1_2]) (t := 42) ?hr ?_; (case hd => rfl); (case hg => rfl); (case hr => (go_simp; done)); intro gb589 hg w16 hbox hb; have BK589 := am (hbox); have GW589 := am ((by rw [hg]; exact (below_size HB.out) : w.heap.size ≤ gb589)); have GE589 := am ((by rw [hg]; exact (below_size HB.out) : w.heap.size ≤ gb589)); replace HB := am (below_step HB.out hb); have NB588_589 := am ((by rw [hg]; exact Nat.ne_of_lt (blk_lt (g := gb588) (o := .cells #[.int .i64 a0_0, .int .i64 a0_1, .string a0_2] 42 (0, 0)) (by exact BK588.out)) : gb588 ≠ gb589)); have NB589_588 := am ((by rw [hg]; exact Nat.ne_of_gt (blk_lt (g := gb588) (o := .cells #[.int .i64 a0_0, .int .i64 a0_1, .string a0_2] 42 (0, 0)) (by exact BK588.out)) : gb589 ≠ gb588)); replace BK588 := am (blk_below (g := gb588) (o := .cells #[.int .i64 a0_0, .int .i64 a0_1, .string a0_2] 42 (0, 0)) (by exact BK588.out) hb); clear hb hbox hg; have hnb17 := eq_false NB588_589.out; have hnc17 := eq_false NB589_588.out; have hcz18_0 : w16.cell? ⟨gb588, 0, none⟩ = some (.int .i64 a0_0) := (blk_cell BK588.out 0).trans rfl; have hcz18_1 : w16.cell? ⟨gb588, 1, none⟩ = some (.int .i64 a0_1) := (blk_cell BK588.out 1).trans rfl; have hcz18_2 : w16.cell? ⟨gb588, 2, none⟩ = some (.string a0_2) := (blk_cell BK588.out 2).trans rfl; have hfz18_0 := blk_frozen BK588.out 0; have hfz18_1 := blk_frozen BK588.out 1; have hfz18_2 := blk_frozen BK588.out 2; have hcz19_0 : w16.cell? ⟨gb589, 0, none⟩ = some (.int .i64 a1_0) := (blk_cell BK589.out 0).trans rfl; have hcz19_1 : w16.cell? ⟨gb589, 1, none⟩ = some (.int .i64 a1_1) := (blk_cell BK589.out 1).trans rfl; have hcz19_2 : w16.cell? ⟨gb589, 2, none⟩ = some (.string a1_2) := (blk_cell BK589.out 2).trans rfl; have hfz19_0 := blk_frozen BK589.out 0; have hfz19_1 := blk_frozen BK589.out 1; have hfz19_2 := blk_frozen BK589.out 2))
  go_ret
  exact ⟨by rfl, by exact HB.out⟩
 rw [if_pos c3] at H
 have c3b0 : (a0_0 == a1_0) = true := beq_iff_eq.mpr c3
 have c3b1 : (a0_0 != a1_0) = false := bne_eq_false_iff_eq.mpr c3
 clear c3
 by_cases c4 : a0_1 = a1_1
 rotate_left
 ·
  rw [if_neg c4] at H
  have c4b0 : (a0_1 == a1_1) = false := beq_eq_false_iff_ne.mpr c4
  have c4b1 : (a0_1 != a1_1) = true := bne_iff_ne.mpr c4
  obtain rfl := Option.some.inj H
  go_enter Tryd.func30, Tryd.ntmps30
  go_wp2_with (first | ((with_reducible refine gate_dst (N := 2) rfl ?_); refine box_event ?hg (N := 2) ?hd (cs := #[.int .i64 a0_0, .int .i64 a0_1, .string a0_2]) (t := 42) ?hr ?_; (case hd => rfl); (case hg => rfl); (case hr => (go_simp; done)); intro gb588 hg w10 hbox hb; have BK588 := am (hbox); have GW588 := am ((by rw [hg]; exact (below_size HB.out) : w.heap.size ≤ gb588)); have GE588 := am ((by rw [hg]; exact (below_size HB.out) : w.heap.size ≤ gb588)); replace HB := am (below_step HB.out hb); clear hb hbox hg) | ((with_reducible refine gate_dst (N := 3) rfl ?_); refine box_event ?hg (N := 3) ?hd (cs := #[.int .i64 a1_0, .int .i64 a1_1, .string a1_2]) (t := 42) ?hr ?_; (case hd => rfl); (case hg => rfl); (case hr => (go_simp; done)); intro gb589 hg w11 hbox hb; have BK589 := am (hbox); have GW589 := am ((by rw [hg]; exact (below_size HB.out) : w.heap.size ≤ gb589)); have GE589 := am ((by rw [hg]; exact (below_size HB.out) : w.heap.size ≤ gb589)); replace HB := am (below_step HB.out hb); have NB588_589 := am ((by rw [hg]; exact Nat.ne_of_lt (blk_lt (g := gb588) (o := .cells #[.int .i64 a0_0, .int .i64 a0_1, .string a0_2] 42 (0, 0)) (by exact BK588.out)) : gb588 ≠ gb589)); have NB589_588 := am ((by rw [hg]; exact Nat.ne_of_gt (blk_lt (g := gb588) (o := .cells #[.int .i64 a0_0, .int .i64 a0_1, .string a0_2] 42 (0, 0)) (by exact BK588.out)) : gb589 ≠ gb588)); replace BK588 := am (blk_below (g := gb588) (o := .cells #[.int .i64 a0_0, .int .i64 a0_1, .string a0_2] 42 (0, 0)) (by exact BK588.out) hb); clear hb hbox hg; have hnb12 := eq_false NB588_589.out; have hnc12 := eq_false NB589_588.out; have hcz13_0 : w11.cell? ⟨gb588, 0, none⟩ = some (.int .i64 a0_0) := (blk_cell BK588.out 0).trans rfl; have hcz13_1 : w11.cell? ⟨gb588, 1, none⟩ = some (.int .i64 a0_1) := (blk_cell BK588.out 1).trans rfl; have hcz13_2 : w11.cell? ⟨gb588, 2, none⟩ = some (.string a0_2) := (blk_cell BK588.out 2).trans rfl; have hfz13_0 := blk_frozen BK588.out 0; have hfz13_1 := blk_frozen BK588.out 1; have hfz13_2 := blk_frozen BK588.out 2; have hcz14_0 : w11.cell? ⟨gb589, 0, none⟩ = some (.int .i64 a1_0) := (blk_cell BK589.out 0).trans rfl; have hcz14_1 : w11.cell? ⟨gb589, 1, none⟩ = some (.int .i64 a1_1) := (blk_cell BK589.out 1).trans rfl; have hcz14_2 : w11.cell? ⟨gb589, 2, none⟩ = some (.string a1_2) := (blk_cell BK589.out 2).trans rfl; have hfz14_0 := blk_frozen BK589.out 0; have hfz14_1 := blk_frozen BK589.out 1; have hfz14_2 := blk_frozen BK589.out 2))
  go_ret
  exact ⟨by rfl, by exact HB.out⟩
 rw [if_pos c4] at H
 have c4b0 : (a0_1 == a1_1) = true := beq_iff_eq.mpr c4
 have c4b1 : (a0_1 != a1_1) = false := bne_eq_false_iff_eq.mpr c4
 clear c4
 obtain rfl := Option.some.inj H
 go_enter Tryd.func30, Tryd.ntmps30
 go_wp2_with (first | ((with_reducible refine gate_dst (N := 2) rfl ?_); refine box_event ?hg (N := 2) ?hd (cs := #[.int .i64 a0_0, .int .i64 a0_1, .string a0_2]) (t := 42) ?hr ?_; (case hd => rfl); (case hg => rfl); (case hr => (go_simp; done)); intro gb588 hg w5 hbox hb; have BK588 := am (hbox); have GW588 := am ((by rw [hg]; exact (below_size HB.out) : w.heap.size ≤ gb588)); have GE588 := am ((by rw [hg]; exact (below_size HB.out) : w.heap.size ≤ gb588)); replace HB := am (below_step HB.out hb); clear hb hbox hg) | ((with_reducible refine gate_dst (N := 3) rfl ?_); refine box_event ?hg (N := 3) ?hd (cs := #[.int .i64 a1_0, .int .i64 a1_1, .string a1_2]) (t := 42) ?hr ?_; (case hd => rfl); (case hg => rfl); (case hr => (go_simp; done)); intro gb589 hg w6 hbox hb; have BK589 := am (hbox); have GW589 := am ((by rw [hg]; exact (below_size HB.out) : w.heap.size ≤ gb589)); have GE589 := am ((by rw [hg]; exact (below_size HB.out) : w.heap.size ≤ gb589)); replace HB := am (below_step HB.out hb); have NB588_589 := am ((by rw [hg]; exact Nat.ne_of_lt (blk_lt (g := gb588) (o := .cells #[.int .i64 a0_0, .int .i64 a0_1, .string a0_2] 42 (0, 0)) (by exact BK588.out)) : gb588 ≠ gb589)); have NB589_588 := am ((by rw [hg]; exact Nat.ne_of_gt (blk_lt (g := gb588) (o := .cells #[.int .i64 a0_0, .int .i64 a0_1, .string a0_2] 42 (0, 0)) (by exact BK588.out)) : gb589 ≠ gb588)); replace BK588 := am (blk_below (g := gb588) (o := .cells #[.int .i64 a0_0, .int .i64 a0_1, .string a0_2] 42 (0, 0)) (by exact BK588.out) hb); clear hb hbox hg; have hnb7 := eq_false NB588_589.out; have hnc7 := eq_false NB589_588.out; have hcz8_0 : w6.cell? ⟨gb588, 0, none⟩ = some (.int .i64 a0_0) := (blk_cell BK588.out 0).trans rfl; have hcz8_1 : w6.cell? ⟨gb588, 1, none⟩ = some (.int .i64 a0_1) := (blk_cell BK588.out 1).trans rfl; have hcz8_2 : w6.cell? ⟨gb588, 2, none⟩ = some (.string a0_2) := (blk_cell BK588.out 2).trans rfl; have hfz8_0 := blk_frozen BK588.out 0; have hfz8_1 := blk_frozen BK588.out 1; have hfz8_2 := blk_frozen BK588.out 2; have hcz9_0 : w6.cell? ⟨gb589, 0, none⟩ = some (.int .i64 a1_0) := (blk_cell BK589.out 0).trans rfl; have hcz9_1 : w6.cell? ⟨gb589, 1, none⟩ = some (.int .i64 a1_1) := (blk_cell BK589.out 1).trans rfl; have hcz9_2 : w6.cell? ⟨gb589, 2, none⟩ = some (.string a1_2) := (blk_cell BK589.out 2).trans rfl; have hfz9_0 := blk_frozen BK589.out 0; have hfz9_1 := blk_frozen BK589.out 1; have hfz9_2 := blk_frozen BK589.out 2))
 go_ret
 exact ⟨by rfl, by exact HB.out⟩
def rowcode_readRow.l0 : Nat → List Int → List (S42) → Option ((List (S42)) × List Int × Int)
 | 0, _, _ => none
 | k + 1, x0, x5 => if (x0.length : Int) = 0 then (some (([] : List (S42)), ([] : List Int), 4)) else (if 0 < (x0.length : Int) then (if (rd x0 0) = 0 then (if 1 ≤ (x0.length : Int) then (some (x5, (x0.drop 1), 0)) else (none)) else (if (x5.length : Int) = 16 then (some (([] : List (S42)), ([] : List Int), 20)) else ((rowcode_read.f k x0).bind fun bt624 => (if bt624.2.2.2.2 = 0 then (if x5.length < 4398046511104 then (rowcode_readRow.l0 k bt624.2.2.2.1 (x5 ++ [(⟨bt624.1, bt624.2.1, bt624.2.2.1⟩ : S42)])) else (none)) else (some (([] : List (S42)), ([] : List Int), bt624.2.2.2.2)))))) else (none))
def rowcode_readRow.f (k : Nat) (l0 : List Int) : Option ((List (S42)) × List Int × Int) := rowcode_readRow.l0 k l0 ([] : List (S42))
set_option maxHeartbeats 8000000 in
set_option maxRecDepth 100000 in
theorem rowcode_readRow.calls (k : Nat) (P0_ : Nat → Prop) (A0 : Option Addr) (c0 : Nat) (l0 : List Int) (r1 : List (S42)) (r2 : List Int) (r3 : Int) (w : World) (hT : Tabs w) (hs0 : Kd.V (Kd.int .u8) 5 w w.heap.size (fun k_ => P0_ k_) (.slice A0 l0.length c0) l0) (h : rowcode_readRow.f k l0 = some (r1, r2, r3)) :
  Calls Tryd.prog 60 #[.slice A0 l0.length c0] w fun e w' => ∃ v0_ v1_ : Value, e = .returned (.tuple #[v0_, v1_, .int .i64 r3]) ∧ Kd.R k42 42 w' w.heap.size (fun k_ => (w.heap.size ≤ k_)) v0_ r1 ∧ Kd.V (Kd.int .u8) 5 w' w.heap.size (fun k_ => (P0_ k_ ∨ w.heap.size ≤ k_) ∧ some k_ ≠ (v0_ : Value).ownBlock) v1_ r2 ∧ Below w.heap.size w w' := by
 have hu42 := Tryd.underlying42
 have HT := am hT
 clear hT
 have HO0 := am (show Kd.V (Kd.int .u8) 5 w w.heap.size (fun k_ => (P0_ k_ ∨ w.heap.size ≤ k_)) (.slice A0 l0.length c0) l0 from Kd.V_mono hs0 (fun k_ hk => .inl hk))
 have HB := am (Below.refl w.heap.size w)
 have H : (rowcode_readRow.l0 k l0 ([] : List (S42))) = some (r1, r2, r3) := h
 clear h
 have H' := am H
 clear H
 go_enter Tryd.func60, Tryd.ntmps60
 go_wp2
 repeat ((with_reducible refine at_region ?_); go_quiet (fail); try go_wp2)
 go_loopg [0, 5] k (fun kq v0 v5 w' => ∃ (x0_1 : List Int) (x5_1 : List (S42)), Aside0 (rowcode_readRow.l0 kq x0_1 x5_1 = some (r1, r2, r3)) ∧ Aside0 (kq ≤ k) ∧ Aside0 (Kd.V (Kd.int .u8) 5 w' w.heap.size (fun k_ => (P0_ k_ ∨ w.heap.size ≤ k_) ∧ some k_ ≠ (v5 : Value).ownBlock) v0 x0_1) ∧ Aside0 (Kd.R k42 42 w' w.heap.size (fun k_ => (w.heap.size ≤ k_)) v5 x5_1) ∧ Aside0 (Below w.heap.size w w'))
 case atStart => exact ⟨(l0), (([] : List (S42))), H', ⟨Nat.le_refl _⟩, ⟨by exact Kd.V_mono HO0.out (fun _ hk => ⟨hk, (by simp [Value.ownBlock])⟩)⟩, ⟨by exact Kd.R_nil _ _ _ _ _⟩, ⟨by exact HB.out⟩⟩
 case round =>
  clear H'
  obtain ⟨x0_1, x5_1, HA, HK1, HO_0, HO_5, HB⟩ := hrel
  cases gk with
  | zero => exact absurd HA.out (by simp [rowcode_readRow.l0])
  | succ k1 =>
   have H := HA.out
   clear HA
   simp only [rowcode_readRow.l0] at H
   by_cases c2 : (x0_1.length : Int) = 0
   ·
    rw [if_pos c2] at H
    have c2b0 : ((x0_1.length : Int) == 0) = true := beq_iff_eq.mpr c2
    have c2b1 : ((x0_1.length : Int) != 0) = false := bne_eq_false_iff_eq.mpr c2
    clear c2
    simp only [Option.some.injEq, Prod.mk.injEq] at H
    obtain ⟨rfl, rfl, rfl⟩ := H
    obtain ⟨Ao3, co3, eo3⟩ := Kd.V_slice HO_0.out
    subst eo3
    go_wp2
    repeat ((with_reducible refine at_region ?_); go_quiet (fail); try go_wp2)
    go_ret3
    exact ⟨_, _, by rfl, by exact Kd.R_nil _ _ _ _ _, Kd.V_nil _ _ _ _ _, by exact HB.out⟩
   rw [if_neg c2] at H
   have c2b0 : ((x0_1.length : Int) == 0) = false := beq_eq_false_iff_ne.mpr c2
   have c2b1 : ((x0_1.length : Int) != 0) = true := bne_iff_ne.mpr c2
   have c2b2 : ¬ (x0_1 = []) := fun h_ => c2 (by rw [h_]; rfl)
   replace H := its H
   obtain ⟨c4, H⟩ := H
   have c4b0 := decide_eq_true c4
   have c4b1 : decide (0 < x0_1.length) = true := decide_eq_true (by omega)
   clear c4
   by_cases c5 : (rd x0_1 0) = 0
   ·
    rw [if_pos c5] at H
    have c5b0 : ((rd x0_1 0) == 0) = true := beq_iff_eq.mpr c5
    have c5b1 : ((rd x0_1 0) != 0) = false := bne_eq_false_iff_eq.mpr c5
    clear c5
    replace H := its H
    obtain ⟨c6, H⟩ := H
    have c6b0 := eq_true c6
    have c6b1 := decide_eq_true c6
    clear c6
    obtain ⟨y619, hy619⟩ : ∃ y_ : List Int, y_ = (x0_1.drop 1) := ⟨_, rfl⟩
    replace H : (some (x5_1, y619, 0)) = some (r1, r2, r3) := by (rw [hy619]; with_reducible exact H)
    have Ny619 := am hy619
    clear hy619
    simp only [Option.some.injEq, Prod.mk.injEq] at H
    obtain ⟨rfl, rfl, rfl⟩ := H
    obtain ⟨Ao7, co7, eo7⟩ := Kd.V_slice HO_0.out
    subst eo7
    have p618 : 0 ≤ (0 : Int) := (by omega)
    have q618 : 0 < (x0_1.length : Int) := of_decide_eq_true (by assumption)
    obtain ⟨ad618, e618, hx618_0⟩ := Kd.at_int (Kd.V_reads' HO_0.out).2.2 0 p618 q618
    cases e618
    have qi618 : (0 < x0_1.length) = True := eq_true (by omega)
    (try rw [show ((0 : Int)).toNat = 0 from rfl] at hx618_0)
    (try rw [Addr.add_zero'] at hx618_0)
    replace p618 := eq_true p618
    replace q618 := eq_true q618
    have q8 : (1 : Int) ≤ ((x0_1.length : Int) : Int) := of_decide_eq_true (by assumption)
    obtain ⟨i08, hi08, _, hsz8, _⟩ := info_parts info5
    have hroom8 : x0_1.length ≤ co7 := (Kd.V_reads' HO_0.out).2.1
    have hC8 : Kd.F (Kd.int .u8) _ _ (some ad618) x0_1.length x0_1 := (Kd.V_at (base := w.heap.size) HO_0.out).2.2
    have hcut8 := cut_from (P := Tryd.prog) 47 5 .i64 Tryd.underlying47 hi08 1 hsz8 (some ad618) x0_1.length co7 1 (by omega) q8
    have hr8 := Kd.F_cut (m := (1 : Int).toNat) (c := co7) hC8 (by omega) hroom8
    obtain ⟨A8, hA8⟩ : ∃ A1, A1 = (if co7 = (1 : Int).toNat then (some ad618) else ((some ad618) : Option Addr).map (·.add ((1 : Int).toNat * 1))) := ⟨_, rfl⟩
    obtain ⟨c8, hc8⟩ : ∃ c1, c1 = co7 - (1 : Int).toNat := ⟨_, rfl⟩
    have hy8 : y619.length = x0_1.length - (1 : Int).toNat := (by rw [Ny619.out, List.length_drop] <;> omega)
    rw [show (x0_1).drop (1 : Int).toNat = y619 from Ny619.out.symm] at hr8
    replace hr8 : Kd.F (Kd.int .u8) _ _ A8 y619.length y619 := (by rw [hA8]; exact hr8)
    rw [← hy8, ← hA8, ← hc8] at hcut8
    have HO623 := am (show Kd.V (Kd.int .u8) 5 _ w.heap.size _ (.slice A8 y619.length c8) y619 from Kd.V_mk (by rw [hy8, hc8]; exact Nat.sub_le_sub_right hroom8 _) hr8)
    have HC623 := am (show y619.length ≤ c8 from by rw [hy8, hc8]; exact Nat.sub_le_sub_right hroom8 _)
    clear hr8 hC8 hroom8 hi08 hsz8 hc8
    have KY8 := am hy8
    have KA8 := am hA8
    clear hy8 hA8
    replace q8 := eq_true q8
    go_wp2
    repeat ((with_reducible refine at_region ?_); go_quiet (fail); try go_wp2)
    go_ret3
    exact ⟨_, _, by rfl, by (with_reducible repeat (apply Kd.R_drewN)); exact HO_5.out, by (with_reducible repeat (apply Kd.V_drewN)); exact HO623.out, by repeat ((with_reducible first | exact HB.out | apply pw_below_drewN))⟩
   rw [if_neg c5] at H
   have c5b0 : ((rd x0_1 0) == 0) = false := beq_eq_false_iff_ne.mpr c5
   have c5b1 : ((rd x0_1 0) != 0) = true := bne_iff_ne.mpr c5
   by_cases c9 : (x5_1.length : Int) = 16
   ·
    rw [if_pos c9] at H
    have c9b0 : ((x5_1.length : Int) == 16) = true := beq_iff_eq.mpr c9
    have c9b1 : ((x5_1.length : Int) != 16) = false := bne_eq_false_iff_eq.mpr c9
    clear c9
    simp only [Option.some.injEq, Prod.mk.injEq] at H
    obtain ⟨rfl, rfl, rfl⟩ := H
    obtain ⟨Ao10, co10, eo10⟩ := Kd.V_slice HO_0.out
    subst eo10
    have p618 : 0 ≤ (0 : Int) := (by omega)
    have q618 : 0 < (x0_1.length : Int) := of_decide_eq_true (by assumption)
    obtain ⟨ad618, e618, hx618_0⟩ := Kd.at_int (Kd.V_reads' HO_0.out).2.2 0 p618 q618
    cases e618
    have qi618 : (0 < x0_1.length) = True := eq_true (by omega)
    (try rw [show ((0 : Int)).toNat = 0 from rfl] at hx618_0)
    (try rw [Addr.add_zero'] at hx618_0)
    replace p618 := eq_true p618
    replace q618 := eq_true q618
    obtain ⟨Ao11, co11, eo11⟩ := Kd.R_slice HO_5.out
    subst eo11
    go_wp2
    repeat ((with_reducible refine at_region ?_); go_quiet (fail); try go_wp2)
    go_ret3
    exact ⟨_, _, by rfl, by exact Kd.R_nil _ _ _ _ _, Kd.V_nil _ _ _ _ _, by exact HB.out⟩
   rw [if_neg c9] at H
   have c9b0 : ((x5_1.length : Int) == 16) = false := beq_eq_false_iff_ne.mpr c9
   have c9b1 : ((x5_1.length : Int) != 16) = true := bne_iff_ne.mpr c9
   replace H := Option.bind_eq_some_iff.mp H
   obtain ⟨⟨t624, t625, t626, t627, t630⟩, A120, H⟩ := H
   replace H : (if t630 = 0 then (if x5_1.length < 4398046511104 then (rowcode_readRow.l0 k1 t627 (x5_1 ++ [(⟨t624, t625, t626⟩ : S42)])) else (none)) else (some (([] : List (S42)), ([] : List Int), t630))) = some (r1, r2, r3) := H
   have A12 := am A120
   clear A120
   by_cases c13 : t630 = 0
   rotate_left
   ·
    rw [if_neg c13] at H
    have c13b0 : (t630 == 0) = false := beq_eq_false_iff_ne.mpr c13
    have c13b1 : (t630 != 0) = true := bne_iff_ne.mpr c13
    simp only [Option.some.injEq, Prod.mk.injEq] at H
    obtain ⟨rfl, rfl, rfl⟩ := H
    obtain ⟨Ao21, co21, eo21⟩ := Kd.V_slice HO_0.out
    subst eo21
    have p618 : 0 ≤ (0 : Int) := (by omega)
    have q618 : 0 < (x0_1.length : Int) := of_decide_eq_true (by assumption)
    obtain ⟨ad618, e618, hx618_0⟩ := Kd.at_int (Kd.V_reads' HO_0.out).2.2 0 p618 q618
    cases e618
    have qi618 : (0 < x0_1.length) = True := eq_true (by omega)
    (try rw [show ((0 : Int)).toNat = 0 from rfl] at hx618_0)
    (try rw [Addr.add_zero'] at hx618_0)
    replace p618 := eq_true p618
    replace q618 := eq_true q618
    obtain ⟨Ao22, co22, eo22⟩ := Kd.R_slice HO_5.out
    subst eo22
    go_wp2_with (first | (go_at_call 57; (with_reducible refine (rowcode_read.calls k1 (fun k_ => ((P0_ k_ ∨ w.heap.size ≤ k_) ∧ some k_ ≠ (.slice Ao22 x5_1.length co22 : Value).ownBlock)) _ _ x0_1 t624 t625 t626 t627 t630 _ ?side1 ?side2 A12.out).mono ?_); (case side1 => exact Tabs.below HT.out HB.out); (case side2 => exact HO_0.out); rintro e w23 ⟨v628, rfl, ho0, hb⟩; replace HO_0 := am (Kd.V_below HO_0.out hb); have HO629 := am (Kd.V_lower (Kd.V_mono (ok' := fun k_ => (P0_ k_ ∨ w.heap.size ≤ k_) ∧ some k_ ≠ (.slice Ao22 x5_1.length co22 : Value).ownBlock) ho0 (fun k_ hk_ => ⟨Or.elim hk_ (fun hs_ => hs_.1) (fun hn_ => (.inr (Nat.le_trans (below_size HB.out) hn_))), Or.elim hk_ (fun hs_ => hs_.2) (fun hn_ => (Kd.fresh' (Kd.R_lt HO_5.out) k_ hn_))⟩)) (below_size HB.out)); replace HO_5 := am (Kd.R_below HO_5.out hb); replace HB := am (below_step HB.out hb); (try clear hb); (try clear ho0)) | ((with_reducible refine gate_dst (N := 6) rfl ?_); refine box_event ?hg (N := 6) ?hd (cs := #[.int .i64 0, .int .i64 0, .string (⟨#[]⟩ : ByteArray)]) (t := 42) ?hr ?_; (case hd => rfl); (case hg => rfl); (case hr => (go_simp; done)); intro gb631 hg w24 hbox hb; replace HO_0 := am (Kd.V_below (Kd.V_elderB HO_0.out gb631 (Nat.le_of_eq hg.symm)) hb); replace HO_5 := am (Kd.R_below (Kd.R_elderB HO_5.out gb631 (Nat.le_of_eq hg.symm)) hb); replace HO629 := am (Kd.V_below (Kd.V_elderB HO629.out gb631 (Nat.le_of_eq hg.symm)) hb); have BK631 := am (hbox); have GW631 := am ((by rw [hg]; exact (below_size HB.out) : w.heap.size ≤ gb631)); have GE631 := am ((by rw [hg]; exact (below_size HB.out) : w.heap.size ≤ gb631)); replace HB := am (below_step HB.out hb); clear hb hbox hg; have hcz25_0 : w24.cell? ⟨gb631, 0, none⟩ = some (.int .i64 0) := (blk_cell BK631.out 0).trans rfl; have hcz25_1 : w24.cell? ⟨gb631, 1, none⟩ = some (.int .i64 0) := (blk_cell BK631.out 1).trans rfl; have hcz25_2 : w24.cell? ⟨gb631, 2, none⟩ = some (.string (⟨#[]⟩ : ByteArray)) := (blk_cell BK631.out 2).trans rfl; have hfz25_0 := blk_frozen BK631.out 0; have hfz25_1 := blk_frozen BK631.out 1; have hfz25_2 := blk_frozen BK631.out 2))
    repeat ((with_reducible refine at_region ?_); go_quiet (first | (go_at_call 57; (with_reducible refine (rowcode_read.calls k1 (fun k_ => ((P0_ k_ ∨ w.heap.size ≤ k_) ∧ some k_ ≠ (.slice Ao22 x5_1.length co22 : Value).ownBlock)) _ _ x0_1 t624 t625 t626 t627 t630 _ ?side1 ?side2 A12.out).mono ?_); (case side1 => exact Tabs.below HT.out HB.out); (case side2 => exact HO_0.out); rintro e w23 ⟨v628, rfl, ho0, hb⟩; replace HO_0 := am (Kd.V_below HO_0.out hb); have HO629 := am (Kd.V_lower (Kd.V_mono (ok' := fun k_ => (P0_ k_ ∨ w.heap.size ≤ k_) ∧ some k_ ≠ (.slice Ao22 x5_1.length co22 : Value).ownBlock) ho0 (fun k_ hk_ => ⟨Or.elim hk_ (fun hs_ => hs_.1) (fun hn_ => (.inr (Nat.le_trans (below_size HB.out) hn_))), Or.elim hk_ (fun hs_ => hs_.2) (fun hn_ => (Kd.fresh' (Kd.R_lt HO_5.out) k_ hn_))⟩)) (below_size HB.out)); replace HO_5 := am (Kd.R_below HO_5.out hb); replace HB := am (below_step HB.out hb); ) | ((with_reducible refine gate_dst (N := 6) rfl ?_); refine box_event ?hg (N := 6) ?hd (cs := #[.int .i64 0, .int .i64 0, .string (⟨#[]⟩ : ByteArray)]) (t := 42) ?hr ?_; (case hd => rfl); (case hg => rfl); (case hr => first | (go_simp; done) | (go_simp; rfl)); intro gb631 hg w24 hbox hb; replace HO_0 := am (Kd.V_below (Kd.V_elderB HO_0.out gb631 (Nat.le_of_eq hg.symm)) hb); replace HO_5 := am (Kd.R_below (Kd.R_elderB HO_5.out gb631 (Nat.le_of_eq hg.symm)) hb); replace HO629 := am (Kd.V_below (Kd.V_elderB HO629.out gb631 (Nat.le_of_eq hg.symm)) hb); have BK631 := am (hbox); have GW631 := am ((by rw [hg]; exact (below_size HB.out) : w.heap.size ≤ gb631)); have GE631 := am ((by rw [hg]; exact (below_size HB.out) : w.heap.size ≤ gb631)); replace HB := am (below_step HB.out hb); clear hb hbox hg; have hcz25_0 : w24.cell? ⟨gb631, 0, none⟩ = some (.int .i64 0) := (blk_cell BK631.out 0).trans rfl; have hcz25_1 : w24.cell? ⟨gb631, 1, none⟩ = some (.int .i64 0) := (blk_cell BK631.out 1).trans rfl; have hcz25_2 : w24.cell? ⟨gb631, 2, none⟩ = some (.string (⟨#[]⟩ : ByteArray)) := (blk_cell BK631.out 2).trans rfl; have hfz25_0 := blk_frozen BK631.out 0; have hfz25_1 := blk_frozen BK631.out 1; have hfz25_2 := blk_frozen BK631.out 2)); try go_wp2_with (first | (go_at_call 57; (with_reducible refine (rowcode_read.calls k1 (fun k_ => ((P0_ k_ ∨ w.heap.size ≤ k_) ∧ some k_ ≠ (.slice Ao22 x5_1.length co22 : Value).ownBlock)) _ _ x0_1 t624 t625 t626 t627 t630 _ ?side1 ?side2 A12.out).mono ?_); (case side1 => exact Tabs.below HT.out HB.out); (case side2 => exact HO_0.out); rintro e w23 ⟨v628, rfl, ho0, hb⟩; replace HO_0 := am (Kd.V_below HO_0.out hb); have HO629 := am (Kd.V_lower (Kd.V_mono (ok' := fun k_ => (P0_ k_ ∨ w.heap.size ≤ k_) ∧ some k_ ≠ (.slice Ao22 x5_1.length co22 : Value).ownBlock) ho0 (fun k_ hk_ => ⟨Or.elim hk_ (fun hs_ => hs_.1) (fun hn_ => (.inr (Nat.le_trans (below_size HB.out) hn_))), Or.elim hk_ (fun hs_ => hs_.2) (fun hn_ => (Kd.fresh' (Kd.R_lt HO_5.out) k_ hn_))⟩)) (below_size HB.out)); replace HO_5 := am (Kd.R_below HO_5.out hb); replace HB := am (below_step HB.out hb); ) | ((with_reducible refine gate_dst (N := 6) rfl ?_); refine box_event ?hg (N := 6) ?hd (cs := #[.int .i64 0, .int .i64 0, .string (⟨#[]⟩ : ByteArray)]) (t := 42) ?hr ?_; (case hd => rfl); (case hg => rfl); (case hr => first | (go_simp; done) | (go_simp; rfl)); intro gb631 hg w24 hbox hb; replace HO_0 := am (Kd.V_below (Kd.V_elderB HO_0.out gb631 (Nat.le_of_eq hg.symm)) hb); replace HO_5 := am (Kd.R_below (Kd.R_elderB HO_5.out gb631 (Nat.le_of_eq hg.symm)) hb); replace HO629 := am (Kd.V_below (Kd.V_elderB HO629.out gb631 (Nat.le_of_eq hg.symm)) hb); have BK631 := am (hbox); have GW631 := am ((by rw [hg]; exact (below_size HB.out) : w.heap.size ≤ gb631)); have GE631 := am ((by rw [hg]; exact (below_size HB.out) : w.heap.size ≤ gb631)); replace HB := am (below_step HB.out hb); clear hb hbox hg; have hcz25_0 : w24.cell? ⟨gb631, 0, none⟩ = some (.int .i64 0) := (blk_cell BK631.out 0).trans rfl; have hcz25_1 : w24.cell? ⟨gb631, 1, none⟩ = some (.int .i64 0) := (blk_cell BK631.out 1).trans rfl; have hcz25_2 : w24.cell? ⟨gb631, 2, none⟩ = some (.string (⟨#[]⟩ : ByteArray)) := (blk_cell BK631.out 2).trans rfl; have hfz25_0 := blk_frozen BK631.out 0; have hfz25_1 := blk_frozen BK631.out 1; have hfz25_2 := blk_frozen BK631.out 2)))
    go_ret3
    exact ⟨_, _, by rfl, by exact Kd.R_nil _ _ _ _ _, Kd.V_nil _ _ _ _ _, by repeat ((with_reducible first | exact HB.out | refine below_set ?_ GE631.out))⟩
   rw [if_pos c13] at H
   have c13b0 : (t630 == 0) = true := beq_iff_eq.mpr c13
   have c13b1 : (t630 != 0) = false := bne_eq_false_iff_eq.mpr c13
   clear c13
   replace H := its H
   obtain ⟨c14, H⟩ := H
   have LMc14 := am c14
   clear c14
   obtain ⟨y632, hy632⟩ : ∃ y_ : List (S42), y_ = (x5_1 ++ [(⟨t624, t625, t626⟩ : S42)]) := ⟨_, rfl⟩
   replace H : (rowcode_readRow.l0 k1 t627 y632) = some (r1, r2, r3) := by (rw [hy632]; with_reducible exact H)
   have Ny632 := am hy632
   clear hy632
   have H' := am H
   clear H
   obtain ⟨Ao15, co15, eo15⟩ := Kd.V_slice HO_0.out
   subst eo15
   have p618 : 0 ≤ (0 : Int) := (by omega)
   have q618 : 0 < (x0_1.length : Int) := of_decide_eq_true (by assumption)
   obtain ⟨ad618, e618, hx618_0⟩ := Kd.at_int (Kd.V_reads' HO_0.out).2.2 0 p618 q618
   cases e618
   have qi618 : (0 < x0_1.length) = True := eq_true (by omega)
   (try rw [show ((0 : Int)).toNat = 0 from rfl] at hx618_0)
   (try rw [Addr.add_zero'] at hx618_0)
   replace p618 := eq_true p618
   replace q618 := eq_true q618
   obtain ⟨Ao16, co16, eo16⟩ := Kd.R_slice HO_5.out
   subst eo16
   go_wp2_with (first | (go_at_call 57; (with_reducible refine (rowcode_read.calls k1 (fun k_ => ((P0_ k_ ∨ w.heap.size ≤ k_) ∧ some k_ ≠ (.slice Ao16 x5_1.length co16 : Value).ownBlock)) _ _ x0_1 t624 t625 t626 t627 t630 _ ?side1 ?side2 A12.out).mono ?_); (case side1 => exact Tabs.below HT.out HB.out); (case side2 => exact HO_0.out); rintro e w17 ⟨v628, rfl, ho0, hb⟩; replace HO_0 := am (Kd.V_below HO_0.out hb); have HO629 := am (Kd.V_lower (Kd.V_mono (ok' := fun k_ => (P0_ k_ ∨ w.heap.size ≤ k_) ∧ some k_ ≠ (.slice Ao16 x5_1.length co16 : Value).ownBlock) ho0 (fun k_ hk_ => ⟨Or.elim hk_ (fun hs_ => hs_.1) (fun hn_ => (.inr (Nat.le_trans (below_size HB.out) hn_))), Or.elim hk_ (fun hs_ => hs_.2) (fun hn_ => (Kd.fresh' (Kd.R_lt HO_5.out) k_ hn_))⟩)) (below_size HB.out)); replace HO_5 := am (Kd.R_below HO_5.out hb); replace HB := am (below_step HB.out hb); (try clear hb); (try clear ho0)) | ((with_reducible refine gate_dst (N := 6) rfl ?_); refine box_event ?hg (N := 6) ?hd (cs := #[.int .i64 0, .int .i64 0, .string (⟨#[]⟩ : ByteArray)]) (t := 42) ?hr ?_; (case hd => rfl); (case hg => rfl); (case hr => (go_simp; done)); intro gb631 hg w18 hbox hb; replace HO_0 := am (Kd.V_below (Kd.V_elderB HO_0.out gb631 (Nat.le_of_eq hg.symm)) hb); replace HO_5 := am (Kd.R_below (Kd.R_elderB HO_5.out gb631 (Nat.le_of_eq hg.symm)) hb); replace HO629 := am (Kd.V_below (Kd.V_elderB HO629.out gb631 (Nat.le_of_eq hg.symm)) hb); have BK631 := am (hbox); have GW631 := am ((by rw [hg]; exact (below_size HB.out) : w.heap.size ≤ gb631)); have GE631 := am ((by rw [hg]; exact (below_size HB.out) : w.heap.size ≤ gb631)); replace HB := am (below_step HB.out hb); clear hb hbox hg; have hcz19_0 : w18.cell? ⟨gb631, 0, none⟩ = some (.int .i64 0) := (blk_cell BK631.out 0).trans rfl; have hcz19_1 : w18.cell? ⟨gb631, 1, none⟩ = some (.int .i64 0) := (blk_cell BK631.out 1).trans rfl; have hcz19_2 : w18.cell? ⟨gb631, 2, none⟩ = some (.string (⟨#[]⟩ : ByteArray)) := (blk_cell BK631.out 2).trans rfl; have hfz19_0 := blk_frozen BK631.out 0; have hfz19_1 := blk_frozen BK631.out 1; have hfz19_2 := blk_frozen BK631.out 2) | ((with_reducible refine gate_builtin (b := .append) (xs := #[.tmp 31, .tmp 33]) rfl ?_); at_builtin; refine Kd.R_append k42 (w0 := w) w.heap.size rfl (.tmp 31) (.tmp 33) 33 42 (.agg #[(.int .i64 0), (.int .i64 0), (.string ⟨#[]⟩)]) 32 rfl Tryd.underlying33 info42 rfl (by decide) (by omega) (.slice Ao16 x5_1.length co16) x5_1 (⟨t624, t625, t626⟩ : S42) [.int .i64 t624, .int .i64 t625, .string t626] (fun k_ => (w.heap.size ≤ k_) ∧ k_ ≠ gb631) (fun _ => False) rfl (by (go_simp; done)) ?aP (fun _ hk => hk.elim) ?aF ?aO ?aB ?aS ?aL ?_; (case aP => exact k42_mkM _ _ _ (⟨t624, t625, t626⟩ : S42)); (case aB => exact (by repeat ((with_reducible first | exact HB.out | refine below_set ?_ GE631.out)))); (case aF => exact (fun k_ hk => ⟨(Nat.le_trans (below_size (by repeat ((with_reducible first | exact HB.out | refine below_set ?_ GE631.out)))) hk), Kd.freshB (g := gb631) (o := .cells #[.int .i64 t624, .int .i64 t625, .string t626] 42 (0, 0)) (by refine blk_put (cs := #[.int .i64 t624, .int .i64 t625, .string (⟨#[]⟩ : ByteArray)]) ?_ 2 _ rfl; refine blk_put (cs := #[.int .i64 t624, .int .i64 0, .string (⟨#[]⟩ : ByteArray)]) ?_ 1 _ rfl; refine blk_put (cs := #[.int .i64 0, .int .i64 0, .string (⟨#[]⟩ : ByteArray)]) ?_ 0 _ rfl; exact BK631.out) k_ hk⟩)); (case aO => exact (by exact Kd.R_mono (Kd.R_far (p := ⟨gb631, 2, none⟩) (Kd.R_far (p := ⟨gb631, 1, none⟩) (Kd.R_far (p := ⟨gb631, 0, none⟩) (Kd.R_mono HO_5.out (fun k_ hk => (⟨hk, hk.2⟩ : _ ∧ k_ ≠ gb631))) (fun _ hk => hk.2) (.int .i64 t624)) (fun _ hk => hk.2) (.int .i64 t625)) (fun _ hk => hk.2) (.string t626)) (fun _ hk => ⟨hk.1.1, hk.1.2⟩))); (case aS => exact (below_size (by repeat ((with_reducible first | exact HB.out | refine below_set ?_ GE631.out))))); (case aL => have := LMc14.out; omega); intro v633 w20 ho hb hg hat; rw [← Ny632.out] at ho; replace HO_0 := am (Kd.V_afterv (ok := (fun k_ => (P0_ k_ ∨ w.heap.size ≤ k_) ∧ k_ ≠ gb631)) (by exact Kd.V_mono (Kd.V_far (p := ⟨gb631, 2, none⟩) (Kd.V_far (p := ⟨gb631, 1, none⟩) (Kd.V_far (p := ⟨gb631, 0, none⟩) (Kd.V_mono HO_0.out (fun k_ hk => (⟨hk, hk.2⟩ : _ ∧ k_ ≠ gb631))) (fun _ hk => hk.2) (.int .i64 t624)) (fun _ hk => hk.2) (.int .i64 t625)) (fun _ hk => hk.2) (.string t626)) (fun _ hk => ⟨⟨hk.1.1.1, hk.1.2⟩, hk.1.1.2⟩)) hg hat); replace HO629 := am (Kd.V_afterv (ok := (fun k_ => (P0_ k_ ∨ w.heap.size ≤ k_) ∧ k_ ≠ gb631)) (by exact Kd.V_mono (Kd.V_far (p := ⟨gb631, 2, none⟩) (Kd.V_far (p := ⟨gb631, 1, none⟩) (Kd.V_far (p := ⟨gb631, 0, none⟩) (Kd.V_mono HO629.out (fun k_ hk => (⟨hk, hk.2⟩ : _ ∧ k_ ≠ gb631))) (fun _ hk => hk.2) (.int .i64 t624)) (fun _ hk => hk.2) (.int .i64 t625)) (fun _ hk => hk.2) (.string t626)) (fun _ hk => ⟨⟨hk.1.1.1, hk.1.2⟩, hk.1.1.2⟩)) hg hat); replace BK631 := am (blk_grown (g := gb631) (o := .cells #[.int .i64 t624, .int .i64 t625, .string t626] 42 (0, 0)) (by refine blk_put (cs := #[.int .i64 t624, .int .i64 t625, .string (⟨#[]⟩ : ByteArray)]) ?_ 2 _ rfl; refine blk_put (cs := #[.int .i64 t624, .int .i64 0, .string (⟨#[]⟩ : ByteArray)]) ?_ 1 _ rfl; refine blk_put (cs := #[.int .i64 0, .int .i64 0, .string (⟨#[]⟩ : ByteArray)]) ?_ 0 _ rfl; exact BK631.out) hg (Kd.R_away HO_5.out (fun _ hk => hk.2))); replace HB := am (hb); have HO634 := am (ho); clear HO_5; clear ho hb hg hat))
   repeat ((with_reducible refine at_region ?_); go_quiet (first | (go_at_call 57; (with_reducible refine (rowcode_read.calls k1 (fun k_ => ((P0_ k_ ∨ w.heap.size ≤ k_) ∧ some k_ ≠ (.slice Ao16 x5_1.length co16 : Value).ownBlock)) _ _ x0_1 t624 t625 t626 t627 t630 _ ?side1 ?side2 A12.out).mono ?_); (case side1 => exact Tabs.below HT.out HB.out); (case side2 => exact HO_0.out); rintro e w17 ⟨v628, rfl, ho0, hb⟩; replace HO_0 := am (Kd.V_below HO_0.out hb); have HO629 := am (Kd.V_lower (Kd.V_mono (ok' := fun k_ => (P0_ k_ ∨ w.heap.size ≤ k_) ∧ some k_ ≠ (.slice Ao16 x5_1.length co16 : Value).ownBlock) ho0 (fun k_ hk_ => ⟨Or.elim hk_ (fun hs_ => hs_.1) (fun hn_ => (.inr (Nat.le_trans (below_size HB.out) hn_))), Or.elim hk_ (fun hs_ => hs_.2) (fun hn_ => (Kd.fresh' (Kd.R_lt HO_5.out) k_ hn_))⟩)) (below_size HB.out)); replace HO_5 := am (Kd.R_below HO_5.out hb); replace HB := am (below_step HB.out hb); ) | ((with_reducible refine gate_dst (N := 6) rfl ?_); refine box_event ?hg (N := 6) ?hd (cs := #[.int .i64 0, .int .i64 0, .string (⟨#[]⟩ : ByteArray)]) (t := 42) ?hr ?_; (case hd => rfl); (case hg => rfl); (case hr => first | (go_simp; done) | (go_simp; rfl)); intro gb631 hg w18 hbox hb; replace HO_0 := am (Kd.V_below (Kd.V_elderB HO_0.out gb631 (Nat.le_of_eq hg.symm)) hb); replace HO_5 := am (Kd.R_below (Kd.R_elderB HO_5.out gb631 (Nat.le_of_eq hg.symm)) hb); replace HO629 := am (Kd.V_below (Kd.V_elderB HO629.out gb631 (Nat.le_of_eq hg.symm)) hb); have BK631 := am (hbox); have GW631 := am ((by rw [hg]; exact (below_size HB.out) : w.heap.size ≤ gb631)); have GE631 := am ((by rw [hg]; exact (below_size HB.out) : w.heap.size ≤ gb631)); replace HB := am (below_step HB.out hb); clear hb hbox hg; have hcz19_0 : w18.cell? ⟨gb631, 0, none⟩ = some (.int .i64 0) := (blk_cell BK631.out 0).trans rfl; have hcz19_1 : w18.cell? ⟨gb631, 1, none⟩ = some (.int .i64 0) := (blk_cell BK631.out 1).trans rfl; have hcz19_2 : w18.cell? ⟨gb631, 2, none⟩ = some (.string (⟨#[]⟩ : ByteArray)) := (blk_cell BK631.out 2).trans rfl; have hfz19_0 := blk_frozen BK631.out 0; have hfz19_1 := blk_frozen BK631.out 1; have hfz19_2 := blk_frozen BK631.out 2) | ((with_reducible refine gate_builtin (b := .append) (xs := #[.tmp 31, .tmp 33]) rfl ?_); at_builtin; refine Kd.R_append k42 (w0 := w) w.heap.size rfl (.tmp 31) (.tmp 33) 33 42 (.agg #[(.int .i64 0), (.int .i64 0), (.string ⟨#[]⟩)]) 32 rfl Tryd.underlying33 info42 rfl (by decide) (by omega) (.slice Ao16 x5_1.length co16) x5_1 (⟨t624, t625, t626⟩ : S42) [.int .i64 t624, .int .i64 t625, .string t626] (fun k_ => (w.heap.size ≤ k_) ∧ k_ ≠ gb631) (fun _ => False) rfl (by first | (go_simp; done) | (go_simp; rfl)) ?aP (fun _ hk => hk.elim) ?aF ?aO ?aB ?aS ?aL ?_; (case aP => exact k42_mkM _ _ _ (⟨t624, t625, t626⟩ : S42)); (case aB => exact (by repeat (first | (with_reducible first | exact HB.out | apply below_alloc | apply pw_below_drewN | apply below_drew1 | refine below_set ?_ GE631.out) | exact HB.out))); (case aF => exact (fun k_ hk => ⟨(Nat.le_trans (below_size (by repeat (first | (with_reducible first | exact HB.out | apply below_alloc | apply pw_below_drewN | apply below_drew1 | refine below_set ?_ GE631.out) | exact HB.out))) hk), Kd.freshB (g := gb631) (o := .cells #[.int .i64 t624, .int .i64 t625, .string t626] 42 (0, 0)) (by refine blk_put (cs := #[.int .i64 t624, .int .i64 t625, .string (⟨#[]⟩ : ByteArray)]) ?_ 2 _ rfl; refine blk_put (cs := #[.int .i64 t624, .int .i64 0, .string (⟨#[]⟩ : ByteArray)]) ?_ 1 _ rfl; refine blk_put (cs := #[.int .i64 0, .int .i64 0, .string (⟨#[]⟩ : ByteArray)]) ?_ 0 _ rfl; exact BK631.out) k_ hk⟩)); (case aO => exact (by exact Kd.R_mono (Kd.R_far (p := ⟨gb631, 2, none⟩) (Kd.R_far (p := ⟨gb631, 1, none⟩) (Kd.R_far (p := ⟨gb631, 0, none⟩) (Kd.R_mono HO_5.out (fun k_ hk => (⟨hk, hk.2⟩ : _ ∧ k_ ≠ gb631))) (fun _ hk => hk.2) (.int .i64 t624)) (fun _ hk => hk.2) (.int .i64 t625)) (fun _ hk => hk.2) (.string t626)) (fun _ hk => ⟨hk.1.1, hk.1.2⟩))); (case aS => exact (below_size (by repeat (first | (with_reducible first | exact HB.out | apply below_alloc | apply pw_below_drewN | apply below_drew1 | refine below_set ?_ GE631.out) | exact HB.out)))); (case aL => have := LMc14.out; omega); intro v633 w20 ho hb hg hat; rw [← Ny632.out] at ho; replace HO_0 := am (Kd.V_afterv (ok := (fun k_ => (P0_ k_ ∨ w.heap.size ≤ k_) ∧ k_ ≠ gb631)) (by exact Kd.V_mono (Kd.V_far (p := ⟨gb631, 2, none⟩) (Kd.V_far (p := ⟨gb631, 1, none⟩) (Kd.V_far (p := ⟨gb631, 0, none⟩) (Kd.V_mono HO_0.out (fun k_ hk => (⟨hk, hk.2⟩ : _ ∧ k_ ≠ gb631))) (fun _ hk => hk.2) (.int .i64 t624)) (fun _ hk => hk.2) (.int .i64 t625)) (fun _ hk => hk.2) (.string t626)) (fun _ hk => ⟨⟨hk.1.1.1, hk.1.2⟩, hk.1.1.2⟩)) hg hat); replace HO629 := am (Kd.V_afterv (ok := (fun k_ => (P0_ k_ ∨ w.heap.size ≤ k_) ∧ k_ ≠ gb631)) (by exact Kd.V_mono (Kd.V_far (p := ⟨gb631, 2, none⟩) (Kd.V_far (p := ⟨gb631, 1, none⟩) (Kd.V_far (p := ⟨gb631, 0, none⟩) (Kd.V_mono HO629.out (fun k_ hk => (⟨hk, hk.2⟩ : _ ∧ k_ ≠ gb631))) (fun _ hk => hk.2) (.int .i64 t624)) (fun _ hk => hk.2) (.int .i64 t625)) (fun _ hk => hk.2) (.string t626)) (fun _ hk => ⟨⟨hk.1.1.1, hk.1.2⟩, hk.1.1.2⟩)) hg hat); replace BK631 := am (blk_grown (g := gb631) (o := .cells #[.int .i64 t624, .int .i64 t625, .string t626] 42 (0, 0)) (by refine blk_put (cs := #[.int .i64 t624, .int .i64 t625, .string (⟨#[]⟩ : ByteArray)]) ?_ 2 _ rfl; refine blk_put (cs := #[.int .i64 t624, .int .i64 0, .string (⟨#[]⟩ : ByteArray)]) ?_ 1 _ rfl; refine blk_put (cs := #[.int .i64 0, .int .i64 0, .string (⟨#[]⟩ : ByteArray)]) ?_ 0 _ rfl; exact BK631.out) hg (Kd.R_away HO_5.out (fun _ hk => hk.2))); replace HB := am (hb); have HO634 := am (ho); clear HO_5; clear ho hb hg hat)); try go_wp2_with (first | (go_at_call 57; (with_reducible refine (rowcode_read.calls k1 (fun k_ => ((P0_ k_ ∨ w.heap.size ≤ k_) ∧ some k_ ≠ (.slice Ao16 x5_1.length co16 : Value).ownBlock)) _ _ x0_1 t624 t625 t626 t627 t630 _ ?side1 ?side2 A12.out).mono ?_); (case side1 => exact Tabs.below HT.out HB.out); (case side2 => exact HO_0.out); rintro e w17 ⟨v628, rfl, ho0, hb⟩; replace HO_0 := am (Kd.V_below HO_0.out hb); have HO629 := am (Kd.V_lower (Kd.V_mono (ok' := fun k_ => (P0_ k_ ∨ w.heap.size ≤ k_) ∧ some k_ ≠ (.slice Ao16 x5_1.length co16 : Value).ownBlock) ho0 (fun k_ hk_ => ⟨Or.elim hk_ (fun hs_ => hs_.1) (fun hn_ => (.inr (Nat.le_trans (below_size HB.out) hn_))), Or.elim hk_ (fun hs_ => hs_.2) (fun hn_ => (Kd.fresh' (Kd.R_lt HO_5.out) k_ hn_))⟩)) (below_size HB.out)); replace HO_5 := am (Kd.R_below HO_5.out hb); replace HB := am (below_step HB.out hb); ) | ((with_reducible refine gate_dst (N := 6) rfl ?_); refine box_event ?hg (N := 6) ?hd (cs := #[.int .i64 0, .int .i64 0, .string (⟨#[]⟩ : ByteArray)]) (t := 42) ?hr ?_; (case hd => rfl); (case hg => rfl); (case hr => first | (go_simp; done) | (go_simp; rfl)); intro gb631 hg w18 hbox hb; replace HO_0 := am (Kd.V_below (Kd.V_elderB HO_0.out gb631 (Nat.le_of_eq hg.symm)) hb); replace HO_5 := am (Kd.R_below (Kd.R_elderB HO_5.out gb631 (Nat.le_of_eq hg.symm)) hb); replace HO629 := am (Kd.V_below (Kd.V_elderB HO629.out gb631 (Nat.le_of_eq hg.symm)) hb); have BK631 := am (hbox); have GW631 := am ((by rw [hg]; exact (below_size HB.out) : w.heap.size ≤ gb631)); have GE631 := am ((by rw [hg]; exact (below_size HB.out) : w.heap.size ≤ gb631)); replace HB := am (below_step HB.out hb); clear hb hbox hg; have hcz19_0 : w18.cell? ⟨gb631, 0, none⟩ = some (.int .i64 0) := (blk_cell BK631.out 0).trans rfl; have hcz19_1 : w18.cell? ⟨gb631, 1, none⟩ = some (.int .i64 0) := (blk_cell BK631.out 1).trans rfl; have hcz19_2 : w18.cell? ⟨gb631, 2, none⟩ = some (.string (⟨#[]⟩ : ByteArray)) := (blk_cell BK631.out 2).trans rfl; have hfz19_0 := blk_frozen BK631.out 0; have hfz19_1 := blk_frozen BK631.out 1; have hfz19_2 := blk_frozen BK631.out 2) | ((with_reducible refine gate_builtin (b := .append) (xs := #[.tmp 31, .tmp 33]) rfl ?_); at_builtin; refine Kd.R_append k42 (w0 := w) w.heap.size rfl (.tmp 31) (.tmp 33) 33 42 (.agg #[(.int .i64 0), (.int .i64 0), (.string ⟨#[]⟩)]) 32 rfl Tryd.underlying33 info42 rfl (by decide) (by omega) (.slice Ao16 x5_1.length co16) x5_1 (⟨t624, t625, t626⟩ : S42) [.int .i64 t624, .int .i64 t625, .string t626] (fun k_ => (w.heap.size ≤ k_) ∧ k_ ≠ gb631) (fun _ => False) rfl (by first | (go_simp; done) | (go_simp; rfl)) ?aP (fun _ hk => hk.elim) ?aF ?aO ?aB ?aS ?aL ?_; (case aP => exact k42_mkM _ _ _ (⟨t624, t625, t626⟩ : S42)); (case aB => exact (by repeat (first | (with_reducible first | exact HB.out | apply below_alloc | apply pw_below_drewN | apply below_drew1 | refine below_set ?_ GE631.out) | exact HB.out))); (case aF => exact (fun k_ hk => ⟨(Nat.le_trans (below_size (by repeat (first | (with_reducible first | exact HB.out | apply below_alloc | apply pw_below_drewN | apply below_drew1 | refine below_set ?_ GE631.out) | exact HB.out))) hk), Kd.freshB (g := gb631) (o := .cells #[.int .i64 t624, .int .i64 t625, .string t626] 42 (0, 0)) (by refine blk_put (cs := #[.int .i64 t624, .int .i64 t625, .string (⟨#[]⟩ : ByteArray)]) ?_ 2 _ rfl; refine blk_put (cs := #[.int .i64 t624, .int .i64 0, .string (⟨#[]⟩ : ByteArray)]) ?_ 1 _ rfl; refine blk_put (cs := #[.int .i64 0, .int .i64 0, .string (⟨#[]⟩ : ByteArray)]) ?_ 0 _ rfl; exact BK631.out) k_ hk⟩)); (case aO => exact (by exact Kd.R_mono (Kd.R_far (p := ⟨gb631, 2, none⟩) (Kd.R_far (p := ⟨gb631, 1, none⟩) (Kd.R_far (p := ⟨gb631, 0, none⟩) (Kd.R_mono HO_5.out (fun k_ hk => (⟨hk, hk.2⟩ : _ ∧ k_ ≠ gb631))) (fun _ hk => hk.2) (.int .i64 t624)) (fun _ hk => hk.2) (.int .i64 t625)) (fun _ hk => hk.2) (.string t626)) (fun _ hk => ⟨hk.1.1, hk.1.2⟩))); (case aS => exact (below_size (by repeat (first | (with_reducible first | exact HB.out | apply below_alloc | apply pw_below_drewN | apply below_drew1 | refine below_set ?_ GE631.out) | exact HB.out)))); (case aL => have := LMc14.out; omega); intro v633 w20 ho hb hg hat; rw [← Ny632.out] at ho; replace HO_0 := am (Kd.V_afterv (ok := (fun k_ => (P0_ k_ ∨ w.heap.size ≤ k_) ∧ k_ ≠ gb631)) (by exact Kd.V_mono (Kd.V_far (p := ⟨gb631, 2, none⟩) (Kd.V_far (p := ⟨gb631, 1, none⟩) (Kd.V_far (p := ⟨gb631, 0, none⟩) (Kd.V_mono HO_0.out (fun k_ hk => (⟨hk, hk.2⟩ : _ ∧ k_ ≠ gb631))) (fun _ hk => hk.2) (.int .i64 t624)) (fun _ hk => hk.2) (.int .i64 t625)) (fun _ hk => hk.2) (.string t626)) (fun _ hk => ⟨⟨hk.1.1.1, hk.1.2⟩, hk.1.1.2⟩)) hg hat); replace HO629 := am (Kd.V_afterv (ok := (fun k_ => (P0_ k_ ∨ w.heap.size ≤ k_) ∧ k_ ≠ gb631)) (by exact Kd.V_mono (Kd.V_far (p := ⟨gb631, 2, none⟩) (Kd.V_far (p := ⟨gb631, 1, none⟩) (Kd.V_far (p := ⟨gb631, 0, none⟩) (Kd.V_mono HO629.out (fun k_ hk => (⟨hk, hk.2⟩ : _ ∧ k_ ≠ gb631))) (fun _ hk => hk.2) (.int .i64 t624)) (fun _ hk => hk.2) (.int .i64 t625)) (fun _ hk => hk.2) (.string t626)) (fun _ hk => ⟨⟨hk.1.1.1, hk.1.2⟩, hk.1.1.2⟩)) hg hat); replace BK631 := am (blk_grown (g := gb631) (o := .cells #[.int .i64 t624, .int .i64 t625, .string t626] 42 (0, 0)) (by refine blk_put (cs := #[.int .i64 t624, .int .i64 t625, .string (⟨#[]⟩ : ByteArray)]) ?_ 2 _ rfl; refine blk_put (cs := #[.int .i64 t624, .int .i64 0, .string (⟨#[]⟩ : ByteArray)]) ?_ 1 _ rfl; refine blk_put (cs := #[.int .i64 0, .int .i64 0, .string (⟨#[]⟩ : ByteArray)]) ?_ 0 _ rfl; exact BK631.out) hg (Kd.R_away HO_5.out (fun _ hk => hk.2))); replace HB := am (hb); have HO634 := am (ho); clear HO_5; clear ho hb hg hat)))
   go_roundg k1
   case measure => have := HK1.out; omega
   case rel => exact ⟨(t627), (y632), H', ⟨by have := HK1.out; omega⟩, ⟨by exact Kd.V_mono HO629.out (fun _ hk => ⟨hk.1.1, hk.2⟩)⟩, ⟨by exact Kd.R_mono HO634.out (fun _ hk => hk.1)⟩, ⟨by exact HB.out⟩⟩
def rowcode_ReadRow.f (k : Nat) (l0 : List Int) : Option ((List (S42)) × Int × Int) := (rowcode_readRow.f k l0).bind fun bt635 => (if bt635.2.2 = 0 then (some (bt635.1, wrap64 ((l0.length : Int) - (bt635.2.1.length : Int)), 0)) else (some (([] : List (S42)), 0, bt635.2.2)))
set_option maxHeartbeats 8000000 in
set_option maxRecDepth 100000 in
theorem rowcode_ReadRow.calls (k : Nat) (A0 : Option Addr) (c0 : Nat) (l0 : List Int) (r1 : List (S42)) (r2 : Int) (r3 : Int) (w : World) (hT : Tabs w) (hr0 : Kd.C (Kd.int .u8) w A0 l0.length l0) (hc0 : l0.length ≤ c0) (h : rowcode_ReadRow.f k l0 = some (r1, r2, r3)) :
  Calls Tryd.prog 33 #[.slice A0 l0.length c0] w fun e w' => ∃ v0_ : Value, e = .returned (.tuple #[v0_, .int .i64 r2, .int .i64 r3]) ∧ Kd.R k42 42 w' w.heap.size (fun _ => True) v0_ r1 ∧ Below w.heap.size w w' := by
 have HT := Aside0.mk hT
 clear hT
 have HR0 := Aside0.mk hr0
 have HC0 := Aside0.mk hc0
 clear hr0 hc0
 have HB := Aside0.mk (Below.refl w.heap.size w)
 have H : ((rowcode_readRow.f k l0).bind fun bt635 => (if bt635.2.2 = 0 then (some (bt635.1, wrap64 ((l0.length : Int) - (bt635.2.1.length : Int)), 0)) else (some (([] : List (S42)), 0, bt635.2.2)))) = some (r1, r2, r3) := h
 clear h
 replace H := Option.bind_eq_some_iff.mp H
 obtain ⟨⟨t635, t638, t641⟩, A20, H⟩ := H
 replace H : (if t641 = 0 then (some (t635, wrap64 ((l0.length : Int) - (t638.length : Int)), 0)) else (some (([] : List (S42)), 0, t641))) = some (r1, r2, r3) := H
 have A2 := Aside0.mk A20
 clear A20
 by_cases c3 : t641 = 0
 ·
  rw [if_pos c3] at H
  have c3b0 : (t641 == 0) = true := beq_iff_eq.mpr c3
  have c3b1 : (t641 != 0) = false := bne_eq_false_iff_eq.mpr c3
  clear c3
  simp only [Option.some.injEq, Prod.mk.injEq] at H
  obtain ⟨rfl, rfl, rfl⟩ := H
  go_enter Tryd.func33, Tryd.ntmps33
  go_wp2_with (first | ((with_reducible refine gate_callee (f := 60) rfl ?_); refine goesL_ (some 10) rfl rfl Tryd.func60 (by kernel_rfl) rfl #[.slice A0 l0.length c0] rfl (by (try simp only [List.map_toArray, List.map_cons, List.map_nil]); first | done | rfl | (simp only [List.length_drop, List.length_take]; rfl)) ?_; (with_reducible refine (rowcode_readRow.calls k (fun k_ => k_ < w.heap.size) _ _ l0 t635 t638 t641 _ ?side1 ?side2 A2.out).mono ?_); (case side1 => exact Tabs.below HT.out (by repeat (first | (with_reducible first | exact HB.out | apply below_alloc | apply pw_below_drewN | apply below_drew1) | exact HB.out))); (case side2 => exact Kd.V_mk HC0.out (Kd.F_below (Kd.C_F (Kd.heap_int .u8) HR0.out) (by repeat (first | (with_reducible first | exact HB.out | apply below_alloc | apply pw_below_drewN | apply below_drew1) | exact HB.out)))); rintro e w4 ⟨v636, v639, rfl, ho0, ho1, hb⟩; refine ⟨_, rfl, ?_⟩; have n0_ := Aside0.mk (Kd.R_lower (Kd.R_mono (ok' := fun k_ => True) ho0 (fun _ hk_ => trivial)) (below_size (by repeat (first | (with_reducible first | exact HB.out | apply below_alloc | apply pw_below_drewN | apply below_drew1) | exact HB.out)))); have n1_ := Aside0.mk (Kd.V_lower (Kd.V_mono (ok' := fun k_ => some k_ ≠ (v636 : Value).ownBlock) ho1 (fun k_ hk_ => hk_.2)) (below_size (by repeat (first | (with_reducible first | exact HB.out | apply below_alloc | apply pw_below_drewN | apply below_drew1) | exact HB.out)))); have n2_ := Aside0.mk (below_step (by repeat (first | (with_reducible first | exact HB.out | apply below_alloc | apply pw_below_drewN | apply below_drew1) | exact HB.out)) hb); clear HB; have HO637 := n0_; have HO640 := n1_; have HB := n2_; clear n0_ n1_ n2_; (try clear hb); (try clear hb2); (try clear hk); (try clear hi); (try clear ho0); (try clear ho1); obtain ⟨Ao5, co5, eo5⟩ := Kd.V_slice HO640.out; subst eo5))
  go_ret3
  exact ⟨_, by first | rfl | (simp [errW_none, errW_some] <;> rfl) | (simp [*, errW_none, errW_some] <;> rfl), by (with_reducible repeat (first | apply Kd.R_alloc | apply Kd.R_drewN | apply Kd.R_drew)); exact HO637.out, by repeat (first | (with_reducible first | exact HB.out | apply below_alloc | apply pw_below_drewN | apply below_drew1) | exact HB.out)⟩
 ·
  rw [if_neg c3] at H
  have c3b0 : (t641 == 0) = false := beq_eq_false_iff_ne.mpr c3
  have c3b1 : (t641 != 0) = true := bne_iff_ne.mpr c3
  simp only [Option.some.injEq, Prod.mk.injEq] at H
  obtain ⟨rfl, rfl, rfl⟩ := H
  go_enter Tryd.func33, Tryd.ntmps33
  go_wp2_with (first | ((with_reducible refine gate_callee (f := 60) rfl ?_); refine goesL_ (some 10) rfl rfl Tryd.func60 (by kernel_rfl) rfl #[.slice A0 l0.length c0] rfl (by (try simp only [List.map_toArray, List.map_cons, List.map_nil]); first | done | rfl | (simp only [List.length_drop, List.length_take]; rfl)) ?_; (with_reducible refine (rowcode_readRow.calls k (fun k_ => k_ < w.heap.size) _ _ l0 t635 t638 t641 _ ?side1 ?side2 A2.out).mono ?_); (case side1 => exact Tabs.below HT.out (by repeat (first | (with_reducible first | exact HB.out | apply below_alloc | apply pw_below_drewN | apply below_drew1) | exact HB.out))); (case side2 => exact Kd.V_mk HC0.out (Kd.F_below (Kd.C_F (Kd.heap_int .u8) HR0.out) (by repeat (first | (with_reducible first | exact HB.out | apply below_alloc | apply pw_below_drewN | apply below_drew1) | exact HB.out)))); rintro e w6 ⟨v636, v639, rfl, ho0, ho1, hb⟩; refine ⟨_, rfl, ?_⟩; have n0_ := Aside0.mk (Kd.R_lower (Kd.R_mono (ok' := fun k_ => True) ho0 (fun _ hk_ => trivial)) (below_size (by repeat (first | (with_reducible first | exact HB.out | apply below_alloc | apply pw_below_drewN | apply below_drew1) | exact HB.out)))); have n1_ := Aside0.mk (Kd.V_lower (Kd.V_mono (ok' := fun k_ => some k_ ≠ (v636 : Value).ownBlock) ho1 (fun k_ hk_ => hk_.2)) (below_size (by repeat (first | (with_reducible first | exact HB.out | apply below_alloc | apply pw_below_drewN | apply below_drew1) | exact HB.out)))); have n2_ := Aside0.mk (below_step (by repeat (first | (with_reducible first | exact HB.out | apply below_alloc | apply pw_below_drewN | apply below_drew1) | exact HB.out)) hb); clear HB; have HO637 := n0_; have HO640 := n1_; have HB := n2_; clear n0_ n1_ n2_; (try clear hb); (try clear hb2); (try clear hk); (try clear hi); (try clear ho0); (try clear ho1)))
  go_ret3
  exact ⟨_, by first | rfl | (simp [errW_none, errW_some] <;> rfl) | (simp [*, errW_none, errW_some] <;> rfl), by first | exact Kd.R_nil _ _ _ _ _ | exact Kd.N_nil _ _ _ _ _ | exact Kd.V_nil _ _ _ _ _ | exact Kd.Q_nil _ _ _ _ _ | exact Kd.S_nil _ _ _ _ _, by repeat (first | (with_reducible first | exact HB.out | apply below_alloc | apply pw_below_drewN | apply below_drew1) | exact HB.out)⟩
end Go.Proofs.YthghcpeedmconaaDoor.X
end
section
namespace Go.Proofs.YthghcpeedmconaaDoor.X
open Go.RowKit Go.Proofs.YthghcpeedmconaaDoorW.PrintWords Go.Proofs.YthghcpeedmconaaDoorW.PrintLast Go.Proofs.YthghcpeedmconaaDoorW.PrintMore
attribute [local go_sem] max2_int min2_int max_two min_two max_three min_three max_four min_four
end Go.Proofs.YthghcpeedmconaaDoor.X
end
section
namespace Go.Proofs.YthghcpeedmconaaDoor.X
open Go.RowKit Go.Proofs.YthghcpeedmconaaDoorW.PrintWords Go.Proofs.YthghcpeedmconaaDoorW.PrintLast Go.Proofs.YthghcpeedmconaaDoorW.PrintMore
attribute [local go_sem] max2_int min2_int max_two min_two max_three min_three max_four min_four
set_option linter.unusedVariables false
set_option linter.unusedSimpArgs false
def lockstepref02_Rows.l0 : Nat → List (S42) → List (S42) → Int → Option (Bool)
 | 0, _, _, _ => none
 | k + 1, x0, x1, x5 => if x5 < (x0.length : Int) then (if 0 ≤ x5 then (if x5 < (x1.length : Int) then ((lockstepref02_Same.f ((rd_T42 x0 x5).f0) ((rd_T42 x0 x5).f1) ((rd_T42 x0 x5).f2) ((rd_T42 x1 x5).f0) ((rd_T42 x1 x5).f1) ((rd_T42 x1 x5).f2)).bind fun t653 => (if t653 = true then (lockstepref02_Rows.l0 k x0 x1 (wrap64 (x5 + 1))) else (some false))) else (none)) else (none)) else (some true)
def lockstepref02_Rows.f (k : Nat) (l0 : List (S42)) (l1 : List (S42)) : Option (Bool) := if (l0.length : Int) = (l1.length : Int) then (lockstepref02_Rows.l0 k l0 l1 0) else (some false)
def lockstepref02_Rows.T6 : Bool × List (List Nat × List Nat) := (true, [([], []), ([], []), ([0, 1], [0, 1]), ([2], [2]), ([], []), ([], []), ([4, 5], [4, 5]), ([6], [6]), ([3, 7], [3, 7]), ([8], [8])])
def lockstepref02_Rows.B6 : List Nat := [0, 0, 3, 7, 0, 0, 48, 112, 255, 511]
theorem lockstepref02_Rows.tab6 : rtab .any (opsOf Tryd.f34 6) = lockstepref02_Rows.T6 := by kernel_rfl
theorem lockstepref02_Rows.bits6 : waitsOk lockstepref02_Rows.T6.2 lockstepref02_Rows.B6 = true := by kernel_rfl
set_option maxHeartbeats 8000000 in
set_option maxRecDepth 100000 in
theorem lockstepref02_Rows.calls (k : Nat) (A0 : Option Addr) (c0 : Nat) (l0 : List (S42)) (A1 : Option Addr) (c1 : Nat) (l1 : List (S42)) (r : Bool) (w : World) (hr0 : Kd.C k42 w A0 l0.length l0) (hc0 : l0.length ≤ c0) (hr1 : Kd.C k42 w A1 l1.length l1) (hc1 : l1.length ≤ c1) (h : lockstepref02_Rows.f k l0 l1 = some r) :
  Calls Tryd.prog 34 #[.slice A0 l0.length c0, .slice A1 l1.length c1] w fun e w' => e = .returned (.bool r) ∧ Below w.heap.size w w' := by
 have hu42 := Tryd.underlying42
 have HR0 := am hr0
 have HC0 := am hc0
 clear hr0 hc0
 have HR1 := am hr1
 have HC1 := am hc1
 clear hr1 hc1
 have HB := am (Below.refl w.heap.size w)
 have H : (if (l0.length : Int) = (l1.length : Int) then (lockstepref02_Rows.l0 k l0 l1 0) else (some false)) = some r := h
 clear h
 by_cases c3 : (l0.length : Int) = (l1.length : Int)
 rotate_left
 ·
  rw [if_neg c3] at H
  have c3b0 : ((l0.length : Int) == (l1.length : Int)) = false := beq_eq_false_iff_ne.mpr c3
  have c3b1 : ((l0.length : Int) != (l1.length : Int)) = true := bne_iff_ne.mpr c3
  have c3b2 : (l0.length == l1.length) = false := by (simp at c3 ⊢; omega)
  obtain rfl := Option.some.inj H
  go_enter Tryd.func34, Tryd.ntmps34
  go_wp2
  go_ret
  exact ⟨by rfl, by exact HB.out⟩
 rw [if_pos c3] at H
 have c3b0 : ((l0.length : Int) == (l1.length : Int)) = true := beq_iff_eq.mpr c3
 have c3b1 : ((l0.length : Int) != (l1.length : Int)) = false := bne_eq_false_iff_eq.mpr c3
 have c3b2 : (l0.length == l1.length) = true := by (simp at c3 ⊢; omega)
 clear c3
 have H' := am H
 clear H
 go_enter Tryd.func34, Tryd.ntmps34
 go_wp2
 go_loopg [5] k (fun kq v5 w' => ∃ (x5_1 : Int), v5 = .int .i64 x5_1 ∧ Aside0 (lockstepref02_Rows.l0 kq l0 l1 x5_1 = some r) ∧ Aside0 (kq ≤ k) ∧ Aside0 (Below w.heap.size w w'))
 case atStart => exact ⟨(0), (by rfl), H', ⟨Nat.le_refl _⟩, ⟨by exact HB.out⟩⟩
 case round =>
  clear H'
  (try clear c3b0); (try clear c3b1); (try clear c3b2)
  obtain ⟨x5_1, rfl, HA, HK1, HB⟩ := hrel
  cases gk with
  | zero => exact absurd HA.out (by simp [lockstepref02_Rows.l0])
  | succ k1 =>
   have H := HA.out
   clear HA
   simp only [lockstepref02_Rows.l0] at H
   by_cases c4 : x5_1 < (l0.length : Int)
   rotate_left
   ·
    rw [if_neg c4] at H
    have c4b0 := decide_eq_false c4
    clear c4
    obtain rfl := Option.some.inj H
    go_wp2
    go_ret
    exact ⟨by rfl, by exact HB.out⟩
   rw [if_pos c4] at H
   have c4b0 := decide_eq_true c4
   clear c4
   replace H := its H
   obtain ⟨c5, H⟩ := H
   have c5b0 := decide_eq_true c5
   clear c5
   replace H := its H
   obtain ⟨c6, H⟩ := H
   have c6b0 := decide_eq_true c6
   clear c6
   replace H := Option.bind_eq_some_iff.mp H
   obtain ⟨t653, A70, H⟩ := H
   replace H : (if t653 = true then (lockstepref02_Rows.l0 k1 l0 l1 (wrap64 (x5_1 + 1))) else (some false)) = some r := H
   have A7 := am A70
   clear A70
   by_cases c8 : t653 = true
   rotate_left
   ·
    replace c8 := Bool.eq_false_iff.mpr c8
    subst c8
    have H1 : (some false) = some r := by rw [if_neg (show ¬ (false = true) by decide)] at H; exact H
    clear H
    have H := H1
    clear H1
    obtain rfl := Option.some.inj H
    try go_wp2
    have n0_ := am (below_drew1 HB.out)
    clear HB
    have HB := n0_
    clear n0_
    have p651 : 0 ≤ (x5_1 : Int) := of_decide_eq_true (by assumption)
    have q651 : x5_1 < (l0.length : Int) := of_decide_eq_true (by assumption)
    obtain ⟨ad651, e651, hx651_0, hx651_1, hx651_2⟩ := at_T42 HR0.out x5_1 p651 q651
    have hw651_2 := hx651_2
    have hw651_1 := hx651_1
    have hw651_0 := hx651_0
    cases e651
    replace hx651_0 := (HB.out.cell (World.block_lt_of_cell? w _ hx651_0)).trans hx651_0
    replace hx651_1 := (HB.out.cell (World.block_lt_of_cell? w _ hx651_1)).trans hx651_1
    replace hx651_2 := (HB.out.cell (World.block_lt_of_cell? w _ hx651_2)).trans hx651_2
    replace p651 := eq_true p651
    replace q651 := eq_true q651
    have p652 : 0 ≤ (x5_1 : Int) := of_decide_eq_true (by assumption)
    have q652 : x5_1 < (l1.length : Int) := of_decide_eq_true (by assumption)
    obtain ⟨ad652, e652, hx652_0, hx652_1, hx652_2⟩ := at_T42 HR1.out x5_1 p652 q652
    have hw652_2 := hx652_2
    have hw652_1 := hx652_1
    have hw652_0 := hx652_0
    cases e652
    replace hx652_0 := (HB.out.cell (World.block_lt_of_cell? w _ hx652_0)).trans hx652_0
    replace hx652_1 := (HB.out.cell (World.block_lt_of_cell? w _ hx652_1)).trans hx652_1
    replace hx652_2 := (HB.out.cell (World.block_lt_of_cell? w _ hx652_2)).trans hx652_2
    replace p652 := eq_true p652
    replace q652 := eq_true q652
    refine start_ (n := 10) (S := fun w' => w'.cell? (ad651.add ((x5_1).toNat * 3)) = some (.int .i64 ((rd_T42 l0 x5_1).f0)) ∧ w'.cell? ⟨(ad651.add ((x5_1).toNat * 3)).block, (ad651.add ((x5_1).toNat * 3)).off + 1, none⟩ = some (.int .i64 ((rd_T42 l0 x5_1).f1)) ∧ w'.cell? ⟨(ad651.add ((x5_1).toNat * 3)).block, (ad651.add ((x5_1).toNat * 3)).off + 2, none⟩ = some (.string ((rd_T42 l0 x5_1).f2)) ∧ w'.cell? (ad652.add ((x5_1).toNat * 3)) = some (.int .i64 ((rd_T42 l1 x5_1).f0)) ∧ w'.cell? ⟨(ad652.add ((x5_1).toNat * 3)).block, (ad652.add ((x5_1).toNat * 3)).off + 1, none⟩ = some (.int .i64 ((rd_T42 l1 x5_1).f1)) ∧ w'.cell? ⟨(ad652.add ((x5_1).toNat * 3)).block, (ad652.add ((x5_1).toNat * 3)).off + 2, none⟩ = some (.string ((rd_T42 l1 x5_1).f2))) (ds := []) #[false, false, false, false, false, false, false, false, false, false] (by kernel_rfl) rfl rfl ⟨((HB.out.cell (World.block_lt_of_cell? w _ hw651_0)).trans hw651_0), ((HB.out.cell (World.block_lt_of_cell? w _ hw651_1)).trans hw651_1), ((HB.out.cell (World.block_lt_of_cell? w _ hw651_2)).trans hw651_2), ((HB.out.cell (World.block_lt_of_cell? w _ hw652_0)).trans hw652_0), ((HB.out.cell (World.block_lt_of_cell? w _ hw652_1)).trans hw652_1), ((HB.out.cell (World.block_lt_of_cell? w _ hw652_2)).trans hw652_2)⟩ (fun hHeld => ?_); refine with_tabW lockstepref02_Rows.tab6 lockstepref02_Rows.bits6 (fun HT_ HW_ => ?_)
    generalize wr.drew = w11 at HB hx651_0 hx651_1 hx651_2 hx652_0 hx652_1 hx652_2 hHeld ⊢
    refine pu HT_ (v := ?_) (a' := ?_) 0 17 rfl rfl (by kernel_rfl) (fun _ _ _ h => h) (Or.inl ⟨by rfl, ?_⟩) ?_ ?_
    rotate_left
    ·
     intro w'
     go_simp
     with_reducible rfl
    rotate_left
    ·
     simp only [Act.put, sa, sb, sc, i64_w, i32_w]
     rfl
    refine pu HT_ (v := ?_) (a' := ?_) 1 18 rfl rfl (by kernel_rfl) (fun _ _ _ h => h) (Or.inl ⟨by rfl, ?_⟩) ?_ ?_
    rotate_left
    ·
     intro w'
     go_simp
     with_reducible rfl
    rotate_left
    ·
     simp only [Act.put, sa, sb, sc, i64_w, i32_w]
     rfl
    refine pu HT_ (v := ?_) (a' := ?_) 2 19 rfl rfl (by kernel_rfl) (fun _ _ _ h => h) (Or.inl ⟨by rfl, ?_⟩) ?_ ?_
    rotate_left
    ·
     intro w'
     go_simp
     with_reducible rfl
    rotate_left
    ·
     simp only [Act.put, sa, sb, sc, i64_w, i32_w]
     rfl
    refine pu HT_ (v := ?_) (a' := ?_) 4 21 rfl rfl (by kernel_rfl) (fun _ _ _ h => h) (Or.inl ⟨by rfl, ?_⟩) ?_ ?_
    rotate_left
    ·
     intro w'
     go_simp
     with_reducible rfl
    rotate_left
    ·
     simp only [Act.put, sa, sb, sc, i64_w, i32_w]
     rfl
    refine pu HT_ (v := ?_) (a' := ?_) 5 22 rfl rfl (by kernel_rfl) (fun _ _ _ h => h) (Or.inl ⟨by rfl, ?_⟩) ?_ ?_
    rotate_left
    ·
     intro w'
     go_simp
     with_reducible rfl
    rotate_left
    ·
     simp only [Act.put, sa, sb, sc, i64_w, i32_w]
     rfl
    refine pu HT_ (v := ?_) (a' := ?_) 6 23 rfl rfl (by kernel_rfl) (fun _ _ _ h => h) (Or.inl ⟨by rfl, ?_⟩) ?_ ?_
    rotate_left
    ·
     intro w'
     go_simp
     with_reducible rfl
    rotate_left
    ·
     simp only [Act.put, sa, sb, sc, i64_w, i32_w]
     rfl
    refine take_ (i := 3) (N := some 20) (v := ?_) (a' := ?_) #[true, true, true, true, true, true, true, false, false, false] rfl rfl (take_ofW HT_.out HW_.out (by kernel_rfl)) (fun _ _ _ h => h) (Or.inl ⟨by rfl, ?_⟩) hHeld ?_ ?_
    rotate_left
    ·
     rintro w' ⟨s0, s1, s2, s3, s4, s5⟩
     go_simp
     with_reducible rfl
    rotate_left
    ·
     simp only [Act.put, sa, sb, sc, i64_w, i32_w]
     rfl
    refine take_ (i := 7) (N := some 24) (v := ?_) (a' := ?_) #[true, true, true, true, true, true, true, true, false, false] rfl rfl (take_ofW HT_.out HW_.out (by kernel_rfl)) (fun _ _ _ h => h) (Or.inl ⟨by rfl, ?_⟩) hHeld ?_ ?_
    rotate_left
    ·
     rintro w' ⟨s0, s1, s2, s3, s4, s5⟩
     go_simp
     with_reducible rfl
    rotate_left
    ·
     simp only [Act.put, sa, sb, sc, i64_w, i32_w]
     rfl
    refine one_ (i := 8) (N := some 25) #[true, true, true, true, true, true, true, true, true, false] rfl rfl (one_of HT_.out (by kernel_rfl)) (by decide) (fun K hK => ?_)
    refine goes_ Tryd.func30 (by kernel_rfl) rfl #[.agg #[.int .i64 ((rd_T42 l0 x5_1).f0), .int .i64 ((rd_T42 l0 x5_1).f1), .string ((rd_T42 l0 x5_1).f2)], .agg #[.int .i64 ((rd_T42 l1 x5_1).f0), .int .i64 ((rd_T42 l1 x5_1).f1), .string ((rd_T42 l1 x5_1).f2)]] (by rfl) rfl rfl (by (try simp only [List.map_toArray, List.map_cons, List.map_nil]); rfl) ?_
    with_reducible refine (lockstepref02_Same.calls ((rd_T42 l0 x5_1).f0) ((rd_T42 l0 x5_1).f1) ((rd_T42 l0 x5_1).f2) ((rd_T42 l1 x5_1).f0) ((rd_T42 l1 x5_1).f1) ((rd_T42 l1 x5_1).f2) false _ A7.out).mono ?_
    rintro e w12 ⟨rfl, hb⟩
    refine ⟨_, rfl, ?_⟩
    have n0_ := am (below_step HB.out hb)
    clear HB
    have HB := n0_
    clear n0_
    (try clear hb)
    refine hK.out _ _ ⟨((HB.out.cell (World.block_lt_of_cell? w _ hw651_0)).trans hw651_0), ((HB.out.cell (World.block_lt_of_cell? w _ hw651_1)).trans hw651_1), ((HB.out.cell (World.block_lt_of_cell? w _ hw651_2)).trans hw651_2), ((HB.out.cell (World.block_lt_of_cell? w _ hw652_0)).trans hw652_0), ((HB.out.cell (World.block_lt_of_cell? w _ hw652_1)).trans hw652_1), ((HB.out.cell (World.block_lt_of_cell? w _ hw652_2)).trans hw652_2)⟩ (fun hHeld => ?_)
    clear hK K
    refine norm_ (a' := ?_) ?_ ?_
    rotate_left
    ·
     show Act.put _ (some 25) _ = _
     simp only [Act.put, sa, sb, sc, i64_w, i32_w]
     rfl
    refine pu HT_ (v := ?_) (a' := ?_) 9 26 rfl rfl (by kernel_rfl) (fun _ _ _ h => h) (Or.inl ⟨by rfl, ?_⟩) ?_ ?_
    rotate_left
    ·
     intro w'
     go_simp
     with_reducible rfl
    rotate_left
    ·
     simp only [Act.put, sa, sb, sc, i64_w, i32_w]
     rfl
    refine done_ (done_of HT_.out (by kernel_rfl)) ?_
    try go_wp2
    go_ret
    exact ⟨by rfl, by exact HB.out⟩
   subst c8
   have H1 : (lockstepref02_Rows.l0 k1 l0 l1 (wrap64 (x5_1 + 1))) = some r := by rw [if_pos rfl] at H; exact H
   clear H
   have H := H1
   clear H1
   have H' := am H
   clear H
   try go_wp2
   have n0_ := am (below_drew1 HB.out)
   clear HB
   have HB := n0_
   clear n0_
   have p651 : 0 ≤ (x5_1 : Int) := of_decide_eq_true (by assumption)
   have q651 : x5_1 < (l0.length : Int) := of_decide_eq_true (by assumption)
   obtain ⟨ad651, e651, hx651_0, hx651_1, hx651_2⟩ := at_T42 HR0.out x5_1 p651 q651
   have hw651_2 := hx651_2
   have hw651_1 := hx651_1
   have hw651_0 := hx651_0
   cases e651
   replace hx651_0 := (HB.out.cell (World.block_lt_of_cell? w _ hx651_0)).trans hx651_0
   replace hx651_1 := (HB.out.cell (World.block_lt_of_cell? w _ hx651_1)).trans hx651_1
   replace hx651_2 := (HB.out.cell (World.block_lt_of_cell? w _ hx651_2)).trans hx651_2
   replace p651 := eq_true p651
   replace q651 := eq_true q651
   have p652 : 0 ≤ (x5_1 : Int) := of_decide_eq_true (by assumption)
   have q652 : x5_1 < (l1.length : Int) := of_decide_eq_true (by assumption)
   obtain ⟨ad652, e652, hx652_0, hx652_1, hx652_2⟩ := at_T42 HR1.out x5_1 p652 q652
   have hw652_2 := hx652_2
   have hw652_1 := hx652_1
   have hw652_0 := hx652_0
   cases e652
   replace hx652_0 := (HB.out.cell (World.block_lt_of_cell? w _ hx652_0)).trans hx652_0
   replace hx652_1 := (HB.out.cell (World.block_lt_of_cell? w _ hx652_1)).trans hx652_1
   replace hx652_2 := (HB.out.cell (World.block_lt_of_cell? w _ hx652_2)).trans hx652_2
   replace p652 := eq_true p652
   replace q652 := eq_true q652
   refine start_ (n := 10) (S := fun w' => w'.cell? (ad651.add ((x5_1).toNat * 3)) = some (.int .i64 ((rd_T42 l0 x5_1).f0)) ∧ w'.cell? ⟨(ad651.add ((x5_1).toNat * 3)).block, (ad651.add ((x5_1).toNat * 3)).off + 1, none⟩ = some (.int .i64 ((rd_T42 l0 x5_1).f1)) ∧ w'.cell? ⟨(ad651.add ((x5_1).toNat * 3)).block, (ad651.add ((x5_1).toNat * 3)).off + 2, none⟩ = some (.string ((rd_T42 l0 x5_1).f2)) ∧ w'.cell? (ad652.add ((x5_1).toNat * 3)) = some (.int .i64 ((rd_T42 l1 x5_1).f0)) ∧ w'.cell? ⟨(ad652.add ((x5_1).toNat * 3)).block, (ad652.add ((x5_1).toNat * 3)).off + 1, none⟩ = some (.int .i64 ((rd_T42 l1 x5_1).f1)) ∧ w'.cell? ⟨(ad652.add ((x5_1).toNat * 3)).block, (ad652.add ((x5_1).toNat * 3)).off + 2, none⟩ = some (.string ((rd_T42 l1 x5_1).f2))) (ds := []) #[false, false, false, false, false, false, false, false, false, false] (by kernel_rfl) rfl rfl ⟨((HB.out.cell (World.block_lt_of_cell? w _ hw651_0)).trans hw651_0), ((HB.out.cell (World.block_lt_of_cell? w _ hw651_1)).trans hw651_1), ((HB.out.cell (World.block_lt_of_cell? w _ hw651_2)).trans hw651_2), ((HB.out.cell (World.block_lt_of_cell? w _ hw652_0)).trans hw652_0), ((HB.out.cell (World.block_lt_of_cell? w _ hw652_1)).trans hw652_1), ((HB.out.cell (World.block_lt_of_cell? w _ hw652_2)).trans hw652_2)⟩ (fun hHeld => ?_); refine with_tabW lockstepref02_Rows.tab6 lockstepref02_Rows.bits6 (fun HT_ HW_ => ?_)
   generalize wr.drew = w9 at HB hx651_0 hx651_1 hx651_2 hx652_0 hx652_1 hx652_2 hHeld ⊢
   refine pu HT_ (v := ?_) (a' := ?_) 0 17 rfl rfl (by kernel_rfl) (fun _ _ _ h => h) (Or.inl ⟨by rfl, ?_⟩) ?_ ?_
   rotate_left
   ·
    intro w'
    go_simp
    with_reducible rfl
   rotate_left
   ·
    simp only [Act.put, sa, sb, sc, i64_w, i32_w]
    rfl
   refine pu HT_ (v := ?_) (a' := ?_) 1 18 rfl rfl (by kernel_rfl) (fun _ _ _ h => h) (Or.inl ⟨by rfl, ?_⟩) ?_ ?_
   rotate_left
   ·
    intro w'
    go_simp
    with_reducible rfl
   rotate_left
   ·
    simp only [Act.put, sa, sb, sc, i64_w, i32_w]
    rfl
   refine pu HT_ (v := ?_) (a' := ?_) 2 19 rfl rfl (by kernel_rfl) (fun _ _ _ h => h) (Or.inl ⟨by rfl, ?_⟩) ?_ ?_
   rotate_left
   ·
    intro w'
    go_simp
    with_reducible rfl
   rotate_left
   ·
    simp only [Act.put, sa, sb, sc, i64_w, i32_w]
    rfl
   refine pu HT_ (v := ?_) (a' := ?_) 4 21 rfl rfl (by kernel_rfl) (fun _ _ _ h => h) (Or.inl ⟨by rfl, ?_⟩) ?_ ?_
   rotate_left
   ·
    intro w'
    go_simp
    with_reducible rfl
   rotate_left
   ·
    simp only [Act.put, sa, sb, sc, i64_w, i32_w]
    rfl
   refine pu HT_ (v := ?_) (a' := ?_) 5 22 rfl rfl (by kernel_rfl) (fun _ _ _ h => h) (Or.inl ⟨by rfl, ?_⟩) ?_ ?_
   rotate_left
   ·
    intro w'
    go_simp
    with_reducible rfl
   rotate_left
   ·
    simp only [Act.put, sa, sb, sc, i64_w, i32_w]
    rfl
   refine pu HT_ (v := ?_) (a' := ?_) 6 23 rfl rfl (by kernel_rfl) (fun _ _ _ h => h) (Or.inl ⟨by rfl, ?_⟩) ?_ ?_
   rotate_left
   ·
    intro w'
    go_simp
    with_reducible rfl
   rotate_left
   ·
    simp only [Act.put, sa, sb, sc, i64_w, i32_w]
    rfl
   refine take_ (i := 3) (N := some 20) (v := ?_) (a' := ?_) #[true, true, true, true, true, true, true, false, false, false] rfl rfl (take_ofW HT_.out HW_.out (by kernel_rfl)) (fun _ _ _ h => h) (Or.inl ⟨by rfl, ?_⟩) hHeld ?_ ?_
   rotate_left
   ·
    rintro w' ⟨s0, s1, s2, s3, s4, s5⟩
    go_simp
    with_reducible rfl
   rotate_left
   ·
    simp only [Act.put, sa, sb, sc, i64_w, i32_w]
    rfl
   refine take_ (i := 7) (N := some 24) (v := ?_) (a' := ?_) #[true, true, true, true, true, true, true, true, false, false] rfl rfl (take_ofW HT_.out HW_.out (by kernel_rfl)) (fun _ _ _ h => h) (Or.inl ⟨by rfl, ?_⟩) hHeld ?_ ?_
   rotate_left
   ·
    rintro w' ⟨s0, s1, s2, s3, s4, s5⟩
    go_simp
    with_reducible rfl
   rotate_left
   ·
    simp only [Act.put, sa, sb, sc, i64_w, i32_w]
    rfl
   refine one_ (i := 8) (N := some 25) #[true, true, true, true, true, true, true, true, true, false] rfl rfl (one_of HT_.out (by kernel_rfl)) (by decide) (fun K hK => ?_)
   refine goes_ Tryd.func30 (by kernel_rfl) rfl #[.agg #[.int .i64 ((rd_T42 l0 x5_1).f0), .int .i64 ((rd_T42 l0 x5_1).f1), .string ((rd_T42 l0 x5_1).f2)], .agg #[.int .i64 ((rd_T42 l1 x5_1).f0), .int .i64 ((rd_T42 l1 x5_1).f1), .string ((rd_T42 l1 x5_1).f2)]] (by rfl) rfl rfl (by (try simp only [List.map_toArray, List.map_cons, List.map_nil]); rfl) ?_
   with_reducible refine (lockstepref02_Same.calls ((rd_T42 l0 x5_1).f0) ((rd_T42 l0 x5_1).f1) ((rd_T42 l0 x5_1).f2) ((rd_T42 l1 x5_1).f0) ((rd_T42 l1 x5_1).f1) ((rd_T42 l1 x5_1).f2) true _ A7.out).mono ?_
   rintro e w10 ⟨rfl, hb⟩
   refine ⟨_, rfl, ?_⟩
   have n0_ := am (below_step HB.out hb)
   clear HB
   have HB := n0_
   clear n0_
   (try clear hb)
   refine hK.out _ _ ⟨((HB.out.cell (World.block_lt_of_cell? w _ hw651_0)).trans hw651_0), ((HB.out.cell (World.block_lt_of_cell? w _ hw651_1)).trans hw651_1), ((HB.out.cell (World.block_lt_of_cell? w _ hw651_2)).trans hw651_2), ((HB.out.cell (World.block_lt_of_cell? w _ hw652_0)).trans hw652_0), ((HB.out.cell (World.block_lt_of_cell? w _ hw652_1)).trans hw652_1), ((HB.out.cell (World.block_lt_of_cell? w _ hw652_2)).trans hw652_2)⟩ (fun hHeld => ?_)
   clear hK K
   refine norm_ (a' := ?_) ?_ ?_
   rotate_left
   ·
    show Act.put _ (some 25) _ = _
    simp only [Act.put, sa, sb, sc, i64_w, i32_w]
    rfl
   refine pu HT_ (v := ?_) (a' := ?_) 9 26 rfl rfl (by kernel_rfl) (fun _ _ _ h => h) (Or.inl ⟨by rfl, ?_⟩) ?_ ?_
   rotate_left
   ·
    intro w'
    go_simp
    with_reducible rfl
   rotate_left
   ·
    simp only [Act.put, sa, sb, sc, i64_w, i32_w]
    rfl
   refine done_ (done_of HT_.out (by kernel_rfl)) ?_
   try go_wp2
   go_roundg k1
   case measure => have := HK1.out; omega
   case rel => exact ⟨(wrap64 (x5_1 + 1)), (by rfl), H', ⟨by have := HK1.out; omega⟩, ⟨by exact HB.out⟩⟩
end Go.Proofs.YthghcpeedmconaaDoor.X
end
section
namespace Go.Proofs.YthghcpeedmconaaDoor.X
open Go.RowKit Go.Proofs.YthghcpeedmconaaDoorW.PrintWords Go.Proofs.YthghcpeedmconaaDoorW.PrintLast Go.Proofs.YthghcpeedmconaaDoorW.PrintMore
attribute [local go_sem] max2_int min2_int max_two min_two max_three min_three max_four min_four
end Go.Proofs.YthghcpeedmconaaDoor.X
end
section
namespace Go.Proofs.YthghcpeedmconaaDoor.X
set_option linter.unusedVariables false
set_option linter.unusedSimpArgs false
open Go.RowKit Go.Proofs.YthghcpeedmconaaDoorW.PrintWords Go.Proofs.YthghcpeedmconaaDoorW.PrintLast Go.Proofs.YthghcpeedmconaaDoorW.PrintMore
open Num
theorem code_ne {v : S42} (h : Can v) : ∃ c l, code v = c :: l ∧ c ≠ 0 := by
  obtain ⟨l, e⟩ := code_tag h
  refine ⟨_, l, e, ?_⟩
  unfold cls
  split
  · decide
  split
  · decide
  split
  · decide
  split <;> decide
theorem codes_cons (v : S42) (r : List S42) : codes (v :: r) = code v ++ codes r := rfl
theorem readRow_back : ∀ (n : Nat) (l : List Int), l.length ≤ n → isB l → ∀ (acc : List S42) (k : Nat), acc.length ≤ 16 → l.length < 140737488355328 → 3 * n + 100 ≤ k →
    ∃ row rest err, rowcode_readRow.l0 k l acc = some (row, rest, err) ∧ ((err ≠ 0 ∧ row = []) ∨ (err = 0 ∧ ∃ r, row = acc ++ r ∧ (∀ v ∈ r, Can v) ∧ acc.length + r.length ≤ 16 ∧ l = codes r ++ rest))
  | n, l, hn, hB, acc, k, ha, hl, hk => by
    obtain ⟨k, rfl⟩ : ∃ m, k = m + 1 := ⟨k - 1, by omega⟩
    rw [rowcode_readRow.l0]
    cases l with
    | nil => exact ⟨_, _, _, rfl, Or.inl ⟨by decide, rfl⟩⟩
    | cons c y =>
      have hlen : (c :: y).length = y.length + 1 := rfl
      rw [if_neg (by omega), if_pos (by omega), show rd (c :: y) 0 = c from rfl]
      by_cases h0 : c = 0
      · rw [if_pos h0, if_pos (by omega), h0]
        exact ⟨_, _, _, rfl, Or.inr ⟨rfl, [], by rw [List.append_nil], fun v hv => by simp at hv, by simpa using ha, rfl⟩⟩
      · rw [if_neg h0]
        by_cases h16 : (acc.length : Int) = 16
        · rw [if_pos h16]
          exact ⟨_, _, _, rfl, Or.inl ⟨by decide, rfl⟩⟩
        · rw [if_neg h16, read_eq _ hB hl k (by omega), Option.bind_some]
          have hback := valRead_back (c :: y) hB
          generalize valRead (c :: y) = x at *
          obtain ⟨t, m, s, rest, e⟩ := x
          simp only [] at hback ⊢
          by_cases he : e = 0
          · subst he
            obtain ⟨hcan, hcode⟩ := hback t m s rest rfl
            rw [if_pos rfl, if_pos (by omega)]
            obtain ⟨c', l', e', _⟩ := code_ne hcan
            have hl2 : y.length + 1 = l'.length + 1 + rest.length := by rw [← hlen, hcode, e', List.length_append, List.length_cons]
            cases n with
            | zero => omega
            | succ n =>
              have hBr : isB rest := fun x hx => hB x (by rw [hcode]; exact List.mem_append_right _ hx)
              obtain ⟨row, rest2, err, q1, q2⟩ := readRow_back n rest (by omega) hBr (acc ++ [⟨t, m, s⟩]) k (by rw [List.length_append]; simp; omega) (by omega) (by omega)
              refine ⟨row, rest2, err, q1, ?_⟩
              rcases q2 with q2 | ⟨q2, r, q3, q4, q5, q6⟩
              · exact Or.inl q2
              · refine Or.inr ⟨q2, ⟨t, m, s⟩ :: r, by rw [q3, List.append_assoc]; rfl, fun v hv => ?_, ?_, ?_⟩
                · rcases List.mem_cons.mp hv with hv | hv
                  · rw [hv]; exact hcan
                  · exact q4 v hv
                · rw [List.length_append] at q5
                  simp only [List.length_cons, List.length_nil] at q5 ⊢
                  omega
                · rw [hcode, q6, codes_cons, List.append_assoc]
          · rw [if_neg he]
            exact ⟨_, _, _, rfl, Or.inl ⟨he, rfl⟩⟩
theorem codes_len : ∀ (r : List S42), (∀ v ∈ r, Can v) → 1 ≤ (codes r).length ∧ (codes r).length ≤ 8195 * r.length + 1
  | [], _ => ⟨Nat.le_refl _, Nat.le_refl _⟩
  | v :: r, h => by
    obtain ⟨h1, h2⟩ := codes_len r (fun w hw => h w (List.mem_cons_of_mem _ hw))
    have := code_len (h v List.mem_cons_self)
    rw [codes_cons, List.length_append, List.length_cons]
    omega
theorem own_eq2 (l : List Int) (hl : l.length < 140737488355328) : locksteplaw02_own.f l = some l := by
  unfold locksteplaw02_own.f
  have hw : wrap64 ((l.length : Int) + 2) = (l.length : Int) + 2 := by unfold wrap64; omega
  rw [hw, if_pos (by omega), if_pos (by omega), Option.bind_some, if_pos (by simpa using hl), List.nil_append]
end Go.Proofs.YthghcpeedmconaaDoor.X
end

/- Part 6 of a claim of this seat: texts merged by a program of the claim's session (wip/bundle.py). -/
import Derived.Test.YthghcpeedmconaaDoorZRr1
import Derived.Test.YthghcpeedmconaaDoorZRr3
import Derived.Test.YthghcpeedmconaaDoorZRr4
import Derived.Test.YthghcpeedmconaaDoorZRr5
import Derived.Laws.Bits64b
section
namespace Go.Proofs.YthghcpeedmconaaDoor.X
open Go.RowKit Go.Proofs.YthghcpeedmconaaDoorW.PrintWords Go.Proofs.YthghcpeedmconaaDoorW.PrintLast Go.Proofs.YthghcpeedmconaaDoorW.PrintMore
attribute [local go_sem] max2_int min2_int max_two min_two max_three min_three max_four min_four
set_option linter.unusedVariables false
set_option linter.unusedSimpArgs false
mutual
def lockstepref02_sorted.l0 : Nat → List (List Int) → List (List Int) → List (List Int) → Int → Int → Option ((List (List Int)))
 | 0, _, _, _, _, _ => none
 | k + 1, x3, x4, x5, x6, x7 => if x6 < (x3.length : Int) then (lockstepref02_sorted.j1 k x3 x4 x5 x6 x7 true) else (lockstepref02_sorted.j1 k x3 x4 x5 x6 x7 (decide (x7 < (x4.length : Int))))
def lockstepref02_sorted.j1 : Nat → List (List Int) → List (List Int) → List (List Int) → Int → Int → Bool → Option ((List (List Int)))
 | 0, _, _, _, _, _, _ => none
 | k + 1, x3, x4, x5, x6, x7, x33 => if x33 = true then (if x7 = (x4.length : Int) then (if 0 ≤ x6 then (if x6 < (x3.length : Int) then (if x5.length < 5864062014805 then (lockstepref02_sorted.l0 k x3 x4 (x5 ++ [rd_L8 x3 x6]) (wrap64 (x6 + 1)) x7) else (none)) else (none)) else (none)) else (if x6 < (x3.length : Int) then (if 0 ≤ x7 then (if x7 < (x4.length : Int) then (if 0 ≤ x6 then ((lockstepref02_less.f (rd_L8 x4 x7) (rd_L8 x3 x6)).bind fun t741 => (if t741 = true then (if x5.length < 5864062014805 then (lockstepref02_sorted.l0 k x3 x4 (x5 ++ [rd_L8 x4 x7]) x6 (wrap64 (x7 + 1))) else (none)) else (if x5.length < 5864062014805 then (lockstepref02_sorted.l0 k x3 x4 (x5 ++ [rd_L8 x3 x6]) (wrap64 (x6 + 1)) x7) else (none)))) else (none)) else (none)) else (none)) else (if 0 ≤ x7 then (if x7 < (x4.length : Int) then (if x5.length < 5864062014805 then (lockstepref02_sorted.l0 k x3 x4 (x5 ++ [rd_L8 x4 x7]) x6 (wrap64 (x7 + 1))) else (none)) else (none)) else (none)))) else (some x5)
def lockstepref02_sorted.f : Nat → List (List Int) → Option ((List (List Int)))
 | 0, _ => none
 | k + 1, l0 => if (l0.length : Int) < 2 then (some l0) else (if 0 ≤ (wrap64 ((l0.length : Int) / 2)) then (if (wrap64 ((l0.length : Int) / 2)) ≤ (l0.length : Int) then ((lockstepref02_sorted.f k (l0.take ((wrap64 ((l0.length : Int) / 2)) : Int).toNat)).bind fun t724 => ((lockstepref02_sorted.f k (l0.drop ((wrap64 ((l0.length : Int) / 2)) : Int).toNat)).bind fun t732 => (lockstepref02_sorted.l0 k t724 t732 ([] : List (List Int)) 0 0))) else (none)) else (none))
end
def lockstepref02_sorted.T3 : Bool × List (List Nat × List Nat) := (true, [([], []), ([], []), ([1], [1]), ([2], [2]), ([0, 3], [0, 3]), ([4], [4]), ([], []), ([], []), ([7], [7]), ([8], [8]), ([6, 9], [6, 9]), ([10, 5], [10]), ([5, 11, 0, 1, 2, 3, 4, 5], [5]), ([11, 12, 0, 1, 2, 3, 4, 5, 6, 7, 8, 9, 10, 11, 12], [11])])
def lockstepref02_sorted.B3 : List Nat := [0, 0, 2, 6, 15, 31, 0, 0, 128, 384, 960, 2047, 4095, 8191]
theorem lockstepref02_sorted.tab3 : rtab .any (opsOf Tryd.f64 3) = lockstepref02_sorted.T3 := by kernel_rfl
theorem lockstepref02_sorted.bits3 : waitsOk lockstepref02_sorted.T3.2 lockstepref02_sorted.B3 = true := by kernel_rfl
def lockstepref02_sorted.T7 : Bool × List (List Nat × List Nat) := (true, [([], []), ([], []), ([1], [1]), ([0, 2], [0, 2]), ([3], [3]), ([4], [4]), ([4], [4]), ([6, 4], [4, 6]), ([5, 7, 4], [4, 5, 7]), ([8, 4, 4], [4, 8]), ([9], [9]), ([9], [9]), ([10, 11, 9], [9, 10, 11]), ([12, 9], [9, 12]), ([9], [9]), ([9], [9]), ([14, 15, 9], [9, 14, 15]), ([16, 9], [9, 16]), ([13, 17, 9, 9], [9, 13, 17]), ([18, 9], [9, 18]), ([9, 19, 4], [4, 9, 19]), ([4, 20], [4, 20])])
def lockstepref02_sorted.B7 : List Nat := [0, 0, 2, 7, 15, 31, 31, 95, 255, 511, 1023, 1023, 4095, 8191, 1023, 1023, 50175, 115711, 262143, 524287, 1048575, 2097151]
theorem lockstepref02_sorted.tab7 : rtab .any (opsOf Tryd.f64 7) = lockstepref02_sorted.T7 := by kernel_rfl
theorem lockstepref02_sorted.bits7 : waitsOk lockstepref02_sorted.T7.2 lockstepref02_sorted.B7 = true := by kernel_rfl
set_option maxHeartbeats 8000000 in
set_option maxRecDepth 100000 in
theorem lockstepref02_sorted.calls (k : Nat) : ∀ (P0_ : Nat → Prop) (A0 : Option Addr) (c0 : Nat) (l0 : List (List Int)) (r : List (List Int)) (w : World) (hs0 : Kd.V (Kd.slice 5 (Kd.int .u8)) 47 w w.heap.size (fun k_ => P0_ k_) (.slice A0 l0.length c0) l0) (h : lockstepref02_sorted.f k l0 = some r),
  Calls Tryd.prog 64 #[.slice A0 l0.length c0] w fun e w' => ∃ v0_ : Value, e = .returned (v0_) ∧ Kd.V (Kd.slice 5 (Kd.int .u8)) 47 w' w.heap.size (fun k_ => (P0_ k_ ∨ w.heap.size ≤ k_)) v0_ r ∧ Below w.heap.size w w' := by
 induction k using Nat.strongRecOn with
 | _ k ih =>
 intro P0_ A0 c0 l0 r w hs0 h
 cases k with
 | zero => exact absurd h (by simp [lockstepref02_sorted.f])
 | succ k =>
 simp only [lockstepref02_sorted.f] at h
 have HO0 := am (show Kd.V (Kd.slice 5 (Kd.int .u8)) 47 w w.heap.size (fun k_ => (P0_ k_ ∨ w.heap.size ≤ k_)) (.slice A0 l0.length c0) l0 from Kd.V_mono hs0 (fun k_ hk => .inl hk))
 have HB := am (Below.refl w.heap.size w)
 have H : (if (l0.length : Int) < 2 then (some l0) else (if 0 ≤ (wrap64 ((l0.length : Int) / 2)) then (if (wrap64 ((l0.length : Int) / 2)) ≤ (l0.length : Int) then ((lockstepref02_sorted.f k (l0.take ((wrap64 ((l0.length : Int) / 2)) : Int).toNat)).bind fun t724 => ((lockstepref02_sorted.f k (l0.drop ((wrap64 ((l0.length : Int) / 2)) : Int).toNat)).bind fun t732 => (lockstepref02_sorted.l0 k t724 t732 ([] : List (List Int)) 0 0))) else (none)) else (none))) = some r := h
 clear h
 by_cases c2 : (l0.length : Int) < 2
 ·
  rw [if_pos c2] at H
  have c2b0 := decide_eq_true c2
  have c2b1 : decide (l0.length < 2) = true := decide_eq_true (by omega)
  clear c2
  obtain rfl := Option.some.inj H
  go_enter Tryd.func64, Tryd.ntmps64
  go_wp2
  go_ret
  exact ⟨_, by rfl, by exact HO0.out, by exact HB.out⟩
 rw [if_neg c2] at H
 have c2b0 := decide_eq_false c2
 have c2b1 : decide (l0.length < 2) = false := decide_eq_false (by omega)
 clear c2
 obtain ⟨ji3, hji3⟩ : ∃ j_ : Int, (wrap64 ((l0.length : Int) / 2)) = j_ := ⟨_, rfl⟩
 replace H : (if 0 ≤ (ji3) then (if (ji3) ≤ (l0.length : Int) then ((lockstepref02_sorted.f k (l0.take ((ji3) : Int).toNat)).bind fun t724 => ((lockstepref02_sorted.f k (l0.drop ((ji3) : Int).toNat)).bind fun t732 => (lockstepref02_sorted.l0 k t724 t732 ([] : List (List Int)) 0 0))) else (none)) else (none)) = some r := by (rw [hji3] at H; exact H)
 have hji3w : (IntKind.i64.wrap ((l0.length : Int) / 2)) = ji3 := (i64_w _).trans hji3
 replace H := its H
 obtain ⟨c4, H⟩ := H
 have c4b0 := eq_true c4
 have c4b1 := decide_eq_true c4
 clear c4
 replace H := its H
 obtain ⟨c5, H⟩ := H
 have c5b0 := eq_true c5
 have c5b1 := decide_eq_true c5
 clear c5
 obtain ⟨y719, hy719⟩ : ∃ y_ : List (List Int), y_ = (l0.take ((ji3) : Int).toNat) := ⟨_, rfl⟩
 replace H : ((lockstepref02_sorted.f k y719).bind fun t724 => ((lockstepref02_sorted.f k (l0.drop ((ji3) : Int).toNat)).bind fun t732 => (lockstepref02_sorted.l0 k t724 t732 ([] : List (List Int)) 0 0))) = some r := by (rw [hy719]; with_reducible exact H)
 have Ny719 := am hy719
 clear hy719
 replace H := Option.bind_eq_some_iff.mp H
 obtain ⟨t724, A60, H⟩ := H
 replace H : ((lockstepref02_sorted.f k (l0.drop ((ji3) : Int).toNat)).bind fun t732 => (lockstepref02_sorted.l0 k t724 t732 ([] : List (List Int)) 0 0)) = some r := H
 have A6 := am A60
 clear A60
 have c7b0 := eq_true (of_decide_eq_true (by assumption) : 0 ≤ (ji3))
 have c8b0 := eq_true (of_decide_eq_true (by assumption) : (ji3) ≤ (l0.length : Int))
 obtain ⟨y727, hy727⟩ : ∃ y_ : List (List Int), y_ = (l0.drop ((ji3) : Int).toNat) := ⟨_, rfl⟩
 replace H : ((lockstepref02_sorted.f k y727).bind fun t732 => (lockstepref02_sorted.l0 k t724 t732 ([] : List (List Int)) 0 0)) = some r := by (rw [hy727]; with_reducible exact H)
 have Ny727 := am hy727
 clear hy727
 replace H := Option.bind_eq_some_iff.mp H
 obtain ⟨t732, A90, H⟩ := H
 replace H : (lockstepref02_sorted.l0 k t724 t732 ([] : List (List Int)) 0 0) = some r := H
 have A9 := am A90
 clear A90
 have H' := am H
 clear H
 go_enter Tryd.func64, Tryd.ntmps64
 try go_wp2
 have n0_ := am (Kd.V_drew HO0.out)
 have n1_ := am (below_drew1 HB.out)
 clear HO0
 clear HB
 have HO0 := n0_
 have HB := n1_
 clear n0_ n1_
 have q11 : ((ji3) : Int) ≤ ((l0.length : Int) : Int) := of_decide_eq_true (by assumption)
 obtain ⟨i011, hi011, _, hsz11, _⟩ := info_parts info47
 have hroom11 : l0.length ≤ c0 := (Kd.V_reads' HO0.out).2.1
 have hC11 : Kd.F (Kd.slice 5 (Kd.int .u8)) _ _ A0 l0.length l0 := (Kd.V_at (base := w.heap.size) HO0.out).2.2
 have hcut11 := cut_to (P := Tryd.prog) 87 47 .i64 Tryd.underlying87 hi011 A0 l0.length c0 (ji3) (of_decide_eq_true (by assumption)) q11 hroom11
 have hr11 := Kd.F_take (m := ((ji3) : Int).toNat) hC11 (by omega)
 have hy11 : y719.length = ((ji3) : Int).toNat := (by rw [Ny719.out, List.length_take]; omega)
 rw [← Ny719.out] at hr11
 rw [← hy11] at hcut11
 have HO723 := am (show Kd.V (Kd.slice 5 (Kd.int .u8)) 47 _ w.heap.size _ (.slice A0 y719.length c0) y719 from Kd.V_mk (by omega) hr11)
 have HC723 := am (show y719.length ≤ c0 from by omega)
 clear hr11 hC11 hroom11 hi011 hsz11
 have KY11 := am hy11
 clear hy11
 replace q11 := eq_true q11
 have q12 : ((ji3) : Int) ≤ ((l0.length : Int) : Int) := of_decide_eq_true (by assumption)
 obtain ⟨i012, hi012, _, hsz12, _⟩ := info_parts info47
 have hroom12 : l0.length ≤ c0 := (Kd.V_reads' HO0.out).2.1
 have hC12 : Kd.F (Kd.slice 5 (Kd.int .u8)) _ _ A0 l0.length l0 := (Kd.V_at (base := w.heap.size) HO0.out).2.2
 have q012 : (0 : Int) ≤ ((ji3) : Int) := of_decide_eq_true (by assumption)
 have hcut12 := cut_from (P := Tryd.prog) 87 47 .i64 Tryd.underlying87 hi012 1 hsz12 A0 l0.length c0 (ji3) q012 q12
 have hr12 := Kd.F_cut (m := ((ji3) : Int).toNat) (c := c0) hC12 (by omega) hroom12
 obtain ⟨A12, hA12⟩ : ∃ A1, A1 = (if c0 = ((ji3) : Int).toNat then A0 else (A0 : Option Addr).map (·.add (((ji3) : Int).toNat * 1))) := ⟨_, rfl⟩
 obtain ⟨c12, hc12⟩ : ∃ c1, c1 = c0 - ((ji3) : Int).toNat := ⟨_, rfl⟩
 have hy12 : y727.length = l0.length - ((ji3) : Int).toNat := (by rw [Ny727.out, List.length_drop] <;> omega)
 rw [show (l0).drop ((ji3) : Int).toNat = y727 from Ny727.out.symm] at hr12
 replace hr12 : Kd.F (Kd.slice 5 (Kd.int .u8)) _ _ A12 y727.length y727 := (by rw [hA12]; exact hr12)
 rw [← hy12, ← hA12, ← hc12] at hcut12
 have HO731 := am (show Kd.V (Kd.slice 5 (Kd.int .u8)) 47 _ w.heap.size _ (.slice A12 y727.length c12) y727 from Kd.V_mk (by rw [hy12, hc12]; exact Nat.sub_le_sub_right hroom12 _) hr12)
 have HC731 := am (show y727.length ≤ c12 from by rw [hy12, hc12]; exact Nat.sub_le_sub_right hroom12 _)
 clear hr12 hC12 hroom12 hi012 hsz12 hc12
 have KY12 := am hy12
 have KA12 := am hA12
 clear hy12 hA12
 replace q12 := eq_true q12
 refine start_ (n := 14) (S := fun w' => True) (ds := []) #[false, false, false, false, false, false, false, false, false, false, false, false, false, false] (by kernel_rfl) rfl rfl trivial (fun hHeld => ?_); refine with_tabW lockstepref02_sorted.tab3 lockstepref02_sorted.bits3 (fun HT_ HW_ => ?_)
 generalize w.drew = w10 at HO0 HB HO723 HO731 hHeld ⊢
 refine pu HT_ (v := ?_) (a' := ?_) 0 12 rfl rfl (by kernel_rfl) (fun _ _ _ h => h) (Or.inl ⟨by rfl, ?_⟩) ?_ ?_
 rotate_left
 ·
  intro w'
  go_simp
  with_reducible rfl
 rotate_left
 ·
  simp only [Act.put, sa, sb, sc, i64_w, i32_w]
  rfl
 refine pu HT_ (v := ?_) (a' := ?_) 1 13 rfl rfl (by kernel_rfl) (fun _ _ _ h => h) (Or.inl ⟨by rfl, ?_⟩) ?_ ?_
 rotate_left
 ·
  intro w'
  go_simp
  with_reducible rfl
 rotate_left
 ·
  simp only [Act.put, sa, sb, sc, i64_w, i32_w]
  rfl
 refine pu HT_ (v := ?_) (a' := ?_) 2 14 rfl rfl (by kernel_rfl) (fun _ _ _ h => h) (Or.inl ⟨by rfl, ?_⟩) ?_ ?_
 rotate_left
 ·
  intro w'
  go_simp
  with_reducible rfl
 rotate_left
 ·
  simp only [Act.put, sa, sb, sc, i64_w, i32_w]
  rfl
 refine pu HT_ (v := ?_) (a' := ?_) 3 15 rfl rfl (by kernel_rfl) (fun _ _ _ h => h) (Or.inl ⟨by rfl, ?_⟩) ?_ ?_
 rotate_left
 ·
  intro w'
  go_simp
  with_reducible rfl
 rotate_left
 ·
  simp only [Act.put, sa, sb, sc, i64_w, i32_w]
  rfl
 refine pu HT_ (v := ?_) (a' := ?_) 4 16 rfl rfl (by kernel_rfl) (fun _ _ _ h => h) (Or.inl ⟨by rfl, ?_⟩) ?_ ?_
 rotate_left
 ·
  intro w'
  go_simp
  with_reducible rfl
 rotate_left
 ·
  simp only [Act.put, sa, sb, sc, i64_w, i32_w]
  rfl
 refine pu HT_ (v := ?_) (a' := ?_) 6 18 rfl rfl (by kernel_rfl) (fun _ _ _ h => h) (Or.inl ⟨by rfl, ?_⟩) ?_ ?_
 rotate_left
 ·
  intro w'
  go_simp
  with_reducible rfl
 rotate_left
 ·
  simp only [Act.put, sa, sb, sc, i64_w, i32_w]
  rfl
 refine pu HT_ (v := ?_) (a' := ?_) 7 19 rfl rfl (by kernel_rfl) (fun _ _ _ h => h) (Or.inl ⟨by rfl, ?_⟩) ?_ ?_
 rotate_left
 ·
  intro w'
  go_simp
  with_reducible rfl
 rotate_left
 ·
  simp only [Act.put, sa, sb, sc, i64_w, i32_w]
  rfl
 refine pu HT_ (v := ?_) (a' := ?_) 8 20 rfl rfl (by kernel_rfl) (fun _ _ _ h => h) (Or.inl ⟨by rfl, ?_⟩) ?_ ?_
 rotate_left
 ·
  intro w'
  go_simp
  with_reducible rfl
 rotate_left
 ·
  simp only [Act.put, sa, sb, sc, i64_w, i32_w]
  rfl
 refine pu HT_ (v := ?_) (a' := ?_) 9 21 rfl rfl (by kernel_rfl) (fun _ _ _ h => h) (Or.inl ⟨by rfl, ?_⟩) ?_ ?_
 rotate_left
 ·
  intro w'
  go_simp
  with_reducible rfl
 rotate_left
 ·
  simp only [Act.put, sa, sb, sc, i64_w, i32_w]
  rfl
 refine pu HT_ (v := ?_) (a' := ?_) 10 22 rfl rfl (by kernel_rfl) (fun _ _ _ h => h) (Or.inl ⟨by rfl, ?_⟩) ?_ ?_
 rotate_left
 ·
  intro w'
  go_simp
  with_reducible rfl
 rotate_left
 ·
  simp only [Act.put, sa, sb, sc, i64_w, i32_w]
  rfl
 refine one_ (i := 5) (N := some 17) #[true, true, true, true, true, true, true, true, true, true, true, false, false, false] rfl rfl (one_of HT_.out (by kernel_rfl)) (by decide) (fun K hK => ?_)
 refine goes_ Tryd.func64 (by kernel_rfl) rfl #[.slice A0 y719.length c0] (by rfl) rfl rfl (by (try simp only [List.map_toArray, List.map_cons, List.map_nil]); rfl) ?_
 with_reducible refine (ih k (by omega) (fun k_ => (P0_ k_ ∨ w.heap.size ≤ k_)) _ _ y719 t724 _ ?side1 A6.out).mono ?_
 (case side1 => exact HO723.out)
 rintro e w13 ⟨v725, rfl, ho0, hb⟩
 refine ⟨_, rfl, ?_⟩
 have n0_ := am (Kd.V_below HO0.out hb)
 have n1_ := am (Kd.V_below HO723.out hb)
 have n2_ := am (Kd.V_below HO731.out hb)
 have n3_ := am (Kd.V_lower (Kd.V_mono (ok' := fun k_ => (P0_ k_ ∨ w.heap.size ≤ k_)) ho0 (fun k_ hk_ => Or.elim hk_ (fun hs_ => hs_) (fun hn_ => (.inr (Nat.le_trans (below_size HB.out) hn_))))) (below_size HB.out))
 have n4_ := am (below_step HB.out hb)
 clear HO0
 clear HO723
 clear HO731
 clear HB
 have HO0 := n0_
 have HO723 := n1_
 have HO731 := n2_
 have HO726 := n3_
 have HB := n4_
 clear n0_ n1_ n2_ n3_ n4_
 (try clear hb)
 (try clear ho0)
 refine hK.out _ _ trivial (fun hHeld => ?_)
 clear hK K
 refine norm_ (a' := ?_) ?_ ?_
 rotate_left
 ·
  show Act.put _ (some 17) _ = _
  simp only [Act.put, sa, sb, sc, i64_w, i32_w]
  rfl
 refine one_ (i := 11) (N := some 23) #[true, true, true, true, true, true, true, true, true, true, true, true, false, false] rfl rfl (one_of HT_.out (by kernel_rfl)) (by decide) (fun K hK => ?_)
 refine goes_ Tryd.func64 (by kernel_rfl) rfl #[.slice A12 y727.length c12] (by rfl) rfl rfl (by (try simp only [List.map_toArray, List.map_cons, List.map_nil]); rfl) ?_
 with_reducible refine (ih k (by omega) (fun k_ => (P0_ k_ ∨ w.heap.size ≤ k_)) _ _ y727 t732 _ ?side1 A9.out).mono ?_
 (case side1 => exact HO731.out)
 rintro e w14 ⟨v733, rfl, ho0, hb⟩
 refine ⟨_, rfl, ?_⟩
 have n0_ := am (Kd.V_below HO0.out hb)
 have n1_ := am (Kd.V_below HO723.out hb)
 have n2_ := am (Kd.V_below HO731.out hb)
 have n3_ := am (Kd.V_below HO726.out hb)
 have n4_ := am (Kd.V_lower (Kd.V_mono (ok' := fun k_ => (P0_ k_ ∨ w.heap.size ≤ k_)) ho0 (fun k_ hk_ => Or.elim hk_ (fun hs_ => hs_) (fun hn_ => (.inr (Nat.le_trans (below_size HB.out) hn_))))) (below_size HB.out))
 have n5_ := am (below_step HB.out hb)
 clear HO0
 clear HO723
 clear HO731
 clear HO726
 clear HB
 have HO0 := n0_
 have HO723 := n1_
 have HO731 := n2_
 have HO726 := n3_
 have HO734 := n4_
 have HB := n5_
 clear n0_ n1_ n2_ n3_ n4_ n5_
 (try clear hb)
 (try clear ho0)
 refine hK.out _ _ trivial (fun hHeld => ?_)
 clear hK K
 refine norm_ (a' := ?_) ?_ ?_
 rotate_left
 ·
  show Act.put _ (some 23) _ = _
  simp only [Act.put, sa, sb, sc, i64_w, i32_w]
  rfl
 refine pu HT_ (v := ?_) (a' := ?_) 12 3 rfl rfl (by kernel_rfl) (fun _ _ _ h => h) (Or.inl ⟨by rfl, ?_⟩) ?_ ?_
 rotate_left
 ·
  intro w'
  go_simp
  with_reducible rfl
 rotate_left
 ·
  simp only [Act.put, sa, sb, sc, i64_w, i32_w]
  rfl
 refine pu HT_ (v := ?_) (a' := ?_) 13 4 rfl rfl (by kernel_rfl) (fun _ _ _ h => h) (Or.inl ⟨by rfl, ?_⟩) ?_ ?_
 rotate_left
 ·
  intro w'
  go_simp
  with_reducible rfl
 rotate_left
 ·
  simp only [Act.put, sa, sb, sc, i64_w, i32_w]
  rfl
 refine done_ (done_of HT_.out (by kernel_rfl)) ?_
 try go_wp2
 go_loopg [5, 6, 7] k (fun kq v5 v6 v7 w' => ∃ (x5_1 : List (List Int)) (x6_1 : Int) (x7_1 : Int), v6 = .int .i64 x6_1 ∧ v7 = .int .i64 x7_1 ∧ Aside0 (lockstepref02_sorted.l0 kq t724 t732 x5_1 x6_1 x7_1 = some r) ∧ Aside0 (kq ≤ k) ∧ Aside0 (Kd.V (Kd.slice 5 (Kd.int .u8)) 47 w' w.heap.size (fun k_ => (P0_ k_ ∨ w.heap.size ≤ k_) ∧ some k_ ≠ (v5 : Value).ownBlock) v725 t724) ∧ Aside0 (Kd.V (Kd.slice 5 (Kd.int .u8)) 47 w' w.heap.size (fun k_ => (P0_ k_ ∨ w.heap.size ≤ k_) ∧ some k_ ≠ (v5 : Value).ownBlock) v733 t732) ∧ Aside0 (Kd.N (Kd.slice 5 (Kd.int .u8)) 47 w' w.heap.size (fun k_ => (P0_ k_ ∨ w.heap.size ≤ k_)) v5 x5_1) ∧ Aside0 (Below w.heap.size w w'))
 case atStart => exact ⟨(([] : List (List Int))), (0), (0), (by rfl), (by rfl), H', ⟨Nat.le_refl _⟩, ⟨by exact Kd.V_mono HO726.out (fun _ hk => ⟨hk, (by simp [Value.ownBlock])⟩)⟩, ⟨by exact Kd.V_mono HO734.out (fun _ hk => ⟨hk, (by simp [Value.ownBlock])⟩)⟩, ⟨by exact Kd.N_nil _ _ _ _ _⟩, ⟨by exact HB.out⟩⟩
 case round =>
  clear H'
  (try clear c2b0); (try clear c2b1); (try clear c4b0); (try clear c4b1); (try clear c5b0); (try clear c5b1); (try clear c7b0); (try clear c8b0); (try clear q11); (try clear q12); (try clear q012)
  obtain ⟨x5_1, x6_1, x7_1, rfl, rfl, HA, HK1, HO_3, HO_4, HO_5, HB⟩ := hrel
  cases gk with
  | zero => exact absurd HA.out (by simp [lockstepref02_sorted.l0])
  | succ k1 =>
   have H := HA.out
   clear HA
   simp only [lockstepref02_sorted.l0] at H
   have HC15 := am H
   clear H
   go_upto_region 6 with (fail)
   go_cut [33] (fun v33 wc => ∃ (kq : Nat) (x33_14 : Bool), v33 = .bool x33_14 ∧ Aside0 (lockstepref02_sorted.j1 kq t724 t732 x5_1 x6_1 x7_1 x33_14 = some r) ∧ Aside0 (kq ≤ k1) ∧ Aside0 (Kd.V (Kd.slice 5 (Kd.int .u8)) 47 wc w.heap.size (fun k_ => (P0_ k_ ∨ w.heap.size ≤ k_) ∧ some k_ ≠ (u5 : Value).ownBlock) v725 t724) ∧ Aside0 (Kd.V (Kd.slice 5 (Kd.int .u8)) 47 wc w.heap.size (fun k_ => (P0_ k_ ∨ w.heap.size ≤ k_) ∧ some k_ ≠ (u5 : Value).ownBlock) v733 t732) ∧ Aside0 (Kd.N (Kd.slice 5 (Kd.int .u8)) 47 wc w.heap.size (fun k_ => (P0_ k_ ∨ w.heap.size ≤ k_)) u5 x5_1) ∧ Aside0 (Below w.heap.size w wc))
   case first =>
    have H := HC15.out
    clear HC15
    by_cases c16 : x6_1 < (t724.length : Int)
    ·
     rw [if_pos c16] at H
     have c16b0 := decide_eq_true c16
     clear c16
     (skip)
     have H' := am H
     clear H
     obtain ⟨Ao17, co17, eo17⟩ := Kd.V_slice HO_3.out
     subst eo17
     go_wp2
     go_meet
     case rel => exact ⟨_, (true), (by with_reducible rfl), H', ⟨by have := HK1.out; omega⟩, ⟨by exact HO_3.out⟩, ⟨by exact HO_4.out⟩, ⟨by exact HO_5.out⟩, ⟨by exact HB.out⟩⟩
    rw [if_neg c16] at H
    have c16b0 := decide_eq_false c16
    clear c16
    (skip)
    have H' := am H
    clear H
    obtain ⟨Ao18, co18, eo18⟩ := Kd.V_slice HO_3.out
    subst eo18
    obtain ⟨Ao19, co19, eo19⟩ := Kd.V_slice HO_4.out
    subst eo19
    go_wp2
    go_meet
    case rel => exact ⟨_, (decide (x7_1 < (t732.length : Int))), (by with_reducible rfl), H', ⟨by have := HK1.out; omega⟩, ⟨by exact HO_3.out⟩, ⟨by exact HO_4.out⟩, ⟨by exact HO_5.out⟩, ⟨by exact HB.out⟩⟩
   case rest =>
    clear HC15
    obtain ⟨kq, x33_14, rfl, HA, HJ14, HO_3, HO_4, HO_5, HB⟩ := hcut
    cases kq with
    | zero => exact absurd HA.out (by simp [lockstepref02_sorted.j1])
    | succ kj14 =>
     have H := HA.out
     clear HA
     simp only [lockstepref02_sorted.j1] at H
     by_cases c20 : x33_14 = true
     rotate_left
     ·
      replace c20 := Bool.eq_false_iff.mpr c20
      subst c20
      have H1 : (some x5_1) = some r := by rw [if_neg (show ¬ (false = true) by decide)] at H; exact H
      clear H
      have H := H1
      clear H1
      obtain rfl := Option.some.inj H
      go_wp2
      go_ret
      exact ⟨_, by rfl, Kd.N_V HO_5.out, by exact HB.out⟩
     subst c20
     have H1 : (if x7_1 = (t732.length : Int) then (if 0 ≤ x6_1 then (if x6_1 < (t724.length : Int) then (if x5_1.length < 5864062014805 then (lockstepref02_sorted.l0 kj14 t724 t732 (x5_1 ++ [rd_L8 t724 x6_1]) (wrap64 (x6_1 + 1)) x7_1) else (none)) else (none)) else (none)) else (if x6_1 < (t724.length : Int) then (if 0 ≤ x7_1 then (if x7_1 < (t732.length : Int) then (if 0 ≤ x6_1 then ((lockstepref02_less.f (rd_L8 t732 x7_1) (rd_L8 t724 x6_1)).bind fun t741 => (if t741 = true then (if x5_1.length < 5864062014805 then (lockstepref02_sorted.l0 kj14 t724 t732 (x5_1 ++ [rd_L8 t732 x7_1]) x6_1 (wrap64 (x7_1 + 1))) else (none)) else (if x5_1.length < 5864062014805 then (lockstepref02_sorted.l0 kj14 t724 t732 (x5_1 ++ [rd_L8 t724 x6_1]) (wrap64 (x6_1 + 1)) x7_1) else (none)))) else (none)) else (none)) else (none)) else (if 0 ≤ x7_1 then (if x7_1 < (t732.length : Int) then (if x5_1.length < 5864062014805 then (lockstepref02_sorted.l0 kj14 t724 t732 (x5_1 ++ [rd_L8 t732 x7_1]) x6_1 (wrap64 (x7_1 + 1))) else (none)) else (none)) else (none)))) = some r := by rw [if_pos rfl] at H; exact H
     clear H
     have H := H1
     clear H1
     by_cases c21 : x7_1 = (t732.length : Int)
     ·
      rw [if_pos c21] at H
      have c21b0 : (x7_1 == (t732.length : Int)) = true := beq_iff_eq.mpr c21
      have c21b1 : (x7_1 != (t732.length : Int)) = false := bne_eq_false_iff_eq.mpr c21
      clear c21
      replace H := its H
      obtain ⟨c22, H⟩ := H
      have c22b0 := decide_eq_true c22
      clear c22
      replace H := its H
      obtain ⟨c23, H⟩ := H
      have c23b0 := decide_eq_true c23
      clear c23
      replace H := its H
      obtain ⟨c24, H⟩ := H
      have LMc24 := am c24
      clear c24
      obtain ⟨y736, hy736⟩ : ∃ y_ : List (List Int), y_ = (x5_1 ++ [rd_L8 t724 x6_1]) := ⟨_, rfl⟩
      replace H : (lockstepref02_sorted.l0 kj14 t724 t732 y736 (wrap64 (x6_1 + 1)) x7_1) = some r := by (rw [hy736]; with_reducible exact H)
      have Ny736 := am hy736
      clear hy736
      have H' := am H
      clear H
      try go_wp2
      have n0_ := am (Kd.V_drew HO_3.out)
      have n1_ := am (Kd.V_drew HO_4.out)
      have n2_ := am (Kd.N_drew HO_5.out)
      have n3_ := am (below_drew1 HB.out)
      clear HO_3
      clear HO_4
      clear HO_5
      clear HB
      have HO_3 := n0_
      have HO_4 := n1_
      have HO_5 := n2_
      have HB := n3_
      clear n0_ n1_ n2_ n3_
      obtain ⟨Ao26, co26, eo26⟩ := Kd.V_slice HO_4.out
      (subst eo26)
      refine start_ (n := 22) (S := fun w' => True) (ds := []) #[false, false, false, false, false, false, false, false, false, false, false, false, false, false, false, false, false, false, false, false, false, false] (by kernel_rfl) rfl rfl trivial (fun hHeld => ?_); refine with_tabW lockstepref02_sorted.tab7 lockstepref02_sorted.bits7 (fun HT_ HW_ => ?_)
      generalize wc.drew = w25 at HO_3 HO_4 HO_5 HB hHeld ⊢
      refine pu HT_ (v := ?_) (a' := ?_) 0 34 rfl rfl (by kernel_rfl) (fun _ _ _ h => h) (Or.inl ⟨by rfl, ?_⟩) ?_ ?_
      rotate_left
      ·
       intro w'
       go_simp
       with_reducible rfl
      rotate_left
      ·
       simp only [Act.put, sa, sb, sc, i64_w, i32_w]
       rfl
      refine pu HT_ (v := ?_) (a' := ?_) 1 35 rfl rfl (by kernel_rfl) (fun _ _ _ h => h) (Or.inl ⟨by rfl, ?_⟩) ?_ ?_
      rotate_left
      ·
       intro w'
       go_simp
       with_reducible rfl
      rotate_left
      ·
       simp only [Act.put, sa, sb, sc, i64_w, i32_w]
       rfl
      refine pu HT_ (v := ?_) (a' := ?_) 2 36 rfl rfl (by kernel_rfl) (fun _ _ _ h => h) (Or.inl ⟨by rfl, ?_⟩) ?_ ?_
      rotate_left
      ·
       intro w'
       go_simp
       with_reducible rfl
      rotate_left
      ·
       simp only [Act.put, sa, sb, sc, i64_w, i32_w]
       rfl
      refine pu HT_ (v := ?_) (a' := ?_) 3 37 rfl rfl (by kernel_rfl) (fun _ _ _ h => h) (Or.inl ⟨by rfl, ?_⟩) ?_ ?_
      rotate_left
      ·
       intro w'
       go_simp
       with_reducible rfl
      rotate_left
      ·
       simp only [Act.put, sa, sb, sc, i64_w, i32_w]
       rfl
      refine pu HT_ (v := ?_) (a' := ?_) 4 38 rfl rfl (by kernel_rfl) (fun _ _ _ h => h) (Or.inl ⟨by rfl, ?_⟩) ?_ ?_
      rotate_left
      ·
       intro w'
       go_simp
       with_reducible rfl
      rotate_left
      ·
       simp only [Act.put, sa, sb, sc, i64_w, i32_w]
       rfl
      refine pure_ (i := 5) (N := some 39) (v := undef) (a' := ?_) #[true, true, true, true, true, true, false, false, false, false, false, false, false, false, false, false, false, false, false, false, false, false] rfl rfl (any_of HT_.out (by kernel_rfl)) (fun _ _ _ h => h) (Or.inr ⟨by rfl, rfl⟩) ?_ ?_
      rotate_left
      ·
       simp only [Act.put, sa, sb, sc, i64_w, i32_w]
       rfl
      refine pure_ (i := 6) (N := some 40) (v := undef) (a' := ?_) #[true, true, true, true, true, true, true, false, false, false, false, false, false, false, false, false, false, false, false, false, false, false] rfl rfl (any_of HT_.out (by kernel_rfl)) (fun _ _ _ h => h) (Or.inr ⟨by rfl, rfl⟩) ?_ ?_
      rotate_left
      ·
       simp only [Act.put, sa, sb, sc, i64_w, i32_w]
       rfl
      refine pure_ (i := 7) (N := some 41) (v := undef) (a' := ?_) #[true, true, true, true, true, true, true, true, false, false, false, false, false, false, false, false, false, false, false, false, false, false] rfl rfl (any_of HT_.out (by kernel_rfl)) (fun _ _ _ h => h) (Or.inr ⟨by rfl, rfl⟩) ?_ ?_
      rotate_left
      ·
       simp only [Act.put, sa, sb, sc, i64_w, i32_w]
       rfl
      refine pure_ (i := 8) (N := some 42) (v := undef) (a' := ?_) #[true, true, true, true, true, true, true, true, true, false, false, false, false, false, false, false, false, false, false, false, false, false] rfl rfl (any_of HT_.out (by kernel_rfl)) (fun _ _ _ h => h) (Or.inr ⟨by rfl, rfl⟩) ?_ ?_
      rotate_left
      ·
       simp only [Act.put, sa, sb, sc, i64_w, i32_w]
       rfl
      refine pure_ (i := 9) (N := some 43) (v := undef) (a' := ?_) #[true, true, true, true, true, true, true, true, true, true, false, false, false, false, false, false, false, false, false, false, false, false] rfl rfl (any_of HT_.out (by kernel_rfl)) (fun _ _ _ h => h) (Or.inr ⟨by rfl, rfl⟩) ?_ ?_
      rotate_left
      ·
       simp only [Act.put, sa, sb, sc, i64_w, i32_w]
       rfl
      refine pure_ (i := 10) (N := some 44) (v := undef) (a' := ?_) #[true, true, true, true, true, true, true, true, true, true, true, false, false, false, false, false, false, false, false, false, false, false] rfl rfl (any_of HT_.out (by kernel_rfl)) (fun _ _ _ h => h) (Or.inr ⟨by rfl, rfl⟩) ?_ ?_
      rotate_left
      ·
       simp only [Act.put, sa, sb, sc, i64_w, i32_w]
       rfl
      refine pure_ (i := 11) (N := some 45) (v := undef) (a' := ?_) #[true, true, true, true, true, true, true, true, true, true, true, true, false, false, false, false, false, false, false, false, false, false] rfl rfl (any_of HT_.out (by kernel_rfl)) (fun _ _ _ h => h) (Or.inr ⟨by rfl, rfl⟩) ?_ ?_
      rotate_left
      ·
       simp only [Act.put, sa, sb, sc, i64_w, i32_w]
       rfl
      refine pure_ (i := 12) (N := some 46) (v := undef) (a' := ?_) #[true, true, true, true, true, true, true, true, true, true, true, true, true, false, false, false, false, false, false, false, false, false] rfl rfl (any_of HT_.out (by kernel_rfl)) (fun _ _ _ h => h) (Or.inr ⟨by rfl, rfl⟩) ?_ ?_
      rotate_left
      ·
       simp only [Act.put, sa, sb, sc, i64_w, i32_w]
       rfl
      refine pure_ (i := 13) (N := some 47) (v := undef) (a' := ?_) #[true, true, true, true, true, true, true, true, true, true, true, true, true, true, false, false, false, false, false, false, false, false] rfl rfl (any_of HT_.out (by kernel_rfl)) (fun _ _ _ h => h) (Or.inr ⟨by rfl, rfl⟩) ?_ ?_
      rotate_left
      ·
       simp only [Act.put, sa, sb, sc, i64_w, i32_w]
       rfl
      refine pure_ (i := 14) (N := some 48) (v := undef) (a' := ?_) #[true, true, true, true, true, true, true, true, true, true, true, true, true, true, true, false, false, false, false, false, false, false] rfl rfl (any_of HT_.out (by kernel_rfl)) (fun _ _ _ h => h) (Or.inr ⟨by rfl, rfl⟩) ?_ ?_
      rotate_left
      ·
       simp only [Act.put, sa, sb, sc, i64_w, i32_w]
       rfl
      refine pure_ (i := 15) (N := some 49) (v := undef) (a' := ?_) #[true, true, true, true, true, true, true, true, true, true, true, true, true, true, true, true, false, false, false, false, false, false] rfl rfl (any_of HT_.out (by kernel_rfl)) (fun _ _ _ h => h) (Or.inr ⟨by rfl, rfl⟩) ?_ ?_
      rotate_left
      ·
       simp only [Act.put, sa, sb, sc, i64_w, i32_w]
       rfl
      refine pure_ (i := 16) (N := some 50) (v := undef) (a' := ?_) #[true, true, true, true, true, true, true, true, true, true, true, true, true, true, true, true, true, false, false, false, false, false] rfl rfl (any_of HT_.out (by kernel_rfl)) (fun _ _ _ h => h) (Or.inr ⟨by rfl, rfl⟩) ?_ ?_
      rotate_left
      ·
       simp only [Act.put, sa, sb, sc, i64_w, i32_w]
       rfl
      refine pure_ (i := 17) (N := some 51) (v := undef) (a' := ?_) #[true, true, true, true, true, true, true, true, true, true, true, true, true, true, true, true, true, true, false, false, false, false] rfl rfl (any_of HT_.out (by kernel_rfl)) (fun _ _ _ h => h) (Or.inr ⟨by rfl, rfl⟩) ?_ ?_
      rotate_left
      ·
       simp only [Act.put, sa, sb, sc, i64_w, i32_w]
       rfl
      refine pure_ (i := 18) (N := some 52) (v := undef) (a' := ?_) #[true, true, true, true, true, true, true, true, true, true, true, true, true, true, true, true, true, true, true, false, false, false] rfl rfl (any_of HT_.out (by kernel_rfl)) (fun _ _ _ h => h) (Or.inr ⟨by rfl, rfl⟩) ?_ ?_
      rotate_left
      ·
       simp only [Act.put, sa, sb, sc, i64_w, i32_w]
       rfl
      refine pure_ (i := 19) (N := some 53) (v := undef) (a' := ?_) #[true, true, true, true, true, true, true, true, true, true, true, true, true, true, true, true, true, true, true, true, false, false] rfl rfl (any_of HT_.out (by kernel_rfl)) (fun _ _ _ h => h) (Or.inr ⟨by rfl, rfl⟩) ?_ ?_
      rotate_left
      ·
       simp only [Act.put, sa, sb, sc, i64_w, i32_w]
       rfl
      refine pure_ (i := 20) (N := some 54) (v := undef) (a' := ?_) #[true, true, true, true, true, true, true, true, true, true, true, true, true, true, true, true, true, true, true, true, true, false] rfl rfl (any_of HT_.out (by kernel_rfl)) (fun _ _ _ h => h) (Or.inr ⟨by rfl, rfl⟩) ?_ ?_
      rotate_left
      ·
       simp only [Act.put, sa, sb, sc, i64_w, i32_w]
       rfl
      refine pu HT_ (v := ?_) (a' := ?_) 21 55 rfl rfl (by kernel_rfl) (fun _ _ _ h => h) (Or.inl ⟨by rfl, ?_⟩) ?_ ?_
      rotate_left
      ·
       intro w'
       go_simp
       with_reducible rfl
      rotate_left
      ·
       simp only [Act.put, sa, sb, sc, i64_w, i32_w]
       rfl
      refine done_ (done_of HT_.out (by kernel_rfl)) ?_
      obtain ⟨Ao27, co27, eo27⟩ := Kd.V_slice HO_3.out
      subst eo27
      have p735 : 0 ≤ (x6_1 : Int) := of_decide_eq_true (by assumption)
      have q735 : x6_1 < (t724.length : Int) := of_decide_eq_true (by assumption)
      obtain ⟨ad735, A735_0, c735_0, e735, hx735_0, hl735_0, hi735_0⟩ := at_L8 (Kd.V_reads' HO_3.out).2.2 x6_1 p735 q735
      cases e735
      obtain ⟨ce735, hce735, hMe735, hcc735⟩ := Kd.V_get HO_3.out [] x6_1 p735 (by exact q735)
      obtain ⟨ua735_0, uc735_0, rfl, ul735_0, ge735_0⟩ := Kd.FK_slice_open hMe735
      have hv735_0 := hcc735 0 _ rfl
      rw [Nat.add_zero, show ((Kd.slice 5 (Kd.int .u8))).sz = 1 from rfl, Nat.mul_one] at hv735_0
      replace hv735_0 := Option.some.inj (hv735_0.symm.trans hx735_0)
      injection hv735_0 with hva_ hvn_ hvc_
      rw [hva_] at ge735_0
      rw [hvc_] at ul735_0
      have HL735_0 := am (show Kd.V (Kd.int .u8) 5 _ w.heap.size _ _ (rd_L8 t724 x6_1) from Kd.V_mk ul735_0 ge735_0)
      clear hva_ hvn_ hvc_ ge735_0 ul735_0
      clear hcc735 hce735
      have HR735_0 := am hi735_0
      have HC735_0 := am hl735_0
      clear hi735_0 hl735_0
      replace p735 := eq_true p735
      replace q735 := eq_true q735
      try go_wp2_with (((with_reducible refine gate_builtin (b := .append) (xs := #[.tmp 56, .tmp 61]) rfl ?_); (try (refine gate_guard (by rfl) ?_; dsimp only)); at_builtin; refine Kd.N_append (Kd.slice 5 (Kd.int .u8)) (w0 := w) w.heap.size rfl (.tmp 56) (.tmp 61) 87 47 (.slice none 0 0) 24 rfl Tryd.underlying87 info47 rfl (by decide) (by omega) u5 x5_1 (rd_L8 t724 x6_1) [.slice A735_0 (rd_L8 t724 x6_1).length c735_0] (fun k_ => (P0_ k_ ∨ w.heap.size ≤ k_)) (fun k_ => ((fun k_ => (P0_ k_ ∨ w.heap.size ≤ k_))) k_ ∧ some k_ ≠ (u5 : Value).ownBlock) rfl rfl ?aP (fun _ hk => hk) ?aF ?aO ?aB ?aS ?aL ?_; (case aP => exact (Kd.FK_slice_mk (Kd.V_reads' (Kd.V_mono (ok' := (fun k_ => ((fun k_ => (P0_ k_ ∨ w.heap.size ≤ k_))) k_ ∧ some k_ ≠ (u5 : Value).ownBlock)) (HL735_0.out) (fun k_ hk => ⟨hk.1, hk.2⟩))).2.1 (Kd.V_F (by exact (Kd.V_mono (ok' := (fun k_ => ((fun k_ => (P0_ k_ ∨ w.heap.size ≤ k_))) k_ ∧ some k_ ≠ (u5 : Value).ownBlock)) (HL735_0.out) (fun k_ hk => ⟨hk.1, hk.2⟩)))))); (case aB => exact HB.out); (case aF => exact (fun k_ hk => (.inr (Nat.le_trans (below_size HB.out) hk)))); (case aO => exact HO_5.out); (case aS => exact (below_size HB.out)); (case aL => have := LMc24.out; omega); intro v737 w28 ho hb hg hat; rw [← Ny736.out] at ho; replace HO_3 := am (Kd.V_afterv (ok := (fun k_ => (P0_ k_ ∨ w.heap.size ≤ k_))) HO_3.out hg hat); replace HO_4 := am (Kd.V_afterv (ok := (fun k_ => (P0_ k_ ∨ w.heap.size ≤ k_))) HO_4.out hg hat); replace HL735_0 := am (Kd.V_afterv (ok := (fun k_ => (P0_ k_ ∨ w.heap.size ≤ k_))) HL735_0.out hg hat); replace HB := am (hb); have HO738 := am (ho); clear HO_5; clear ho hb hg hat))
      go_roundg kj14
      case measure => have := HK1.out; have := HJ14.out; omega
      case rel => exact ⟨(y736), (wrap64 (x6_1 + 1)), (x7_1), (by rfl), (by rfl), H', ⟨by have := HK1.out; have := HJ14.out; omega⟩, ⟨by exact HO_3.out⟩, ⟨by exact HO_4.out⟩, ⟨by exact HO738.out⟩, ⟨by exact HB.out⟩⟩
     rw [if_neg c21] at H
     have c21b0 : (x7_1 == (t732.length : Int)) = false := beq_eq_false_iff_ne.mpr c21
     have c21b1 : (x7_1 != (t732.length : Int)) = true := bne_iff_ne.mpr c21
     by_cases c29 : x6_1 < (t724.length : Int)
     rotate_left
     ·
      rw [if_neg c29] at H
      have c29b0 := decide_eq_false c29
      clear c29
      replace H := its H
      obtain ⟨c45, H⟩ := H
      have c45b0 := decide_eq_true c45
      clear c45
      replace H := its H
      obtain ⟨c46, H⟩ := H
      have c46b0 := decide_eq_true c46
      clear c46
      replace H := its H
      obtain ⟨c47, H⟩ := H
      have LMc47 := am c47
      clear c47
      obtain ⟨y751, hy751⟩ : ∃ y_ : List (List Int), y_ = (x5_1 ++ [rd_L8 t732 x7_1]) := ⟨_, rfl⟩
      replace H : (lockstepref02_sorted.l0 kj14 t724 t732 y751 x6_1 (wrap64 (x7_1 + 1))) = some r := by (rw [hy751]; with_reducible exact H)
      have Ny751 := am hy751
      clear hy751
      have H' := am H
      clear H
      try go_wp2
      have n0_ := am (Kd.V_drew HO_3.out)
      have n1_ := am (Kd.V_drew HO_4.out)
      have n2_ := am (Kd.N_drew HO_5.out)
      have n3_ := am (below_drew1 HB.out)
      clear HO_3
      clear HO_4
      clear HO_5
      clear HB
      have HO_3 := n0_
      have HO_4 := n1_
      have HO_5 := n2_
      have HB := n3_
      clear n0_ n1_ n2_ n3_
      obtain ⟨Ao49, co49, eo49⟩ := Kd.V_slice HO_4.out
      (subst eo49)
      obtain ⟨Ao50, co50, eo50⟩ := Kd.V_slice HO_3.out
      (subst eo50)
      refine start_ (n := 22) (S := fun w' => True) (ds := []) #[false, false, false, false, false, false, false, false, false, false, false, false, false, false, false, false, false, false, false, false, false, false] (by kernel_rfl) rfl rfl trivial (fun hHeld => ?_); refine with_tabW lockstepref02_sorted.tab7 lockstepref02_sorted.bits7 (fun HT_ HW_ => ?_)
      generalize wc.drew = w48 at HO_3 HO_4 HO_5 HB hHeld ⊢
      refine pu HT_ (v := ?_) (a' := ?_) 0 34 rfl rfl (by kernel_rfl) (fun _ _ _ h => h) (Or.inl ⟨by rfl, ?_⟩) ?_ ?_
      rotate_left
      ·
       intro w'
       go_simp
       with_reducible rfl
      rotate_left
      ·
       simp only [Act.put, sa, sb, sc, i64_w, i32_w]
       rfl
      refine pu HT_ (v := ?_) (a' := ?_) 1 35 rfl rfl (by kernel_rfl) (fun _ _ _ h => h) (Or.inl ⟨by rfl, ?_⟩) ?_ ?_
      rotate_left
      ·
       intro w'
       go_simp
       with_reducible rfl
      rotate_left
      ·
       simp only [Act.put, sa, sb, sc, i64_w, i32_w]
       rfl
      refine pu HT_ (v := ?_) (a' := ?_) 2 36 rfl rfl (by kernel_rfl) (fun _ _ _ h => h) (Or.inl ⟨by rfl, ?_⟩) ?_ ?_
      rotate_left
      ·
       intro w'
       go_simp
       with_reducible rfl
      rotate_left
      ·
       simp only [Act.put, sa, sb, sc, i64_w, i32_w]
       rfl
      refine pu HT_ (v := ?_) (a' := ?_) 3 37 rfl rfl (by kernel_rfl) (fun _ _ _ h => h) (Or.inl ⟨by rfl, ?_⟩) ?_ ?_
      rotate_left
      ·
       intro w'
       go_simp
       with_reducible rfl
      rotate_left
      ·
       simp only [Act.put, sa, sb, sc, i64_w, i32_w]
       rfl
      refine pu HT_ (v := ?_) (a' := ?_) 4 38 rfl rfl (by kernel_rfl) (fun _ _ _ h => h) (Or.inl ⟨by rfl, ?_⟩) ?_ ?_
      rotate_left
      ·
       intro w'
       go_simp
       with_reducible rfl
      rotate_left
      ·
       simp only [Act.put, sa, sb, sc, i64_w, i32_w]
       rfl
      refine pu HT_ (v := ?_) (a' := ?_) 5 39 rfl rfl (by kernel_rfl) (fun _ _ _ h => h) (Or.inl ⟨by rfl, ?_⟩) ?_ ?_
      rotate_left
      ·
       intro w'
       go_simp
       with_reducible rfl
      rotate_left
      ·
       simp only [Act.put, sa, sb, sc, i64_w, i32_w]
       rfl
      refine pu HT_ (v := ?_) (a' := ?_) 6 40 rfl rfl (by kernel_rfl) (fun _ _ _ h => h) (Or.inl ⟨by rfl, ?_⟩) ?_ ?_
      rotate_left
      ·
       intro w'
       go_simp
       with_reducible rfl
      rotate_left
      ·
       simp only [Act.put, sa, sb, sc, i64_w, i32_w]
       rfl
      refine pu HT_ (v := ?_) (a' := ?_) 7 41 rfl rfl (by kernel_rfl) (fun _ _ _ h => h) (Or.inl ⟨by rfl, ?_⟩) ?_ ?_
      rotate_left
      ·
       intro w'
       go_simp
       with_reducible rfl
      rotate_left
      ·
       simp only [Act.put, sa, sb, sc, i64_w, i32_w]
       rfl
      refine pu HT_ (v := ?_) (a' := ?_) 8 42 rfl rfl (by kernel_rfl) (fun _ _ _ h => h) (Or.inl ⟨by rfl, ?_⟩) ?_ ?_
      rotate_left
      ·
       intro w'
       go_simp
       with_reducible rfl
      rotate_left
      ·
       simp only [Act.put, sa, sb, sc, i64_w, i32_w]
       rfl
      refine pu HT_ (v := ?_) (a' := ?_) 9 43 rfl rfl (by kernel_rfl) (fun _ _ _ h => h) (Or.inl ⟨by rfl, ?_⟩) ?_ ?_
      rotate_left
      ·
       intro w'
       go_simp
       with_reducible rfl
      rotate_left
      ·
       simp only [Act.put, sa, sb, sc, i64_w, i32_w]
       rfl
      refine pure_ (i := 10) (N := some 44) (v := undef) (a' := ?_) #[true, true, true, true, true, true, true, true, true, true, true, false, false, false, false, false, false, false, false, false, false, false] rfl rfl (any_of HT_.out (by kernel_rfl)) (fun _ _ _ h => h) (Or.inr ⟨by rfl, rfl⟩) ?_ ?_
      rotate_left
      ·
       simp only [Act.put, sa, sb, sc, i64_w, i32_w]
       rfl
      refine pure_ (i := 11) (N := some 45) (v := undef) (a' := ?_) #[true, true, true, true, true, true, true, true, true, true, true, true, false, false, false, false, false, false, false, false, false, false] rfl rfl (any_of HT_.out (by kernel_rfl)) (fun _ _ _ h => h) (Or.inr ⟨by rfl, rfl⟩) ?_ ?_
      rotate_left
      ·
       simp only [Act.put, sa, sb, sc, i64_w, i32_w]
       rfl
      refine pure_ (i := 12) (N := some 46) (v := undef) (a' := ?_) #[true, true, true, true, true, true, true, true, true, true, true, true, true, false, false, false, false, false, false, false, false, false] rfl rfl (any_of HT_.out (by kernel_rfl)) (fun _ _ _ h => h) (Or.inr ⟨by rfl, rfl⟩) ?_ ?_
      rotate_left
      ·
       simp only [Act.put, sa, sb, sc, i64_w, i32_w]
       rfl
      refine pure_ (i := 13) (N := some 47) (v := undef) (a' := ?_) #[true, true, true, true, true, true, true, true, true, true, true, true, true, true, false, false, false, false, false, false, false, false] rfl rfl (any_of HT_.out (by kernel_rfl)) (fun _ _ _ h => h) (Or.inr ⟨by rfl, rfl⟩) ?_ ?_
      rotate_left
      ·
       simp only [Act.put, sa, sb, sc, i64_w, i32_w]
       rfl
      refine pure_ (i := 14) (N := some 48) (v := undef) (a' := ?_) #[true, true, true, true, true, true, true, true, true, true, true, true, true, true, true, false, false, false, false, false, false, false] rfl rfl (any_of HT_.out (by kernel_rfl)) (fun _ _ _ h => h) (Or.inr ⟨by rfl, rfl⟩) ?_ ?_
      rotate_left
      ·
       simp only [Act.put, sa, sb, sc, i64_w, i32_w]
       rfl
      refine pure_ (i := 15) (N := some 49) (v := undef) (a' := ?_) #[true, true, true, true, true, true, true, true, true, true, true, true, true, true, true, true, false, false, false, false, false, false] rfl rfl (any_of HT_.out (by kernel_rfl)) (fun _ _ _ h => h) (Or.inr ⟨by rfl, rfl⟩) ?_ ?_
      rotate_left
      ·
       simp only [Act.put, sa, sb, sc, i64_w, i32_w]
       rfl
      refine pure_ (i := 16) (N := some 50) (v := undef) (a' := ?_) #[true, true, true, true, true, true, true, true, true, true, true, true, true, true, true, true, true, false, false, false, false, false] rfl rfl (any_of HT_.out (by kernel_rfl)) (fun _ _ _ h => h) (Or.inr ⟨by rfl, rfl⟩) ?_ ?_
      rotate_left
      ·
       simp only [Act.put, sa, sb, sc, i64_w, i32_w]
       rfl
      refine pure_ (i := 17) (N := some 51) (v := undef) (a' := ?_) #[true, true, true, true, true, true, true, true, true, true, true, true, true, true, true, true, true, true, false, false, false, false] rfl rfl (any_of HT_.out (by kernel_rfl)) (fun _ _ _ h => h) (Or.inr ⟨by rfl, rfl⟩) ?_ ?_
      rotate_left
      ·
       simp only [Act.put, sa, sb, sc, i64_w, i32_w]
       rfl
      refine pure_ (i := 18) (N := some 52) (v := undef) (a' := ?_) #[true, true, true, true, true, true, true, true, true, true, true, true, true, true, true, true, true, true, true, false, false, false] rfl rfl (any_of HT_.out (by kernel_rfl)) (fun _ _ _ h => h) (Or.inr ⟨by rfl, rfl⟩) ?_ ?_
      rotate_left
      ·
       simp only [Act.put, sa, sb, sc, i64_w, i32_w]
       rfl
      refine pure_ (i := 19) (N := some 53) (v := undef) (a' := ?_) #[true, true, true, true, true, true, true, true, true, true, true, true, true, true, true, true, true, true, true, true, false, false] rfl rfl (any_of HT_.out (by kernel_rfl)) (fun _ _ _ h => h) (Or.inr ⟨by rfl, rfl⟩) ?_ ?_
      rotate_left
      ·
       simp only [Act.put, sa, sb, sc, i64_w, i32_w]
       rfl
      refine pu HT_ (v := ?_) (a' := ?_) 20 54 rfl rfl (by kernel_rfl) (fun _ _ _ h => h) (Or.inl ⟨by rfl, ?_⟩) ?_ ?_
      rotate_left
      ·
       intro w'
       go_simp
       with_reducible rfl
      rotate_left
      ·
       simp only [Act.put, sa, sb, sc, i64_w, i32_w]
       rfl
      refine pu HT_ (v := ?_) (a' := ?_) 21 55 rfl rfl (by kernel_rfl) (fun _ _ _ h => h) (Or.inl ⟨by rfl, ?_⟩) ?_ ?_
      rotate_left
      ·
       intro w'
       go_simp
       with_reducible rfl
      rotate_left
      ·
       simp only [Act.put, sa, sb, sc, i64_w, i32_w]
       rfl
      refine done_ (done_of HT_.out (by kernel_rfl)) ?_
      have p750 : 0 ≤ (x7_1 : Int) := of_decide_eq_true (by assumption)
      have q750 : x7_1 < (t732.length : Int) := of_decide_eq_true (by assumption)
      obtain ⟨ad750, A750_0, c750_0, e750, hx750_0, hl750_0, hi750_0⟩ := at_L8 (Kd.V_reads' HO_4.out).2.2 x7_1 p750 q750
      cases e750
      obtain ⟨ce750, hce750, hMe750, hcc750⟩ := Kd.V_get HO_4.out [] x7_1 p750 (by exact q750)
      obtain ⟨ua750_0, uc750_0, rfl, ul750_0, ge750_0⟩ := Kd.FK_slice_open hMe750
      have hv750_0 := hcc750 0 _ rfl
      rw [Nat.add_zero, show ((Kd.slice 5 (Kd.int .u8))).sz = 1 from rfl, Nat.mul_one] at hv750_0
      replace hv750_0 := Option.some.inj (hv750_0.symm.trans hx750_0)
      injection hv750_0 with hva_ hvn_ hvc_
      rw [hva_] at ge750_0
      rw [hvc_] at ul750_0
      have HL750_0 := am (show Kd.V (Kd.int .u8) 5 _ w.heap.size _ _ (rd_L8 t732 x7_1) from Kd.V_mk ul750_0 ge750_0)
      clear hva_ hvn_ hvc_ ge750_0 ul750_0
      clear hcc750 hce750
      have HR750_0 := am hi750_0
      have HC750_0 := am hl750_0
      clear hi750_0 hl750_0
      replace p750 := eq_true p750
      replace q750 := eq_true q750
      try go_wp2_with (((with_reducible refine gate_builtin (b := .append) (xs := #[.tmp 65, .tmp 70]) rfl ?_); (try (refine gate_guard (by rfl) ?_; dsimp only)); at_builtin; refine Kd.N_append (Kd.slice 5 (Kd.int .u8)) (w0 := w) w.heap.size rfl (.tmp 65) (.tmp 70) 87 47 (.slice none 0 0) 24 rfl Tryd.underlying87 info47 rfl (by decide) (by omega) u5 x5_1 (rd_L8 t732 x7_1) [.slice A750_0 (rd_L8 t732 x7_1).length c750_0] (fun k_ => (P0_ k_ ∨ w.heap.size ≤ k_)) (fun k_ => ((fun k_ => (P0_ k_ ∨ w.heap.size ≤ k_))) k_ ∧ some k_ ≠ (u5 : Value).ownBlock) rfl rfl ?aP (fun _ hk => hk) ?aF ?aO ?aB ?aS ?aL ?_; (case aP => exact (Kd.FK_slice_mk (Kd.V_reads' (Kd.V_mono (ok' := (fun k_ => ((fun k_ => (P0_ k_ ∨ w.heap.size ≤ k_))) k_ ∧ some k_ ≠ (u5 : Value).ownBlock)) (HL750_0.out) (fun k_ hk => ⟨hk.1, hk.2⟩))).2.1 (Kd.V_F (by exact (Kd.V_mono (ok' := (fun k_ => ((fun k_ => (P0_ k_ ∨ w.heap.size ≤ k_))) k_ ∧ some k_ ≠ (u5 : Value).ownBlock)) (HL750_0.out) (fun k_ hk => ⟨hk.1, hk.2⟩)))))); (case aB => exact HB.out); (case aF => exact (fun k_ hk => (.inr (Nat.le_trans (below_size HB.out) hk)))); (case aO => exact HO_5.out); (case aS => exact (below_size HB.out)); (case aL => have := LMc47.out; omega); intro v752 w51 ho hb hg hat; rw [← Ny751.out] at ho; replace HO_3 := am (Kd.V_afterv (ok := (fun k_ => (P0_ k_ ∨ w.heap.size ≤ k_))) HO_3.out hg hat); replace HO_4 := am (Kd.V_afterv (ok := (fun k_ => (P0_ k_ ∨ w.heap.size ≤ k_))) HO_4.out hg hat); replace HL750_0 := am (Kd.V_afterv (ok := (fun k_ => (P0_ k_ ∨ w.heap.size ≤ k_))) HL750_0.out hg hat); replace HB := am (hb); have HO753 := am (ho); clear HO_5; clear ho hb hg hat))
      go_roundg kj14
      case measure => have := HK1.out; have := HJ14.out; omega
      case rel => exact ⟨(y751), (x6_1), (wrap64 (x7_1 + 1)), (by rfl), (by rfl), H', ⟨by have := HK1.out; have := HJ14.out; omega⟩, ⟨by exact HO_3.out⟩, ⟨by exact HO_4.out⟩, ⟨by exact HO753.out⟩, ⟨by exact HB.out⟩⟩
     rw [if_pos c29] at H
     have c29b0 := decide_eq_true c29
     clear c29
     replace H := its H
     obtain ⟨c30, H⟩ := H
     have c30b0 := decide_eq_true c30
     clear c30
     replace H := its H
     obtain ⟨c31, H⟩ := H
     have c31b0 := decide_eq_true c31
     clear c31
     replace H := its H
     obtain ⟨c32, H⟩ := H
     have c32b0 := decide_eq_true c32
     clear c32
     replace H := Option.bind_eq_some_iff.mp H
     obtain ⟨t741, A330, H⟩ := H
     replace H : (if t741 = true then (if x5_1.length < 5864062014805 then (lockstepref02_sorted.l0 kj14 t724 t732 (x5_1 ++ [rd_L8 t732 x7_1]) x6_1 (wrap64 (x7_1 + 1))) else (none)) else (if x5_1.length < 5864062014805 then (lockstepref02_sorted.l0 kj14 t724 t732 (x5_1 ++ [rd_L8 t724 x6_1]) (wrap64 (x6_1 + 1)) x7_1) else (none))) = some r := H
     have A33 := am A330
     clear A330
     by_cases c34 : t741 = true
     ·
      subst c34
      have H1 : (if x5_1.length < 5864062014805 then (lockstepref02_sorted.l0 kj14 t724 t732 (x5_1 ++ [rd_L8 t732 x7_1]) x6_1 (wrap64 (x7_1 + 1))) else (none)) = some r := by rw [if_pos rfl] at H; exact H
      clear H
      have H := H1
      clear H1
      replace H := its H
      obtain ⟨c35, H⟩ := H
      have LMc35 := am c35
      clear c35
      obtain ⟨y743, hy743⟩ : ∃ y_ : List (List Int), y_ = (x5_1 ++ [rd_L8 t732 x7_1]) := ⟨_, rfl⟩
      replace H : (lockstepref02_sorted.l0 kj14 t724 t732 y743 x6_1 (wrap64 (x7_1 + 1))) = some r := by (rw [hy743]; with_reducible exact H)
      have Ny743 := am hy743
      clear hy743
      have H' := am H
      clear H
      try go_wp2
      have n0_ := am (Kd.V_drew HO_3.out)
      have n1_ := am (Kd.V_drew HO_4.out)
      have n2_ := am (Kd.N_drew HO_5.out)
      have n3_ := am (below_drew1 HB.out)
      clear HO_3
      clear HO_4
      clear HO_5
      clear HB
      have HO_3 := n0_
      have HO_4 := n1_
      have HO_5 := n2_
      have HB := n3_
      clear n0_ n1_ n2_ n3_
      obtain ⟨Ao37, co37, eo37⟩ := Kd.V_slice HO_4.out
      (subst eo37)
      obtain ⟨Ao38, co38, eo38⟩ := Kd.V_slice HO_3.out
      (subst eo38)
      have p739 : 0 ≤ (x7_1 : Int) := of_decide_eq_true (by assumption)
      have q739 : x7_1 < (t732.length : Int) := of_decide_eq_true (by assumption)
      obtain ⟨ad739, A739_0, c739_0, e739, hx739_0, hl739_0, hi739_0⟩ := at_L8 (Kd.V_reads' HO_4.out).2.2 x7_1 p739 q739
      cases e739
      obtain ⟨ce739, hce739, hMe739, hcc739⟩ := Kd.V_get HO_4.out [] x7_1 p739 (by exact q739)
      obtain ⟨ua739_0, uc739_0, rfl, ul739_0, ge739_0⟩ := Kd.FK_slice_open hMe739
      have hv739_0 := hcc739 0 _ rfl
      rw [Nat.add_zero, show ((Kd.slice 5 (Kd.int .u8))).sz = 1 from rfl, Nat.mul_one] at hv739_0
      replace hv739_0 := Option.some.inj (hv739_0.symm.trans hx739_0)
      injection hv739_0 with hva_ hvn_ hvc_
      rw [hva_] at ge739_0
      rw [hvc_] at ul739_0
      have HL739_0 := am (show Kd.V (Kd.int .u8) 5 _ w.heap.size _ _ (rd_L8 t732 x7_1) from Kd.V_mk ul739_0 ge739_0)
      clear hva_ hvn_ hvc_ ge739_0 ul739_0
      clear hcc739 hce739
      have HR739_0 := am hi739_0
      have HC739_0 := am hl739_0
      clear hi739_0 hl739_0
      replace p739 := eq_true p739
      replace q739 := eq_true q739
      have p740 : 0 ≤ (x6_1 : Int) := of_decide_eq_true (by assumption)
      have q740 : x6_1 < (t724.length : Int) := of_decide_eq_true (by assumption)
      obtain ⟨ad740, A740_0, c740_0, e740, hx740_0, hl740_0, hi740_0⟩ := at_L8 (Kd.V_reads' HO_3.out).2.2 x6_1 p740 q740
      cases e740
      obtain ⟨ce740, hce740, hMe740, hcc740⟩ := Kd.V_get HO_3.out [] x6_1 p740 (by exact q740)
      obtain ⟨ua740_0, uc740_0, rfl, ul740_0, ge740_0⟩ := Kd.FK_slice_open hMe740
      have hv740_0 := hcc740 0 _ rfl
      rw [Nat.add_zero, show ((Kd.slice 5 (Kd.int .u8))).sz = 1 from rfl, Nat.mul_one] at hv740_0
      replace hv740_0 := Option.some.inj (hv740_0.symm.trans hx740_0)
      injection hv740_0 with hva_ hvn_ hvc_
      rw [hva_] at ge740_0
      rw [hvc_] at ul740_0
      have HL740_0 := am (show Kd.V (Kd.int .u8) 5 _ w.heap.size _ _ (rd_L8 t724 x6_1) from Kd.V_mk ul740_0 ge740_0)
      clear hva_ hvn_ hvc_ ge740_0 ul740_0
      clear hcc740 hce740
      have HR740_0 := am hi740_0
      have HC740_0 := am hl740_0
      clear hi740_0 hl740_0
      replace p740 := eq_true p740
      replace q740 := eq_true q740
      refine start_ (n := 22) (S := fun w' => w'.cell? (ad739.add (x7_1).toNat) = some (.slice A739_0 (rd_L8 t732 x7_1).length c739_0) ∧ w'.cell? (ad740.add (x6_1).toNat) = some (.slice A740_0 (rd_L8 t724 x6_1).length c740_0)) (ds := []) #[false, false, false, false, false, false, false, false, false, false, false, false, false, false, false, false, false, false, false, false, false, false] (by kernel_rfl) rfl rfl ⟨hx739_0, hx740_0⟩ (fun hHeld => ?_); refine with_tabW lockstepref02_sorted.tab7 lockstepref02_sorted.bits7 (fun HT_ HW_ => ?_)
      generalize wc.drew = w36 at HO_3 HO_4 HO_5 HB HL739_0 HL740_0 HR739_0 HR740_0 hx739_0 hx740_0 hHeld ⊢
      refine pu HT_ (v := ?_) (a' := ?_) 0 34 rfl rfl (by kernel_rfl) (fun _ _ _ h => h) (Or.inl ⟨by rfl, ?_⟩) ?_ ?_
      rotate_left
      ·
       intro w'
       go_simp
       with_reducible rfl
      rotate_left
      ·
       simp only [Act.put, sa, sb, sc, i64_w, i32_w]
       rfl
      refine pu HT_ (v := ?_) (a' := ?_) 1 35 rfl rfl (by kernel_rfl) (fun _ _ _ h => h) (Or.inl ⟨by rfl, ?_⟩) ?_ ?_
      rotate_left
      ·
       intro w'
       go_simp
       with_reducible rfl
      rotate_left
      ·
       simp only [Act.put, sa, sb, sc, i64_w, i32_w]
       rfl
      refine pu HT_ (v := ?_) (a' := ?_) 2 36 rfl rfl (by kernel_rfl) (fun _ _ _ h => h) (Or.inl ⟨by rfl, ?_⟩) ?_ ?_
      rotate_left
      ·
       intro w'
       go_simp
       with_reducible rfl
      rotate_left
      ·
       simp only [Act.put, sa, sb, sc, i64_w, i32_w]
       rfl
      refine pu HT_ (v := ?_) (a' := ?_) 3 37 rfl rfl (by kernel_rfl) (fun _ _ _ h => h) (Or.inl ⟨by rfl, ?_⟩) ?_ ?_
      rotate_left
      ·
       intro w'
       go_simp
       with_reducible rfl
      rotate_left
      ·
       simp only [Act.put, sa, sb, sc, i64_w, i32_w]
       rfl
      refine pu HT_ (v := ?_) (a' := ?_) 4 38 rfl rfl (by kernel_rfl) (fun _ _ _ h => h) (Or.inl ⟨by rfl, ?_⟩) ?_ ?_
      rotate_left
      ·
       intro w'
       go_simp
       with_reducible rfl
      rotate_left
      ·
       simp only [Act.put, sa, sb, sc, i64_w, i32_w]
       rfl
      refine pu HT_ (v := ?_) (a' := ?_) 5 39 rfl rfl (by kernel_rfl) (fun _ _ _ h => h) (Or.inl ⟨by rfl, ?_⟩) ?_ ?_
      rotate_left
      ·
       intro w'
       go_simp
       with_reducible rfl
      rotate_left
      ·
       simp only [Act.put, sa, sb, sc, i64_w, i32_w]
       rfl
      refine pu HT_ (v := ?_) (a' := ?_) 6 40 rfl rfl (by kernel_rfl) (fun _ _ _ h => h) (Or.inl ⟨by rfl, ?_⟩) ?_ ?_
      rotate_left
      ·
       intro w'
       go_simp
       with_reducible rfl
      rotate_left
      ·
       simp only [Act.put, sa, sb, sc, i64_w, i32_w]
       rfl
      refine pu HT_ (v := ?_) (a' := ?_) 7 41 rfl rfl (by kernel_rfl) (fun _ _ _ h => h) (Or.inl ⟨by rfl, ?_⟩) ?_ ?_
      rotate_left
      ·
       intro w'
       go_simp
       with_reducible rfl
      rotate_left
      ·
       simp only [Act.put, sa, sb, sc, i64_w, i32_w]
       rfl
      refine pu HT_ (v := ?_) (a' := ?_) 8 42 rfl rfl (by kernel_rfl) (fun _ _ _ h => h) (Or.inl ⟨by rfl, ?_⟩) ?_ ?_
      rotate_left
      ·
       intro w'
       go_simp
       with_reducible rfl
      rotate_left
      ·
       simp only [Act.put, sa, sb, sc, i64_w, i32_w]
       rfl
      refine pu HT_ (v := ?_) (a' := ?_) 9 43 rfl rfl (by kernel_rfl) (fun _ _ _ h => h) (Or.inl ⟨by rfl, ?_⟩) ?_ ?_
      rotate_left
      ·
       intro w'
       go_simp
       with_reducible rfl
      rotate_left
      ·
       simp only [Act.put, sa, sb, sc, i64_w, i32_w]
       rfl
      refine pu HT_ (v := ?_) (a' := ?_) 10 44 rfl rfl (by kernel_rfl) (fun _ _ _ h => h) (Or.inl ⟨by rfl, ?_⟩) ?_ ?_
      rotate_left
      ·
       intro w'
       go_simp
       with_reducible rfl
      rotate_left
      ·
       simp only [Act.put, sa, sb, sc, i64_w, i32_w]
       rfl
      refine pu HT_ (v := ?_) (a' := ?_) 11 45 rfl rfl (by kernel_rfl) (fun _ _ _ h => h) (Or.inl ⟨by rfl, ?_⟩) ?_ ?_
      rotate_left
      ·
       intro w'
       go_simp
       with_reducible rfl
      rotate_left
      ·
       simp only [Act.put, sa, sb, sc, i64_w, i32_w]
       rfl
      refine pu HT_ (v := ?_) (a' := ?_) 12 46 rfl rfl (by kernel_rfl) (fun _ _ _ h => h) (Or.inl ⟨by rfl, ?_⟩) ?_ ?_
      rotate_left
      ·
       intro w'
       go_simp
       with_reducible rfl
      rotate_left
      ·
       simp only [Act.put, sa, sb, sc, i64_w, i32_w]
       rfl
      refine pu HT_ (v := ?_) (a' := ?_) 14 48 rfl rfl (by kernel_rfl) (fun _ _ _ h => h) (Or.inl ⟨by rfl, ?_⟩) ?_ ?_
      rotate_left
      ·
       intro w'
       go_simp
       with_reducible rfl
      rotate_left
      ·
       simp only [Act.put, sa, sb, sc, i64_w, i32_w]
       rfl
      refine pu HT_ (v := ?_) (a' := ?_) 15 49 rfl rfl (by kernel_rfl) (fun _ _ _ h => h) (Or.inl ⟨by rfl, ?_⟩) ?_ ?_
      rotate_left
      ·
       intro w'
       go_simp
       with_reducible rfl
      rotate_left
      ·
       simp only [Act.put, sa, sb, sc, i64_w, i32_w]
       rfl
      refine pu HT_ (v := ?_) (a' := ?_) 16 50 rfl rfl (by kernel_rfl) (fun _ _ _ h => h) (Or.inl ⟨by rfl, ?_⟩) ?_ ?_
      rotate_left
      ·
       intro w'
       go_simp
       with_reducible rfl
      rotate_left
      ·
       simp only [Act.put, sa, sb, sc, i64_w, i32_w]
       rfl
      refine take_ (i := 13) (N := some 47) (v := ?_) (a' := ?_) #[true, true, true, true, true, true, true, true, true, true, true, true, true, true, true, true, true, false, false, false, false, false] rfl rfl (take_ofW HT_.out HW_.out (by kernel_rfl)) (fun _ _ _ h => h) (Or.inl ⟨by rfl, ?_⟩) hHeld ?_ ?_
      rotate_left
      ·
       rintro w' ⟨s0, s1⟩
       go_simp
       with_reducible rfl
      rotate_left
      ·
       simp only [Act.put, sa, sb, sc, i64_w, i32_w]
       rfl
      refine take_ (i := 17) (N := some 51) (v := ?_) (a' := ?_) #[true, true, true, true, true, true, true, true, true, true, true, true, true, true, true, true, true, true, false, false, false, false] rfl rfl (take_ofW HT_.out HW_.out (by kernel_rfl)) (fun _ _ _ h => h) (Or.inl ⟨by rfl, ?_⟩) hHeld ?_ ?_
      rotate_left
      ·
       rintro w' ⟨s0, s1⟩
       go_simp
       with_reducible rfl
      rotate_left
      ·
       simp only [Act.put, sa, sb, sc, i64_w, i32_w]
       rfl
      refine one_ (i := 18) (N := some 52) #[true, true, true, true, true, true, true, true, true, true, true, true, true, true, true, true, true, true, true, false, false, false] rfl rfl (one_of HT_.out (by kernel_rfl)) (by decide) (fun K hK => ?_)
      refine goes_ Tryd.func65 (by kernel_rfl) rfl #[.slice A739_0 (rd_L8 t732 x7_1).length c739_0, .slice A740_0 (rd_L8 t724 x6_1).length c740_0] (by rfl) rfl rfl (by (try simp only [List.map_toArray, List.map_cons, List.map_nil]); rfl) ?_
      with_reducible refine (lockstepref02_less.calls _ _ (rd_L8 t732 x7_1) _ _ (rd_L8 t724 x6_1) true _ ?side1 ?side2 ?side3 ?side4 A33.out).mono ?_
      (case side1 => exact HR739_0.out)
      (case side2 => exact HC739_0.out)
      (case side3 => exact HR740_0.out)
      (case side4 => exact HC740_0.out)
      rintro e w' ⟨rfl, ⟨nd, rfl⟩⟩
      refine ⟨_, rfl, ?_⟩
      refine hK.out _ _ ⟨hHeld.1, hHeld.2⟩ (fun hHeld => ?_)
      clear hK K
      refine norm_ (a' := ?_) ?_ ?_
      rotate_left
      ·
       show Act.put _ (some 52) _ = _
       simp only [Act.put, sa, sb, sc, i64_w, i32_w]
       rfl
      refine pu HT_ (v := ?_) (a' := ?_) 19 53 rfl rfl (by kernel_rfl) (fun _ _ _ h => h) (Or.inl ⟨by rfl, ?_⟩) ?_ ?_
      rotate_left
      ·
       intro w'
       go_simp
       with_reducible rfl
      rotate_left
      ·
       simp only [Act.put, sa, sb, sc, i64_w, i32_w]
       rfl
      refine pu HT_ (v := ?_) (a' := ?_) 20 54 rfl rfl (by kernel_rfl) (fun _ _ _ h => h) (Or.inl ⟨by rfl, ?_⟩) ?_ ?_
      rotate_left
      ·
       intro w'
       go_simp
       with_reducible rfl
      rotate_left
      ·
       simp only [Act.put, sa, sb, sc, i64_w, i32_w]
       rfl
      refine pu HT_ (v := ?_) (a' := ?_) 21 55 rfl rfl (by kernel_rfl) (fun _ _ _ h => h) (Or.inl ⟨by rfl, ?_⟩) ?_ ?_
      rotate_left
      ·
       intro w'
       go_simp
       with_reducible rfl
      rotate_left
      ·
       simp only [Act.put, sa, sb, sc, i64_w, i32_w]
       rfl
      refine done_ (done_of HT_.out (by kernel_rfl)) ?_
      have p742 : 0 ≤ (x7_1 : Int) := of_decide_eq_true (by assumption)
      have q742 : x7_1 < (t732.length : Int) := of_decide_eq_true (by assumption)
      obtain ⟨ad742, A742_0, c742_0, e742, hx742_0, hl742_0, hi742_0⟩ := at_L8 (Kd.V_reads' HO_4.out).2.2 x7_1 p742 q742
      obtain rfl : ad739 = ad742 := (by injection e742)
      obtain ⟨ce742, hce742, hMe742, hcc742⟩ := Kd.V_get HO_4.out [] x7_1 p742 (by exact q742)
      obtain ⟨ua742_0, uc742_0, rfl, ul742_0, ge742_0⟩ := Kd.FK_slice_open hMe742
      have hv742_0 := hcc742 0 _ rfl
      rw [Nat.add_zero, show ((Kd.slice 5 (Kd.int .u8))).sz = 1 from rfl, Nat.mul_one] at hv742_0
      replace hv742_0 := Option.some.inj (hv742_0.symm.trans hx742_0)
      injection hv742_0 with hva_ hvn_ hvc_
      rw [hva_] at ge742_0
      rw [hvc_] at ul742_0
      have HL742_0 := am (show Kd.V (Kd.int .u8) 5 _ w.heap.size _ _ (rd_L8 t732 x7_1) from Kd.V_mk ul742_0 ge742_0)
      clear hva_ hvn_ hvc_ ge742_0 ul742_0
      clear hcc742 hce742
      have HR742_0 := am hi742_0
      have HC742_0 := am hl742_0
      clear hi742_0 hl742_0
      replace p742 := eq_true p742
      replace q742 := eq_true q742
      have ea_ := Option.some.inj (hx739_0.symm.trans hx742_0)
      injection ea_ with ea_ en_ ec_
      subst ea_
      subst ec_
      clear en_
      try go_wp2_with (((with_reducible refine gate_builtin (b := .append) (xs := #[.tmp 65, .tmp 70]) rfl ?_); (try (refine gate_guard (by rfl) ?_; dsimp only)); at_builtin; refine Kd.N_append (Kd.slice 5 (Kd.int .u8)) (w0 := w) w.heap.size rfl (.tmp 65) (.tmp 70) 87 47 (.slice none 0 0) 24 rfl Tryd.underlying87 info47 rfl (by decide) (by omega) u5 x5_1 (rd_L8 t732 x7_1) [.slice A739_0 (rd_L8 t732 x7_1).length c739_0] (fun k_ => (P0_ k_ ∨ w.heap.size ≤ k_)) (fun k_ => ((fun k_ => (P0_ k_ ∨ w.heap.size ≤ k_))) k_ ∧ some k_ ≠ (u5 : Value).ownBlock) rfl rfl ?aP (fun _ hk => hk) ?aF ?aO ?aB ?aS ?aL ?_; (case aP => exact (Kd.FK_slice_mk (Kd.V_reads' (Kd.V_mono (ok' := (fun k_ => ((fun k_ => (P0_ k_ ∨ w.heap.size ≤ k_))) k_ ∧ some k_ ≠ (u5 : Value).ownBlock)) (HL742_0.out) (fun k_ hk => ⟨hk.1, hk.2⟩))).2.1 (Kd.V_F (by (with_reducible repeat (apply Kd.V_drewN)); exact (Kd.V_mono (ok' := (fun k_ => ((fun k_ => (P0_ k_ ∨ w.heap.size ≤ k_))) k_ ∧ some k_ ≠ (u5 : Value).ownBlock)) (HL742_0.out) (fun k_ hk => ⟨hk.1, hk.2⟩)))))); (case aB => exact (by repeat ((with_reducible first | exact HB.out | apply pw_below_drewN)))); (case aF => exact (fun k_ hk => (.inr (Nat.le_trans (below_size (by repeat ((with_reducible first | exact HB.out | apply pw_below_drewN)))) hk)))); (case aO => exact (by (with_reducible repeat (apply Kd.N_drewN)); exact HO_5.out)); (case aS => exact (below_size (by repeat ((with_reducible first | exact HB.out | apply pw_below_drewN))))); (case aL => have := LMc35.out; omega); intro v744 w39 ho hb hg hat; rw [← Ny743.out] at ho; replace HO_3 := am (Kd.V_afterv (ok := (fun k_ => (P0_ k_ ∨ w.heap.size ≤ k_))) (by (with_reducible repeat (apply Kd.V_drewN)); exact HO_3.out) hg hat); replace HO_4 := am (Kd.V_afterv (ok := (fun k_ => (P0_ k_ ∨ w.heap.size ≤ k_))) (by (with_reducible repeat (apply Kd.V_drewN)); exact HO_4.out) hg hat); replace HL739_0 := am (Kd.V_afterv (ok := (fun k_ => (P0_ k_ ∨ w.heap.size ≤ k_))) (by (with_reducible repeat (apply Kd.V_drewN)); exact HL739_0.out) hg hat); replace HL740_0 := am (Kd.V_afterv (ok := (fun k_ => (P0_ k_ ∨ w.heap.size ≤ k_))) (by (with_reducible repeat (apply Kd.V_drewN)); exact HL740_0.out) hg hat); replace HL742_0 := am (Kd.V_afterv (ok := (fun k_ => (P0_ k_ ∨ w.heap.size ≤ k_))) (by (with_reducible repeat (apply Kd.V_drewN)); exact HL742_0.out) hg hat); replace HB := am (hb); have HO745 := am (ho); clear HO_5; clear ho hb hg hat))
      go_roundg kj14
      case measure => have := HK1.out; have := HJ14.out; omega
      case rel => exact ⟨(y743), (x6_1), (wrap64 (x7_1 + 1)), (by rfl), (by rfl), H', ⟨by have := HK1.out; have := HJ14.out; omega⟩, ⟨by exact HO_3.out⟩, ⟨by exact HO_4.out⟩, ⟨by exact HO745.out⟩, ⟨by exact HB.out⟩⟩
     replace c34 := Bool.eq_false_iff.mpr c34
     subst c34
     have H1 : (if x5_1.length < 5864062014805 then (lockstepref02_sorted.l0 kj14 t724 t732 (x5_1 ++ [rd_L8 t724 x6_1]) (wrap64 (x6_1 + 1)) x7_1) else (none)) = some r := by rw [if_neg (show ¬ (false = true) by decide)] at H; exact H
     clear H
     have H := H1
     clear H1
     replace H := its H
     obtain ⟨c40, H⟩ := H
     have LMc40 := am c40
     clear c40
     obtain ⟨y747, hy747⟩ : ∃ y_ : List (List Int), y_ = (x5_1 ++ [rd_L8 t724 x6_1]) := ⟨_, rfl⟩
     replace H : (lockstepref02_sorted.l0 kj14 t724 t732 y747 (wrap64 (x6_1 + 1)) x7_1) = some r := by (rw [hy747]; with_reducible exact H)
     have Ny747 := am hy747
     clear hy747
     have H' := am H
     clear H
     try go_wp2
     have n0_ := am (Kd.V_drew HO_3.out)
     have n1_ := am (Kd.V_drew HO_4.out)
     have n2_ := am (Kd.N_drew HO_5.out)
     have n3_ := am (below_drew1 HB.out)
     clear HO_3
     clear HO_4
     clear HO_5
     clear HB
     have HO_3 := n0_
     have HO_4 := n1_
     have HO_5 := n2_
     have HB := n3_
     clear n0_ n1_ n2_ n3_
     obtain ⟨Ao42, co42, eo42⟩ := Kd.V_slice HO_4.out
     (subst eo42)
     obtain ⟨Ao43, co43, eo43⟩ := Kd.V_slice HO_3.out
     (subst eo43)
     have p739 : 0 ≤ (x7_1 : Int) := of_decide_eq_true (by assumption)
     have q739 : x7_1 < (t732.length : Int) := of_decide_eq_true (by assumption)
     obtain ⟨ad739, A739_0, c739_0, e739, hx739_0, hl739_0, hi739_0⟩ := at_L8 (Kd.V_reads' HO_4.out).2.2 x7_1 p739 q739
     cases e739
     obtain ⟨ce739, hce739, hMe739, hcc739⟩ := Kd.V_get HO_4.out [] x7_1 p739 (by exact q739)
     obtain ⟨ua739_0, uc739_0, rfl, ul739_0, ge739_0⟩ := Kd.FK_slice_open hMe739
     have hv739_0 := hcc739 0 _ rfl
     rw [Nat.add_zero, show ((Kd.slice 5 (Kd.int .u8))).sz = 1 from rfl, Nat.mul_one] at hv739_0
     replace hv739_0 := Option.some.inj (hv739_0.symm.trans hx739_0)
     injection hv739_0 with hva_ hvn_ hvc_
     rw [hva_] at ge739_0
     rw [hvc_] at ul739_0
     have HL739_0 := am (show Kd.V (Kd.int .u8) 5 _ w.heap.size _ _ (rd_L8 t732 x7_1) from Kd.V_mk ul739_0 ge739_0)
     clear hva_ hvn_ hvc_ ge739_0 ul739_0
     clear hcc739 hce739
     have HR739_0 := am hi739_0
     have HC739_0 := am hl739_0
     clear hi739_0 hl739_0
     replace p739 := eq_true p739
     replace q739 := eq_true q739
     have p740 : 0 ≤ (x6_1 : Int) := of_decide_eq_true (by assumption)
     have q740 : x6_1 < (t724.length : Int) := of_decide_eq_true (by assumption)
     obtain ⟨ad740, A740_0, c740_0, e740, hx740_0, hl740_0, hi740_0⟩ := at_L8 (Kd.V_reads' HO_3.out).2.2 x6_1 p740 q740
     cases e740
     obtain ⟨ce740, hce740, hMe740, hcc740⟩ := Kd.V_get HO_3.out [] x6_1 p740 (by exact q740)
     obtain ⟨ua740_0, uc740_0, rfl, ul740_0, ge740_0⟩ := Kd.FK_slice_open hMe740
     have hv740_0 := hcc740 0 _ rfl
     rw [Nat.add_zero, show ((Kd.slice 5 (Kd.int .u8))).sz = 1 from rfl, Nat.mul_one] at hv740_0
     replace hv740_0 := Option.some.inj (hv740_0.symm.trans hx740_0)
     injection hv740_0 with hva_ hvn_ hvc_
     rw [hva_] at ge740_0
     rw [hvc_] at ul740_0
     have HL740_0 := am (show Kd.V (Kd.int .u8) 5 _ w.heap.size _ _ (rd_L8 t724 x6_1) from Kd.V_mk ul740_0 ge740_0)
     clear hva_ hvn_ hvc_ ge740_0 ul740_0
     clear hcc740 hce740
     have HR740_0 := am hi740_0
     have HC740_0 := am hl740_0
     clear hi740_0 hl740_0
     replace p740 := eq_true p740
     replace q740 := eq_true q740
     refine start_ (n := 22) (S := fun w' => w'.cell? (ad739.add (x7_1).toNat) = some (.slice A739_0 (rd_L8 t732 x7_1).length c739_0) ∧ w'.cell? (ad740.add (x6_1).toNat) = some (.slice A740_0 (rd_L8 t724 x6_1).length c740_0)) (ds := []) #[false, false, false, false, false, false, false, false, false, false, false, false, false, false, false, false, false, false, false, false, false, false] (by kernel_rfl) rfl rfl ⟨hx739_0, hx740_0⟩ (fun hHeld => ?_); refine with_tabW lockstepref02_sorted.tab7 lockstepref02_sorted.bits7 (fun HT_ HW_ => ?_)
     generalize wc.drew = w41 at HO_3 HO_4 HO_5 HB HL739_0 HL740_0 HR739_0 HR740_0 hx739_0 hx740_0 hHeld ⊢
     refine pu HT_ (v := ?_) (a' := ?_) 0 34 rfl rfl (by kernel_rfl) (fun _ _ _ h => h) (Or.inl ⟨by rfl, ?_⟩) ?_ ?_
     rotate_left
     ·
      intro w'
      go_simp
      with_reducible rfl
     rotate_left
     ·
      simp only [Act.put, sa, sb, sc, i64_w, i32_w]
      rfl
     refine pu HT_ (v := ?_) (a' := ?_) 1 35 rfl rfl (by kernel_rfl) (fun _ _ _ h => h) (Or.inl ⟨by rfl, ?_⟩) ?_ ?_
     rotate_left
     ·
      intro w'
      go_simp
      with_reducible rfl
     rotate_left
     ·
      simp only [Act.put, sa, sb, sc, i64_w, i32_w]
      rfl
     refine pu HT_ (v := ?_) (a' := ?_) 2 36 rfl rfl (by kernel_rfl) (fun _ _ _ h => h) (Or.inl ⟨by rfl, ?_⟩) ?_ ?_
     rotate_left
     ·
      intro w'
      go_simp
      with_reducible rfl
     rotate_left
     ·
      simp only [Act.put, sa, sb, sc, i64_w, i32_w]
      rfl
     refine pu HT_ (v := ?_) (a' := ?_) 3 37 rfl rfl (by kernel_rfl) (fun _ _ _ h => h) (Or.inl ⟨by rfl, ?_⟩) ?_ ?_
     rotate_left
     ·
      intro w'
      go_simp
      with_reducible rfl
     rotate_left
     ·
      simp only [Act.put, sa, sb, sc, i64_w, i32_w]
      rfl
     refine pu HT_ (v := ?_) (a' := ?_) 4 38 rfl rfl (by kernel_rfl) (fun _ _ _ h => h) (Or.inl ⟨by rfl, ?_⟩) ?_ ?_
     rotate_left
     ·
      intro w'
      go_simp
      with_reducible rfl
     rotate_left
     ·
      simp only [Act.put, sa, sb, sc, i64_w, i32_w]
      rfl
     refine pu HT_ (v := ?_) (a' := ?_) 5 39 rfl rfl (by kernel_rfl) (fun _ _ _ h => h) (Or.inl ⟨by rfl, ?_⟩) ?_ ?_
     rotate_left
     ·
      intro w'
      go_simp
      with_reducible rfl
     rotate_left
     ·
      simp only [Act.put, sa, sb, sc, i64_w, i32_w]
      rfl
     refine pu HT_ (v := ?_) (a' := ?_) 6 40 rfl rfl (by kernel_rfl) (fun _ _ _ h => h) (Or.inl ⟨by rfl, ?_⟩) ?_ ?_
     rotate_left
     ·
      intro w'
      go_simp
      with_reducible rfl
     rotate_left
     ·
      simp only [Act.put, sa, sb, sc, i64_w, i32_w]
      rfl
     refine pu HT_ (v := ?_) (a' := ?_) 7 41 rfl rfl (by kernel_rfl) (fun _ _ _ h => h) (Or.inl ⟨by rfl, ?_⟩) ?_ ?_
     rotate_left
     ·
      intro w'
      go_simp
      with_reducible rfl
     rotate_left
     ·
      simp only [Act.put, sa, sb, sc, i64_w, i32_w]
      rfl
     refine pu HT_ (v := ?_) (a' := ?_) 8 42 rfl rfl (by kernel_rfl) (fun _ _ _ h => h) (Or.inl ⟨by rfl, ?_⟩) ?_ ?_
     rotate_left
     ·
      intro w'
      go_simp
      with_reducible rfl
     rotate_left
     ·
      simp only [Act.put, sa, sb, sc, i64_w, i32_w]
      rfl
     refine pu HT_ (v := ?_) (a' := ?_) 9 43 rfl rfl (by kernel_rfl) (fun _ _ _ h => h) (Or.inl ⟨by rfl, ?_⟩) ?_ ?_
     rotate_left
     ·
      intro w'
      go_simp
      with_reducible rfl
     rotate_left
     ·
      simp only [Act.put, sa, sb, sc, i64_w, i32_w]
      rfl
     refine pu HT_ (v := ?_) (a' := ?_) 10 44 rfl rfl (by kernel_rfl) (fun _ _ _ h => h) (Or.inl ⟨by rfl, ?_⟩) ?_ ?_
     rotate_left
     ·
      intro w'
      go_simp
      with_reducible rfl
     rotate_left
     ·
      simp only [Act.put, sa, sb, sc, i64_w, i32_w]
      rfl
     refine pu HT_ (v := ?_) (a' := ?_) 11 45 rfl rfl (by kernel_rfl) (fun _ _ _ h => h) (Or.inl ⟨by rfl, ?_⟩) ?_ ?_
     rotate_left
     ·
      intro w'
      go_simp
      with_reducible rfl
     rotate_left
     ·
      simp only [Act.put, sa, sb, sc, i64_w, i32_w]
      rfl
     refine pu HT_ (v := ?_) (a' := ?_) 12 46 rfl rfl (by kernel_rfl) (fun _ _ _ h => h) (Or.inl ⟨by rfl, ?_⟩) ?_ ?_
     rotate_left
     ·
      intro w'
      go_simp
      with_reducible rfl
     rotate_left
     ·
      simp only [Act.put, sa, sb, sc, i64_w, i32_w]
      rfl
     refine pu HT_ (v := ?_) (a' := ?_) 14 48 rfl rfl (by kernel_rfl) (fun _ _ _ h => h) (Or.inl ⟨by rfl, ?_⟩) ?_ ?_
     rotate_left
     ·
      intro w'
      go_simp
      with_reducible rfl
     rotate_left
     ·
      simp only [Act.put, sa, sb, sc, i64_w, i32_w]
      rfl
     refine pu HT_ (v := ?_) (a' := ?_) 15 49 rfl rfl (by kernel_rfl) (fun _ _ _ h => h) (Or.inl ⟨by rfl, ?_⟩) ?_ ?_
     rotate_left
     ·
      intro w'
      go_simp
      with_reducible rfl
     rotate_left
     ·
      simp only [Act.put, sa, sb, sc, i64_w, i32_w]
      rfl
     refine pu HT_ (v := ?_) (a' := ?_) 16 50 rfl rfl (by kernel_rfl) (fun _ _ _ h => h) (Or.inl ⟨by rfl, ?_⟩) ?_ ?_
     rotate_left
     ·
      intro w'
      go_simp
      with_reducible rfl
     rotate_left
     ·
      simp only [Act.put, sa, sb, sc, i64_w, i32_w]
      rfl
     refine take_ (i := 13) (N := some 47) (v := ?_) (a' := ?_) #[true, true, true, true, true, true, true, true, true, true, true, true, true, true, true, true, true, false, false, false, false, false] rfl rfl (take_ofW HT_.out HW_.out (by kernel_rfl)) (fun _ _ _ h => h) (Or.inl ⟨by rfl, ?_⟩) hHeld ?_ ?_
     rotate_left
     ·
      rintro w' ⟨s0, s1⟩
      go_simp
      with_reducible rfl
     rotate_left
     ·
      simp only [Act.put, sa, sb, sc, i64_w, i32_w]
      rfl
     refine take_ (i := 17) (N := some 51) (v := ?_) (a' := ?_) #[true, true, true, true, true, true, true, true, true, true, true, true, true, true, true, true, true, true, false, false, false, false] rfl rfl (take_ofW HT_.out HW_.out (by kernel_rfl)) (fun _ _ _ h => h) (Or.inl ⟨by rfl, ?_⟩) hHeld ?_ ?_
     rotate_left
     ·
      rintro w' ⟨s0, s1⟩
      go_simp
      with_reducible rfl
     rotate_left
     ·
      simp only [Act.put, sa, sb, sc, i64_w, i32_w]
      rfl
     refine one_ (i := 18) (N := some 52) #[true, true, true, true, true, true, true, true, true, true, true, true, true, true, true, true, true, true, true, false, false, false] rfl rfl (one_of HT_.out (by kernel_rfl)) (by decide) (fun K hK => ?_)
     refine goes_ Tryd.func65 (by kernel_rfl) rfl #[.slice A739_0 (rd_L8 t732 x7_1).length c739_0, .slice A740_0 (rd_L8 t724 x6_1).length c740_0] (by rfl) rfl rfl (by (try simp only [List.map_toArray, List.map_cons, List.map_nil]); rfl) ?_
     with_reducible refine (lockstepref02_less.calls _ _ (rd_L8 t732 x7_1) _ _ (rd_L8 t724 x6_1) false _ ?side1 ?side2 ?side3 ?side4 A33.out).mono ?_
     (case side1 => exact HR739_0.out)
     (case side2 => exact HC739_0.out)
     (case side3 => exact HR740_0.out)
     (case side4 => exact HC740_0.out)
     rintro e w' ⟨rfl, ⟨nd, rfl⟩⟩
     refine ⟨_, rfl, ?_⟩
     refine hK.out _ _ ⟨hHeld.1, hHeld.2⟩ (fun hHeld => ?_)
     clear hK K
     refine norm_ (a' := ?_) ?_ ?_
     rotate_left
     ·
      show Act.put _ (some 52) _ = _
      simp only [Act.put, sa, sb, sc, i64_w, i32_w]
      rfl
     refine pu HT_ (v := ?_) (a' := ?_) 19 53 rfl rfl (by kernel_rfl) (fun _ _ _ h => h) (Or.inl ⟨by rfl, ?_⟩) ?_ ?_
     rotate_left
     ·
      intro w'
      go_simp
      with_reducible rfl
     rotate_left
     ·
      simp only [Act.put, sa, sb, sc, i64_w, i32_w]
      rfl
     refine pu HT_ (v := ?_) (a' := ?_) 20 54 rfl rfl (by kernel_rfl) (fun _ _ _ h => h) (Or.inl ⟨by rfl, ?_⟩) ?_ ?_
     rotate_left
     ·
      intro w'
      go_simp
      with_reducible rfl
     rotate_left
     ·
      simp only [Act.put, sa, sb, sc, i64_w, i32_w]
      rfl
     refine pu HT_ (v := ?_) (a' := ?_) 21 55 rfl rfl (by kernel_rfl) (fun _ _ _ h => h) (Or.inl ⟨by rfl, ?_⟩) ?_ ?_
     rotate_left
     ·
      intro w'
      go_simp
      with_reducible rfl
     rotate_left
     ·
      simp only [Act.put, sa, sb, sc, i64_w, i32_w]
      rfl
     refine done_ (done_of HT_.out (by kernel_rfl)) ?_
     have p746 : 0 ≤ (x6_1 : Int) := of_decide_eq_true (by assumption)
     have q746 : x6_1 < (t724.length : Int) := of_decide_eq_true (by assumption)
     obtain ⟨ad746, A746_0, c746_0, e746, hx746_0, hl746_0, hi746_0⟩ := at_L8 (Kd.V_reads' HO_3.out).2.2 x6_1 p746 q746
     obtain rfl : ad740 = ad746 := (by injection e746)
     obtain ⟨ce746, hce746, hMe746, hcc746⟩ := Kd.V_get HO_3.out [] x6_1 p746 (by exact q746)
     obtain ⟨ua746_0, uc746_0, rfl, ul746_0, ge746_0⟩ := Kd.FK_slice_open hMe746
     have hv746_0 := hcc746 0 _ rfl
     rw [Nat.add_zero, show ((Kd.slice 5 (Kd.int .u8))).sz = 1 from rfl, Nat.mul_one] at hv746_0
     replace hv746_0 := Option.some.inj (hv746_0.symm.trans hx746_0)
     injection hv746_0 with hva_ hvn_ hvc_
     rw [hva_] at ge746_0
     rw [hvc_] at ul746_0
     have HL746_0 := am (show Kd.V (Kd.int .u8) 5 _ w.heap.size _ _ (rd_L8 t724 x6_1) from Kd.V_mk ul746_0 ge746_0)
     clear hva_ hvn_ hvc_ ge746_0 ul746_0
     clear hcc746 hce746
     have HR746_0 := am hi746_0
     have HC746_0 := am hl746_0
     clear hi746_0 hl746_0
     replace p746 := eq_true p746
     replace q746 := eq_true q746
     have ea_ := Option.some.inj (hx740_0.symm.trans hx746_0)
     injection ea_ with ea_ en_ ec_
     subst ea_
     subst ec_
     clear en_
     try go_wp2_with (((with_reducible refine gate_builtin (b := .append) (xs := #[.tmp 56, .tmp 61]) rfl ?_); (try (refine gate_guard (by rfl) ?_; dsimp only)); at_builtin; refine Kd.N_append (Kd.slice 5 (Kd.int .u8)) (w0 := w) w.heap.size rfl (.tmp 56) (.tmp 61) 87 47 (.slice none 0 0) 24 rfl Tryd.underlying87 info47 rfl (by decide) (by omega) u5 x5_1 (rd_L8 t724 x6_1) [.slice A740_0 (rd_L8 t724 x6_1).length c740_0] (fun k_ => (P0_ k_ ∨ w.heap.size ≤ k_)) (fun k_ => ((fun k_ => (P0_ k_ ∨ w.heap.size ≤ k_))) k_ ∧ some k_ ≠ (u5 : Value).ownBlock) rfl rfl ?aP (fun _ hk => hk) ?aF ?aO ?aB ?aS ?aL ?_; (case aP => exact (Kd.FK_slice_mk (Kd.V_reads' (Kd.V_mono (ok' := (fun k_ => ((fun k_ => (P0_ k_ ∨ w.heap.size ≤ k_))) k_ ∧ some k_ ≠ (u5 : Value).ownBlock)) (HL746_0.out) (fun k_ hk => ⟨hk.1, hk.2⟩))).2.1 (Kd.V_F (by (with_reducible repeat (apply Kd.V_drewN)); exact (Kd.V_mono (ok' := (fun k_ => ((fun k_ => (P0_ k_ ∨ w.heap.size ≤ k_))) k_ ∧ some k_ ≠ (u5 : Value).ownBlock)) (HL746_0.out) (fun k_ hk => ⟨hk.1, hk.2⟩)))))); (case aB => exact (by repeat ((with_reducible first | exact HB.out | apply pw_below_drewN)))); (case aF => exact (fun k_ hk => (.inr (Nat.le_trans (below_size (by repeat ((with_reducible first | exact HB.out | apply pw_below_drewN)))) hk)))); (case aO => exact (by (with_reducible repeat (apply Kd.N_drewN)); exact HO_5.out)); (case aS => exact (below_size (by repeat ((with_reducible first | exact HB.out | apply pw_below_drewN))))); (case aL => have := LMc40.out; omega); intro v748 w44 ho hb hg hat; rw [← Ny747.out] at ho; replace HO_3 := am (Kd.V_afterv (ok := (fun k_ => (P0_ k_ ∨ w.heap.size ≤ k_))) (by (with_reducible repeat (apply Kd.V_drewN)); exact HO_3.out) hg hat); replace HO_4 := am (Kd.V_afterv (ok := (fun k_ => (P0_ k_ ∨ w.heap.size ≤ k_))) (by (with_reducible repeat (apply Kd.V_drewN)); exact HO_4.out) hg hat); replace HL739_0 := am (Kd.V_afterv (ok := (fun k_ => (P0_ k_ ∨ w.heap.size ≤ k_))) (by (with_reducible repeat (apply Kd.V_drewN)); exact HL739_0.out) hg hat); replace HL740_0 := am (Kd.V_afterv (ok := (fun k_ => (P0_ k_ ∨ w.heap.size ≤ k_))) (by (with_reducible repeat (apply Kd.V_drewN)); exact HL740_0.out) hg hat); replace HL746_0 := am (Kd.V_afterv (ok := (fun k_ => (P0_ k_ ∨ w.heap.size ≤ k_))) (by (with_reducible repeat (apply Kd.V_drewN)); exact HL746_0.out) hg hat); replace HB := am (hb); have HO749 := am (ho); clear HO_5; clear ho hb hg hat))
     go_roundg kj14
     case measure => have := HK1.out; have := HJ14.out; omega
     case rel => exact ⟨(y747), (wrap64 (x6_1 + 1)), (x7_1), (by rfl), (by rfl), H', ⟨by have := HK1.out; have := HJ14.out; omega⟩, ⟨by exact HO_3.out⟩, ⟨by exact HO_4.out⟩, ⟨by exact HO749.out⟩, ⟨by exact HB.out⟩⟩
def lockstepref02_Row.l0 : Nat → List (S42) → List Int → Int → Option (List Int × Int)
 | 0, _, _, _ => none
 | k + 1, x0, x4, x5 => if x5 < (x0.length : Int) then (if 0 ≤ x5 then ((lockstepref02_Value.f k ((rd_T42 x0 x5).f0) ((rd_T42 x0 x5).f1) ((rd_T42 x0 x5).f2)).bind fun bt233 => (if bt233.2 = 0 then (if x4.length + bt233.1.length < 140737488355328 then (lockstepref02_Row.l0 k x0 (x4 ++ bt233.1) (wrap64 (x5 + 1))) else (none)) else (some (([] : List Int), bt233.2)))) else (none)) else (if x4.length < 140737488355328 then (some ((x4 ++ [0]), 0)) else (none))
def lockstepref02_Row.f (k : Nat) (l0 : List (S42)) : Option (List Int × Int) := if (l0.length : Int) > 16 then (some (([] : List Int), 2)) else (lockstepref02_Row.l0 k l0 ([] : List Int) 0)
set_option maxHeartbeats 8000000 in
set_option maxRecDepth 100000 in
theorem lockstepref02_Row.calls (k : Nat) (A0 : Option Addr) (c0 : Nat) (l0 : List (S42)) (r1 : List Int) (r2 : Int) (w : World) (hr0 : Kd.C k42 w A0 l0.length l0) (hc0 : l0.length ≤ c0) (h : lockstepref02_Row.f k l0 = some (r1, r2)) :
  Calls Tryd.prog 38 #[.slice A0 l0.length c0] w fun e w' => ∃ v0_ : Value, e = .returned (.tuple #[v0_, .int .i64 r2]) ∧ Kd.R (Kd.int .u8) 5 w' w.heap.size (fun _ => True) v0_ r1 ∧ Below w.heap.size w w' := by
 have hu42 := Tryd.underlying42
 have HR0 := am hr0
 have HC0 := am hc0
 clear hr0 hc0
 have HB := am (Below.refl w.heap.size w)
 have H : (if (l0.length : Int) > 16 then (some (([] : List Int), 2)) else (lockstepref02_Row.l0 k l0 ([] : List Int) 0)) = some (r1, r2) := h
 clear h
 by_cases c2 : (l0.length : Int) > 16
 ·
  rw [if_pos c2] at H
  have c2b0 : decide (16 < (l0.length : Int)) = true := decide_eq_true c2
  have c2b1 : decide (16 < l0.length) = true := decide_eq_true (by omega)
  clear c2
  simp only [Option.some.injEq, Prod.mk.injEq] at H
  obtain ⟨rfl, rfl⟩ := H
  go_enter Tryd.func38, Tryd.ntmps38
  go_wp2
  go_ret2
  exact ⟨_, by first | rfl | (simp [errW_none, errW_some] <;> rfl) | (simp [*, errW_none, errW_some] <;> rfl), by first | exact Kd.R_nil _ _ _ _ _ | exact Kd.N_nil _ _ _ _ _ | exact Kd.V_nil _ _ _ _ _ | exact Kd.Q_nil _ _ _ _ _ | exact Kd.S_nil _ _ _ _ _, by repeat (first | (with_reducible first | exact HB.out | apply below_alloc | apply pw_below_drewN | apply below_drew1) | exact HB.out)⟩
 rw [if_neg c2] at H
 have c2b0 : decide (16 < (l0.length : Int)) = false := decide_eq_false c2
 have c2b1 : decide (16 < l0.length) = false := decide_eq_false (by omega)
 clear c2
 have H' := am H
 clear H
 go_enter Tryd.func38, Tryd.ntmps38
 go_wp2
 go_loopg [4, 5] k (fun kq v4 v5 w' => ∃ (x4_1 : List Int) (x5_1 : Int), v5 = .int .i64 x5_1 ∧ Aside0 (lockstepref02_Row.l0 kq l0 x4_1 x5_1 = some (r1, r2)) ∧ Aside0 (kq ≤ k) ∧ Aside0 (Kd.R (Kd.int .u8) 5 w' w.heap.size (fun _ => True) v4 x4_1) ∧ Aside0 (Below w.heap.size w w'))
 case atStart => exact ⟨(([] : List Int)), (0), (by first | rfl | (simp; done) | (simp [*]; done)), H', ⟨Nat.le_refl _⟩, ⟨by first | exact Kd.R_nil _ _ _ _ _ | exact Kd.N_nil _ _ _ _ _ | exact Kd.V_nil _ _ _ _ _ | exact Kd.Q_nil _ _ _ _ _ | exact Kd.S_nil _ _ _ _ _⟩, ⟨by repeat (first | (with_reducible first | exact HB.out | apply below_alloc | apply pw_below_drewN | apply below_drew1) | exact HB.out)⟩⟩
 case round =>
  clear H'
  (try clear c2); (try clear c2b0); (try clear c2b1); (try clear p2)
  obtain ⟨x4_1, x5_1, rfl, HA, HK1, HO_4, HB⟩ := hrel
  cases gk with
  | zero => exact absurd HA.out (by simp [lockstepref02_Row.l0])
  | succ k1 =>
   have H := HA.out
   clear HA
   simp only [lockstepref02_Row.l0] at H
   by_cases c3 : x5_1 < (l0.length : Int)
   rotate_left
   ·
    rw [if_neg c3] at H
    have c3b0 := decide_eq_false c3
    clear c3
    by_cases c12 : x4_1.length < 140737488355328
    rotate_left
    ·
     rw [if_neg c12] at H
     exact absurd H (by simp)
    rw [if_pos c12] at H
    have LMc12 := am c12
    clear c12
    obtain ⟨y240, hy240⟩ : ∃ y_ : List Int, y_ = (x4_1 ++ [0]) := ⟨_, rfl⟩
    replace H : (some (y240, 0)) = some (r1, r2) := by first | (rw [hy240]; with_reducible exact H) | (have H2_ := (Option.bind_some _ _).symm.trans H; rw [hy240]; with_reducible exact H2_) | (have H2_ := (Option.bind_some _ _).symm.trans H; with_reducible exact H2_) | with_reducible exact H | (rw [hy240]; exact H) | exact H
    have Ny240 := am hy240
    clear hy240
    simp only [Option.some.injEq, Prod.mk.injEq] at H
    obtain ⟨rfl, rfl⟩ := H
    go_wp2_with (first | ((with_reducible refine gate_builtin (b := .append) (xs := #[.tmp 31, .tmp 32]) rfl ?_); at_builtin; refine Kd.R_append (Kd.int .u8) (w0 := w) w.heap.size rfl (.tmp 31) (.tmp 32) 47 5 (.int .u8 0) 1 rfl Tryd.underlying47 info5 rfl (by decide) (by omega) u4 x4_1 0 [.int .u8 0] (fun _ => True) (fun _ => False) rfl rfl ?aP (fun _ hk => hk.elim) ?aF ?aO ?aB ?aS ?aL ?_; (case aP => exact rfl); (case aB => exact (by repeat (first | (with_reducible first | exact HB.out | apply below_alloc | apply pw_below_drewN | apply below_drew1) | exact HB.out))); (case aF => exact (fun _ _ => trivial)); (case aO => exact (by (with_reducible repeat (first | apply Kd.R_alloc | apply Kd.R_drewN | apply Kd.R_drew)); exact HO_4.out)); (case aS => exact (below_size (by repeat (first | (with_reducible first | exact HB.out | apply below_alloc | apply pw_below_drewN | apply below_drew1) | exact HB.out)))); (case aL => have := LMc12.out; omega); intro v241 w13 ho hb hg hat; rw [← Ny240.out] at ho; have n0_ := am (hb); have n1_ := am (ho); clear HB; clear HO_4; have HB := n0_; have HO242 := n1_; clear n0_ n1_; clear ho hb hg hat))
    go_ret2
    exact ⟨_, by first | rfl | (simp [errW_none, errW_some] <;> rfl) | (simp [*, errW_none, errW_some] <;> rfl), by (with_reducible repeat (first | apply Kd.R_alloc | apply Kd.R_drewN | apply Kd.R_drew)); exact HO242.out, by repeat (first | (with_reducible first | exact HB.out | apply below_alloc | apply pw_below_drewN | apply below_drew1) | exact HB.out)⟩
   rw [if_pos c3] at H
   have c3b0 := decide_eq_true c3
   clear c3
   by_cases c4 : 0 ≤ x5_1
   rotate_left
   ·
    rw [if_neg c4] at H
    exact absurd H (by simp)
   rw [if_pos c4] at H
   have c4b0 := decide_eq_true c4
   clear c4
   replace H := Option.bind_eq_some_iff.mp H
   obtain ⟨⟨t233, t236⟩, A50, H⟩ := H
   replace H : (if t236 = 0 then (if x4_1.length + t233.length < 140737488355328 then (lockstepref02_Row.l0 k1 l0 (x4_1 ++ t233) (wrap64 (x5_1 + 1))) else (none)) else (some (([] : List Int), t236))) = some (r1, r2) := H
   have A5 := am A50
   clear A50
   by_cases c6 : t236 = 0
   rotate_left
   ·
    rw [if_neg c6] at H
    have c6b0 : (t236 == 0) = false := beq_eq_false_iff_ne.mpr c6
    have c6b1 : (t236 != 0) = true := bne_iff_ne.mpr c6
    simp only [Option.some.injEq, Prod.mk.injEq] at H
    obtain ⟨rfl, rfl⟩ := H
    have p232 : 0 ≤ (x5_1 : Int) := of_decide_eq_true (by first | (with_reducible assumption) | assumption)
    have q232 : x5_1 < (l0.length : Int) := of_decide_eq_true (by first | (with_reducible assumption) | assumption)
    obtain ⟨ad232, e232, hx232_0, hx232_1, hx232_2⟩ := at_T42 HR0.out x5_1 p232 q232
    cases e232
    replace hx232_0 := (HB.out.cell (World.block_lt_of_cell? w _ hx232_0)).trans hx232_0
    replace hx232_1 := (HB.out.cell (World.block_lt_of_cell? w _ hx232_1)).trans hx232_1
    replace hx232_2 := (HB.out.cell (World.block_lt_of_cell? w _ hx232_2)).trans hx232_2
    replace p232 := eq_true p232
    replace q232 := eq_true q232
    go_wp2_with (first | ((with_reducible refine gate_callee (f := 26) rfl ?_); refine goesL_ (some 22) rfl rfl Tryd.func26 (by kernel_rfl) rfl #[.agg #[.int .i64 ((rd_T42 l0 x5_1).f0), .int .i64 ((rd_T42 l0 x5_1).f1), .string ((rd_T42 l0 x5_1).f2)]] rfl (by (try simp only [List.map_toArray, List.map_cons, List.map_nil]); first | done | rfl | (simp only [List.length_drop, List.length_take]; rfl)) ?_; (with_reducible refine (lockstepref02_Value.calls k1 ((rd_T42 l0 x5_1).f0) ((rd_T42 l0 x5_1).f1) ((rd_T42 l0 x5_1).f2) t233 t236 _ A5.out).mono ?_); rintro e w11 ⟨v234, rfl, ho0, hb⟩; refine ⟨_, rfl, ?_⟩; have n0_ := am (Kd.R_elder' (by (with_reducible repeat (first | apply Kd.R_alloc | apply Kd.R_drewN | apply Kd.R_drew)); exact HO_4.out) (Kd.R_base ho0) hb); have n1_ := am (Kd.R_lower (Kd.R_new' ho0 (Kd.R_lt (by (with_reducible repeat (first | apply Kd.R_alloc | apply Kd.R_drewN | apply Kd.R_drew)); exact HO_4.out))) (below_size (by repeat (first | (with_reducible first | exact HB.out | apply below_alloc | apply pw_below_drewN | apply below_drew1) | exact HB.out)))); have n2_ := am (below_step (by repeat (first | (with_reducible first | exact HB.out | apply below_alloc | apply pw_below_drewN | apply below_drew1) | exact HB.out)) hb); clear HO_4; clear HB; have HO_4 := n0_; have HO235 := n1_; have HB := n2_; clear n0_ n1_ n2_; (try clear hb); (try clear hb2); (try clear hk); (try clear hi); (try clear ho0)))
    go_ret2
    exact ⟨_, by first | rfl | (simp [errW_none, errW_some] <;> rfl) | (simp [*, errW_none, errW_some] <;> rfl), by first | exact Kd.R_nil _ _ _ _ _ | exact Kd.N_nil _ _ _ _ _ | exact Kd.V_nil _ _ _ _ _ | exact Kd.Q_nil _ _ _ _ _ | exact Kd.S_nil _ _ _ _ _, by repeat (first | (with_reducible first | exact HB.out | apply below_alloc | apply pw_below_drewN | apply below_drew1) | exact HB.out)⟩
   rw [if_pos c6] at H
   have c6b0 : (t236 == 0) = true := beq_iff_eq.mpr c6
   have c6b1 : (t236 != 0) = false := bne_eq_false_iff_eq.mpr c6
   clear c6
   by_cases c7 : x4_1.length + t233.length < 140737488355328
   rotate_left
   ·
    rw [if_neg c7] at H
    exact absurd H (by simp)
   rw [if_pos c7] at H
   have LMc7 := am c7
   clear c7
   obtain ⟨y237, hy237⟩ : ∃ y_ : List Int, y_ = (x4_1 ++ t233) := ⟨_, rfl⟩
   replace H : (lockstepref02_Row.l0 k1 l0 y237 (wrap64 (x5_1 + 1))) = some (r1, r2) := by first | (rw [hy237]; with_reducible exact H) | (have H2_ := (Option.bind_some _ _).symm.trans H; rw [hy237]; with_reducible exact H2_) | (have H2_ := (Option.bind_some _ _).symm.trans H; with_reducible exact H2_) | with_reducible exact H | (rw [hy237]; exact H) | exact H
   have Ny237 := am hy237
   clear hy237
   have H' := am H
   clear H
   have p232 : 0 ≤ (x5_1 : Int) := of_decide_eq_true (by first | (with_reducible assumption) | assumption)
   have q232 : x5_1 < (l0.length : Int) := of_decide_eq_true (by first | (with_reducible assumption) | assumption)
   obtain ⟨ad232, e232, hx232_0, hx232_1, hx232_2⟩ := at_T42 HR0.out x5_1 p232 q232
   cases e232
   replace hx232_0 := (HB.out.cell (World.block_lt_of_cell? w _ hx232_0)).trans hx232_0
   replace hx232_1 := (HB.out.cell (World.block_lt_of_cell? w _ hx232_1)).trans hx232_1
   replace hx232_2 := (HB.out.cell (World.block_lt_of_cell? w _ hx232_2)).trans hx232_2
   replace p232 := eq_true p232
   replace q232 := eq_true q232
   go_wp2_with (first | ((with_reducible refine gate_callee (f := 26) rfl ?_); refine goesL_ (some 22) rfl rfl Tryd.func26 (by kernel_rfl) rfl #[.agg #[.int .i64 ((rd_T42 l0 x5_1).f0), .int .i64 ((rd_T42 l0 x5_1).f1), .string ((rd_T42 l0 x5_1).f2)]] rfl (by (try simp only [List.map_toArray, List.map_cons, List.map_nil]); first | done | rfl | (simp only [List.length_drop, List.length_take]; rfl)) ?_; (with_reducible refine (lockstepref02_Value.calls k1 ((rd_T42 l0 x5_1).f0) ((rd_T42 l0 x5_1).f1) ((rd_T42 l0 x5_1).f2) t233 t236 _ A5.out).mono ?_); rintro e w8 ⟨v234, rfl, ho0, hb⟩; refine ⟨_, rfl, ?_⟩; have n0_ := am (Kd.R_elder' (by (with_reducible repeat (first | apply Kd.R_alloc | apply Kd.R_drewN | apply Kd.R_drew)); exact HO_4.out) (Kd.R_base ho0) hb); have n1_ := am (Kd.R_lower (Kd.R_new' ho0 (Kd.R_lt (by (with_reducible repeat (first | apply Kd.R_alloc | apply Kd.R_drewN | apply Kd.R_drew)); exact HO_4.out))) (below_size (by repeat (first | (with_reducible first | exact HB.out | apply below_alloc | apply pw_below_drewN | apply below_drew1) | exact HB.out)))); have n2_ := am (below_step (by repeat (first | (with_reducible first | exact HB.out | apply below_alloc | apply pw_below_drewN | apply below_drew1) | exact HB.out)) hb); clear HO_4; clear HB; have HO_4 := n0_; have HO235 := n1_; have HB := n2_; clear n0_ n1_ n2_; (try clear hb); (try clear hb2); (try clear hk); (try clear hi); (try clear ho0); obtain ⟨Ao10, co10, eo10⟩ := Kd.R_slice HO235.out; subst eo10) | ((with_reducible refine gate_builtin (b := .append) (xs := #[.tmp 28, .tmp 29]) rfl ?_); at_builtin; refine Kd.R_append_rows (Kd.int .u8) (w0 := w) w.heap.size rfl (.tmp 28) (.tmp 29) 47 5 (.int .u8 0) 1 rfl Tryd.underlying47 info5 rfl (by decide) (by omega) u4 x4_1 t233 _ _ _ (fun k_ => some k_ ≠ (.slice Ao10 t233.length co10 : Value).ownBlock) (fun _ => False) rfl rfl ?aO ?aR (fun _ _ h => h) (fun _ h => h.elim) ?aF ?aB ?aS ?aL ?_; (case aR => repeat (first | exact (Kd.R_reads' HO235.out).2.2 | (with_reducible refine Kd.C_alloc ?_ _) | (with_reducible refine Kd.C_drewN ?_ _) | (with_reducible refine Kd.C_drew ?_))); (case aB => exact (by repeat (first | (with_reducible first | exact HB.out | apply below_alloc | apply pw_below_drewN | apply below_drew1) | exact HB.out))); (case aF => exact (fun k_ hk => Kd.fresh' (Kd.R_lt (by (with_reducible repeat (first | apply Kd.R_alloc | apply Kd.R_drewN | apply Kd.R_drew)); exact HO235.out)) k_ hk)); (case aO => exact (by (with_reducible repeat (first | apply Kd.R_alloc | apply Kd.R_drewN | apply Kd.R_drew)); exact Kd.R_mono HO_4.out (fun _ hk => hk.2))); (case aS => exact (below_size (by repeat (first | (with_reducible first | exact HB.out | apply below_alloc | apply pw_below_drewN | apply below_drew1) | exact HB.out)))); (case aL => have := LMc7.out; omega); intro v238 w9 ho hb hg hat; rw [← Ny237.out] at ho; have n0_ := am (Kd.R_after (ok := (fun _ => True)) (by (with_reducible repeat (first | apply Kd.R_alloc | apply Kd.R_drewN | apply Kd.R_drew)); exact HO235.out) hg hat); have n1_ := am (hb); have n2_ := am (ho); clear HO235; clear HB; clear HO_4; have HO235 := n0_; have HB := n1_; have HO239 := n2_; clear n0_ n1_ n2_; clear ho hb hg hat))
   go_roundg k1
   case measure => have := HK1.out; omega
   case rel => exact ⟨(y237), (wrap64 (x5_1 + 1)), (by first | rfl | (simp; done) | (simp [*]; done)), H', ⟨by have := HK1.out; omega⟩, ⟨by (with_reducible repeat (first | apply Kd.R_alloc | apply Kd.R_drewN | apply Kd.R_drew)); exact Kd.R_mono HO239.out (fun _ hk => trivial)⟩, ⟨by repeat (first | (with_reducible first | exact HB.out | apply below_alloc | apply pw_below_drewN | apply below_drew1) | exact HB.out)⟩⟩
mutual
def lockstepref02_Bag.l0 : Nat → List (List (S42)) → List (List Int) → Int → Option (List Int × Int)
 | 0, _, _, _ => none
 | k + 1, x0, x4, x5 => if x5 < (x0.length : Int) then (if 0 ≤ x5 then ((lockstepref02_Row.f k (rd_L5 x0 x5)).bind fun bt755 => (if bt755.2 = 0 then (if x4.length < 5864062014805 then (lockstepref02_Bag.l0 k x0 (x4 ++ [bt755.1]) (wrap64 (x5 + 1))) else (none)) else (some (([] : List Int), bt755.2)))) else (none)) else ((lockstepref02_sorted.f k x4).bind fun t762 => (lockstepref02_Bag.l1 k t762 (t762.length : Int) (([((t762.length : Int) / 16777216) % 256, ((t762.length : Int) / 65536) % 256, ((t762.length : Int) / 256) % 256, ((t762.length : Int)) % 256] : List Int)) 0))
def lockstepref02_Bag.l1 : Nat → List (List Int) → Int → List Int → Int → Option (List Int × Int)
 | 0, _, _, _, _ => none
 | k + 1, x4, x8, x9, x10 => if x10 < x8 then (if 0 ≤ x10 then (if x10 < (x4.length : Int) then (if x9.length + (rd_L8 x4 x10).length < 140737488355328 then (lockstepref02_Bag.l1 k x4 x8 (x9 ++ (rd_L8 x4 x10)) (wrap64 (x10 + 1))) else (none)) else (none)) else (none)) else (some (x9, 0))
end
def lockstepref02_Bag.f (k : Nat) (l0 : List (List (S42))) : Option (List Int × Int) := if (l0.length : Int) > 65536 then (some (([] : List Int), 2)) else (lockstepref02_Bag.l0 k l0 ([] : List (List Int)) 0)
set_option maxHeartbeats 8000000 in
set_option maxRecDepth 100000 in
theorem lockstepref02_Bag.calls (k : Nat) (A0 : Option Addr) (c0 : Nat) (l0 : List (List (S42))) (r1 : List Int) (r2 : Int) (w : World) (hr0 : Kd.C (Kd.slice 42 k42) w A0 l0.length l0) (hc0 : l0.length ≤ c0) (h : lockstepref02_Bag.f k l0 = some (r1, r2)) :
  Calls Tryd.prog 40 #[.slice A0 l0.length c0] w fun e w' => ∃ v0_ : Value, e = .returned (.tuple #[v0_, .int .i64 r2]) ∧ Kd.R (Kd.int .u8) 5 w' w.heap.size (fun _ => True) v0_ r1 ∧ Below w.heap.size w w' := by
 have HR0 := am hr0
 have HC0 := am hc0
 clear hr0 hc0
 have HB := am (Below.refl w.heap.size w)
 have H : (if (l0.length : Int) > 65536 then (some (([] : List Int), 2)) else (lockstepref02_Bag.l0 k l0 ([] : List (List Int)) 0)) = some (r1, r2) := h
 clear h
 by_cases c2 : (l0.length : Int) > 65536
 ·
  rw [if_pos c2] at H
  have c2b0 : decide (65536 < (l0.length : Int)) = true := decide_eq_true c2
  have c2b1 : decide (65536 < l0.length) = true := decide_eq_true (by omega)
  clear c2
  simp only [Option.some.injEq, Prod.mk.injEq] at H
  obtain ⟨rfl, rfl⟩ := H
  go_enter Tryd.func40, Tryd.ntmps40
  go_wp2
  go_ret2
  exact ⟨_, by rfl, by exact Kd.R_nil _ _ _ _ _, by exact HB.out⟩
 rw [if_neg c2] at H
 have c2b0 : decide (65536 < (l0.length : Int)) = false := decide_eq_false c2
 have c2b1 : decide (65536 < l0.length) = false := decide_eq_false (by omega)
 clear c2
 have H' := am H
 clear H
 go_enter Tryd.func40, Tryd.ntmps40
 go_wp2
 go_loopg [4, 5] k (fun kq v4 v5 w' => ∃ (x4_1 : List (List Int)) (x5_1 : Int), v5 = .int .i64 x5_1 ∧ Aside0 (lockstepref02_Bag.l0 kq l0 x4_1 x5_1 = some (r1, r2)) ∧ Aside0 (kq ≤ k) ∧ Aside0 (Kd.S (Kd.slice 5 (Kd.int .u8)) 47 w' w.heap.size (fun _ => True) v4 x4_1) ∧ Aside0 (Below w.heap.size w w'))
 case atStart => exact ⟨(([] : List (List Int))), (0), (by rfl), H', ⟨Nat.le_refl _⟩, ⟨by exact Kd.S_nil _ _ _ _ _⟩, ⟨by exact HB.out⟩⟩
 case round =>
  clear H'
  (try clear c2b0); (try clear c2b1)
  obtain ⟨x4_1, x5_1, rfl, HA, HK1, HO_4, HB⟩ := hrel
  cases gk with
  | zero => exact absurd HA.out (by simp [lockstepref02_Bag.l0])
  | succ k1 =>
   have H := HA.out
   clear HA
   simp only [lockstepref02_Bag.l0] at H
   by_cases c3 : x5_1 < (l0.length : Int)
   ·
    rw [if_pos c3] at H
    have c3b0 := decide_eq_true c3
    clear c3
    replace H := its H
    obtain ⟨c4, H⟩ := H
    have c4b0 := decide_eq_true c4
    clear c4
    replace H := Option.bind_eq_some_iff.mp H
    obtain ⟨⟨t755, t756⟩, A50, H⟩ := H
    replace H : (if t756 = 0 then (if x4_1.length < 5864062014805 then (lockstepref02_Bag.l0 k1 l0 (x4_1 ++ [t755]) (wrap64 (x5_1 + 1))) else (none)) else (some (([] : List Int), t756))) = some (r1, r2) := H
    have A5 := am A50
    clear A50
    by_cases c6 : t756 = 0
    rotate_left
    ·
     rw [if_neg c6] at H
     have c6b0 : (t756 == 0) = false := beq_eq_false_iff_ne.mpr c6
     have c6b1 : (t756 != 0) = true := bne_iff_ne.mpr c6
     simp only [Option.some.injEq, Prod.mk.injEq] at H
     obtain ⟨rfl, rfl⟩ := H
     have p754 : 0 ≤ (x5_1 : Int) := of_decide_eq_true (by assumption)
     have q754 : x5_1 < (l0.length : Int) := of_decide_eq_true (by assumption)
     obtain ⟨ad754, A754_0, c754_0, e754, hx754_0, hl754_0, hi754_0⟩ := at_L5 HR0.out x5_1 p754 q754
     cases e754
     replace hx754_0 := (HB.out.cell (World.block_lt_of_cell? w _ hx754_0)).trans hx754_0
     have HR754_0 := am hi754_0
     have HC754_0 := am hl754_0
     clear hi754_0 hl754_0
     replace p754 := eq_true p754
     replace q754 := eq_true q754
     go_wp2_with (((with_reducible refine gate_callee (f := 38) rfl ?_); refine goesL_ (some 25) rfl rfl Tryd.func38 (by kernel_rfl) rfl #[.slice A754_0 (rd_L5 l0 x5_1).length c754_0] rfl (by (try simp only [List.map_toArray, List.map_cons, List.map_nil]); rfl) ?_; (with_reducible refine (lockstepref02_Row.calls k1 _ _ (rd_L5 l0 x5_1) t755 t756 _ ?side1 ?side2 A5.out).mono ?_); (case side1 => exact (Kd.C_below HR754_0.out HB.out)); (case side2 => exact HC754_0.out); rintro e w11 ⟨v757, rfl, ho0, hb⟩; refine ⟨_, rfl, ?_⟩; replace HO_4 := am (Kd.S_elder' HO_4.out (Kd.R_base ho0) hb); have HO758 := am (Kd.R_lower ho0 (below_size HB.out)); replace HB := am (below_step HB.out hb); (try clear hb); (try clear ho0)))
     go_ret2
     exact ⟨_, by rfl, by exact Kd.R_nil _ _ _ _ _, by exact HB.out⟩
    rw [if_pos c6] at H
    have c6b0 : (t756 == 0) = true := beq_iff_eq.mpr c6
    have c6b1 : (t756 != 0) = false := bne_eq_false_iff_eq.mpr c6
    clear c6
    replace H := its H
    obtain ⟨c7, H⟩ := H
    have LMc7 := am c7
    clear c7
    obtain ⟨y759, hy759⟩ : ∃ y_ : List (List Int), y_ = (x4_1 ++ [t755]) := ⟨_, rfl⟩
    replace H : (lockstepref02_Bag.l0 k1 l0 y759 (wrap64 (x5_1 + 1))) = some (r1, r2) := by (rw [hy759]; with_reducible exact H)
    have Ny759 := am hy759
    clear hy759
    have H' := am H
    clear H
    have p754 : 0 ≤ (x5_1 : Int) := of_decide_eq_true (by assumption)
    have q754 : x5_1 < (l0.length : Int) := of_decide_eq_true (by assumption)
    obtain ⟨ad754, A754_0, c754_0, e754, hx754_0, hl754_0, hi754_0⟩ := at_L5 HR0.out x5_1 p754 q754
    cases e754
    replace hx754_0 := (HB.out.cell (World.block_lt_of_cell? w _ hx754_0)).trans hx754_0
    have HR754_0 := am hi754_0
    have HC754_0 := am hl754_0
    clear hi754_0 hl754_0
    replace p754 := eq_true p754
    replace q754 := eq_true q754
    go_wp2_with (first | ((with_reducible refine gate_callee (f := 38) rfl ?_); refine goesL_ (some 25) rfl rfl Tryd.func38 (by kernel_rfl) rfl #[.slice A754_0 (rd_L5 l0 x5_1).length c754_0] rfl (by (try simp only [List.map_toArray, List.map_cons, List.map_nil]); rfl) ?_; (with_reducible refine (lockstepref02_Row.calls k1 _ _ (rd_L5 l0 x5_1) t755 t756 _ ?side1 ?side2 A5.out).mono ?_); (case side1 => exact (Kd.C_below HR754_0.out HB.out)); (case side2 => exact HC754_0.out); rintro e w8 ⟨v757, rfl, ho0, hb⟩; refine ⟨_, rfl, ?_⟩; replace HO_4 := am (Kd.S_elder' HO_4.out (Kd.R_base ho0) hb); have HO758 := am (Kd.R_lower ho0 (below_size HB.out)); replace HB := am (below_step HB.out hb); (try clear hb); (try clear ho0); obtain ⟨Ao10, co10, eo10⟩ := Kd.R_slice HO758.out; subst eo10) | ((with_reducible refine gate_builtin (b := .append) (xs := #[.tmp 31, .tmp 33]) rfl ?_); at_builtin; refine Kd.S_append (Kd.slice 5 (Kd.int .u8)) (w0 := w) w.heap.size rfl (.tmp 31) (.tmp 33) 87 47 (.slice none 0 0) 24 rfl Tryd.underlying87 info47 rfl (by decide) (by omega) u4 x4_1 t755 [.slice Ao10 t755.length co10] (fun _ => True) (fun k_ => some k_ = (.slice Ao10 t755.length co10 : Value).ownBlock) rfl rfl ?aP (fun k_ hk_ => ((Kd.R_mono (ok' := fun k_ => ((fun _ => True)) k_ ∧ some k_ ≠ (u4 : Value).ownBlock) (Kd.R_apart' (HO758.out) (Kd.S_typed HO_4.out) (by decide)) (fun k_ hk => ⟨trivial, hk.2⟩))).1 k_ hk_.symm) ?aF ?aO ?aB ?aS ?aL ?_; (case aP => exact Kd.M_row (Kd.R_mono (Kd.R_tight rfl (Kd.R_mono (ok' := fun k_ => ((fun _ => True)) k_ ∧ some k_ ≠ (u4 : Value).ownBlock) (Kd.R_apart' (HO758.out) (Kd.S_typed HO_4.out) (by decide)) (fun k_ hk => ⟨trivial, hk.2⟩))) (fun _ h_ => h_))); (case aB => exact HB.out); (case aF => exact (fun _ _ => trivial)); (case aO => exact (by exact Kd.S_mono HO_4.out (fun k_ hk => ⟨trivial, fun e_ => hk.2 e_⟩))); (case aS => exact (below_size HB.out)); (case aL => have := LMc7.out; omega); intro v760 w9 ho hb hg hat; rw [← Ny759.out] at ho; replace HB := am (hb); have HO761 := am (ho); clear HO_4 HO758; clear ho hb hg hat))
    go_roundg k1
    case measure => have := HK1.out; omega
    case rel => exact ⟨(y759), (wrap64 (x5_1 + 1)), (by rfl), H', ⟨by have := HK1.out; omega⟩, ⟨by exact HO761.out⟩, ⟨by exact HB.out⟩⟩
   rw [if_neg c3] at H
   have c3b0 := decide_eq_false c3
   clear c3
   replace H := Option.bind_eq_some_iff.mp H
   obtain ⟨t762, A120, H⟩ := H
   replace H : (lockstepref02_Bag.l1 k1 t762 (t762.length : Int) (([((t762.length : Int) / 16777216) % 256, ((t762.length : Int) / 65536) % 256, ((t762.length : Int) / 256) % 256, ((t762.length : Int)) % 256] : List Int)) 0) = some (r1, r2) := H
   have A12 := am A120
   clear A120
   obtain ⟨y765, hy765⟩ : ∃ y_ : List Int, y_ = (([((t762.length : Int) / 16777216) % 256, ((t762.length : Int) / 65536) % 256, ((t762.length : Int) / 256) % 256, ((t762.length : Int)) % 256] : List Int)) := ⟨_, rfl⟩
   replace H : (lockstepref02_Bag.l1 k1 t762 (t762.length : Int) y765 0) = some (r1, r2) := by (rw [hy765]; with_reducible exact H)
   have Ny765 := am hy765
   clear hy765
   have H' := am H
   clear H
   obtain ⟨Ao13, co13, eo13⟩ := Kd.S_slice HO_4.out
   subst eo13
   go_wp2_with (first | ((with_reducible refine gate_callee (f := 64) rfl ?_); refine goesL_ (some 36) rfl rfl Tryd.func64 (by kernel_rfl) rfl #[.slice Ao13 x4_1.length co13] rfl (by (try simp only [List.map_toArray, List.map_cons, List.map_nil]); rfl) ?_; (with_reducible refine (lockstepref02_sorted.calls k1 (fun k_ => True) _ _ x4_1 t762 _ ?side1 A12.out).mono ?_); (case side1 => exact Kd.S_V (HO_4.out)); rintro e w14 ⟨v763, rfl, ho0, hb⟩; refine ⟨_, rfl, ?_⟩; replace HO_4 := am (Kd.S_below HO_4.out hb); have HO764 := am (Kd.V_lower (Kd.V_mono (ok' := fun k_ => True) ho0 (fun k_ hk_ => trivial)) (below_size HB.out)); replace HB := am (below_step HB.out hb); (try clear hb); (try clear ho0); obtain ⟨Ao15, co15, eo15⟩ := Kd.V_slice HO764.out; subst eo15) | ((with_reducible refine gate_dst (N := 50) rfl ?_); refine Kd.R_lit (Kd.int .u8) _ 5 ?hg (N := 50) ?hd (xs := ([((t762.length : Int) / 16777216) % 256, ((t762.length : Int) / 65536) % 256, ((t762.length : Int) / 256) % 256, ((t762.length : Int)) % 256] : List Int)) (inner := [.int .u8 (((t762.length : Int) / 16777216) % 256), .int .u8 (((t762.length : Int) / 65536) % 256), .int .u8 (((t762.length : Int) / 256) % 256), .int .u8 (((t762.length : Int)) % 256)]) (ok := fun _ => True) (okp := fun _ => True) ?hr ?hp (fun _ hk => hk) trivial (Below.refl _ _) (Nat.le_refl _) (by simp) ?_; (case hd => rfl); (case hg => rfl); (case hr => (go_simp; done)); (case hp => exact (Reps.one (show Kd.M (Kd.int .u8) _ _ _ (((t762.length : Int) / 16777216) % 256) [.int .u8 (((t762.length : Int) / 16777216) % 256)] from rfl) (Reps.one (show Kd.M (Kd.int .u8) _ _ _ (((t762.length : Int) / 65536) % 256) [.int .u8 (((t762.length : Int) / 65536) % 256)] from rfl) (Reps.one (show Kd.M (Kd.int .u8) _ _ _ (((t762.length : Int) / 256) % 256) [.int .u8 (((t762.length : Int) / 256) % 256)] from rfl) (Reps.one (show Kd.M (Kd.int .u8) _ _ _ (((t762.length : Int)) % 256) [.int .u8 (((t762.length : Int)) % 256)] from rfl) (Reps.none _ _)))))); intro v766 w16 ho17 hb hg_ hnew_; clear hg_ hnew_; (rw [← Ny765.out] at ho17); replace HO_4 := am (Kd.S_elder' HO_4.out (Kd.R_base ho17) hb); replace HO764 := am (Kd.V_elder' HO764.out (Kd.R_base ho17) hb); have HO767 := am (Kd.R_lower ho17 (below_size HB.out)); replace HB := am (below_step HB.out hb); clear hb ho17))
   go_loopg [9, 10] k1 (fun kq v9 v10 w' => ∃ (x9_2 : List Int) (x10_2 : Int), v10 = .int .i64 x10_2 ∧ Aside0 (lockstepref02_Bag.l1 kq t762 (t762.length : Int) x9_2 x10_2 = some (r1, r2)) ∧ Aside0 (kq ≤ k1) ∧ Aside0 (Kd.V (Kd.slice 5 (Kd.int .u8)) 47 w' w.heap.size (fun k_ => some k_ ≠ (v9 : Value).ownBlock) (.slice Ao15 t762.length co15) t762) ∧ Aside0 (Kd.R (Kd.int .u8) 5 w' w.heap.size (fun _ => True) v9 x9_2) ∧ Aside0 (Below w.heap.size w w'))
   case atStart => exact ⟨(y765), (0), (by rfl), H', ⟨Nat.le_refl _⟩, ⟨by exact Kd.V_mono HO764.out (fun _ hk => hk.2)⟩, ⟨by exact HO767.out⟩, ⟨by exact HB.out⟩⟩
   case round =>
    clear H'
    (try clear c3b0)
    obtain ⟨x9_2, x10_2, rfl, HA, HK2, HO_4, HO_9, HB⟩ := hrel
    cases gk with
    | zero => exact absurd HA.out (by simp [lockstepref02_Bag.l1])
    | succ k2 =>
     have H := HA.out
     clear HA
     simp only [lockstepref02_Bag.l1] at H
     by_cases c18 : x10_2 < (t762.length : Int)
     rotate_left
     ·
      rw [if_neg c18] at H
      have c18b0 := decide_eq_false c18
      clear c18
      simp only [Option.some.injEq, Prod.mk.injEq] at H
      obtain ⟨rfl, rfl⟩ := H
      go_wp2
      go_ret2
      exact ⟨_, by rfl, by exact HO_9.out, by exact HB.out⟩
     rw [if_pos c18] at H
     have c18b0 := decide_eq_true c18
     clear c18
     replace H := its H
     obtain ⟨c19, H⟩ := H
     have c19b0 := decide_eq_true c19
     clear c19
     replace H := its H
     obtain ⟨c20, H⟩ := H
     have c20b0 := decide_eq_true c20
     clear c20
     replace H := its H
     obtain ⟨c21, H⟩ := H
     have LMc21 := am c21
     clear c21
     obtain ⟨y769, hy769⟩ : ∃ y_ : List Int, y_ = (x9_2 ++ (rd_L8 t762 x10_2)) := ⟨_, rfl⟩
     replace H : (lockstepref02_Bag.l1 k2 t762 (t762.length : Int) y769 (wrap64 (x10_2 + 1))) = some (r1, r2) := by (rw [hy769]; with_reducible exact H)
     have Ny769 := am hy769
     clear hy769
     have H' := am H
     clear H
     have p768 : 0 ≤ (x10_2 : Int) := of_decide_eq_true (by assumption)
     have q768 : x10_2 < (t762.length : Int) := of_decide_eq_true (by assumption)
     obtain ⟨ad768, A768_0, c768_0, e768, hx768_0, hl768_0, hi768_0⟩ := at_L8 (Kd.V_reads' HO_4.out).2.2 x10_2 p768 q768
     cases e768
     obtain ⟨ce768, hce768, hMe768, hcc768⟩ := Kd.V_get HO_4.out [] x10_2 p768 (by exact q768)
     obtain ⟨ua768_0, uc768_0, rfl, ul768_0, ge768_0⟩ := Kd.FK_slice_open hMe768
     have hv768_0 := hcc768 0 _ rfl
     rw [Nat.add_zero, show ((Kd.slice 5 (Kd.int .u8))).sz = 1 from rfl, Nat.mul_one] at hv768_0
     replace hv768_0 := Option.some.inj (hv768_0.symm.trans hx768_0)
     injection hv768_0 with hva_ hvn_ hvc_
     rw [hva_] at ge768_0
     rw [hvc_] at ul768_0
     have HL768_0 := am (show Kd.V (Kd.int .u8) 5 _ w.heap.size _ _ (rd_L8 t762 x10_2) from Kd.V_mk ul768_0 ge768_0)
     clear hva_ hvn_ hvc_ ge768_0 ul768_0
     clear hcc768 hce768
     have HR768_0 := am hi768_0
     have HC768_0 := am hl768_0
     clear hi768_0 hl768_0
     replace p768 := eq_true p768
     replace q768 := eq_true q768
     go_wp2_with (((with_reducible refine gate_builtin (b := .append) (xs := #[.tmp 56, .tmp 60]) rfl ?_); at_builtin; refine Kd.R_append_rows (Kd.int .u8) (w0 := w) w.heap.size rfl (.tmp 56) (.tmp 60) 47 5 (.int .u8 0) 1 rfl Tryd.underlying47 info5 rfl (by decide) (by omega) u9 x9_2 (rd_L8 t762 x10_2) _ _ _ (fun _ => True) (fun _ => False) rfl rfl ?aO ?aR (fun _ _ h => h) (fun _ h => h.elim) ?aF ?aB ?aS ?aL ?_; (case aR => exact HR768_0.out); (case aB => exact HB.out); (case aF => exact (fun _ _ => trivial)); (case aO => exact HO_9.out); (case aS => exact (below_size HB.out)); (case aL => have := LMc21.out; omega); intro v770 w22 ho hb hg hat; rw [← Ny769.out] at ho; replace HO_4 := am (Kd.V_afterv (ok := (fun _ => True)) (by exact Kd.V_mono HO_4.out (fun _ hk => ⟨trivial, hk⟩)) hg hat); replace HL768_0 := am (Kd.V_afterv (ok := (fun _ => True)) (by exact Kd.V_mono HL768_0.out (fun _ hk => ⟨trivial, hk⟩)) hg hat); replace HB := am (hb); have HO771 := am (ho); clear HO_9; clear ho hb hg hat))
     go_roundg k2
     case measure => have := HK1.out; have := HK2.out; omega
     case rel => exact ⟨(y769), (wrap64 (x10_2 + 1)), (by rfl), H', ⟨by have := HK1.out; have := HK2.out; omega⟩, ⟨by exact Kd.V_mono HO_4.out (fun _ hk => hk.2)⟩, ⟨by exact HO771.out⟩, ⟨by exact HB.out⟩⟩
end Go.Proofs.YthghcpeedmconaaDoor.X
end
section
namespace Go.Proofs.YthghcpeedmconaaDoor.X
open Go.RowKit Go.Proofs.YthghcpeedmconaaDoorW.PrintWords
set_option linter.unusedVariables false
theorem less_cb : ∀ x y : List UInt8, Op.bytesLess x y = decide (Lib.compareBytes x y < 0)
  | [], [] => rfl
  | [], _ :: _ => rfl
  | _ :: _, [] => rfl
  | a :: x, b :: y => by
    have hd : Op.bytesLess (a :: x) (b :: y) = (decide (a < b) || (a == b && Op.bytesLess x y)) := rfl
    rw [hd, less_cb x y, cb_cons]
    by_cases h1 : a.toNat < b.toNat
    · rw [if_pos h1, decide_eq_true (UInt8.lt_iff_toNat_lt.2 h1)]; rfl
    · rw [if_neg h1, decide_eq_false (fun h => h1 (UInt8.lt_iff_toNat_lt.1 h))]
      by_cases h2 : b.toNat < a.toNat
      · rw [if_pos h2, beq_eq_false_iff_ne.2 (fun h => by rw [h] at h2; omega)]; rfl
      · rw [if_neg h2, beq_iff_eq.2 (UInt8.toNat_inj.1 (by omega))]; simp
theorem less_eq (a b : List Int) : lockstepref02_less.f a b = some (decide (cmpL a b < 0)) := by
  unfold lockstepref02_less.f cmpL
  rw [less_cb, Lib.strOfNums_toList, Lib.strOfNums_toList]
theorem drop8 {l : List (List Int)} {i : Nat} (hi : i < l.length) : l.drop i = rd_L8 l (i : Int) :: l.drop (i + 1) := by
  unfold rd_L8
  rw [List.drop_eq_getElem_cons hi, List.getD_eq_getElem?_getD, Int.toNat_natCast, List.getElem?_eq_getElem hi]
  rfl
theorem w1 (i : Nat) (h : i < 9223372036854775807) : wrap64 ((i : Int) + 1) = ((i + 1 : Nat) : Int) := by unfold wrap64; omega
theorem merge_loop (A B : List (List Int)) (hm : A.length + B.length < 5864062014805) : ∀ (d i j : Nat), i + j + d = A.length + B.length → i ≤ A.length → j ≤ B.length → ∀ (out : List (List Int)) (k : Nat), out.length = i + j → 2 * d + 2 ≤ k →
    lockstepref02_sorted.l0 k A B out (i : Int) (j : Int) = some (out ++ List.merge (A.drop i) (B.drop j) leL)
  | 0, i, j, h, hi, hj, out, k, ho, hk => by
    obtain ⟨k, rfl⟩ : ∃ m, k = m + 1 + 1 := ⟨k - 2, by omega⟩
    rw [lockstepref02_sorted.l0, if_neg (by omega), decide_eq_false (by omega), lockstepref02_sorted.j1, if_neg (by decide), List.drop_eq_nil_of_le (by omega), List.drop_eq_nil_of_le (by omega)]
    simp
  | d + 1, i, j, h, hi, hj, out, k, ho, hk => by
    obtain ⟨k, rfl⟩ : ∃ m, k = m + 1 + 1 := ⟨k - 2, by omega⟩
    rw [lockstepref02_sorted.l0]
    have hstep : (if (i : Int) < (A.length : Int) then (lockstepref02_sorted.j1 (k + 1) A B out (i : Int) (j : Int) true) else (lockstepref02_sorted.j1 (k + 1) A B out (i : Int) (j : Int) (decide ((j : Int) < (B.length : Int))))) = lockstepref02_sorted.j1 (k + 1) A B out (i : Int) (j : Int) true := by
      by_cases hA : i < A.length
      · rw [if_pos (by omega)]
      · rw [if_neg (by omega), decide_eq_true (by omega)]
    rw [hstep, lockstepref02_sorted.j1, if_pos rfl]
    by_cases hB : j = B.length
    · have hA : i < A.length := by omega
      rw [if_pos (by omega), if_pos (by omega), if_pos (by omega), if_pos (by omega), w1 i (by omega), merge_loop A B hm d (i + 1) j (by omega) (by omega) (by omega) _ k (by rw [List.length_append, List.length_singleton]; omega) (by omega),
        show B.drop j = [] from List.drop_eq_nil_of_le (by omega), List.merge_right, List.merge_right, drop8 hA, List.append_assoc]
      rfl
    · have hB' : j < B.length := by omega
      rw [if_neg (by omega)]
      by_cases hA : i < A.length
      · rw [if_pos (by omega), if_pos (by omega), if_pos (by omega), if_pos (by omega), less_eq, Option.bind_some]
        rw [drop8 hA, drop8 hB', List.cons_merge_cons, ← drop8 hA, ← drop8 hB']
        by_cases hc : cmpL (rd_L8 B (j : Int)) (rd_L8 A (i : Int)) < 0
        · rw [decide_eq_true hc, if_pos rfl, if_pos (by omega), w1 j (by omega), merge_loop A B hm d i (j + 1) (by omega) (by omega) (by omega) _ k (by rw [List.length_append, List.length_singleton]; omega) (by omega), if_neg (by rw [leL_iff]; exact fun h => h hc), List.append_assoc]
          rfl
        · rw [decide_eq_false hc, if_neg (by decide), if_pos (by omega), w1 i (by omega), merge_loop A B hm d (i + 1) j (by omega) (by omega) (by omega) _ k (by rw [List.length_append, List.length_singleton]; omega) (by omega), if_pos (leL_iff.2 hc), List.append_assoc]
          rfl
      · rw [if_neg (by omega), if_pos (by omega), if_pos (by omega), if_pos (by omega), w1 j (by omega), merge_loop A B hm d i (j + 1) (by omega) (by omega) (by omega) _ k (by rw [List.length_append, List.length_singleton]; omega) (by omega),
          show A.drop i = [] from List.drop_eq_nil_of_le (by omega), List.nil_merge, List.nil_merge, drop8 hB', List.append_assoc]
        rfl
theorem srt_pwb (l : List (List Int)) : (srt l).Pairwise (fun a b => leL a b = true) := List.pairwise_mergeSort (le := leL) leL_trans leL_total l
theorem merge_srt {a b l : List (List Int)} (hB : ∀ x ∈ l, areB x = true) (hl : (a ++ b).Perm l) : List.merge (srt a) (srt b) leL = srt l :=
  srt_uniq hB ((List.merge_perm_append leL).trans (((srt_perm a).append (srt_perm b)).trans hl)) ((List.pairwise_merge (le := leL) leL_trans leL_total _ _ (srt_pwb a) (srt_pwb b)).imp (fun h => leL_iff.1 h))
theorem sorted_eq : ∀ (n : Nat) (l : List (List Int)), l.length ≤ n → (∀ x ∈ l, areB x = true) → l.length < 5864062014805 → ∀ k, 3 * l.length + 5 ≤ k → lockstepref02_sorted.f k l = some (srt l) := by
  intro n
  induction n with
  | zero =>
    intro l hn hB hm k hk
    obtain ⟨k, rfl⟩ : ∃ m, k = m + 1 := ⟨k - 1, by omega⟩
    obtain rfl := List.length_eq_zero_iff.1 (show l.length = 0 by omega)
    rw [lockstepref02_sorted.f, if_pos (by simp)]
    simp [srt]
  | succ n ih =>
    intro l hn hB hm k hk
    obtain ⟨k, rfl⟩ : ∃ m, k = m + 1 := ⟨k - 1, by omega⟩
    rw [lockstepref02_sorted.f]
    by_cases h2 : l.length < 2
    · rw [if_pos (by omega)]
      match l, h2 with
      | [], _ => simp [srt]
      | [x], _ => simp [srt]
    · rw [if_neg (by omega)]
      have hw : wrap64 ((l.length : Int) / 2) = ((l.length / 2 : Nat) : Int) := by unfold wrap64; omega
      rw [hw, if_pos (by omega), if_pos (by omega), Int.toNat_natCast,
        ih (l.take (l.length / 2)) (by rw [List.length_take]; omega) (fun x hx => hB x (List.mem_of_mem_take hx)) (by rw [List.length_take]; omega) k (by rw [List.length_take]; omega), Option.bind_some,
        ih (l.drop (l.length / 2)) (by rw [List.length_drop]; omega) (fun x hx => hB x (List.mem_of_mem_drop hx)) (by rw [List.length_drop]; omega) k (by rw [List.length_drop]; omega), Option.bind_some]
      have h := merge_loop (srt (l.take (l.length / 2))) (srt (l.drop (l.length / 2))) (by rw [srt_len, srt_len, List.length_take, List.length_drop]; omega) l.length 0 0 (by rw [srt_len, srt_len, List.length_take, List.length_drop]; omega) (by omega) (by omega) [] k rfl (by omega)
      rw [List.drop_zero, List.drop_zero, List.nil_append, merge_srt hB (by rw [List.take_append_drop])] at h
      exact h
def bagErr : List (List S42) → Int
  | [] => 0
  | r :: l => if (rowOut r).2 = 0 then bagErr l else (rowOut r).2
def hdr (n : Nat) : List Int := [((n : Int) / 16777216) % 256, ((n : Int) / 65536) % 256, ((n : Int) / 256) % 256, ((n : Int)) % 256]
def bagOut (l : List (List S42)) : List Int × Int := if 65536 < l.length then ([], 2) else if bagErr l = 0 then (hdr l.length ++ (srt (l.map codes)).flatten, 0) else ([], bagErr l)
structure Fine (r : List S42) : Prop where
  out : rowOut r = (codes r, 0)
  len : r.length ≤ 16
  can : ∀ v ∈ r, Can v
theorem fine_of {r : List S42} (hn : ∀ v ∈ r, I64 v.f1) (h : (rowOut r).2 = 0) : Fine r := by
  unfold rowOut at h
  by_cases h1 : 16 < r.length
  · rw [if_pos h1] at h; exact absurd h (by decide)
  · rw [if_neg h1] at h
    by_cases h2 : rowErr r = 0
    · exact ⟨by unfold rowOut; rw [if_neg h1, if_pos h2], by omega, rowErr_can r hn h2⟩
    · rw [if_neg h2] at h; exact absurd h h2
theorem Fine.code_len {r : List S42} (h : Fine r) : 1 ≤ (codes r).length ∧ (codes r).length ≤ 140000 := by
  have := codes_len r h.can
  have := h.len
  omega
theorem codes_areB (r : List S42) : areB (codes r) = true := areB_iff.2 (codes_isB r)
theorem fine_all : ∀ {l : List (List S42)}, (∀ r ∈ l, ∀ v ∈ r, I64 v.f1) → bagErr l = 0 → ∀ r ∈ l, Fine r
  | [], _, _ => fun r hr => by simp at hr
  | a :: l, hn, h => by
    unfold bagErr at h
    by_cases hc : (rowOut a).2 = 0
    · rw [if_pos hc] at h
      intro r hr
      rcases List.mem_cons.1 hr with rfl | hr
      · exact fine_of (hn _ List.mem_cons_self) hc
      · exact fine_all (fun r hr => hn r (List.mem_cons_of_mem _ hr)) h r hr
    · rw [if_neg hc] at h; exact absurd h hc
theorem drop5 {l : List (List S42)} {i : Nat} (hi : i < l.length) : l.drop i = rd_L5 l (i : Int) :: l.drop (i + 1) := by
  unfold rd_L5
  rw [List.drop_eq_getElem_cons hi, List.getD_eq_getElem?_getD, Int.toNat_natCast, List.getElem?_eq_getElem hi]
  rfl
theorem mem5 {l : List (List S42)} {i : Nat} (hi : i < l.length) : rd_L5 l (i : Int) ∈ l := by
  unfold rd_L5
  rw [List.getD_eq_getElem?_getD, Int.toNat_natCast, List.getElem?_eq_getElem hi]
  exact List.getElem_mem hi
theorem flat_len {x : List (List Int)} (h : ∀ y ∈ x, y.length ≤ 140000) : x.flatten.length ≤ 140000 * x.length := by
  induction x with
  | nil => simp
  | cons a x ih =>
    have := ih (fun y hy => h y (List.mem_cons_of_mem _ hy))
    have := h a List.mem_cons_self
    rw [List.flatten_cons, List.length_append, List.length_cons]; omega
theorem hdr_len (n : Nat) : (hdr n).length = 4 := rfl
theorem l1_loop (x : List (List Int)) (hx : ∀ y ∈ x, y.length ≤ 140000) (hn : x.length ≤ 65536) : ∀ (d i : Nat), i + d = x.length → ∀ (out : List Int) (k : Nat), out.length ≤ 4 + 140000 * i → d + 1 ≤ k →
    lockstepref02_Bag.l1 k x (x.length : Int) out (i : Int) = some (out ++ (x.drop i).flatten, 0)
  | 0, i, h, out, k, ho, hk => by
    obtain ⟨k, rfl⟩ : ∃ m, k = m + 1 := ⟨k - 1, by omega⟩
    rw [lockstepref02_Bag.l1, if_neg (by omega), List.drop_eq_nil_of_le (by omega)]
    simp
  | d + 1, i, h, out, k, ho, hk => by
    obtain ⟨k, rfl⟩ : ∃ m, k = m + 1 := ⟨k - 1, by omega⟩
    have hi : i < x.length := by omega
    have hle : (rd_L8 x (i : Int)).length ≤ 140000 := by
      apply hx
      unfold rd_L8
      rw [List.getD_eq_getElem?_getD, Int.toNat_natCast, List.getElem?_eq_getElem hi]
      exact List.getElem_mem hi
    rw [lockstepref02_Bag.l1, if_pos (by omega), if_pos (by omega), if_pos (by omega), if_pos (by omega), w1 i (by omega), l1_loop x hx hn d (i + 1) (by omega) _ k (by rw [List.length_append]; omega) (by omega), drop8 hi, List.flatten_cons, List.append_assoc]
theorem rRow_loop (r : List S42) (hr : r.length ≤ 16) (hn : ∀ v ∈ r, I64 v.f1) : ∀ (d i : Nat), i + d = r.length → ∀ (x : List Int) (k : Nat), x.length ≤ 8195 * i → d + 4302 ≤ k →
    lockstepref02_Row.l0 k r x (i : Int) = some (if rowErr (r.drop i) = 0 then (x ++ codes (r.drop i), 0) else ([], rowErr (r.drop i)))
  | 0, i, h, x, k, hx, hk => by
    obtain ⟨k, rfl⟩ : ∃ m, k = m + 1 := ⟨k - 1, by omega⟩
    rw [lockstepref02_Row.l0, if_neg (by omega), if_pos (by omega), List.drop_eq_nil_of_le (by omega)]
    rfl
  | d + 1, i, h, x, k, hx, hk => by
    obtain ⟨k, rfl⟩ : ∃ m, k = m + 1 := ⟨k - 1, by omega⟩
    have hi : i < r.length := by omega
    have hmem := mem_rd hi
    rw [lockstepref02_Row.l0, if_pos (by omega), if_pos (by omega), getD_drop hi]
    generalize rd_T42 r (i : Int) = v at *
    rw [rval_eq v (hn v hmem) k (by omega), Option.bind_some]
    unfold rowErr
    by_cases hc : chk v.f0 v.f1 v.f2 = 0
    · have hcan : Can v := ⟨hc, hn v hmem⟩
      have hl := Go.Proofs.YthghcpeedmconaaDoor.X.code_len hcan
      rw [if_pos hc, if_pos hc, if_pos rfl, if_pos (by show x.length + (code v).length < _; omega), w1 i (by omega)]
      show lockstepref02_Row.l0 k r (x ++ code v) _ = _
      rw [rRow_loop r hr hn d (i + 1) (by omega) (x ++ code v) k (by rw [List.length_append]; omega) (by omega), List.append_assoc]
      rfl
    · rw [if_neg hc, if_neg hc, if_neg hc, if_neg hc]
theorem rRow_eq (r : List S42) (hn : ∀ v ∈ r, I64 v.f1) (k : Nat) (hk : 4330 ≤ k) : lockstepref02_Row.f k r = some (rowOut r) := by
  unfold lockstepref02_Row.f rowOut
  by_cases h : 16 < r.length
  · rw [if_pos (by omega), if_pos h]
  · rw [if_neg (by omega), if_neg h]
    have := rRow_loop r (by omega) hn r.length 0 (by omega) [] k (by simp) (by omega)
    rw [List.drop_zero] at this
    exact this
theorem rBag_loop (l : List (List S42)) (hl : l.length ≤ 65536) (hn : ∀ r ∈ l, ∀ v ∈ r, I64 v.f1) : ∀ (d i : Nat), i + d = l.length → bagErr (l.take i) = 0 → ∀ (k : Nat), d + 3 * l.length + 4400 ≤ k →
    lockstepref02_Bag.l0 k l ((l.take i).map codes) (i : Int) = some (if bagErr (l.drop i) = 0 then (hdr l.length ++ (srt (l.map codes)).flatten, 0) else ([], bagErr (l.drop i)))
  | 0, i, h, hz, k, hk => by
    obtain ⟨k, rfl⟩ : ∃ m, k = m + 1 := ⟨k - 1, by omega⟩
    have ht : l.take i = l := List.take_of_length_le (by omega)
    rw [ht] at hz ⊢
    have hf := fine_all hn hz
    rw [lockstepref02_Bag.l0, if_neg (by omega), List.drop_eq_nil_of_le (by omega), show bagErr ([] : List (List S42)) = 0 from rfl, if_pos rfl,
      sorted_eq l.length _ (by simp) (fun x hx => by obtain ⟨r, -, rfl⟩ := List.mem_map.1 hx; exact codes_areB r) (by rw [List.length_map]; omega) k (by rw [List.length_map]; omega), Option.bind_some]
    have hlen : (srt (l.map codes)).length = l.length := by rw [srt_len, List.length_map]
    have := l1_loop (srt (l.map codes)) (fun y hy => by obtain ⟨r, hr, rfl⟩ := List.mem_map.1 (srt_mem.1 hy); exact (hf r hr).code_len.2) (by omega) (srt (l.map codes)).length 0 (by omega) (hdr l.length) k (by rw [hdr_len]; omega) (by omega)
    rw [hlen] at this ⊢
    rw [List.drop_zero] at this
    exact this
  | d + 1, i, h, hz, k, hk => by
    obtain ⟨k, rfl⟩ : ∃ m, k = m + 1 := ⟨k - 1, by omega⟩
    have hi : i < l.length := by omega
    rw [lockstepref02_Bag.l0, if_pos (by omega), if_pos (by omega), rRow_eq _ (hn _ (mem5 hi)) k (by omega), Option.bind_some, drop5 hi]
    unfold bagErr
    by_cases hc : (rowOut (rd_L5 l (i : Int))).2 = 0
    · have hf := fine_of (hn _ (mem5 hi)) hc
      have ht : l.take (i + 1) = l.take i ++ [rd_L5 l (i : Int)] := by
        rw [List.take_add_one]
        unfold rd_L5
        rw [List.getD_eq_getElem?_getD, Int.toNat_natCast, List.getElem?_eq_getElem hi]
        rfl
      have hz' : bagErr (l.take (i + 1)) = 0 := by
        rw [ht]
        have : ∀ (a : List (List S42)) (r : List S42), bagErr a = 0 → (rowOut r).2 = 0 → bagErr (a ++ [r]) = 0 := by
          intro a r ha hr
          induction a with
          | nil => simp [bagErr, hr]
          | cons b a ih =>
            rw [List.cons_append]
            unfold bagErr at ha ⊢
            by_cases hb : (rowOut b).2 = 0
            · rw [if_pos hb] at ha ⊢; exact ih ha
            · rw [if_neg hb] at ha; exact absurd ha hb
        exact this _ _ hz hc
      rw [if_pos hc, if_pos hc, if_pos (by rw [List.length_map, List.length_take]; omega), w1 i (by omega), hf.out]
      have := rBag_loop l hl hn d (i + 1) (by omega) hz' k (by omega)
      rw [ht, List.map_append] at this
      exact this
    · rw [if_neg hc, if_neg hc, if_neg hc]
theorem rBag_eq (l : List (List S42)) (hn : ∀ r ∈ l, ∀ v ∈ r, I64 v.f1) (k : Nat) (hk : 4 * 65536 + 4400 ≤ k) : lockstepref02_Bag.f k l = some (bagOut l) := by
  unfold lockstepref02_Bag.f bagOut
  by_cases h : 65536 < l.length
  · rw [if_pos (by omega), if_pos h]
  · rw [if_neg (by omega), if_neg h]
    exact rBag_loop l (by omega) hn l.length 0 (by omega) rfl k (by omega)
theorem join_srt (l : List (List S42)) (hl : l.length ≤ 65536) (hf : ∀ r ∈ l, Fine r) : bytes_Join.f (srt (l.map codes)) [] = some (srt (l.map codes)).flatten := by
  unfold bytes_Join.f
  have hlen : (srt (l.map codes)).length = l.length := by rw [srt_len, List.length_map]
  refine if_pos ⟨rfl, ?_, ?_, ?_⟩
  · rw [List.all_eq_true]
    intro x hx
    obtain ⟨r, -, rfl⟩ := List.mem_map.1 (srt_mem.1 hx)
    exact codes_areB r
  · rw [List.all_eq_true]
    intro x hx
    obtain ⟨r, hr, rfl⟩ := List.mem_map.1 (srt_mem.1 hx)
    have := (hf r hr).code_len.1
    cases h : codes r with
    | nil => rw [h] at this; simp at this
    | cons => rfl
  · have := flat_len (x := srt (l.map codes)) (fun y hy => by obtain ⟨r, hr, rfl⟩ := List.mem_map.1 (srt_mem.1 hy); exact (hf r hr).code_len.2)
    omega
theorem pBag_loop (l : List (List S42)) (hl : l.length ≤ 65536) (hn : ∀ r ∈ l, ∀ v ∈ r, I64 v.f1) : ∀ (d i : Nat), i + d = l.length → bagErr (l.take i) = 0 → ∀ (k : Nat), d + 40 ≤ k →
    rowcode_Bag.l0 k l ((l.take i).map codes) l (l.length : Int) (i : Int) = some (if bagErr (l.drop i) = 0 then (hdr l.length ++ (srt (l.map codes)).flatten, 0) else ([], bagErr (l.drop i)))
  | 0, i, h, hz, k, hk => by
    obtain ⟨k, rfl⟩ : ∃ m, k = m + 1 := ⟨k - 1, by omega⟩
    have ht : l.take i = l := List.take_of_length_le (by omega)
    rw [ht] at hz ⊢
    have hf := fine_all hn hz
    have hlen : (srt (l.map codes)).length = l.length := by rw [srt_len, List.length_map]
    have hfl := flat_len (x := srt (l.map codes)) (fun y hy => by obtain ⟨r, hr, rfl⟩ := List.mem_map.1 (srt_mem.1 hy); exact (hf r hr).code_len.2)
    rw [rowcode_Bag.l0, if_neg (by omega), List.drop_eq_nil_of_le (by omega), show bagErr ([] : List (List S42)) = 0 from rfl, if_pos rfl, Option.bind_some, join_srt l hl hf, Option.bind_some]
    show (if (hdr l.length).length + (srt (l.map codes)).flatten.length < 140737488355328 then some (hdr l.length ++ (srt (l.map codes)).flatten, (0 : Int)) else none) = _
    rw [if_pos (by rw [hdr_len]; omega)]
  | d + 1, i, h, hz, k, hk => by
    obtain ⟨k, rfl⟩ : ∃ m, k = m + 1 := ⟨k - 1, by omega⟩
    have hi : i < l.length := by omega
    rw [rowcode_Bag.l0, if_pos (by omega), if_pos (by omega), if_pos (by omega), row_eq _ (hn _ (mem5 hi)) k (by omega), Option.bind_some, drop5 hi]
    unfold bagErr
    by_cases hc : (rowOut (rd_L5 l (i : Int))).2 = 0
    · have hf := fine_of (hn _ (mem5 hi)) hc
      have ht : l.take (i + 1) = l.take i ++ [rd_L5 l (i : Int)] := by
        rw [List.take_add_one]
        unfold rd_L5
        rw [List.getD_eq_getElem?_getD, Int.toNat_natCast, List.getElem?_eq_getElem hi]
        rfl
      have hz' : bagErr (l.take (i + 1)) = 0 := by
        rw [ht]
        have : ∀ (a : List (List S42)) (r : List S42), bagErr a = 0 → (rowOut r).2 = 0 → bagErr (a ++ [r]) = 0 := by
          intro a r ha hr
          induction a with
          | nil => simp [bagErr, hr]
          | cons b a ih =>
            rw [List.cons_append]
            unfold bagErr at ha ⊢
            by_cases hb : (rowOut b).2 = 0
            · rw [if_pos hb] at ha ⊢; exact ih ha
            · rw [if_neg hb] at ha; exact absurd ha hb
        exact this _ _ hz hc
      rw [if_pos hc, if_pos hc, if_pos (by rw [List.length_map, List.length_take]; omega), w1 i (by omega), hf.out]
      have := pBag_loop l hl hn d (i + 1) (by omega) hz' k (by omega)
      rw [ht, List.map_append] at this
      exact this
    · rw [if_neg hc, if_neg hc, if_neg hc]
theorem pBag_eq (l : List (List S42)) (hn : ∀ r ∈ l, ∀ v ∈ r, I64 v.f1) (k : Nat) (hk : 65536 + 40 ≤ k) : rowcode_Bag.f k l = some (bagOut l) := by
  unfold rowcode_Bag.f bagOut
  by_cases h : 65536 < l.length
  · rw [if_pos (by omega), if_pos h]
  · rw [if_neg (by omega), if_neg h]
    exact pBag_loop l (by omega) hn l.length 0 (by omega) rfl k (by omega)
end Go.Proofs.YthghcpeedmconaaDoor.X
end
section
namespace Go.Proofs.YthghcpeedmconaaDoor.X
open Go.RowKit Go.Proofs.YthghcpeedmconaaDoorW.PrintWords
set_option linter.unusedVariables false
theorem bits_or_u32_nat (a b : Nat) (ha : a < 4294967296) (hb : b < 4294967296) : Go.bits .or .u32 (a : Int) (b : Int) = ((a ||| b : Nat) : Int) := by
  have hx : a ||| b < 2 ^ 32 := Nat.or_lt_two_pow (by omega) (by omega)
  have h1 : (BitVec.ofInt 32 (a : Int)).toNat = a := by
    rw [BitVec.ofInt_natCast, BitVec.toNat_ofNat]; exact Nat.mod_eq_of_lt (by omega)
  have h2 : (BitVec.ofInt 32 (b : Int)).toNat = b := by
    rw [BitVec.ofInt_natCast, BitVec.toNat_ofNat]; exact Nat.mod_eq_of_lt (by omega)
  show IntKind.u32.wrap ((BitVec.ofInt 32 (a : Int) ||| BitVec.ofInt 32 (b : Int)).toNat : Int) = _
  rw [BitVec.toNat_or, h1, h2]
  show ((a ||| b : Nat) : Int) % 4294967296 = _
  omega
theorem bits_or_i64_nat (a b : Nat) (ha : a < 4294967296) (hb : b < 4294967296) : Go.bits .or .i64 (a : Int) (b : Int) = ((a ||| b : Nat) : Int) := by
  have hx : a ||| b < 2 ^ 32 := Nat.or_lt_two_pow (by omega) (by omega)
  have h1 : (BitVec.ofInt 64 (a : Int)).toNat = a := by
    rw [BitVec.ofInt_natCast, BitVec.toNat_ofNat]; exact Nat.mod_eq_of_lt (by omega)
  have h2 : (BitVec.ofInt 64 (b : Int)).toNat = b := by
    rw [BitVec.ofInt_natCast, BitVec.toNat_ofNat]; exact Nat.mod_eq_of_lt (by omega)
  show IntKind.i64.wrap ((BitVec.ofInt 64 (a : Int) ||| BitVec.ofInt 64 (b : Int)).toNat : Int) = _
  rw [BitVec.toNat_or, h1, h2]
  generalize (a ||| b) = z at *
  simp only [IntKind.wrap, IntKind.bits, IntKind.signed]
  simp
  omega
theorem or_low (i a b : Nat) (h : b < 2 ^ i) : (2 ^ i * a) ||| b = 2 ^ i * a + b := (Nat.two_pow_add_eq_or_of_lt h a).symm
theorem or_four (a b c d : Nat) (ha : a < 256) (hb : b < 256) (hc : c < 256) (hd : d < 256) : (((a * 16777216 ||| b * 65536) ||| c * 256) ||| d) = ((a * 256 + b) * 256 + c) * 256 + d := by
  have h1 : a * 16777216 ||| b * 65536 = (a * 256 + b) * 65536 := by
    have := or_low 24 a (b * 65536) (by omega)
    rw [Nat.mul_comm a, show (16777216 : Nat) = 2 ^ 24 from rfl, this]
    omega
  have h2 : (a * 256 + b) * 65536 ||| c * 256 = ((a * 256 + b) * 256 + c) * 256 := by
    have := or_low 16 (a * 256 + b) (c * 256) (by omega)
    rw [Nat.mul_comm _ 65536, show (65536 : Nat) = 2 ^ 16 from rfl, this]
    omega
  have h3 : ((a * 256 + b) * 256 + c) * 256 ||| d = ((a * 256 + b) * 256 + c) * 256 + d := by
    have := or_low 8 ((a * 256 + b) * 256 + c) d (by omega)
    rw [Nat.mul_comm _ 256, show (256 : Nat) = 2 ^ 8 from rfl, this]
  rw [h1, h2, h3]
def headN (a b c d : Int) : Int := ((a * 256 + b) * 256 + c) * 256 + d
theorem head_u32 (a b c d : Int) (ha : 0 ≤ a ∧ a < 256) (hb : 0 ≤ b ∧ b < 256) (hc : 0 ≤ c ∧ c < 256) (hd : 0 ≤ d ∧ d < 256) :
    Go.bits .or .u32 (Go.bits .or .u32 (Go.bits .or .u32 (((a % 4294967296) * 16777216) % 4294967296) (((b % 4294967296) * 65536) % 4294967296)) (((c % 4294967296) * 256) % 4294967296)) (d % 4294967296) = headN a b c d := by
  obtain ⟨a, rfl⟩ := Int.eq_ofNat_of_zero_le ha.1
  obtain ⟨b, rfl⟩ := Int.eq_ofNat_of_zero_le hb.1
  obtain ⟨c, rfl⟩ := Int.eq_ofNat_of_zero_le hc.1
  obtain ⟨d, rfl⟩ := Int.eq_ofNat_of_zero_le hd.1
  rw [show (((a : Int) % 4294967296) * 16777216) % 4294967296 = ((a * 16777216 : Nat) : Int) by omega, show (((b : Int) % 4294967296) * 65536) % 4294967296 = ((b * 65536 : Nat) : Int) by omega,
    show (((c : Int) % 4294967296) * 256) % 4294967296 = ((c * 256 : Nat) : Int) by omega, show ((d : Int) % 4294967296) = ((d : Nat) : Int) by omega]
  have e := or_four a b c d (by omega) (by omega) (by omega) (by omega)
  have l1 : a * 16777216 ||| b * 65536 < 2 ^ 32 := Nat.or_lt_two_pow (by omega) (by omega)
  have l2 : (a * 16777216 ||| b * 65536) ||| c * 256 < 2 ^ 32 := Nat.or_lt_two_pow l1 (by omega)
  rw [bits_or_u32_nat _ _ (by omega) (by omega), bits_or_u32_nat _ _ (by omega) (by omega), bits_or_u32_nat _ _ (by omega) (by omega), e]
  unfold headN
  omega
theorem head_i64 (a b c d : Int) (ha : 0 ≤ a ∧ a < 256) (hb : 0 ≤ b ∧ b < 256) (hc : 0 ≤ c ∧ c < 256) (hd : 0 ≤ d ∧ d < 256) :
    Go.bits .or .i64 (Go.bits .or .i64 (Go.bits .or .i64 (wrap64 ((wrap64 a) * 16777216)) (wrap64 ((wrap64 b) * 65536))) (wrap64 ((wrap64 c) * 256))) (wrap64 d) = headN a b c d := by
  obtain ⟨a, rfl⟩ := Int.eq_ofNat_of_zero_le ha.1
  obtain ⟨b, rfl⟩ := Int.eq_ofNat_of_zero_le hb.1
  obtain ⟨c, rfl⟩ := Int.eq_ofNat_of_zero_le hc.1
  obtain ⟨d, rfl⟩ := Int.eq_ofNat_of_zero_le hd.1
  rw [show wrap64 ((wrap64 (a : Int)) * 16777216) = ((a * 16777216 : Nat) : Int) by unfold wrap64; omega, show wrap64 ((wrap64 (b : Int)) * 65536) = ((b * 65536 : Nat) : Int) by unfold wrap64; omega,
    show wrap64 ((wrap64 (c : Int)) * 256) = ((c * 256 : Nat) : Int) by unfold wrap64; omega, show wrap64 (d : Int) = ((d : Nat) : Int) by unfold wrap64; omega]
  have e := or_four a b c d (by omega) (by omega) (by omega) (by omega)
  have l1 : a * 16777216 ||| b * 65536 < 2 ^ 32 := Nat.or_lt_two_pow (by omega) (by omega)
  have l2 : (a * 16777216 ||| b * 65536) ||| c * 256 < 2 ^ 32 := Nat.or_lt_two_pow l1 (by omega)
  rw [bits_or_i64_nat _ _ (by omega) (by omega), bits_or_i64_nat _ _ (by omega) (by omega), bits_or_i64_nat _ _ (by omega) (by omega), e]
  unfold headN
  omega
end Go.Proofs.YthghcpeedmconaaDoor.X
end
section
namespace Go.Proofs.YthghcpeedmconaaDoor.X
open Go.RowKit Go.Proofs.YthghcpeedmconaaDoorW.PrintWords Go.Proofs.YthghcpeedmconaaDoorW.PrintLast Go.Proofs.YthghcpeedmconaaDoorW.PrintMore
attribute [local go_sem] max2_int min2_int max_two min_two max_three min_three max_four min_four
set_option linter.unusedVariables false
set_option linter.unusedSimpArgs false
def locksteplaw02_Own.f (l0 : List (S42)) : Option ((List (S42))) := if 0 ≤ (wrap64 ((l0.length : Int) + 1)) then (if (wrap64 ((l0.length : Int) + 1) : Int).toNat ≤ 8796093022208 then ((some (([] : List (S42)) : List (S42))).bind fun y101 => (if y101.length + l0.length < 4398046511104 then (some (y101 ++ l0)) else (none))) else (none)) else (none)
set_option maxHeartbeats 8000000 in
set_option maxRecDepth 100000 in
theorem locksteplaw02_Own.calls (A0 : Option Addr) (c0 : Nat) (l0 : List (S42)) (r : List (S42)) (w : World) (hr0 : Kd.C k42 w A0 l0.length l0) (hc0 : l0.length ≤ c0) (h : locksteplaw02_Own.f l0 = some r) :
  Calls Tryd.prog 12 #[.slice A0 l0.length c0] w fun e w' => ∃ v0_ : Value, e = .returned (v0_) ∧ Kd.R k42 42 w' w.heap.size (fun _ => True) v0_ r ∧ Below w.heap.size w w' := by
 have HR0 := Aside0.mk hr0
 have HC0 := Aside0.mk hc0
 clear hr0 hc0
 have HB := Aside0.mk (Below.refl w.heap.size w)
 have H : (if 0 ≤ (wrap64 ((l0.length : Int) + 1)) then (if (wrap64 ((l0.length : Int) + 1) : Int).toNat ≤ 8796093022208 then ((some (([] : List (S42)) : List (S42))).bind fun y101 => (if y101.length + l0.length < 4398046511104 then (some (y101 ++ l0)) else (none))) else (none)) else (none)) = some r := h
 clear h
 obtain ⟨ji2, hji2⟩ : ∃ j_ : Int, (wrap64 ((l0.length : Int) + 1)) = j_ := ⟨_, rfl⟩
 replace H : (if 0 ≤ (ji2) then (if (ji2 : Int).toNat ≤ 8796093022208 then ((some (([] : List (S42)) : List (S42))).bind fun y101 => (if y101.length + l0.length < 4398046511104 then (some (y101 ++ l0)) else (none))) else (none)) else (none)) = some r := by first | (rw [hji2] at H; exact H) | (simp only [hji2] at H ⊢; exact H)
 have hji2w : (IntKind.i64.wrap ((l0.length : Int) + 1)) = ji2 := (i64_w _).trans hji2
 by_cases c3 : 0 ≤ (ji2)
 ·
  rw [if_pos c3] at H
  have c3b0 := eq_true c3
  have c3b1 : decide (0 ≤ (ji2)) = true := decide_eq_true c3
  clear c3
  by_cases c4 : (ji2 : Int).toNat ≤ 8796093022208
  ·
   rw [if_pos c4] at H
   have c4b0 := eq_true c4
   have c4b1 : decide ((ji2 : Int).toNat ≤ 8796093022208) = true := decide_eq_true c4
   clear c4
   obtain ⟨y101, hy101⟩ : ∃ y_ : List (S42), y_ = (([] : List (S42))) := ⟨_, rfl⟩
   replace H : (if y101.length + l0.length < 4398046511104 then (some (y101 ++ l0)) else (none)) = some r := by first | (rw [hy101]; with_reducible exact H) | (have H2_ := (Option.bind_some _ _).symm.trans H; rw [hy101]; with_reducible exact H2_) | (have H2_ := (Option.bind_some _ _).symm.trans H; with_reducible exact H2_) | with_reducible exact H | (rw [hy101]; exact H) | exact H
   have Ny101 := Aside0.mk hy101
   clear hy101
   by_cases c5 : y101.length + l0.length < 4398046511104
   ·
    rw [if_pos c5] at H
    have LMc5 := Aside0.mk c5
    clear c5
    obtain ⟨y104, hy104⟩ : ∃ y_ : List (S42), y_ = (y101 ++ l0) := ⟨_, rfl⟩
    replace H : (some y104) = some r := by first | (rw [hy104]; with_reducible exact H) | (have H2_ := (Option.bind_some _ _).symm.trans H; rw [hy104]; with_reducible exact H2_) | (have H2_ := (Option.bind_some _ _).symm.trans H; with_reducible exact H2_) | with_reducible exact H | (rw [hy104]; exact H) | exact H
    have Ny104 := Aside0.mk hy104
    clear hy104
    obtain rfl := Option.some.inj H
    go_enter Tryd.func12, Tryd.ntmps12
    go_wp2_with (first | ((with_reducible refine gate_dst (N := 6) rfl ?_); refine Kd.R_make0 k42 _ 42 rfl (N := 6) rfl 33 _ _ rfl ji2 rfl rfl Tryd.underlying33 (.agg #[(.int .i64 0), (.int .i64 0), (.string ⟨#[]⟩)]) 32 info42 rfl (by decide) (by omega) z42 (ok := fun _ => True) (okp := fun _ => True) (k42_mkM _ _ _ z42 ) (fun _ hk => hk) trivial (of_decide_eq_true (by first | (with_reducible assumption) | assumption)) (Nat.le_trans (Nat.mul_le_mul_right _ (of_decide_eq_true (by first | (with_reducible assumption) | assumption) : ji2.toNat ≤ 8796093022208)) (by omega)) (Below.refl _ _) (Nat.le_refl _) ?_; intro v102 w6 ho7 hb hg_ hnew_; clear hg_ hnew_; (first | rw [← Ny101.out] at ho7 | (simp only [Int.reduceToNat] at ho7; rw [← Ny101.out] at ho7)); have n0_ := Aside0.mk (Kd.R_lower ho7 (below_size (by repeat (first | (with_reducible first | exact HB.out | apply below_alloc | apply pw_below_drewN | apply below_drew1) | exact HB.out)))); have n1_ := Aside0.mk (below_step (by repeat (first | (with_reducible first | exact HB.out | apply below_alloc | apply pw_below_drewN | apply below_drew1) | exact HB.out)) hb); clear HB; have HO103 := n0_; have HB := n1_; clear n0_ n1_; clear hb ho7) | ((with_reducible refine gate_builtin (b := .append) (xs := #[.tmp 6, .tmp 7]) rfl ?_); at_builtin; refine Kd.R_append_rows k42 (w0 := w) w.heap.size rfl (.tmp 6) (.tmp 7) 33 42 (.agg #[(.int .i64 0), (.int .i64 0), (.string ⟨#[]⟩)]) 32 rfl Tryd.underlying33 info42 rfl (by decide) (by omega) v102 y101 l0 _ _ _ (fun _ => True) (fun _ => False) rfl rfl ?aO ?aR (fun _ _ h => h) (fun _ h => h.elim) ?aF ?aB ?aS ?aL ?_; (case aR => repeat (first | exact (Kd.C_below HR0.out HB.out) | (with_reducible refine Kd.C_alloc ?_ _) | (with_reducible refine Kd.C_drewN ?_ _) | (with_reducible refine Kd.C_drew ?_))); (case aB => exact (by repeat (first | (with_reducible first | exact HB.out | apply below_alloc | apply pw_below_drewN | apply below_drew1) | exact HB.out))); (case aF => exact (fun _ _ => trivial)); (case aO => exact (by (with_reducible repeat (first | apply Kd.R_alloc | apply Kd.R_drewN | apply Kd.R_drew)); exact HO103.out)); (case aS => exact (below_size (by repeat (first | (with_reducible first | exact HB.out | apply below_alloc | apply pw_below_drewN | apply below_drew1) | exact HB.out)))); (case aL => have := LMc5.out; omega); intro v105 w8 ho hb hg hat; rw [← Ny104.out] at ho; have n0_ := Aside0.mk (hb); have n1_ := Aside0.mk (ho); clear HB; clear HO103; have HB := n0_; have HO106 := n1_; clear n0_ n1_; clear ho hb hg hat))
    go_ret
    exact ⟨_, by first | rfl | (simp [errW_none, errW_some] <;> rfl) | (simp only [← hji2]; first | rfl | (simp [errW_none, errW_some] <;> rfl)) | (simp [*, errW_none, errW_some] <;> rfl), by (with_reducible repeat (first | apply Kd.R_alloc | apply Kd.R_drewN | apply Kd.R_drew)); exact HO106.out, by repeat (first | (with_reducible first | exact HB.out | apply below_alloc | apply pw_below_drewN | apply below_drew1) | exact HB.out)⟩
   ·
    rw [if_neg c5] at H
    exact absurd H (by simp)
  ·
   rw [if_neg c4] at H
   exact absurd H (by simp)
 ·
  rw [if_neg c3] at H
  exact absurd H (by simp)
def locksteplaw02_Owned.l0 : Nat → List (List (S42)) → List (List (S42)) → Int → Option ((List (List (S42))))
 | 0, _, _, _ => none
 | k + 1, x0, x3, x4 => if x4 < (x0.length : Int) then (if 0 ≤ x4 then ((locksteplaw02_Own.f (rd_L5 x0 x4)).bind fun t713 => (if x3.length < 5864062014805 then (locksteplaw02_Owned.l0 k x0 (x3 ++ [t713]) (wrap64 (x4 + 1))) else (none))) else (none)) else (some x3)
def locksteplaw02_Owned.f (k : Nat) (l0 : List (List (S42))) : Option ((List (List (S42)))) := if 0 ≤ (wrap64 ((l0.length : Int) + 1)) then (if (wrap64 ((l0.length : Int) + 1) : Int).toNat ≤ 11728124029610 then (locksteplaw02_Owned.l0 k l0 (([] : List (List (S42)))) 0) else (none)) else (none)
set_option maxHeartbeats 8000000 in
set_option maxRecDepth 100000 in
theorem locksteplaw02_Owned.calls (k : Nat) (A0 : Option Addr) (c0 : Nat) (l0 : List (List (S42))) (r : List (List (S42))) (w : World) (hr0 : Kd.C (Kd.slice 42 k42) w A0 l0.length l0) (hc0 : l0.length ≤ c0) (h : locksteplaw02_Owned.f k l0 = some r) :
  Calls Tryd.prog 37 #[.slice A0 l0.length c0] w fun e w' => ∃ v0_ : Value, e = .returned (v0_) ∧ Kd.S (Kd.slice 42 k42) 33 w' w.heap.size (fun _ => True) v0_ r ∧ Below w.heap.size w w' := by
 have HR0 := am hr0
 have HC0 := am hc0
 clear hr0 hc0
 have HB := am (Below.refl w.heap.size w)
 have H : (if 0 ≤ (wrap64 ((l0.length : Int) + 1)) then (if (wrap64 ((l0.length : Int) + 1) : Int).toNat ≤ 11728124029610 then (locksteplaw02_Owned.l0 k l0 (([] : List (List (S42)))) 0) else (none)) else (none)) = some r := h
 clear h
 obtain ⟨ji2, hji2⟩ : ∃ j_ : Int, (wrap64 ((l0.length : Int) + 1)) = j_ := ⟨_, rfl⟩
 replace H : (if 0 ≤ (ji2) then (if (ji2 : Int).toNat ≤ 11728124029610 then (locksteplaw02_Owned.l0 k l0 (([] : List (List (S42)))) 0) else (none)) else (none)) = some r := by (rw [hji2] at H; exact H)
 have hji2w : (IntKind.i64.wrap ((l0.length : Int) + 1)) = ji2 := (i64_w _).trans hji2
 replace H := its H
 obtain ⟨c3, H⟩ := H
 have c3b0 := eq_true c3
 have c3b1 := decide_eq_true c3
 clear c3
 replace H := its H
 obtain ⟨c4, H⟩ := H
 have c4b0 := eq_true c4
 have c4b1 := decide_eq_true c4
 clear c4
 obtain ⟨y709, hy709⟩ : ∃ y_ : List (List (S42)), y_ = (([] : List (List (S42)))) := ⟨_, rfl⟩
 replace H : (locksteplaw02_Owned.l0 k l0 y709 0) = some r := by (rw [hy709]; with_reducible exact H)
 have Ny709 := am hy709
 clear hy709
 have H' := am H
 clear H
 go_enter Tryd.func37, Tryd.ntmps37
 go_wp2_with (((with_reducible refine gate_dst (N := 8) rfl ?_); refine Kd.S_make0 (Kd.slice 42 k42) _ 33 rfl (N := 8) rfl 44 _ _ rfl ji2 rfl rfl Tryd.underlying44 (.slice none 0 0) 24 info33 rfl (by decide) (by omega) [] (ok := fun _ => True) (okp := fun _ => True) ⟨_, rfl, Kd.R_nil _ _ _ _ _⟩ (fun _ hk => hk) trivial (of_decide_eq_true (by assumption)) (Nat.le_trans (Nat.mul_le_mul_right _ (of_decide_eq_true (by assumption) : ji2.toNat ≤ 11728124029610)) (by omega)) (Below.refl _ _) (Nat.le_refl _) ?_; intro v710 w5 ho6 hb hg_ hnew_; clear hg_ hnew_; (rw [← Ny709.out] at ho6); have HO711 := am (Kd.S_lower ho6 (below_size HB.out)); replace HB := am (below_step HB.out hb); clear hb ho6))
 go_loopg [3, 4] k (fun kq v3 v4 w' => ∃ (x3_1 : List (List (S42))) (x4_1 : Int), v4 = .int .i64 x4_1 ∧ Aside0 (locksteplaw02_Owned.l0 kq l0 x3_1 x4_1 = some r) ∧ Aside0 (kq ≤ k) ∧ Aside0 (Kd.S (Kd.slice 42 k42) 33 w' w.heap.size (fun _ => True) v3 x3_1) ∧ Aside0 (Below w.heap.size w w'))
 case atStart => exact ⟨(y709), (0), (by rfl), H', ⟨Nat.le_refl _⟩, ⟨by exact HO711.out⟩, ⟨by exact HB.out⟩⟩
 case round =>
  clear H'
  (try clear c3b0); (try clear c3b1); (try clear c4b0); (try clear c4b1)
  obtain ⟨x3_1, x4_1, rfl, HA, HK1, HO_3, HB⟩ := hrel
  cases gk with
  | zero => exact absurd HA.out (by simp [locksteplaw02_Owned.l0])
  | succ k1 =>
   have H := HA.out
   clear HA
   simp only [locksteplaw02_Owned.l0] at H
   by_cases c7 : x4_1 < (l0.length : Int)
   rotate_left
   ·
    rw [if_neg c7] at H
    have c7b0 := decide_eq_false c7
    clear c7
    obtain rfl := Option.some.inj H
    go_wp2
    go_ret
    exact ⟨_, by rfl, by exact HO_3.out, by exact HB.out⟩
   rw [if_pos c7] at H
   have c7b0 := decide_eq_true c7
   clear c7
   replace H := its H
   obtain ⟨c8, H⟩ := H
   have c8b0 := decide_eq_true c8
   clear c8
   replace H := Option.bind_eq_some_iff.mp H
   obtain ⟨t713, A90, H⟩ := H
   replace H : (if x3_1.length < 5864062014805 then (locksteplaw02_Owned.l0 k1 l0 (x3_1 ++ [t713]) (wrap64 (x4_1 + 1))) else (none)) = some r := H
   have A9 := am A90
   clear A90
   replace H := its H
   obtain ⟨c10, H⟩ := H
   have LMc10 := am c10
   clear c10
   obtain ⟨y716, hy716⟩ : ∃ y_ : List (List (S42)), y_ = (x3_1 ++ [t713]) := ⟨_, rfl⟩
   replace H : (locksteplaw02_Owned.l0 k1 l0 y716 (wrap64 (x4_1 + 1))) = some r := by (rw [hy716]; with_reducible exact H)
   have Ny716 := am hy716
   clear hy716
   have H' := am H
   clear H
   have p712 : 0 ≤ (x4_1 : Int) := of_decide_eq_true (by assumption)
   have q712 : x4_1 < (l0.length : Int) := of_decide_eq_true (by assumption)
   obtain ⟨ad712, A712_0, c712_0, e712, hx712_0, hl712_0, hi712_0⟩ := at_L5 HR0.out x4_1 p712 q712
   cases e712
   replace hx712_0 := (HB.out.cell (World.block_lt_of_cell? w _ hx712_0)).trans hx712_0
   have HR712_0 := am hi712_0
   have HC712_0 := am hl712_0
   clear hi712_0 hl712_0
   replace p712 := eq_true p712
   replace q712 := eq_true q712
   go_wp2_with (first | ((with_reducible refine gate_callee (f := 12) rfl ?_); refine goesL_ (some 20) rfl rfl Tryd.func12 (by kernel_rfl) rfl #[.slice A712_0 (rd_L5 l0 x4_1).length c712_0] rfl (by (try simp only [List.map_toArray, List.map_cons, List.map_nil]); rfl) ?_; (with_reducible refine (locksteplaw02_Own.calls _ _ (rd_L5 l0 x4_1) t713 _ ?side1 ?side2 A9.out).mono ?_); (case side1 => exact (Kd.C_below HR712_0.out HB.out)); (case side2 => exact HC712_0.out); rintro e w11 ⟨v714, rfl, ho0, hb⟩; refine ⟨_, rfl, ?_⟩; replace HO_3 := am (Kd.S_elder' HO_3.out (Kd.R_base ho0) hb); have HO715 := am (Kd.R_lower ho0 (below_size HB.out)); replace HB := am (below_step HB.out hb); (try clear hb); (try clear ho0); obtain ⟨Ao13, co13, eo13⟩ := Kd.R_slice HO715.out; subst eo13) | ((with_reducible refine gate_builtin (b := .append) (xs := #[.tmp 15, .tmp 21]) rfl ?_); at_builtin; refine Kd.S_append (Kd.slice 42 k42) (w0 := w) w.heap.size rfl (.tmp 15) (.tmp 21) 44 33 (.slice none 0 0) 24 rfl Tryd.underlying44 info33 rfl (by decide) (by omega) u3 x3_1 t713 [.slice Ao13 t713.length co13] (fun _ => True) (fun k_ => some k_ = (.slice Ao13 t713.length co13 : Value).ownBlock) rfl rfl ?aP (fun k_ hk_ => ((Kd.R_mono (ok' := fun k_ => ((fun _ => True)) k_ ∧ some k_ ≠ (u3 : Value).ownBlock) (Kd.R_apart' (HO715.out) (Kd.S_typed HO_3.out) (by decide)) (fun k_ hk => ⟨trivial, hk.2⟩))).1 k_ hk_.symm) ?aF ?aO ?aB ?aS ?aL ?_; (case aP => exact Kd.M_row (Kd.R_mono (Kd.R_tight rfl (Kd.R_mono (ok' := fun k_ => ((fun _ => True)) k_ ∧ some k_ ≠ (u3 : Value).ownBlock) (Kd.R_apart' (HO715.out) (Kd.S_typed HO_3.out) (by decide)) (fun k_ hk => ⟨trivial, hk.2⟩))) (fun _ h_ => h_))); (case aB => exact HB.out); (case aF => exact (fun _ _ => trivial)); (case aO => exact (by exact Kd.S_mono HO_3.out (fun k_ hk => ⟨trivial, fun e_ => hk.2 e_⟩))); (case aS => exact (below_size HB.out)); (case aL => have := LMc10.out; omega); intro v717 w12 ho hb hg hat; rw [← Ny716.out] at ho; replace HB := am (hb); have HO718 := am (ho); clear HO_3 HO715; clear ho hb hg hat))
   go_roundg k1
   case measure => have := HK1.out; omega
   case rel => exact ⟨(y716), (wrap64 (x4_1 + 1)), (by rfl), H', ⟨by have := HK1.out; omega⟩, ⟨by exact HO718.out⟩, ⟨by exact HB.out⟩⟩
def lockstepref02_Lists.l0 : Nat → List (List (S42)) → List (List (S42)) → Int → Option (Bool)
 | 0, _, _, _ => none
 | k + 1, x0, x1, x5 => if x5 < (x0.length : Int) then (if 0 ≤ x5 then (if x5 < (x1.length : Int) then ((lockstepref02_Rows.f k (rd_L5 x0 x5) (rd_L5 x1 x5)).bind fun t774 => (if t774 = true then (lockstepref02_Lists.l0 k x0 x1 (wrap64 (x5 + 1))) else (some false))) else (none)) else (none)) else (some true)
def lockstepref02_Lists.f (k : Nat) (l0 : List (List (S42))) (l1 : List (List (S42))) : Option (Bool) := if (l0.length : Int) = (l1.length : Int) then (lockstepref02_Lists.l0 k l0 l1 0) else (some false)
def lockstepref02_Lists.T6 : Bool × List (List Nat × List Nat) := (true, [([], []), ([], []), ([0, 1], [0, 1]), ([2], [2]), ([], []), ([], []), ([4, 5], [4, 5]), ([6], [6]), ([3, 7], [3, 7]), ([8], [8])])
def lockstepref02_Lists.B6 : List Nat := [0, 0, 3, 7, 0, 0, 48, 112, 255, 511]
theorem lockstepref02_Lists.tab6 : rtab .any (opsOf Tryd.f41 6) = lockstepref02_Lists.T6 := by kernel_rfl
theorem lockstepref02_Lists.bits6 : waitsOk lockstepref02_Lists.T6.2 lockstepref02_Lists.B6 = true := by kernel_rfl
set_option maxHeartbeats 8000000 in
set_option maxRecDepth 100000 in
theorem lockstepref02_Lists.calls (k : Nat) (A0 : Option Addr) (c0 : Nat) (l0 : List (List (S42))) (A1 : Option Addr) (c1 : Nat) (l1 : List (List (S42))) (r : Bool) (w : World) (hr0 : Kd.C (Kd.slice 42 k42) w A0 l0.length l0) (hc0 : l0.length ≤ c0) (hr1 : Kd.C (Kd.slice 42 k42) w A1 l1.length l1) (hc1 : l1.length ≤ c1) (h : lockstepref02_Lists.f k l0 l1 = some r) :
  Calls Tryd.prog 41 #[.slice A0 l0.length c0, .slice A1 l1.length c1] w fun e w' => e = .returned (.bool r) ∧ Below w.heap.size w w' := by
 have HR0 := am hr0
 have HC0 := am hc0
 clear hr0 hc0
 have HR1 := am hr1
 have HC1 := am hc1
 clear hr1 hc1
 have HB := am (Below.refl w.heap.size w)
 have H : (if (l0.length : Int) = (l1.length : Int) then (lockstepref02_Lists.l0 k l0 l1 0) else (some false)) = some r := h
 clear h
 by_cases c3 : (l0.length : Int) = (l1.length : Int)
 rotate_left
 ·
  rw [if_neg c3] at H
  have c3b0 : ((l0.length : Int) == (l1.length : Int)) = false := beq_eq_false_iff_ne.mpr c3
  have c3b1 : ((l0.length : Int) != (l1.length : Int)) = true := bne_iff_ne.mpr c3
  have c3b2 : (l0.length == l1.length) = false := by (simp at c3 ⊢; omega)
  obtain rfl := Option.some.inj H
  go_enter Tryd.func41, Tryd.ntmps41
  go_wp2
  go_ret
  exact ⟨by rfl, by exact HB.out⟩
 rw [if_pos c3] at H
 have c3b0 : ((l0.length : Int) == (l1.length : Int)) = true := beq_iff_eq.mpr c3
 have c3b1 : ((l0.length : Int) != (l1.length : Int)) = false := bne_eq_false_iff_eq.mpr c3
 have c3b2 : (l0.length == l1.length) = true := by (simp at c3 ⊢; omega)
 clear c3
 have H' := am H
 clear H
 go_enter Tryd.func41, Tryd.ntmps41
 go_wp2
 go_loopg [5] k (fun kq v5 w' => ∃ (x5_1 : Int), v5 = .int .i64 x5_1 ∧ Aside0 (lockstepref02_Lists.l0 kq l0 l1 x5_1 = some r) ∧ Aside0 (kq ≤ k) ∧ Aside0 (Below w.heap.size w w'))
 case atStart => exact ⟨(0), (by rfl), H', ⟨Nat.le_refl _⟩, ⟨by exact HB.out⟩⟩
 case round =>
  clear H'
  (try clear c3b0); (try clear c3b1); (try clear c3b2)
  obtain ⟨x5_1, rfl, HA, HK1, HB⟩ := hrel
  cases gk with
  | zero => exact absurd HA.out (by simp [lockstepref02_Lists.l0])
  | succ k1 =>
   have H := HA.out
   clear HA
   simp only [lockstepref02_Lists.l0] at H
   by_cases c4 : x5_1 < (l0.length : Int)
   rotate_left
   ·
    rw [if_neg c4] at H
    have c4b0 := decide_eq_false c4
    clear c4
    obtain rfl := Option.some.inj H
    go_wp2
    go_ret
    exact ⟨by rfl, by exact HB.out⟩
   rw [if_pos c4] at H
   have c4b0 := decide_eq_true c4
   clear c4
   replace H := its H
   obtain ⟨c5, H⟩ := H
   have c5b0 := decide_eq_true c5
   clear c5
   replace H := its H
   obtain ⟨c6, H⟩ := H
   have c6b0 := decide_eq_true c6
   clear c6
   replace H := Option.bind_eq_some_iff.mp H
   obtain ⟨t774, A70, H⟩ := H
   replace H : (if t774 = true then (lockstepref02_Lists.l0 k1 l0 l1 (wrap64 (x5_1 + 1))) else (some false)) = some r := H
   have A7 := am A70
   clear A70
   by_cases c8 : t774 = true
   rotate_left
   ·
    replace c8 := Bool.eq_false_iff.mpr c8
    subst c8
    have H1 : (some false) = some r := by rw [if_neg (show ¬ (false = true) by decide)] at H; exact H
    clear H
    have H := H1
    clear H1
    obtain rfl := Option.some.inj H
    try go_wp2
    have n0_ := am (below_drew1 HB.out)
    clear HB
    have HB := n0_
    clear n0_
    have p772 : 0 ≤ (x5_1 : Int) := of_decide_eq_true (by assumption)
    have q772 : x5_1 < (l0.length : Int) := of_decide_eq_true (by assumption)
    obtain ⟨ad772, A772_0, c772_0, e772, hx772_0, hl772_0, hi772_0⟩ := at_L5 HR0.out x5_1 p772 q772
    have hw772_0 := hx772_0
    cases e772
    replace hx772_0 := (HB.out.cell (World.block_lt_of_cell? w _ hx772_0)).trans hx772_0
    have HR772_0 := am hi772_0
    have HC772_0 := am hl772_0
    clear hi772_0 hl772_0
    replace p772 := eq_true p772
    replace q772 := eq_true q772
    have p773 : 0 ≤ (x5_1 : Int) := of_decide_eq_true (by assumption)
    have q773 : x5_1 < (l1.length : Int) := of_decide_eq_true (by assumption)
    obtain ⟨ad773, A773_0, c773_0, e773, hx773_0, hl773_0, hi773_0⟩ := at_L5 HR1.out x5_1 p773 q773
    have hw773_0 := hx773_0
    cases e773
    replace hx773_0 := (HB.out.cell (World.block_lt_of_cell? w _ hx773_0)).trans hx773_0
    have HR773_0 := am hi773_0
    have HC773_0 := am hl773_0
    clear hi773_0 hl773_0
    replace p773 := eq_true p773
    replace q773 := eq_true q773
    refine start_ (n := 10) (S := fun w' => w'.cell? (ad772.add (x5_1).toNat) = some (.slice A772_0 (rd_L5 l0 x5_1).length c772_0) ∧ w'.cell? (ad773.add (x5_1).toNat) = some (.slice A773_0 (rd_L5 l1 x5_1).length c773_0)) (ds := []) #[false, false, false, false, false, false, false, false, false, false] (by kernel_rfl) rfl rfl ⟨((HB.out.cell (World.block_lt_of_cell? w _ hw772_0)).trans hw772_0), ((HB.out.cell (World.block_lt_of_cell? w _ hw773_0)).trans hw773_0)⟩ (fun hHeld => ?_); refine with_tabW lockstepref02_Lists.tab6 lockstepref02_Lists.bits6 (fun HT_ HW_ => ?_)
    generalize wr.drew = w11 at HB HR772_0 HR773_0 hx772_0 hx773_0 hHeld ⊢
    refine pu HT_ (v := ?_) (a' := ?_) 0 17 rfl rfl (by kernel_rfl) (fun _ _ _ h => h) (Or.inl ⟨by rfl, ?_⟩) ?_ ?_
    rotate_left
    ·
     intro w'
     go_simp
     with_reducible rfl
    rotate_left
    ·
     simp only [Act.put, sa, sb, sc, i64_w, i32_w]
     rfl
    refine pu HT_ (v := ?_) (a' := ?_) 1 18 rfl rfl (by kernel_rfl) (fun _ _ _ h => h) (Or.inl ⟨by rfl, ?_⟩) ?_ ?_
    rotate_left
    ·
     intro w'
     go_simp
     with_reducible rfl
    rotate_left
    ·
     simp only [Act.put, sa, sb, sc, i64_w, i32_w]
     rfl
    refine pu HT_ (v := ?_) (a' := ?_) 2 19 rfl rfl (by kernel_rfl) (fun _ _ _ h => h) (Or.inl ⟨by rfl, ?_⟩) ?_ ?_
    rotate_left
    ·
     intro w'
     go_simp
     with_reducible rfl
    rotate_left
    ·
     simp only [Act.put, sa, sb, sc, i64_w, i32_w]
     rfl
    refine pu HT_ (v := ?_) (a' := ?_) 4 21 rfl rfl (by kernel_rfl) (fun _ _ _ h => h) (Or.inl ⟨by rfl, ?_⟩) ?_ ?_
    rotate_left
    ·
     intro w'
     go_simp
     with_reducible rfl
    rotate_left
    ·
     simp only [Act.put, sa, sb, sc, i64_w, i32_w]
     rfl
    refine pu HT_ (v := ?_) (a' := ?_) 5 22 rfl rfl (by kernel_rfl) (fun _ _ _ h => h) (Or.inl ⟨by rfl, ?_⟩) ?_ ?_
    rotate_left
    ·
     intro w'
     go_simp
     with_reducible rfl
    rotate_left
    ·
     simp only [Act.put, sa, sb, sc, i64_w, i32_w]
     rfl
    refine pu HT_ (v := ?_) (a' := ?_) 6 23 rfl rfl (by kernel_rfl) (fun _ _ _ h => h) (Or.inl ⟨by rfl, ?_⟩) ?_ ?_
    rotate_left
    ·
     intro w'
     go_simp
     with_reducible rfl
    rotate_left
    ·
     simp only [Act.put, sa, sb, sc, i64_w, i32_w]
     rfl
    refine take_ (i := 3) (N := some 20) (v := ?_) (a' := ?_) #[true, true, true, true, true, true, true, false, false, false] rfl rfl (take_ofW HT_.out HW_.out (by kernel_rfl)) (fun _ _ _ h => h) (Or.inl ⟨by rfl, ?_⟩) hHeld ?_ ?_
    rotate_left
    ·
     rintro w' ⟨s0, s1⟩
     go_simp
     with_reducible rfl
    rotate_left
    ·
     simp only [Act.put, sa, sb, sc, i64_w, i32_w]
     rfl
    refine take_ (i := 7) (N := some 24) (v := ?_) (a' := ?_) #[true, true, true, true, true, true, true, true, false, false] rfl rfl (take_ofW HT_.out HW_.out (by kernel_rfl)) (fun _ _ _ h => h) (Or.inl ⟨by rfl, ?_⟩) hHeld ?_ ?_
    rotate_left
    ·
     rintro w' ⟨s0, s1⟩
     go_simp
     with_reducible rfl
    rotate_left
    ·
     simp only [Act.put, sa, sb, sc, i64_w, i32_w]
     rfl
    refine one_ (i := 8) (N := some 25) #[true, true, true, true, true, true, true, true, true, false] rfl rfl (one_of HT_.out (by kernel_rfl)) (by decide) (fun K hK => ?_)
    refine goes_ Tryd.func34 (by kernel_rfl) rfl #[.slice A772_0 (rd_L5 l0 x5_1).length c772_0, .slice A773_0 (rd_L5 l1 x5_1).length c773_0] (by rfl) rfl rfl (by (try simp only [List.map_toArray, List.map_cons, List.map_nil]); rfl) ?_
    with_reducible refine (lockstepref02_Rows.calls k1 _ _ (rd_L5 l0 x5_1) _ _ (rd_L5 l1 x5_1) false _ ?side1 ?side2 ?side3 ?side4 A7.out).mono ?_
    (case side1 => exact (Kd.C_below HR772_0.out HB.out))
    (case side2 => exact HC772_0.out)
    (case side3 => exact (Kd.C_below HR773_0.out HB.out))
    (case side4 => exact HC773_0.out)
    rintro e w12 ⟨rfl, hb⟩
    refine ⟨_, rfl, ?_⟩
    have n0_ := am (below_step HB.out hb)
    clear HB
    have HB := n0_
    clear n0_
    (try clear hb)
    refine hK.out _ _ ⟨((HB.out.cell (World.block_lt_of_cell? w _ hw772_0)).trans hw772_0), ((HB.out.cell (World.block_lt_of_cell? w _ hw773_0)).trans hw773_0)⟩ (fun hHeld => ?_)
    clear hK K
    refine norm_ (a' := ?_) ?_ ?_
    rotate_left
    ·
     show Act.put _ (some 25) _ = _
     simp only [Act.put, sa, sb, sc, i64_w, i32_w]
     rfl
    refine pu HT_ (v := ?_) (a' := ?_) 9 26 rfl rfl (by kernel_rfl) (fun _ _ _ h => h) (Or.inl ⟨by rfl, ?_⟩) ?_ ?_
    rotate_left
    ·
     intro w'
     go_simp
     with_reducible rfl
    rotate_left
    ·
     simp only [Act.put, sa, sb, sc, i64_w, i32_w]
     rfl
    refine done_ (done_of HT_.out (by kernel_rfl)) ?_
    try go_wp2
    go_ret
    exact ⟨by rfl, by exact HB.out⟩
   subst c8
   have H1 : (lockstepref02_Lists.l0 k1 l0 l1 (wrap64 (x5_1 + 1))) = some r := by rw [if_pos rfl] at H; exact H
   clear H
   have H := H1
   clear H1
   have H' := am H
   clear H
   try go_wp2
   have n0_ := am (below_drew1 HB.out)
   clear HB
   have HB := n0_
   clear n0_
   have p772 : 0 ≤ (x5_1 : Int) := of_decide_eq_true (by assumption)
   have q772 : x5_1 < (l0.length : Int) := of_decide_eq_true (by assumption)
   obtain ⟨ad772, A772_0, c772_0, e772, hx772_0, hl772_0, hi772_0⟩ := at_L5 HR0.out x5_1 p772 q772
   have hw772_0 := hx772_0
   cases e772
   replace hx772_0 := (HB.out.cell (World.block_lt_of_cell? w _ hx772_0)).trans hx772_0
   have HR772_0 := am hi772_0
   have HC772_0 := am hl772_0
   clear hi772_0 hl772_0
   replace p772 := eq_true p772
   replace q772 := eq_true q772
   have p773 : 0 ≤ (x5_1 : Int) := of_decide_eq_true (by assumption)
   have q773 : x5_1 < (l1.length : Int) := of_decide_eq_true (by assumption)
   obtain ⟨ad773, A773_0, c773_0, e773, hx773_0, hl773_0, hi773_0⟩ := at_L5 HR1.out x5_1 p773 q773
   have hw773_0 := hx773_0
   cases e773
   replace hx773_0 := (HB.out.cell (World.block_lt_of_cell? w _ hx773_0)).trans hx773_0
   have HR773_0 := am hi773_0
   have HC773_0 := am hl773_0
   clear hi773_0 hl773_0
   replace p773 := eq_true p773
   replace q773 := eq_true q773
   refine start_ (n := 10) (S := fun w' => w'.cell? (ad772.add (x5_1).toNat) = some (.slice A772_0 (rd_L5 l0 x5_1).length c772_0) ∧ w'.cell? (ad773.add (x5_1).toNat) = some (.slice A773_0 (rd_L5 l1 x5_1).length c773_0)) (ds := []) #[false, false, false, false, false, false, false, false, false, false] (by kernel_rfl) rfl rfl ⟨((HB.out.cell (World.block_lt_of_cell? w _ hw772_0)).trans hw772_0), ((HB.out.cell (World.block_lt_of_cell? w _ hw773_0)).trans hw773_0)⟩ (fun hHeld => ?_); refine with_tabW lockstepref02_Lists.tab6 lockstepref02_Lists.bits6 (fun HT_ HW_ => ?_)
   generalize wr.drew = w9 at HB HR772_0 HR773_0 hx772_0 hx773_0 hHeld ⊢
   refine pu HT_ (v := ?_) (a' := ?_) 0 17 rfl rfl (by kernel_rfl) (fun _ _ _ h => h) (Or.inl ⟨by rfl, ?_⟩) ?_ ?_
   rotate_left
   ·
    intro w'
    go_simp
    with_reducible rfl
   rotate_left
   ·
    simp only [Act.put, sa, sb, sc, i64_w, i32_w]
    rfl
   refine pu HT_ (v := ?_) (a' := ?_) 1 18 rfl rfl (by kernel_rfl) (fun _ _ _ h => h) (Or.inl ⟨by rfl, ?_⟩) ?_ ?_
   rotate_left
   ·
    intro w'
    go_simp
    with_reducible rfl
   rotate_left
   ·
    simp only [Act.put, sa, sb, sc, i64_w, i32_w]
    rfl
   refine pu HT_ (v := ?_) (a' := ?_) 2 19 rfl rfl (by kernel_rfl) (fun _ _ _ h => h) (Or.inl ⟨by rfl, ?_⟩) ?_ ?_
   rotate_left
   ·
    intro w'
    go_simp
    with_reducible rfl
   rotate_left
   ·
    simp only [Act.put, sa, sb, sc, i64_w, i32_w]
    rfl
   refine pu HT_ (v := ?_) (a' := ?_) 4 21 rfl rfl (by kernel_rfl) (fun _ _ _ h => h) (Or.inl ⟨by rfl, ?_⟩) ?_ ?_
   rotate_left
   ·
    intro w'
    go_simp
    with_reducible rfl
   rotate_left
   ·
    simp only [Act.put, sa, sb, sc, i64_w, i32_w]
    rfl
   refine pu HT_ (v := ?_) (a' := ?_) 5 22 rfl rfl (by kernel_rfl) (fun _ _ _ h => h) (Or.inl ⟨by rfl, ?_⟩) ?_ ?_
   rotate_left
   ·
    intro w'
    go_simp
    with_reducible rfl
   rotate_left
   ·
    simp only [Act.put, sa, sb, sc, i64_w, i32_w]
    rfl
   refine pu HT_ (v := ?_) (a' := ?_) 6 23 rfl rfl (by kernel_rfl) (fun _ _ _ h => h) (Or.inl ⟨by rfl, ?_⟩) ?_ ?_
   rotate_left
   ·
    intro w'
    go_simp
    with_reducible rfl
   rotate_left
   ·
    simp only [Act.put, sa, sb, sc, i64_w, i32_w]
    rfl
   refine take_ (i := 3) (N := some 20) (v := ?_) (a' := ?_) #[true, true, true, true, true, true, true, false, false, false] rfl rfl (take_ofW HT_.out HW_.out (by kernel_rfl)) (fun _ _ _ h => h) (Or.inl ⟨by rfl, ?_⟩) hHeld ?_ ?_
   rotate_left
   ·
    rintro w' ⟨s0, s1⟩
    go_simp
    with_reducible rfl
   rotate_left
   ·
    simp only [Act.put, sa, sb, sc, i64_w, i32_w]
    rfl
   refine take_ (i := 7) (N := some 24) (v := ?_) (a' := ?_) #[true, true, true, true, true, true, true, true, false, false] rfl rfl (take_ofW HT_.out HW_.out (by kernel_rfl)) (fun _ _ _ h => h) (Or.inl ⟨by rfl, ?_⟩) hHeld ?_ ?_
   rotate_left
   ·
    rintro w' ⟨s0, s1⟩
    go_simp
    with_reducible rfl
   rotate_left
   ·
    simp only [Act.put, sa, sb, sc, i64_w, i32_w]
    rfl
   refine one_ (i := 8) (N := some 25) #[true, true, true, true, true, true, true, true, true, false] rfl rfl (one_of HT_.out (by kernel_rfl)) (by decide) (fun K hK => ?_)
   refine goes_ Tryd.func34 (by kernel_rfl) rfl #[.slice A772_0 (rd_L5 l0 x5_1).length c772_0, .slice A773_0 (rd_L5 l1 x5_1).length c773_0] (by rfl) rfl rfl (by (try simp only [List.map_toArray, List.map_cons, List.map_nil]); rfl) ?_
   with_reducible refine (lockstepref02_Rows.calls k1 _ _ (rd_L5 l0 x5_1) _ _ (rd_L5 l1 x5_1) true _ ?side1 ?side2 ?side3 ?side4 A7.out).mono ?_
   (case side1 => exact (Kd.C_below HR772_0.out HB.out))
   (case side2 => exact HC772_0.out)
   (case side3 => exact (Kd.C_below HR773_0.out HB.out))
   (case side4 => exact HC773_0.out)
   rintro e w10 ⟨rfl, hb⟩
   refine ⟨_, rfl, ?_⟩
   have n0_ := am (below_step HB.out hb)
   clear HB
   have HB := n0_
   clear n0_
   (try clear hb)
   refine hK.out _ _ ⟨((HB.out.cell (World.block_lt_of_cell? w _ hw772_0)).trans hw772_0), ((HB.out.cell (World.block_lt_of_cell? w _ hw773_0)).trans hw773_0)⟩ (fun hHeld => ?_)
   clear hK K
   refine norm_ (a' := ?_) ?_ ?_
   rotate_left
   ·
    show Act.put _ (some 25) _ = _
    simp only [Act.put, sa, sb, sc, i64_w, i32_w]
    rfl
   refine pu HT_ (v := ?_) (a' := ?_) 9 26 rfl rfl (by kernel_rfl) (fun _ _ _ h => h) (Or.inl ⟨by rfl, ?_⟩) ?_ ?_
   rotate_left
   ·
    intro w'
    go_simp
    with_reducible rfl
   rotate_left
   ·
    simp only [Act.put, sa, sb, sc, i64_w, i32_w]
    rfl
   refine done_ (done_of HT_.out (by kernel_rfl)) ?_
   try go_wp2
   go_roundg k1
   case measure => have := HK1.out; omega
   case rel => exact ⟨(wrap64 (x5_1 + 1)), (by rfl), H', ⟨by have := HK1.out; omega⟩, ⟨by exact HB.out⟩⟩
def lockstepref02_ReadRow.l0 : Nat → List Int → List (S42) → Int → Option ((List (S42)) × Int × Int)
 | 0, _, _, _ => none
 | k + 1, x0, x5, x6 => if x6 = (x0.length : Int) then (some (([] : List (S42)), 0, 4)) else (if 0 ≤ x6 then (if x6 < (x0.length : Int) then (if (rd x0 x6) = 0 then (some (x5, wrap64 (x6 + 1), 0)) else (if (x5.length : Int) = 16 then (some (([] : List (S42)), 0, 20)) else (if x6 ≤ (x0.length : Int) then ((lockstepref02_Read.f k (x0.drop (x6 : Int).toNat)).bind fun bt777 => (if bt777.2.2.2.2 = 0 then (if x5.length < 4398046511104 then (lockstepref02_ReadRow.l0 k x0 (x5 ++ [(⟨bt777.1, bt777.2.1, bt777.2.2.1⟩ : S42)]) (wrap64 (x6 + bt777.2.2.2.1))) else (none)) else (some (([] : List (S42)), 0, bt777.2.2.2.2)))) else (none)))) else (none)) else (none))
def lockstepref02_ReadRow.f (k : Nat) (l0 : List Int) : Option ((List (S42)) × Int × Int) := lockstepref02_ReadRow.l0 k l0 ([] : List (S42)) 0
set_option maxHeartbeats 8000000 in
set_option maxRecDepth 100000 in
theorem lockstepref02_ReadRow.calls (k : Nat) (A0 : Option Addr) (c0 : Nat) (l0 : List Int) (r1 : List (S42)) (r2 : Int) (r3 : Int) (w : World) (hr0 : Kd.C (Kd.int .u8) w A0 l0.length l0) (hc0 : l0.length ≤ c0) (h : lockstepref02_ReadRow.f k l0 = some (r1, r2, r3)) :
  Calls Tryd.prog 42 #[.slice A0 l0.length c0] w fun e w' => ∃ v0_ : Value, e = .returned (.tuple #[v0_, .int .i64 r2, .int .i64 r3]) ∧ Kd.R k42 42 w' w.heap.size (fun _ => True) v0_ r1 ∧ Below w.heap.size w w' := by
 have hu42 := Tryd.underlying42
 have HR0 := am hr0
 have HC0 := am hc0
 clear hr0 hc0
 have HB := am (Below.refl w.heap.size w)
 have H : (lockstepref02_ReadRow.l0 k l0 ([] : List (S42)) 0) = some (r1, r2, r3) := h
 clear h
 have H' := am H
 clear H
 go_enter Tryd.func42, Tryd.ntmps42
 go_wp2
 go_loopg [5, 6] k (fun kq v5 v6 w' => ∃ (x5_1 : List (S42)) (x6_1 : Int), v6 = .int .i64 x6_1 ∧ Aside0 (lockstepref02_ReadRow.l0 kq l0 x5_1 x6_1 = some (r1, r2, r3)) ∧ Aside0 (kq ≤ k) ∧ Aside0 (Kd.R k42 42 w' w.heap.size (fun _ => True) v5 x5_1) ∧ Aside0 (Below w.heap.size w w'))
 case atStart => exact ⟨(([] : List (S42))), (0), (by rfl), H', ⟨Nat.le_refl _⟩, ⟨by exact Kd.R_nil _ _ _ _ _⟩, ⟨by exact HB.out⟩⟩
 case round =>
  clear H'
  obtain ⟨x5_1, x6_1, rfl, HA, HK1, HO_5, HB⟩ := hrel
  cases gk with
  | zero => exact absurd HA.out (by simp [lockstepref02_ReadRow.l0])
  | succ k1 =>
   have H := HA.out
   clear HA
   simp only [lockstepref02_ReadRow.l0] at H
   by_cases c2 : x6_1 = (l0.length : Int)
   ·
    rw [if_pos c2] at H
    have c2b0 : (x6_1 == (l0.length : Int)) = true := beq_iff_eq.mpr c2
    have c2b1 : (x6_1 != (l0.length : Int)) = false := bne_eq_false_iff_eq.mpr c2
    clear c2
    simp only [Option.some.injEq, Prod.mk.injEq] at H
    obtain ⟨rfl, rfl, rfl⟩ := H
    go_wp2
    go_ret3
    exact ⟨_, by rfl, by exact Kd.R_nil _ _ _ _ _, by exact HB.out⟩
   rw [if_neg c2] at H
   have c2b0 : (x6_1 == (l0.length : Int)) = false := beq_eq_false_iff_ne.mpr c2
   have c2b1 : (x6_1 != (l0.length : Int)) = true := bne_iff_ne.mpr c2
   replace H := its H
   obtain ⟨c3, H⟩ := H
   have c3b0 := decide_eq_true c3
   clear c3
   replace H := its H
   obtain ⟨c4, H⟩ := H
   have c4b0 := decide_eq_true c4
   clear c4
   by_cases c5 : (rd l0 x6_1) = 0
   ·
    rw [if_pos c5] at H
    have c5b0 : ((rd l0 x6_1) == 0) = true := beq_iff_eq.mpr c5
    have c5b1 : ((rd l0 x6_1) != 0) = false := bne_eq_false_iff_eq.mpr c5
    clear c5
    simp only [Option.some.injEq, Prod.mk.injEq] at H
    obtain ⟨rfl, rfl, rfl⟩ := H
    have p775 : 0 ≤ (x6_1 : Int) := of_decide_eq_true (by assumption)
    have q775 : x6_1 < (l0.length : Int) := of_decide_eq_true (by assumption)
    obtain ⟨ad775, e775, hx775_0⟩ := Kd.at_int HR0.out x6_1 p775 q775
    cases e775
    replace hx775_0 := (HB.out.cell (World.block_lt_of_cell? w _ hx775_0)).trans hx775_0
    replace p775 := eq_true p775
    replace q775 := eq_true q775
    go_wp2
    go_ret3
    exact ⟨_, by rfl, by exact HO_5.out, by exact HB.out⟩
   rw [if_neg c5] at H
   have c5b0 : ((rd l0 x6_1) == 0) = false := beq_eq_false_iff_ne.mpr c5
   have c5b1 : ((rd l0 x6_1) != 0) = true := bne_iff_ne.mpr c5
   by_cases c6 : (x5_1.length : Int) = 16
   ·
    rw [if_pos c6] at H
    have c6b0 : ((x5_1.length : Int) == 16) = true := beq_iff_eq.mpr c6
    have c6b1 : ((x5_1.length : Int) != 16) = false := bne_eq_false_iff_eq.mpr c6
    clear c6
    simp only [Option.some.injEq, Prod.mk.injEq] at H
    obtain ⟨rfl, rfl, rfl⟩ := H
    have p775 : 0 ≤ (x6_1 : Int) := of_decide_eq_true (by assumption)
    have q775 : x6_1 < (l0.length : Int) := of_decide_eq_true (by assumption)
    obtain ⟨ad775, e775, hx775_0⟩ := Kd.at_int HR0.out x6_1 p775 q775
    cases e775
    replace hx775_0 := (HB.out.cell (World.block_lt_of_cell? w _ hx775_0)).trans hx775_0
    replace p775 := eq_true p775
    replace q775 := eq_true q775
    obtain ⟨Ao7, co7, eo7⟩ := Kd.R_slice HO_5.out
    subst eo7
    go_wp2
    go_ret3
    exact ⟨_, by rfl, by exact Kd.R_nil _ _ _ _ _, by exact HB.out⟩
   rw [if_neg c6] at H
   have c6b0 : ((x5_1.length : Int) == 16) = false := beq_eq_false_iff_ne.mpr c6
   have c6b1 : ((x5_1.length : Int) != 16) = true := bne_iff_ne.mpr c6
   have c8b0 := eq_true (of_decide_eq_true (by assumption) : 0 ≤ x6_1)
   replace H := its H
   obtain ⟨c9, H⟩ := H
   have c9b0 := eq_true c9
   have c9b1 := decide_eq_true c9
   clear c9
   replace H := Option.bind_eq_some_iff.mp H
   obtain ⟨⟨t777, t778, t779, t780, t781⟩, A100, H⟩ := H
   replace H : (if t781 = 0 then (if x5_1.length < 4398046511104 then (lockstepref02_ReadRow.l0 k1 l0 (x5_1 ++ [(⟨t777, t778, t779⟩ : S42)]) (wrap64 (x6_1 + t780))) else (none)) else (some (([] : List (S42)), 0, t781))) = some (r1, r2, r3) := H
   have A10 := am A100
   clear A100
   by_cases c11 : t781 = 0
   rotate_left
   ·
    rw [if_neg c11] at H
    have c11b0 : (t781 == 0) = false := beq_eq_false_iff_ne.mpr c11
    have c11b1 : (t781 != 0) = true := bne_iff_ne.mpr c11
    simp only [Option.some.injEq, Prod.mk.injEq] at H
    obtain ⟨rfl, rfl, rfl⟩ := H
    have p775 : 0 ≤ (x6_1 : Int) := of_decide_eq_true (by assumption)
    have q775 : x6_1 < (l0.length : Int) := of_decide_eq_true (by assumption)
    obtain ⟨ad775, e775, hx775_0⟩ := Kd.at_int HR0.out x6_1 p775 q775
    cases e775
    replace hx775_0 := (HB.out.cell (World.block_lt_of_cell? w _ hx775_0)).trans hx775_0
    replace p775 := eq_true p775
    replace q775 := eq_true q775
    obtain ⟨Ao19, co19, eo19⟩ := Kd.R_slice HO_5.out
    subst eo19
    obtain ⟨i020, hi020, _, hsz20, _⟩ := info_parts info5
    obtain ⟨A20, hcut20, hA20, hC20⟩ := print_drop_of (P := Tryd.prog) (Value.int .u8) 0 47 5 .i64 Tryd.underlying47 hi020 hsz20 (some ad775) c0 l0 x6_1 (of_decide_eq_true (by assumption)) (of_decide_eq_true (by assumption)) HC0.out
    have HR776 := am (Kd.C_of_reads (h1 := fun _ => rfl) (hA20 _ (Kd.reads_of_C HR0.out)))
    have HC776 := am hC20
    clear hA20 hC20 hi020 hsz20
    go_wp2_with (first | ((with_reducible refine gate_callee (f := 28) rfl ?_); refine goesL_ (some 29) rfl rfl Tryd.func28 (by kernel_rfl) rfl #[.slice A20 (l0.drop (x6_1 : Int).toNat).length (c0 - x6_1.toNat)] rfl (by (try simp only [List.map_toArray, List.map_cons, List.map_nil]); (rw [show (l0.drop (x6_1 : Int).toNat).length = (l0.length - x6_1.toNat) from List.length_drop] <;> rfl)) ?_; (with_reducible refine (lockstepref02_Read.calls k1 _ _ (l0.drop (x6_1 : Int).toNat) t777 t778 t779 t780 t781 _ ?side1 ?side2 A10.out).mono ?_); (case side1 => exact (Kd.C_below HR776.out HB.out)); (case side2 => exact HC776.out); rintro e w21 ⟨rfl, hb⟩; refine ⟨_, rfl, ?_⟩; replace HO_5 := am (Kd.R_below HO_5.out hb); replace HB := am (below_step HB.out hb); (try clear hb)) | ((with_reducible refine gate_dst (N := 7) rfl ?_); refine box_event ?hg (N := 7) ?hd (cs := #[.int .i64 0, .int .i64 0, .string (⟨#[]⟩ : ByteArray)]) (t := 42) ?hr ?_; (case hd => rfl); (case hg => rfl); (case hr => (go_simp; done)); intro gb782 hg w22 hbox hb; replace HO_5 := am (Kd.R_below (Kd.R_elderB HO_5.out gb782 (Nat.le_of_eq hg.symm)) hb); have BK782 := am (hbox); have GW782 := am ((by rw [hg]; exact (below_size HB.out) : w.heap.size ≤ gb782)); have GE782 := am ((by rw [hg]; exact (below_size HB.out) : w.heap.size ≤ gb782)); replace HB := am (below_step HB.out hb); clear hb hbox hg; have hcz23_0 : w22.cell? ⟨gb782, 0, none⟩ = some (.int .i64 0) := (blk_cell BK782.out 0).trans rfl; have hcz23_1 : w22.cell? ⟨gb782, 1, none⟩ = some (.int .i64 0) := (blk_cell BK782.out 1).trans rfl; have hcz23_2 : w22.cell? ⟨gb782, 2, none⟩ = some (.string (⟨#[]⟩ : ByteArray)) := (blk_cell BK782.out 2).trans rfl; have hfz23_0 := blk_frozen BK782.out 0; have hfz23_1 := blk_frozen BK782.out 1; have hfz23_2 := blk_frozen BK782.out 2))
    go_ret3
    exact ⟨_, by rfl, by exact Kd.R_nil _ _ _ _ _, by repeat ((with_reducible first | exact HB.out | refine below_set ?_ GE782.out))⟩
   rw [if_pos c11] at H
   have c11b0 : (t781 == 0) = true := beq_iff_eq.mpr c11
   have c11b1 : (t781 != 0) = false := bne_eq_false_iff_eq.mpr c11
   clear c11
   replace H := its H
   obtain ⟨c12, H⟩ := H
   have LMc12 := am c12
   clear c12
   obtain ⟨y783, hy783⟩ : ∃ y_ : List (S42), y_ = (x5_1 ++ [(⟨t777, t778, t779⟩ : S42)]) := ⟨_, rfl⟩
   replace H : (lockstepref02_ReadRow.l0 k1 l0 y783 (wrap64 (x6_1 + t780))) = some (r1, r2, r3) := by (rw [hy783]; with_reducible exact H)
   have Ny783 := am hy783
   clear hy783
   have H' := am H
   clear H
   have p775 : 0 ≤ (x6_1 : Int) := of_decide_eq_true (by assumption)
   have q775 : x6_1 < (l0.length : Int) := of_decide_eq_true (by assumption)
   obtain ⟨ad775, e775, hx775_0⟩ := Kd.at_int HR0.out x6_1 p775 q775
   cases e775
   replace hx775_0 := (HB.out.cell (World.block_lt_of_cell? w _ hx775_0)).trans hx775_0
   replace p775 := eq_true p775
   replace q775 := eq_true q775
   obtain ⟨Ao13, co13, eo13⟩ := Kd.R_slice HO_5.out
   subst eo13
   obtain ⟨i014, hi014, _, hsz14, _⟩ := info_parts info5
   obtain ⟨A14, hcut14, hA14, hC14⟩ := print_drop_of (P := Tryd.prog) (Value.int .u8) 0 47 5 .i64 Tryd.underlying47 hi014 hsz14 (some ad775) c0 l0 x6_1 (of_decide_eq_true (by assumption)) (of_decide_eq_true (by assumption)) HC0.out
   have HR776 := am (Kd.C_of_reads (h1 := fun _ => rfl) (hA14 _ (Kd.reads_of_C HR0.out)))
   have HC776 := am hC14
   clear hA14 hC14 hi014 hsz14
   go_wp2_with (first | ((with_reducible refine gate_callee (f := 28) rfl ?_); refine goesL_ (some 29) rfl rfl Tryd.func28 (by kernel_rfl) rfl #[.slice A14 (l0.drop (x6_1 : Int).toNat).length (c0 - x6_1.toNat)] rfl (by (try simp only [List.map_toArray, List.map_cons, List.map_nil]); (rw [show (l0.drop (x6_1 : Int).toNat).length = (l0.length - x6_1.toNat) from List.length_drop] <;> rfl)) ?_; (with_reducible refine (lockstepref02_Read.calls k1 _ _ (l0.drop (x6_1 : Int).toNat) t777 t778 t779 t780 t781 _ ?side1 ?side2 A10.out).mono ?_); (case side1 => exact (Kd.C_below HR776.out HB.out)); (case side2 => exact HC776.out); rintro e w15 ⟨rfl, hb⟩; refine ⟨_, rfl, ?_⟩; replace HO_5 := am (Kd.R_below HO_5.out hb); replace HB := am (below_step HB.out hb); (try clear hb)) | ((with_reducible refine gate_dst (N := 7) rfl ?_); refine box_event ?hg (N := 7) ?hd (cs := #[.int .i64 0, .int .i64 0, .string (⟨#[]⟩ : ByteArray)]) (t := 42) ?hr ?_; (case hd => rfl); (case hg => rfl); (case hr => (go_simp; done)); intro gb782 hg w16 hbox hb; replace HO_5 := am (Kd.R_below (Kd.R_elderB HO_5.out gb782 (Nat.le_of_eq hg.symm)) hb); have BK782 := am (hbox); have GW782 := am ((by rw [hg]; exact (below_size HB.out) : w.heap.size ≤ gb782)); have GE782 := am ((by rw [hg]; exact (below_size HB.out) : w.heap.size ≤ gb782)); replace HB := am (below_step HB.out hb); clear hb hbox hg; have hcz17_0 : w16.cell? ⟨gb782, 0, none⟩ = some (.int .i64 0) := (blk_cell BK782.out 0).trans rfl; have hcz17_1 : w16.cell? ⟨gb782, 1, none⟩ = some (.int .i64 0) := (blk_cell BK782.out 1).trans rfl; have hcz17_2 : w16.cell? ⟨gb782, 2, none⟩ = some (.string (⟨#[]⟩ : ByteArray)) := (blk_cell BK782.out 2).trans rfl; have hfz17_0 := blk_frozen BK782.out 0; have hfz17_1 := blk_frozen BK782.out 1; have hfz17_2 := blk_frozen BK782.out 2) | ((with_reducible refine gate_builtin (b := .append) (xs := #[.tmp 36, .tmp 38]) rfl ?_); at_builtin; refine Kd.R_append k42 (w0 := w) w.heap.size rfl (.tmp 36) (.tmp 38) 33 42 (.agg #[(.int .i64 0), (.int .i64 0), (.string ⟨#[]⟩)]) 32 rfl Tryd.underlying33 info42 rfl (by decide) (by omega) (.slice Ao13 x5_1.length co13) x5_1 (⟨t777, t778, t779⟩ : S42) [.int .i64 t777, .int .i64 t778, .string t779] (fun k_ => k_ ≠ gb782) (fun _ => False) rfl (by (go_simp; done)) ?aP (fun _ hk => hk.elim) ?aF ?aO ?aB ?aS ?aL ?_; (case aP => exact k42_mkM _ _ _ (⟨t777, t778, t779⟩ : S42)); (case aB => exact (by repeat ((with_reducible first | exact HB.out | refine below_set ?_ GE782.out)))); (case aF => exact (fun k_ hk => Kd.freshB (g := gb782) (o := .cells #[.int .i64 t777, .int .i64 t778, .string t779] 42 (0, 0)) (by refine blk_put (cs := #[.int .i64 t777, .int .i64 t778, .string (⟨#[]⟩ : ByteArray)]) ?_ 2 _ rfl; refine blk_put (cs := #[.int .i64 t777, .int .i64 0, .string (⟨#[]⟩ : ByteArray)]) ?_ 1 _ rfl; refine blk_put (cs := #[.int .i64 0, .int .i64 0, .string (⟨#[]⟩ : ByteArray)]) ?_ 0 _ rfl; exact BK782.out) k_ hk)); (case aO => exact (by exact Kd.R_mono (Kd.R_far (p := ⟨gb782, 2, none⟩) (Kd.R_far (p := ⟨gb782, 1, none⟩) (Kd.R_far (p := ⟨gb782, 0, none⟩) (Kd.R_mono HO_5.out (fun k_ hk => (⟨hk, hk.2⟩ : _ ∧ k_ ≠ gb782))) (fun _ hk => hk.2) (.int .i64 t777)) (fun _ hk => hk.2) (.int .i64 t778)) (fun _ hk => hk.2) (.string t779)) (fun _ hk => hk.1.2))); (case aS => exact (below_size (by repeat ((with_reducible first | exact HB.out | refine below_set ?_ GE782.out))))); (case aL => have := LMc12.out; omega); intro v784 w18 ho hb hg hat; rw [← Ny783.out] at ho; replace BK782 := am (blk_grown (g := gb782) (o := .cells #[.int .i64 t777, .int .i64 t778, .string t779] 42 (0, 0)) (by refine blk_put (cs := #[.int .i64 t777, .int .i64 t778, .string (⟨#[]⟩ : ByteArray)]) ?_ 2 _ rfl; refine blk_put (cs := #[.int .i64 t777, .int .i64 0, .string (⟨#[]⟩ : ByteArray)]) ?_ 1 _ rfl; refine blk_put (cs := #[.int .i64 0, .int .i64 0, .string (⟨#[]⟩ : ByteArray)]) ?_ 0 _ rfl; exact BK782.out) hg (Kd.R_away HO_5.out (fun _ hk => hk.2))); replace HB := am (hb); have HO785 := am (ho); clear HO_5; clear ho hb hg hat))
   go_roundg k1
   case measure => have := HK1.out; omega
   case rel => exact ⟨(y783), (wrap64 (x6_1 + t780)), (by rfl), H', ⟨by have := HK1.out; omega⟩, ⟨by exact Kd.R_mono HO785.out (fun _ hk => trivial)⟩, ⟨by exact HB.out⟩⟩
end Go.Proofs.YthghcpeedmconaaDoor.X
end

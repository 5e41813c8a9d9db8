/- Part 5 of a claim of this seat: texts merged by a program of the claim's session (wip/bundle.py). -/
import Derived.Test.YtkkocmmilmbgpaaZCa2
import Derived.Test.YtkkocmmilmbgpaaZCa4
section
namespace Go.Proofs.Ytkkocmmilmbgpaa.S
open Go.RowKit Go.Proofs.YtkkocmmilmbgpaaW.PrintWords Go.Proofs.YtkkocmmilmbgpaaW.PrintLast Go.Proofs.YtkkocmmilmbgpaaW.PrintMore
attribute [local go_sem] max2_int min2_int max_two min_two max_three min_three max_four min_four
set_option linter.unusedVariables false
set_option linter.unusedSimpArgs false
mutual
def cost_normal.l0 : Nat → List (S39) → List (S39) → Int → Int → Option ((List (S39)))
  | 0, _, _, _, _ => none
  | k + 1, x3, x10, x11, x12 => if x12 < x11 then (if 0 ≤ x12 then (if x12 < (x10.length : Int) then (if ((rd_T39 x10 x12).f0) > 0 then ((cost_cut.f k ((rd_T39 x10 x12).f1)).bind fun t126 => (if x3.length < 4398046511104 then (cost_normal.l0 k (x3 ++ [(⟨(rd_T39 x10 x12).f0, t126⟩ : S39)]) x10 x11 (wrap64 (x12 + 1))) else (none))) else (cost_normal.l0 k x3 x10 x11 (wrap64 (x12 + 1)))) else (none)) else (none)) else (if (x3.all fun y => decide (y.f1.length < 4611686018427387904)) = true then ((api_Term_of_cost_normal_1_40.f k x3).bind fun t500 => (cost_normal.l1 k ([] : List (S39)) t500 (x3.length : Int) 0)) else none)
def cost_normal.l1 : Nat → List (S39) → List (S39) → Int → Int → Option ((List (S39)))
  | 0, _, _, _, _ => none
  | k + 1, x6, x31, x32, x33 => if x33 < x32 then (if 0 ≤ x33 then (if x33 < (x31.length : Int) then (if (x6.length : Int) > 0 then (if 0 ≤ (wrap64 ((x6.length : Int) - 1)) then (if (wrap64 ((x6.length : Int) - 1)) < (x6.length : Int) then ((cost_order.f k ((rd_T39 x6 (wrap64 ((x6.length : Int) - 1))).f1) ((rd_T39 x31 x33).f1)).bind fun t135 => (if t135 = 0 then ((cost_plus.f ((rd_T39 x6 (wrap64 ((x6.length : Int) - 1))).f0) ((rd_T39 x31 x33).f0)).bind fun t137 => (cost_normal.l1 k (x6.set ((wrap64 ((x6.length : Int) - 1)) : Int).toNat (⟨t137, (rd_T39 x6 (wrap64 ((x6.length : Int) - 1))).f1⟩ : S39)) x31 x32 (wrap64 (x33 + 1)))) else (if x6.length < 4398046511104 then (cost_normal.l1 k (x6 ++ [(⟨(rd_T39 x31 x33).f0, (rd_T39 x31 x33).f1⟩ : S39)]) x31 x32 (wrap64 (x33 + 1))) else (none)))) else (none)) else (none)) else (if x6.length < 4398046511104 then (cost_normal.l1 k (x6 ++ [(⟨(rd_T39 x31 x33).f0, (rd_T39 x31 x33).f1⟩ : S39)]) x31 x32 (wrap64 (x33 + 1))) else (none))) else (none)) else (none)) else (some x6)
end
def cost_normal.f (k : Nat) (l0 : List (S39)) : Option ((List (S39))) := cost_normal.l0 k ([] : List (S39)) l0 (l0.length : Int) 0
theorem cost_normal.mono_l : ∀ k, (∀ y0 y1 y2 y3, LeO (cost_normal.l0 k y0 y1 y2 y3) (cost_normal.l0 (k + 1) y0 y1 y2 y3)) ∧ (∀ y0 y1 y2 y3, LeO (cost_normal.l1 k y0 y1 y2 y3) (cost_normal.l1 (k + 1) y0 y1 y2 y3))
  | 0 => ⟨fun _ _ _ _ r h => by simp [cost_normal.l0] at h, fun _ _ _ _ r h => by simp [cost_normal.l1] at h⟩
  | k + 1 => by
    obtain ⟨ih0, ih1⟩ := cost_normal.mono_l k
    refine ⟨?_, ?_⟩
    · intro y0 y1 y2 y3
      unfold cost_normal.l0
      repeat' first
      | (with_reducible exact ih0 _ _ _ _)
      | (with_reducible exact ih1 _ _ _ _)
      | (with_reducible exact cost_cut.mono _ _)
      | (with_reducible exact cost_order.mono _ _ _)
      | (with_reducible exact api_Term_of_cost_normal_1_40.mono _ _)
      | (with_reducible exact LeO.refl _)
      | (with_reducible exact LeO.none _)
      | (with_reducible refine LeO.ite ?_ ?_)
      | (with_reducible refine LeO.bind ?_ (fun _ => ?_))
      | exact ih0 _ _ _ _
      | exact ih1 _ _ _ _
      | exact cost_cut.mono _ _
      | exact cost_order.mono _ _ _
      | exact LeO.none _
      | refine LeO.ite ?_ ?_
      | refine LeO.bind ?_ (fun _ => ?_)
    · intro y0 y1 y2 y3
      unfold cost_normal.l1
      repeat' first
      | (with_reducible exact ih0 _ _ _ _)
      | (with_reducible exact ih1 _ _ _ _)
      | (with_reducible exact cost_cut.mono _ _)
      | (with_reducible exact cost_order.mono _ _ _)
      | (with_reducible exact api_Term_of_cost_normal_1_40.mono _ _)
      | (with_reducible exact LeO.refl _)
      | (with_reducible exact LeO.none _)
      | (with_reducible refine LeO.ite ?_ ?_)
      | (with_reducible refine LeO.bind ?_ (fun _ => ?_))
      | exact ih0 _ _ _ _
      | exact ih1 _ _ _ _
      | exact cost_cut.mono _ _
      | exact cost_order.mono _ _ _
      | exact LeO.none _
      | refine LeO.ite ?_ ?_
      | refine LeO.bind ?_ (fun _ => ?_)
theorem cost_normal.mono : ∀ a0 k, LeO (cost_normal.f k a0) (cost_normal.f (k + 1) a0) := by
  intro a0 k
  obtain ⟨ih0, ih1⟩ := cost_normal.mono_l k
  unfold cost_normal.f
  repeat' first
      | (with_reducible exact ih0 _ _ _ _)
      | (with_reducible exact ih1 _ _ _ _)
      | (with_reducible exact cost_cut.mono _ _)
      | (with_reducible exact cost_order.mono _ _ _)
      | (with_reducible exact api_Term_of_cost_normal_1_40.mono _ _)
      | (with_reducible exact LeO.refl _)
      | (with_reducible exact LeO.none _)
      | (with_reducible refine LeO.ite ?_ ?_)
      | (with_reducible refine LeO.bind ?_ (fun _ => ?_))
      | exact ih0 _ _ _ _
      | exact ih1 _ _ _ _
      | exact cost_cut.mono _ _
      | exact cost_order.mono _ _ _
      | exact LeO.none _
      | refine LeO.ite ?_ ?_
      | refine LeO.bind ?_ (fun _ => ?_)
def cost_normal.T6 : Bool × List (List Nat × List Nat) := (true, [([], []), ([], []), ([1], [1]), ([], []), ([3], [3]), ([4], [4]), ([2, 5], [2, 5]), ([6], [6]), ([0, 7, 5], [0, 7]), ([8, 8, 0, 1, 2, 3, 4, 5, 6, 7, 8], [0, 8])])
def cost_normal.B6 : List Nat := [0, 0, 2, 0, 8, 24, 62, 126, 255, 511]
theorem cost_normal.tab6 : rtab .any (opsOf Try.f25 6) = cost_normal.T6 := by kernel_rfl
theorem cost_normal.bits6 : waitsOk cost_normal.T6.2 cost_normal.B6 = true := by kernel_rfl
def cost_normal.T14 : Bool × List (List Nat × List Nat) := (true, [([], []), ([0], [0]), ([1], [1]), ([2], [2]), ([2], [2]), ([4, 2], [2, 4]), ([3, 5, 2], [2, 3, 5]), ([6, 2], [2, 6]), ([7, 2], [2, 7]), ([2], [2]), ([9, 2], [2, 9]), ([8, 10, 2, 2], [2, 8, 10]), ([11, 2], [2, 11]), ([2, 12], [2, 12])])
def cost_normal.B14 : List Nat := [0, 1, 3, 7, 7, 23, 63, 127, 255, 7, 519, 2047, 4095, 8191]
theorem cost_normal.tab14 : rtab .any (opsOf Try.f25 14) = cost_normal.T14 := by kernel_rfl
theorem cost_normal.bits14 : waitsOk cost_normal.T14.2 cost_normal.B14 = true := by kernel_rfl
def cost_normal.T15 : Bool × List (List Nat × List Nat) := (true, [([], []), ([], []), ([1], [1]), ([], []), ([], []), ([4], [4]), ([3, 5], [3, 5]), ([6], [6]), ([7], [7]), ([], []), ([9], [9]), ([8, 10], [8, 10]), ([0, 2, 0, 1, 2, 3, 4, 5, 6, 7, 8, 9, 10, 11], [0, 2]), ([12, 0, 1, 2, 3, 4, 5, 6, 7, 8, 9, 10, 11], [12]), ([13, 11, 11, 0, 1, 2, 3, 4, 5, 6, 7, 8, 9, 10, 11], [11, 13])])
def cost_normal.B15 : List Nat := [0, 0, 2, 0, 0, 16, 56, 120, 248, 0, 512, 2040, 4095, 8191, 16383]
theorem cost_normal.tab15 : rtab .any (opsOf Try.f25 15) = cost_normal.T15 := by kernel_rfl
theorem cost_normal.bits15 : waitsOk cost_normal.T15.2 cost_normal.B15 = true := by kernel_rfl
set_option maxHeartbeats 8000000 in
set_option maxRecDepth 100000 in
theorem cost_normal.calls (k : Nat) (A0 : Option Addr) (c0 : Nat) (l0 : List (S39)) (r : List (S39)) (w : World) (hr0 : Kd.C k39 w A0 l0.length l0) (hc0 : l0.length ≤ c0) (h : cost_normal.f k l0 = some r) :
    Calls Try.prog 25 #[.slice A0 l0.length c0] w fun e w' => ∃ v0_ : Value, e = .returned (v0_) ∧ Kd.N k39 39 w' w.heap.size (fun k_ => (w.heap.size ≤ k_)) v0_ r ∧ Below w.heap.size w w' := by
  have hu39 := Try.underlying39
  have HR0 := am hr0
  have HC0 := am hc0
  clear hr0 hc0
  have HB := am (Below.refl w.heap.size w)
  have H : (cost_normal.l0 k ([] : List (S39)) l0 (l0.length : Int) 0) = some r := h
  clear h
  have H' := am H
  clear H
  go_enter Try.func25, Try.ntmps25
  go_wp2
  go_loopg [3, 12] k (fun kq v3 v12 w' => ∃ (x3_1 : List (S39)) (x12_1 : Int), v12 = .int .i64 x12_1 ∧ Aside0 (cost_normal.l0 kq x3_1 l0 (l0.length : Int) x12_1 = some r) ∧ Aside0 (kq ≤ k) ∧ Aside0 (Kd.N k39 39 w' w.heap.size (fun k_ => (w.heap.size ≤ k_)) v3 x3_1) ∧ Aside0 (Below w.heap.size w w'))
  case atStart => exact ⟨(([] : List (S39))), (0), (by rfl), H', ⟨Nat.le_refl _⟩, ⟨by exact Kd.N_nil _ _ _ _ _⟩, ⟨by exact HB.out⟩⟩
  case round =>
    clear H'
    obtain ⟨x3_1, x12_1, rfl, HA, HK1, HO_3, HB⟩ := hrel
    cases gk with
    | zero => exact absurd HA.out (by simp [cost_normal.l0])
    | succ k1 =>
      have H := HA.out
      clear HA
      simp only [cost_normal.l0] at H
      by_cases c2 : x12_1 < (l0.length : Int)
      · rw [if_pos c2] at H
        have c2b0 : decide (x12_1 < (l0.length : Int)) = true := decide_eq_true c2
        clear c2
        replace H := its H
        obtain ⟨c3, H⟩ := H
        have c3b0 : decide (0 ≤ x12_1) = true := decide_eq_true c3
        clear c3
        replace H := its H
        obtain ⟨c4, H⟩ := H
        have c4b0 : decide (x12_1 < (l0.length : Int)) = true := decide_eq_true c4
        clear c4
        by_cases c5 : ((rd_T39 l0 x12_1).f0) > 0
        · rw [if_pos c5] at H
          have c5b0 : decide (0 < ((rd_T39 l0 x12_1).f0)) = true := decide_eq_true c5
          clear c5
          replace H := Option.bind_eq_some_iff.mp H
          obtain ⟨t126, A60, H⟩ := H
          replace H : (if x3_1.length < 4398046511104 then (cost_normal.l0 k1 (x3_1 ++ [(⟨(rd_T39 l0 x12_1).f0, t126⟩ : S39)]) l0 (l0.length : Int) (wrap64 (x12_1 + 1))) else (none)) = some r := H
          have A6 := am A60
          clear A60
          replace H := its H
          obtain ⟨c7, H⟩ := H
          have LMc7 := am c7
          clear c7
          obtain ⟨y129, hy129⟩ : ∃ y_ : List (S39), y_ = (x3_1 ++ [(⟨(rd_T39 l0 x12_1).f0, t126⟩ : S39)]) := ⟨_, rfl⟩
          replace H : (cost_normal.l0 k1 y129 l0 (l0.length : Int) (wrap64 (x12_1 + 1))) = some r := by (rw [hy129]; with_reducible exact H)
          have Ny129 := am hy129
          clear hy129
          have H' := am H
          clear H
          have p124 : 0 ≤ (x12_1 : Int) := of_decide_eq_true (by (with_reducible assumption))
          have q124 : x12_1 < (l0.length : Int) := of_decide_eq_true (by (with_reducible assumption))
          obtain ⟨ad124, A124_1, c124_1, e124, hx124_0, hx124_1, hl124_1, hi124_1⟩ := at_T39 HR0.out x12_1 p124 q124
          cases e124
          replace hx124_0 := (HB.out.cell (World.block_lt_of_cell? w _ hx124_0)).trans hx124_0
          replace hx124_1 := (HB.out.cell (World.block_lt_of_cell? w _ hx124_1)).trans hx124_1
          have HR124_1 := am hi124_1
          have HC124_1 := am hl124_1
          clear hi124_1 hl124_1
          replace p124 := eq_true p124
          replace q124 := eq_true q124
          try go_wp2_with (((with_reducible refine gate_dst (N := 5) rfl ?_); refine box_event ?hg (N := 5) ?hd (cs := #[.int .u64 0, .slice none 0 0]) (t := 39) ?hr ?_; (case hd => rfl); (case hg => rfl); (case hr => (go_simp; done)); intro gb125 hg w8 hbox hb; replace HO_3 := am (Kd.N_below (Kd.N_elderB HO_3.out gb125 (Nat.le_of_eq hg.symm)) hb); have BK125 := am (hbox); have GW125 := am ((by rw [hg]; exact (below_size HB.out) : w.heap.size ≤ gb125)); have GE125 := am ((by rw [hg]; exact (below_size HB.out) : w.heap.size ≤ gb125)); replace HB := am (below_step HB.out hb); clear hb hbox hg; have hcz9_0 : w8.cell? ⟨gb125, 0, none⟩ = some (.int .u64 0) := (blk_cell BK125.out 0).trans rfl; have hcz9_1 : w8.cell? ⟨gb125, 1, none⟩ = some (.slice none 0 0) := (blk_cell BK125.out 1).trans rfl; have hfz9_0 := blk_frozen BK125.out 0; have hfz9_1 := blk_frozen BK125.out 1))
          have n0_ : Aside0 (Kd.N k39 39 ((w8.setCell ⟨gb125, 0, none⟩ (.int .u64 ((rd_T39 l0 x12_1).f0))).setCell ⟨gb125, 1, none⟩ (.slice A124_1 ((rd_T39 l0 x12_1).f1).length c124_1)) w.heap.size (fun k_ => (w.heap.size ≤ k_) ∧ k_ ≠ gb125) u3 x3_1) := ⟨by exact Kd.N_mono (Kd.N_far (p := ⟨gb125, 1, none⟩) (Kd.N_far (p := ⟨gb125, 0, none⟩) (Kd.N_mono HO_3.out (fun k_ hk => (⟨hk, hk.2⟩ : _ ∧ k_ ≠ gb125))) (fun _ hk => hk.2) (.int .u64 ((rd_T39 l0 x12_1).f0))) (fun _ hk => hk.2) (.slice A124_1 ((rd_T39 l0 x12_1).f1).length c124_1)) (fun _ hk => ⟨hk.1.1, hk.1.2⟩)⟩
          have n1_ : Aside0 (((w8.setCell ⟨gb125, 0, none⟩ (.int .u64 ((rd_T39 l0 x12_1).f0))).setCell ⟨gb125, 1, none⟩ (.slice A124_1 ((rd_T39 l0 x12_1).f1).length c124_1)).heap[gb125]? = some (.cells #[.int .u64 ((rd_T39 l0 x12_1).f0), .slice A124_1 ((rd_T39 l0 x12_1).f1).length c124_1] 39 (0, 0))) := ⟨by (with_reducible repeat (first | refine blk_drewN ?_ _ | refine blk_drew ?_ | refine blk_alloc ?_ _)); refine blk_put (cs := #[.int .u64 ((rd_T39 l0 x12_1).f0), .slice none 0 0]) ?_ 1 _ rfl; (with_reducible repeat (first | refine blk_drewN ?_ _ | refine blk_drew ?_ | refine blk_alloc ?_ _)); refine blk_put (cs := #[.int .u64 0, .slice none 0 0]) ?_ 0 _ rfl; (with_reducible repeat (first | refine blk_drewN ?_ _ | refine blk_drew ?_ | refine blk_alloc ?_ _)); exact BK125.out⟩
          have n2_ : Aside0 (Below w.heap.size w ((w8.setCell ⟨gb125, 0, none⟩ (.int .u64 ((rd_T39 l0 x12_1).f0))).setCell ⟨gb125, 1, none⟩ (.slice A124_1 ((rd_T39 l0 x12_1).f1).length c124_1))) := ⟨by repeat ((with_reducible first | exact HB.out | refine below_set ?_ GE125.out))⟩
          (try clear HO_3)
          (try clear BK125)
          (try clear HB)
          generalize ((w8.setCell ⟨gb125, 0, none⟩ (.int .u64 ((rd_T39 l0 x12_1).f0))).setCell ⟨gb125, 1, none⟩ (.slice A124_1 ((rd_T39 l0 x12_1).f1).length c124_1)) = w10 at n0_ n1_ n2_ ⊢
          have HO_3 := n0_
          have BK125 := n1_
          have HB := n2_
          clear n0_ n1_ n2_
          have n0_ := am (Kd.N_drew HO_3.out)
          have n1_ := am (blk_drew BK125.out)
          have n2_ := am (below_drew1 HB.out)
          clear HO_3
          clear BK125
          clear HB
          have HO_3 := n0_
          have BK125 := n1_
          have HB := n2_
          clear n0_ n1_ n2_
          refine start_ (n := 10) (S := fun w' => w'.cell? ⟨gb125, 0, none⟩ = some (.int .u64 ((rd_T39 l0 x12_1).f0)) ∧ w'.cell? ⟨gb125, 1, none⟩ = some (.slice A124_1 ((rd_T39 l0 x12_1).f1).length c124_1)) (ds := []) #[false, false, false, false, false, false, false, false, false, false] (by kernel_rfl) rfl rfl ⟨(blk_cell BK125.out 0).trans rfl, (blk_cell BK125.out 1).trans rfl⟩ (fun hHeld => ?_); refine with_tabW cost_normal.tab6 cost_normal.bits6 (fun HT_ HW_ => ?_)
          generalize w10.drew = w11 at HO_3 BK125 HB hHeld ⊢
          refine pu HT_ (v := ?_) (a' := ?_) 0 19 rfl rfl (by kernel_rfl) (fun _ _ _ h => h) (Or.inl ⟨by rfl, ?_⟩) ?_ ?_
          rotate_left
          · intro w'
            go_simp
            with_reducible rfl
          rotate_left
          · simp only [Act.put, sa, sb, sc, i64_w, i32_w]
            rfl
          refine pu HT_ (v := ?_) (a' := ?_) 1 20 rfl rfl (by kernel_rfl) (fun _ _ _ h => h) (Or.inl ⟨by rfl, ?_⟩) ?_ ?_
          rotate_left
          · intro w'
            go_simp
            with_reducible rfl
          rotate_left
          · simp only [Act.put, sa, sb, sc, i64_w, i32_w]
            rfl
          refine pu HT_ (v := ?_) (a' := ?_) 3 22 rfl rfl (by kernel_rfl) (fun _ _ _ h => h) (Or.inl ⟨by rfl, ?_⟩) ?_ ?_
          rotate_left
          · intro w'
            go_simp
            with_reducible rfl
          rotate_left
          · simp only [Act.put, sa, sb, sc, i64_w, i32_w]
            rfl
          refine take_ (i := 2) (N := some 21) (v := ?_) (a' := ?_) #[true, true, true, true, false, false, false, false, false, false] rfl rfl (take_ofW HT_.out HW_.out (by kernel_rfl)) (fun _ _ _ h => h) (Or.inl ⟨by rfl, ?_⟩) hHeld ?_ ?_
          rotate_left
          · rintro w' ⟨s0, s1⟩
            go_simp
            with_reducible rfl
          rotate_left
          · simp only [Act.put, sa, sb, sc, i64_w, i32_w]
            rfl
          refine take_ (i := 4) (N := some 23) (v := ?_) (a' := ?_) #[true, true, true, true, true, false, false, false, false, false] rfl rfl (take_ofW HT_.out HW_.out (by kernel_rfl)) (fun _ _ _ h => h) (Or.inl ⟨by rfl, ?_⟩) hHeld ?_ ?_
          rotate_left
          · rintro w' ⟨s0, s1⟩
            go_simp
            with_reducible rfl
          rotate_left
          · simp only [Act.put, sa, sb, sc, i64_w, i32_w]
            rfl
          refine one_ (i := 5) (N := some 24) #[true, true, true, true, true, true, false, false, false, false] rfl rfl (one_of HT_.out (by kernel_rfl)) (by decide) (fun K hK => ?_)
          refine goes_ Try.func39 (by kernel_rfl) rfl #[.slice A124_1 ((rd_T39 l0 x12_1).f1).length c124_1] (by rfl) rfl rfl (by (try simp only [List.map_toArray, List.map_cons, List.map_nil]); rfl) ?_
          with_reducible refine (cost_cut.calls k1 _ _ ((rd_T39 l0 x12_1).f1) t126 _ ?side1 ?side2 A6.out).mono ?_
          (case side1 => exact (Kd.C_below HR124_1.out HB.out))
          (case side2 => exact HC124_1.out)
          rintro e w12 ⟨v127, rfl, ho0, hb⟩
          refine ⟨_, rfl, ?_⟩
          have n0_ := am (Kd.N_elder' HO_3.out (Kd.R_base ho0) hb)
          have n1_ := am (Kd.R_lower (Kd.R_newM (M := fun k_ => (w.heap.size ≤ k_)) ho0 (below_size HB.out) (fun k_ h_ => h_)) (below_size HB.out))
          have n2_ := am (blk_below (g := gb125) (o := .cells #[.int .u64 ((rd_T39 l0 x12_1).f0), .slice A124_1 ((rd_T39 l0 x12_1).f1).length c124_1] 39 (0, 0)) (by (with_reducible repeat (first | refine blk_drewN ?_ _ | refine blk_drew ?_ | refine blk_alloc ?_ _)); exact BK125.out) hb)
          have n3_ := am (below_step HB.out hb)
          clear HO_3
          clear BK125
          clear HB
          have HO_3 := n0_
          have HO128 := n1_
          have BK125 := n2_
          have HB := n3_
          clear n0_ n1_ n2_ n3_
          (try clear hb)
          (try clear ho0)
          obtain ⟨Ao13, co13, eo13⟩ := Kd.R_slice HO128.out
          (subst eo13)
          refine hK.out _ _ ⟨(blk_cell BK125.out 0).trans rfl, (blk_cell BK125.out 1).trans rfl⟩ (fun hHeld => ?_)
          clear hK K
          refine norm_ (a' := ?_) ?_ ?_
          rotate_left
          · show Act.put _ (some 24) _ = _
            simp only [Act.put, sa, sb, sc, i64_w, i32_w]
            rfl
          refine pu HT_ (v := ?_) (a' := ?_) 6 25 rfl rfl (by kernel_rfl) (fun _ _ _ h => h) (Or.inl ⟨by rfl, ?_⟩) ?_ ?_
          rotate_left
          · intro w'
            go_simp
            with_reducible rfl
          rotate_left
          · simp only [Act.put, sa, sb, sc, i64_w, i32_w]
            rfl
          refine one_ (i := 7) (N := some 26) #[true, true, true, true, true, true, true, true, false, false] rfl rfl (one_of HT_.out (by kernel_rfl)) (by decide) (fun K hK => ?_)
          refine value_ (w1 := ?_) (v := ?_) (by rfl) rfl ?_ ?_
          rotate_left 2
          · go_simp
            constructor
            · rfl
            · rfl
          refine hK.out _ _ ⟨(blk_cell (blk_alloc BK125.out _) 0).trans rfl, (blk_cell (blk_alloc BK125.out _) 1).trans rfl⟩ (fun hHeld => ?_)
          clear hK K
          refine norm_ (a' := ?_) ?_ ?_
          rotate_left
          · show Act.put _ (some 26) _ = _
            simp only [Act.put, sa, sb, sc, i64_w, i32_w]
            rfl
          refine one_ (i := 8) (N := some 27) #[true, true, true, true, true, true, true, true, true, false] rfl rfl (one_of HT_.out (by kernel_rfl)) (by decide) (fun K hK => ?_)
          refine Kd.N_append_step k39 (w0 := w) w.heap.size (by rfl) (.tmp 19) (.tmp 26) 22 39 (.agg #[(.int .u64 0), (.slice none 0 0)]) 32 rfl Try.underlying22 info39 rfl (by decide) (by omega) u3 x3_1 (⟨(rd_T39 l0 x12_1).f0, t126⟩ : S39) [.int .u64 ((rd_T39 l0 x12_1).f0), .slice Ao13 t126.length co13] (fun k_ => (w.heap.size ≤ k_) ∧ k_ ≠ gb125) (fun k_ => ((fun k_ => (w.heap.size ≤ k_) ∧ k_ ≠ gb125)) k_ ∧ some k_ ≠ (u3 : Value).ownBlock) rfl rfl ?aP (fun _ hk => hk) ?aF ?aO ?aB ?aS ?aL ?_
          (case aP => exact (k39_mkF _ _ (⟨(rd_T39 l0 x12_1).f0, t126⟩ : S39) (Kd.R_reads' (Kd.R_mono (ok' := (fun k_ => ((fun k_ => (w.heap.size ≤ k_) ∧ k_ ≠ gb125)) k_ ∧ some k_ ≠ (u3 : Value).ownBlock)) (Kd.R_types (Kd.R_apart' (HO128.out) (Kd.N_typed HO_3.out) (by decide)) BK125.out (by decide)) (fun k_ hk => ⟨⟨hk.1.1.1, hk.2⟩, hk.1.2⟩))).2.1 (Kd.R_F (Kd.R_mono (ok' := (fun k_ => ((fun k_ => (w.heap.size ≤ k_) ∧ k_ ≠ gb125)) k_ ∧ some k_ ≠ (u3 : Value).ownBlock)) (Kd.R_types (Kd.R_apart' (HO128.out) (Kd.N_typed HO_3.out) (by decide)) BK125.out (by decide)) (fun k_ hk => ⟨⟨hk.1.1.1, hk.2⟩, hk.1.2⟩)))))
          (case aB => exact HB.out)
          (case aF => exact (fun k_ hk => ⟨(Nat.le_trans (below_size HB.out) hk), Kd.freshB (g := gb125) (o := .cells #[.int .u64 ((rd_T39 l0 x12_1).f0), .slice A124_1 ((rd_T39 l0 x12_1).f1).length c124_1] 39 (0, 0)) (by (with_reducible repeat (first | refine blk_drewN ?_ _ | refine blk_drew ?_ | refine blk_alloc ?_ _)); exact BK125.out) k_ hk⟩))
          (case aO => exact (by exact Kd.N_mono HO_3.out (fun _ hk => ⟨hk.1.1, hk.1.2⟩)))
          (case aS => exact (below_size HB.out))
          (case aL => have := LMc7.out; omega)
          intro v130 w14 ho hb hg hat
          rw [← Ny129.out] at ho
          have n0_ := am (blk_grown (g := gb125) (o := .cells #[.int .u64 ((rd_T39 l0 x12_1).f0), .slice A124_1 ((rd_T39 l0 x12_1).f1).length c124_1] 39 (0, 0)) (by (with_reducible repeat (first | refine blk_drewN ?_ _ | refine blk_drew ?_ | refine blk_alloc ?_ _)); exact BK125.out) hg (Kd.N_away HO_3.out (fun _ hk => hk.1.2)))
          have n1_ := am (hb)
          have n2_ := am (ho)
          clear BK125
          clear HB
          clear HO_3
          clear HO128
          have BK125 := n0_
          have HB := n1_
          have HO131 := n2_
          clear n0_ n1_ n2_
          clear ho hb hg hat
          refine hK.out _ _ ⟨(blk_cell BK125.out 0).trans rfl, (blk_cell BK125.out 1).trans rfl⟩ (fun hHeld => ?_)
          clear hK K
          refine norm_ (a' := ?_) ?_ ?_
          rotate_left
          · show Act.put _ (some 27) _ = _
            simp only [Act.put, sa, sb, sc, i64_w, i32_w]
            rfl
          refine pu HT_ (v := ?_) (a' := ?_) 9 3 rfl rfl (by kernel_rfl) (fun _ _ _ h => h) (Or.inl ⟨by rfl, ?_⟩) ?_ ?_
          rotate_left
          · intro w'
            go_simp
            with_reducible rfl
          rotate_left
          · simp only [Act.put, sa, sb, sc, i64_w, i32_w]
            rfl
          refine done_ (done_of HT_.out (by kernel_rfl)) ?_
          try go_wp2
          go_roundg k1
          case measure => have := HK1.out; omega
          case rel => exact ⟨(y129), (wrap64 (x12_1 + 1)), (by rfl), H', ⟨by have := HK1.out; omega⟩, ⟨by exact Kd.N_mono HO131.out (fun _ hk => hk.1)⟩, ⟨by exact HB.out⟩⟩
        · rw [if_neg c5] at H
          have c5b0 : decide (0 < ((rd_T39 l0 x12_1).f0)) = false := decide_eq_false c5
          clear c5
          have H' := am H
          clear H
          have p124 : 0 ≤ (x12_1 : Int) := of_decide_eq_true (by (with_reducible assumption))
          have q124 : x12_1 < (l0.length : Int) := of_decide_eq_true (by (with_reducible assumption))
          obtain ⟨ad124, A124_1, c124_1, e124, hx124_0, hx124_1, hl124_1, hi124_1⟩ := at_T39 HR0.out x12_1 p124 q124
          cases e124
          replace hx124_0 := (HB.out.cell (World.block_lt_of_cell? w _ hx124_0)).trans hx124_0
          replace hx124_1 := (HB.out.cell (World.block_lt_of_cell? w _ hx124_1)).trans hx124_1
          have HR124_1 := am hi124_1
          have HC124_1 := am hl124_1
          clear hi124_1 hl124_1
          replace p124 := eq_true p124
          replace q124 := eq_true q124
          go_wp2_with (((with_reducible refine gate_dst (N := 5) rfl ?_); refine box_event ?hg (N := 5) ?hd (cs := #[.int .u64 0, .slice none 0 0]) (t := 39) ?hr ?_; (case hd => rfl); (case hg => rfl); (case hr => (go_simp; done)); intro gb125 hg w15 hbox hb; replace HO_3 := am (Kd.N_below (Kd.N_elderB HO_3.out gb125 (Nat.le_of_eq hg.symm)) hb); have BK125 := am (hbox); have GW125 := am ((by rw [hg]; exact (below_size HB.out) : w.heap.size ≤ gb125)); have GE125 := am ((by rw [hg]; exact (below_size HB.out) : w.heap.size ≤ gb125)); replace HB := am (below_step HB.out hb); clear hb hbox hg; have hcz16_0 : w15.cell? ⟨gb125, 0, none⟩ = some (.int .u64 0) := (blk_cell BK125.out 0).trans rfl; have hcz16_1 : w15.cell? ⟨gb125, 1, none⟩ = some (.slice none 0 0) := (blk_cell BK125.out 1).trans rfl; have hfz16_0 := blk_frozen BK125.out 0; have hfz16_1 := blk_frozen BK125.out 1))
          go_roundg k1
          case measure => have := HK1.out; omega
          case rel => exact ⟨(x3_1), (wrap64 (x12_1 + 1)), (by rfl), H', ⟨by have := HK1.out; omega⟩, ⟨by exact Kd.N_mono (Kd.N_far (p := ⟨gb125, 1, none⟩) (Kd.N_far (p := ⟨gb125, 0, none⟩) (Kd.N_mono HO_3.out (fun k_ hk => (⟨hk, hk.2⟩ : _ ∧ k_ ≠ gb125))) (fun _ hk => hk.2) (.int .u64 ((rd_T39 l0 x12_1).f0))) (fun _ hk => hk.2) (.slice A124_1 ((rd_T39 l0 x12_1).f1).length c124_1)) (fun _ hk => hk.1.1)⟩, ⟨by repeat ((with_reducible first | exact HB.out | refine below_set ?_ GE125.out))⟩⟩
      · rw [if_neg c2] at H
        have c2b0 : decide (x12_1 < (l0.length : Int)) = false := decide_eq_false c2
        clear c2
        by_cases c99 : (x3_1.all fun y => decide (y.f1.length < 4611686018427387904)) = true
        rotate_left
        · rw [if_neg c99] at H
          exact absurd H (by simp)
        rw [if_pos c99] at H
        have LS := am c99
        clear c99
        replace H := Option.bind_eq_some_iff.mp H
        obtain ⟨t500, A500, H⟩ := H
        have LT := am A500
        clear A500
        have H' := am H
        clear H
        obtain ⟨Ao17, co17, eo17⟩ := Kd.N_slice HO_3.out
        subst eo17
        go_wp2_with ((with_reducible refine gate_callee (f := 40) rfl ?_); refine goesL_ (some 30) rfl rfl Try.func40 (by kernel_rfl) rfl #[.slice Ao17 x3_1.length co17, .func (.func 41) #[] #[]] rfl (by (try simp only [List.map_toArray, List.map_cons, List.map_nil]); rfl) ?_; (refine (sort_N _ (fun k_ => w.heap.size ≤ k_) Ao17 co17 x3_1 t500 w _ HB.out HO_3.out (fun y_ hy_ => of_decide_eq_true (List.all_eq_true.1 LS.out y_ hy_)) LT.out).mono ?_); rintro e wS ⟨rfl, hN, hg⟩; refine ⟨_, rfl, ?_⟩; have n0_ := am hN; have n1_ := am (pw_below_grown HB.out _ (below_size HB.out) hg (fun k_ hk_ => Kd.N_base hN k_ hk_)); clear HO_3; clear HB; have HO_3 := n0_; have HB := n1_; clear n0_ n1_; clear hN hg)
        go_loopg [6, 33] k1 (fun kq v6 v33 w' => ∃ (x6_2 : List (S39)) (x31_2 : List (S39)) (x33_2 : Int), v33 = .int .i64 x33_2 ∧ Aside0 (cost_normal.l1 kq x6_2 x31_2 (x3_1.length : Int) x33_2 = some r) ∧ Aside0 (kq ≤ k1) ∧ Aside0 (Kd.N k39 39 w' w.heap.size (fun k_ => (w.heap.size ≤ k_) ∧ some k_ ≠ ((.slice Ao17 x3_1.length co17) : Value).ownBlock) v6 x6_2) ∧ Aside0 (Kd.N k39 39 w' w.heap.size (fun k_ => (w.heap.size ≤ k_) ∧ some k_ ≠ (v6 : Value).ownBlock) (.slice Ao17 x3_1.length co17) x31_2) ∧ Aside0 (Below w.heap.size w w'))
        case atStart => exact ⟨(([] : List (S39))), t500, (0), (by rfl), H', ⟨Nat.le_refl _⟩, ⟨by exact Kd.N_nil _ _ _ _ _⟩, ⟨by exact Kd.N_mono HO_3.out (fun _ hk => ⟨hk, (by simp [Value.ownBlock])⟩)⟩, ⟨by exact HB.out⟩⟩
        case round =>
          clear H'
          try clear c2b0
          obtain ⟨x6_2, x31_2, x33_2, rfl, HA, HK2, HO_6, HO_31, HB⟩ := hrel
          have hl31_2 := (Kd.N_reads' HO_31.out).1
          rw [hl31_2] at HO_31
          (try simp only [hl31_2])
          (try simp only [hl31_2] at HO_6)
          cases gk with
          | zero => exact absurd HA.out (by simp [cost_normal.l1])
          | succ k2 =>
            have H := HA.out
            clear HA
            simp only [cost_normal.l1] at H
            by_cases c18 : x33_2 < (x3_1.length : Int)
            · rw [if_pos c18] at H
              have c18b0 : decide (x33_2 < (x3_1.length : Int)) = true := decide_eq_true c18
              clear c18
              replace H := its H
              obtain ⟨c19, H⟩ := H
              have c19b0 : decide (0 ≤ x33_2) = true := decide_eq_true c19
              clear c19
              replace H := its H
              obtain ⟨c20, H⟩ := H
              have c20b0 : decide (x33_2 < (x31_2.length : Int)) = true := decide_eq_true c20
              clear c20
              by_cases c21 : (x6_2.length : Int) > 0
              · rw [if_pos c21] at H
                have c21b0 : decide (0 < (x6_2.length : Int)) = true := decide_eq_true c21
                have c21b1 : decide (0 < x6_2.length) = true := decide_eq_true (by omega)
                clear c21
                obtain ⟨ji22, hji22⟩ : ∃ j_ : Int, (wrap64 ((x6_2.length : Int) - 1)) = j_ := ⟨_, rfl⟩
                replace H : (if 0 ≤ (ji22) then (if (ji22) < (x6_2.length : Int) then ((cost_order.f k2 ((rd_T39 x6_2 (ji22)).f1) ((rd_T39 x31_2 x33_2).f1)).bind fun t135 => (if t135 = 0 then ((cost_plus.f ((rd_T39 x6_2 (ji22)).f0) ((rd_T39 x31_2 x33_2).f0)).bind fun t137 => (cost_normal.l1 k2 (x6_2.set ((ji22) : Int).toNat (⟨t137, (rd_T39 x6_2 (ji22)).f1⟩ : S39)) x31_2 (x3_1.length : Int) (wrap64 (x33_2 + 1)))) else (if x6_2.length < 4398046511104 then (cost_normal.l1 k2 (x6_2 ++ [(⟨(rd_T39 x31_2 x33_2).f0, (rd_T39 x31_2 x33_2).f1⟩ : S39)]) x31_2 (x3_1.length : Int) (wrap64 (x33_2 + 1))) else (none)))) else (none)) else (none)) = some r := by (rw [hji22] at H; exact H)
                have hji22w : (IntKind.i64.wrap ((x6_2.length : Int) - 1)) = ji22 := (i64_w _).trans hji22
                replace H := its H
                obtain ⟨c23, H⟩ := H
                have c23b0 : decide (0 ≤ (ji22)) = true := decide_eq_true c23
                clear c23
                replace H := its H
                obtain ⟨c24, H⟩ := H
                have c24b0 : decide ((ji22) < (x6_2.length : Int)) = true := decide_eq_true c24
                clear c24
                replace H := Option.bind_eq_some_iff.mp H
                obtain ⟨t135, A250, H⟩ := H
                replace H : (if t135 = 0 then ((cost_plus.f ((rd_T39 x6_2 (ji22)).f0) ((rd_T39 x31_2 x33_2).f0)).bind fun t137 => (cost_normal.l1 k2 (x6_2.set ((ji22) : Int).toNat (⟨t137, (rd_T39 x6_2 (ji22)).f1⟩ : S39)) x31_2 (x3_1.length : Int) (wrap64 (x33_2 + 1)))) else (if x6_2.length < 4398046511104 then (cost_normal.l1 k2 (x6_2 ++ [(⟨(rd_T39 x31_2 x33_2).f0, (rd_T39 x31_2 x33_2).f1⟩ : S39)]) x31_2 (x3_1.length : Int) (wrap64 (x33_2 + 1))) else (none))) = some r := H
                have A25 := am A250
                clear A250
                by_cases c26 : t135 = 0
                · rw [if_pos c26] at H
                  have c26b0 : (t135 == 0) = true := beq_iff_eq.mpr c26
                  have c26b1 : (t135 != 0) = false := bne_eq_false_iff_eq.mpr c26
                  clear c26
                  replace H := Option.bind_eq_some_iff.mp H
                  obtain ⟨t137, A270, H⟩ := H
                  replace H : (cost_normal.l1 k2 (x6_2.set ((ji22) : Int).toNat (⟨t137, (rd_T39 x6_2 (ji22)).f1⟩ : S39)) x31_2 (x3_1.length : Int) (wrap64 (x33_2 + 1))) = some r := H
                  have A27 := am A270
                  clear A270
                  obtain ⟨y138, hy138⟩ : ∃ y_ : List (S39), y_ = (x6_2.set ((ji22) : Int).toNat (⟨t137, (rd_T39 x6_2 (ji22)).f1⟩ : S39)) := ⟨_, rfl⟩
                  replace H : (cost_normal.l1 k2 y138 x31_2 (x3_1.length : Int) (wrap64 (x33_2 + 1))) = some r := by (rw [hy138]; with_reducible exact H)
                  have Ny138 := am hy138
                  clear hy138
                  have H' := am H
                  clear H
                  have p132 : 0 ≤ (x33_2 : Int) := of_decide_eq_true (by (with_reducible assumption))
                  have q132 : x33_2 < (x31_2.length : Int) := of_decide_eq_true (by (with_reducible assumption))
                  obtain ⟨ad132, A132_1, c132_1, e132, hx132_0, hx132_1, hl132_1, hi132_1⟩ := at_T39 (Kd.N_reads' HO_31.out).2.2 x33_2 p132 q132
                  cases e132
                  obtain ⟨ce132, hce132, hMe132, hcc132⟩ := Kd.N_get HO_31.out z39 x33_2 p132 (by exact q132)
                  obtain ⟨ua132_1, uc132_1, rfl, ul132_1, ge132_1⟩ := k39_openF hMe132
                  have hv132_1 := hcc132 1 _ rfl
                  rw [add_field _ _ 1 (by omega)] at hv132_1
                  replace hv132_1 := Option.some.inj (hv132_1.symm.trans hx132_1)
                  injection hv132_1 with hva_ hvn_ hvc_
                  rw [hva_] at ge132_1
                  rw [hvc_] at ul132_1
                  have HL132_1 := am (show Kd.V (Kd.int .i64) 3 _ w.heap.size _ _ ((rd_T39 x31_2 x33_2).f1) from Kd.V_mk ul132_1 ge132_1)
                  clear hva_ hvn_ hvc_ ge132_1 ul132_1
                  clear hcc132 hce132
                  have HR132_1 := am hi132_1
                  have HC132_1 := am hl132_1
                  clear hi132_1 hl132_1
                  replace p132 := eq_true p132
                  replace q132 := eq_true q132
                  try go_wp2_with (((with_reducible refine gate_dst (N := 8) rfl ?_); refine box_event ?hg (N := 8) ?hd (cs := #[.int .u64 0, .slice none 0 0]) (t := 39) ?hr ?_; (case hd => rfl); (case hg => rfl); (case hr => (go_simp; done)); intro gb133 hg w29 hbox hb; replace HO_6 := am (Kd.N_below (Kd.N_elderB HO_6.out gb133 (Nat.le_of_eq hg.symm)) hb); replace HO_31 := am (Kd.N_below (Kd.N_elderB HO_31.out gb133 (Nat.le_of_eq hg.symm)) hb); replace HL132_1 := am (Kd.V_below (Kd.V_elderB HL132_1.out gb133 (Nat.le_of_eq hg.symm)) hb); replace HR132_1 := am (Kd.C_below HR132_1.out hb); have BK133 := am (hbox); have GW133 := am ((by rw [hg]; exact (below_size HB.out) : w.heap.size ≤ gb133)); have GE133 := am ((by rw [hg]; exact (below_size HB.out) : w.heap.size ≤ gb133)); replace HB := am (below_step HB.out hb); clear hb hbox hg; have hcz30_0 : w29.cell? ⟨gb133, 0, none⟩ = some (.int .u64 0) := (blk_cell BK133.out 0).trans rfl; have hcz30_1 : w29.cell? ⟨gb133, 1, none⟩ = some (.slice none 0 0) := (blk_cell BK133.out 1).trans rfl; have hfz30_0 := blk_frozen BK133.out 0; have hfz30_1 := blk_frozen BK133.out 1; obtain ⟨Ao31, co31, eo31⟩ := Kd.N_slice HO_6.out; subst eo31))
                  have n0_ : Aside0 (Kd.N k39 39 ((w29.setCell ⟨gb133, 0, none⟩ (.int .u64 ((rd_T39 x31_2 x33_2).f0))).setCell ⟨gb133, 1, none⟩ (.slice A132_1 ((rd_T39 x31_2 x33_2).f1).length c132_1)) w.heap.size (fun k_ => (w.heap.size ≤ k_) ∧ some k_ ≠ (.slice (some ad132) x31_2.length co17 : Value).ownBlock ∧ k_ ≠ gb133) (.slice Ao31 x6_2.length co31) x6_2) := ⟨by exact Kd.N_mono (Kd.N_far (p := ⟨gb133, 1, none⟩) (Kd.N_far (p := ⟨gb133, 0, none⟩) (Kd.N_mono HO_6.out (fun k_ hk => (⟨hk, hk.2⟩ : _ ∧ k_ ≠ gb133))) (fun _ hk => hk.2) (.int .u64 ((rd_T39 x31_2 x33_2).f0))) (fun _ hk => hk.2) (.slice A132_1 ((rd_T39 x31_2 x33_2).f1).length c132_1)) (fun _ hk => ⟨hk.1.1.1, ⟨hk.1.1.2, hk.1.2⟩⟩)⟩
                  have n1_ : Aside0 (Kd.N k39 39 ((w29.setCell ⟨gb133, 0, none⟩ (.int .u64 ((rd_T39 x31_2 x33_2).f0))).setCell ⟨gb133, 1, none⟩ (.slice A132_1 ((rd_T39 x31_2 x33_2).f1).length c132_1)) w.heap.size (fun k_ => (w.heap.size ≤ k_) ∧ some k_ ≠ (.slice Ao31 x6_2.length co31 : Value).ownBlock ∧ k_ ≠ gb133) (.slice (some ad132) x31_2.length co17) x31_2) := ⟨by exact Kd.N_mono (Kd.N_far (p := ⟨gb133, 1, none⟩) (Kd.N_far (p := ⟨gb133, 0, none⟩) (Kd.N_mono HO_31.out (fun k_ hk => (⟨hk, hk.2⟩ : _ ∧ k_ ≠ gb133))) (fun _ hk => hk.2) (.int .u64 ((rd_T39 x31_2 x33_2).f0))) (fun _ hk => hk.2) (.slice A132_1 ((rd_T39 x31_2 x33_2).f1).length c132_1)) (fun _ hk => ⟨hk.1.1.1, ⟨hk.1.1.2, hk.1.2⟩⟩)⟩
                  have n2_ : Aside0 (Kd.V (Kd.int .i64) 3 ((w29.setCell ⟨gb133, 0, none⟩ (.int .u64 ((rd_T39 x31_2 x33_2).f0))).setCell ⟨gb133, 1, none⟩ (.slice A132_1 ((rd_T39 x31_2 x33_2).f1).length c132_1)) w.heap.size (fun k_ => (w.heap.size ≤ k_) ∧ some k_ ≠ (.slice Ao31 x6_2.length co31 : Value).ownBlock ∧ some k_ ≠ (.slice (some ad132) x31_2.length co17 : Value).ownBlock ∧ k_ ≠ gb133) (.slice A132_1 ((rd_T39 x31_2 x33_2).f1).length c132_1) ((rd_T39 x31_2 x33_2).f1)) := ⟨by exact Kd.V_mono (Kd.V_far (p := ⟨gb133, 1, none⟩) (Kd.V_far (p := ⟨gb133, 0, none⟩) (Kd.V_mono HL132_1.out (fun k_ hk => (⟨hk, hk.2⟩ : _ ∧ k_ ≠ gb133))) (fun _ hk => hk.2) (.int .u64 ((rd_T39 x31_2 x33_2).f0))) (fun _ hk => hk.2) (.slice A132_1 ((rd_T39 x31_2 x33_2).f1).length c132_1)) (fun _ hk => ⟨hk.1.1.1.1, ⟨hk.1.1.1.2, ⟨hk.1.1.2, hk.1.2⟩⟩⟩)⟩
                  have n3_ : Aside0 (((w29.setCell ⟨gb133, 0, none⟩ (.int .u64 ((rd_T39 x31_2 x33_2).f0))).setCell ⟨gb133, 1, none⟩ (.slice A132_1 ((rd_T39 x31_2 x33_2).f1).length c132_1)).heap[gb133]? = some (.cells #[.int .u64 ((rd_T39 x31_2 x33_2).f0), .slice A132_1 ((rd_T39 x31_2 x33_2).f1).length c132_1] 39 (0, 0))) := ⟨by (with_reducible repeat (first | refine blk_drewN ?_ _ | refine blk_drew ?_ | refine blk_alloc ?_ _)); refine blk_put (cs := #[.int .u64 ((rd_T39 x31_2 x33_2).f0), .slice none 0 0]) ?_ 1 _ rfl; (with_reducible repeat (first | refine blk_drewN ?_ _ | refine blk_drew ?_ | refine blk_alloc ?_ _)); refine blk_put (cs := #[.int .u64 0, .slice none 0 0]) ?_ 0 _ rfl; (with_reducible repeat (first | refine blk_drewN ?_ _ | refine blk_drew ?_ | refine blk_alloc ?_ _)); exact BK133.out⟩
                  have n4_ : Aside0 (Below w.heap.size w ((w29.setCell ⟨gb133, 0, none⟩ (.int .u64 ((rd_T39 x31_2 x33_2).f0))).setCell ⟨gb133, 1, none⟩ (.slice A132_1 ((rd_T39 x31_2 x33_2).f1).length c132_1))) := ⟨by repeat ((with_reducible first | exact HB.out | refine below_set ?_ GE133.out))⟩
                  (try clear HO_6)
                  (try clear HO_31)
                  (try clear HL132_1)
                  (try clear BK133)
                  (try clear HB)
                  generalize ((w29.setCell ⟨gb133, 0, none⟩ (.int .u64 ((rd_T39 x31_2 x33_2).f0))).setCell ⟨gb133, 1, none⟩ (.slice A132_1 ((rd_T39 x31_2 x33_2).f1).length c132_1)) = w32 at n0_ n1_ n2_ n3_ n4_ ⊢
                  have HO_6 := n0_
                  have HO_31 := n1_
                  have HL132_1 := n2_
                  have BK133 := n3_
                  have HB := n4_
                  clear n0_ n1_ n2_ n3_ n4_
                  have n0_ := am (Kd.N_drew HO_6.out)
                  have n1_ := am (Kd.N_drew HO_31.out)
                  have n2_ := am (Kd.V_drew HL132_1.out)
                  have n3_ := am (blk_drew BK133.out)
                  have n4_ := am (below_drew1 HB.out)
                  clear HO_6
                  clear HO_31
                  clear HL132_1
                  clear BK133
                  clear HB
                  have HO_6 := n0_
                  have HO_31 := n1_
                  have HL132_1 := n2_
                  have BK133 := n3_
                  have HB := n4_
                  clear n0_ n1_ n2_ n3_ n4_
                  have p134 : 0 ≤ ((ji22) : Int) := of_decide_eq_true (by (with_reducible assumption))
                  have q134 : (ji22) < (x6_2.length : Int) := of_decide_eq_true (by (with_reducible assumption))
                  obtain ⟨ad134, A134_1, c134_1, e134, hx134_0, hx134_1, hl134_1, hi134_1⟩ := at_T39 (Kd.N_reads' HO_6.out).2.2 (ji22) p134 q134
                  cases e134
                  obtain ⟨ce134, hce134, hMe134, hcc134⟩ := Kd.N_get HO_6.out z39 (ji22) p134 (by exact q134)
                  obtain ⟨ua134_1, uc134_1, rfl, ul134_1, ge134_1⟩ := k39_openF hMe134
                  have hv134_1 := hcc134 1 _ rfl
                  rw [add_field _ _ 1 (by omega)] at hv134_1
                  replace hv134_1 := Option.some.inj (hv134_1.symm.trans hx134_1)
                  injection hv134_1 with hva_ hvn_ hvc_
                  rw [hva_] at ge134_1
                  rw [hvc_] at ul134_1
                  have HL134_1 := am (show Kd.V (Kd.int .i64) 3 _ w.heap.size _ _ ((rd_T39 x6_2 (ji22)).f1) from Kd.V_mk ul134_1 ge134_1)
                  clear hva_ hvn_ hvc_ ge134_1 ul134_1
                  clear hcc134 hce134
                  have HR134_1 := am hi134_1
                  have HC134_1 := am hl134_1
                  clear hi134_1 hl134_1
                  replace p134 := eq_true p134
                  replace q134 := eq_true q134
                  refine start_ (n := 14) (S := fun w' => w'.cell? ⟨gb133, 0, none⟩ = some (.int .u64 ((rd_T39 x31_2 x33_2).f0)) ∧ w'.cell? ⟨gb133, 1, none⟩ = some (.slice A132_1 ((rd_T39 x31_2 x33_2).f1).length c132_1) ∧ w'.cell? (ad134.add (((ji22)).toNat * 2)) = some (.int .u64 ((rd_T39 x6_2 (ji22)).f0)) ∧ w'.cell? ⟨(ad134.add (((ji22)).toNat * 2)).block, (ad134.add (((ji22)).toNat * 2)).off + 1, none⟩ = some (.slice A134_1 ((rd_T39 x6_2 (ji22)).f1).length c134_1)) (ds := []) #[false, false, false, false, false, false, false, false, false, false, false, false, false, false] (by kernel_rfl) rfl rfl ⟨(blk_cell BK133.out 0).trans rfl, (blk_cell BK133.out 1).trans rfl, hx134_0, hx134_1⟩ (fun hHeld => ?_); refine with_tabW cost_normal.tab14 cost_normal.bits14 (fun HT_ HW_ => ?_)
                  generalize w32.drew = w33 at HO_6 HO_31 HL132_1 BK133 HB HL134_1 HR134_1 hx134_0 hx134_1 hHeld ⊢
                  refine pu HT_ (v := ?_) (a' := ?_) 0 39 rfl rfl (by kernel_rfl) (fun _ _ _ h => h) (Or.inl ⟨by rfl, ?_⟩) ?_ ?_
                  rotate_left
                  · intro w'
                    go_simp
                    with_reducible rfl
                  rotate_left
                  · simp only [Act.put, sa, sb, sc, i64_w, i32_w]
                    rfl
                  refine pu HT_ (v := ?_) (a' := ?_) 1 40 rfl rfl (by kernel_rfl) (fun _ _ _ h => h) (Or.inl ⟨by rfl, ?_⟩) ?_ ?_
                  rotate_left
                  · intro w'
                    go_simp
                    with_reducible rfl
                  rotate_left
                  · simp only [Act.put, sa, sb, sc, i64_w, i32_w]
                    rfl
                  refine pu HT_ (v := ?_) (a' := ?_) 2 41 rfl rfl (by kernel_rfl) (fun _ _ _ h => h) (Or.inl ⟨by rfl, ?_⟩) ?_ ?_
                  rotate_left
                  · intro w'
                    go_simp
                    with_reducible rfl
                  rotate_left
                  · simp only [Act.put, sa, sb, sc, i64_w, i32_w]
                    rfl
                  refine pu HT_ (v := ?_) (a' := ?_) 3 42 rfl rfl (by kernel_rfl) (fun _ _ _ h => h) (Or.inl ⟨by rfl, ?_⟩) ?_ ?_
                  rotate_left
                  · intro w'
                    go_simp
                    with_reducible rfl
                  rotate_left
                  · simp only [Act.put, sa, sb, sc, i64_w, i32_w]
                    rfl
                  refine pu HT_ (v := ?_) (a' := ?_) 4 43 rfl rfl (by kernel_rfl) (fun _ _ _ h => h) (Or.inl ⟨by rfl, ?_⟩) ?_ ?_
                  rotate_left
                  · intro w'
                    go_simp
                    with_reducible rfl
                  rotate_left
                  · simp only [Act.put, sa, sb, sc, i64_w, i32_w]
                    rfl
                  refine pu HT_ (v := ?_) (a' := ?_) 5 44 rfl rfl (by kernel_rfl) (fun _ _ _ h => h) (Or.inl ⟨by rfl, ?_⟩) ?_ ?_
                  rotate_left
                  · intro w'
                    go_simp
                    with_reducible rfl
                  rotate_left
                  · simp only [Act.put, sa, sb, sc, i64_w, i32_w]
                    rfl
                  refine pu HT_ (v := ?_) (a' := ?_) 6 45 rfl rfl (by kernel_rfl) (fun _ _ _ h => h) (Or.inl ⟨by rfl, ?_⟩) ?_ ?_
                  rotate_left
                  · intro w'
                    go_simp
                    with_reducible rfl
                  rotate_left
                  · simp only [Act.put, sa, sb, sc, i64_w, i32_w]
                    rfl
                  refine pu HT_ (v := ?_) (a' := ?_) 7 46 rfl rfl (by kernel_rfl) (fun _ _ _ h => h) (Or.inl ⟨by rfl, ?_⟩) ?_ ?_
                  rotate_left
                  · intro w'
                    go_simp
                    with_reducible rfl
                  rotate_left
                  · simp only [Act.put, sa, sb, sc, i64_w, i32_w]
                    rfl
                  refine pu HT_ (v := ?_) (a' := ?_) 9 48 rfl rfl (by kernel_rfl) (fun _ _ _ h => h) (Or.inl ⟨by rfl, ?_⟩) ?_ ?_
                  rotate_left
                  · intro w'
                    go_simp
                    with_reducible rfl
                  rotate_left
                  · simp only [Act.put, sa, sb, sc, i64_w, i32_w]
                    rfl
                  refine take_ (i := 8) (N := some 47) (v := ?_) (a' := ?_) #[true, true, true, true, true, true, true, true, true, true, false, false, false, false] rfl rfl (take_ofW HT_.out HW_.out (by kernel_rfl)) (fun _ _ _ h => h) (Or.inl ⟨by rfl, ?_⟩) hHeld ?_ ?_
                  rotate_left
                  · rintro w' ⟨s0, s1, s2, s3⟩
                    go_simp
                    with_reducible rfl
                  rotate_left
                  · simp only [Act.put, sa, sb, sc, i64_w, i32_w]
                    rfl
                  refine take_ (i := 10) (N := some 49) (v := ?_) (a' := ?_) #[true, true, true, true, true, true, true, true, true, true, true, false, false, false] rfl rfl (take_ofW HT_.out HW_.out (by kernel_rfl)) (fun _ _ _ h => h) (Or.inl ⟨by rfl, ?_⟩) hHeld ?_ ?_
                  rotate_left
                  · rintro w' ⟨s0, s1, s2, s3⟩
                    go_simp
                    with_reducible rfl
                  rotate_left
                  · simp only [Act.put, sa, sb, sc, i64_w, i32_w]
                    rfl
                  refine one_ (i := 11) (N := some 50) #[true, true, true, true, true, true, true, true, true, true, true, true, false, false] rfl rfl (one_of HT_.out (by kernel_rfl)) (by decide) (fun K hK => ?_)
                  refine goes_ Try.func42 (by kernel_rfl) rfl #[.slice A134_1 ((rd_T39 x6_2 (ji22)).f1).length c134_1, .slice A132_1 ((rd_T39 x31_2 x33_2).f1).length c132_1] (by rfl) rfl rfl (by (try simp only [List.map_toArray, List.map_cons, List.map_nil]); rfl) ?_
                  with_reducible refine (cost_order.calls k2 _ _ ((rd_T39 x6_2 (ji22)).f1) _ _ ((rd_T39 x31_2 x33_2).f1) t135 _ ?side1 ?side2 ?side3 ?side4 A25.out).mono ?_
                  (case side1 => exact HR134_1.out)
                  (case side2 => exact HC134_1.out)
                  (case side3 => repeat (exact ((Kd.V_reads' HL132_1.out).2.2)))
                  (case side4 => exact HC132_1.out)
                  rintro e w34 ⟨rfl, hb⟩
                  have HS2_ := (hb.cell (World.block_lt_of_cell? _ _ (hHeld.2.2.1))).trans (hHeld.2.2.1)
                  have HS3_ := (hb.cell (World.block_lt_of_cell? _ _ (hHeld.2.2.2))).trans (hHeld.2.2.2)
                  refine ⟨_, rfl, ?_⟩
                  have n0_ := am (Kd.N_below HO_6.out hb)
                  have n1_ := am (Kd.N_below HO_31.out hb)
                  have n2_ := am (Kd.V_below HL132_1.out hb)
                  have n3_ := am (Kd.V_below HL134_1.out hb)
                  have n4_ := am (blk_below (g := gb133) (o := .cells #[.int .u64 ((rd_T39 x31_2 x33_2).f0), .slice A132_1 ((rd_T39 x31_2 x33_2).f1).length c132_1] 39 (0, 0)) (by (with_reducible repeat (first | refine blk_drewN ?_ _ | refine blk_drew ?_ | refine blk_alloc ?_ _)); exact BK133.out) hb)
                  have n5_ := am (Kd.C_below HR134_1.out hb)
                  have n6_ := am (below_step HB.out hb)
                  clear HO_6
                  clear HO_31
                  clear HL132_1
                  clear HL134_1
                  clear BK133
                  clear HR134_1
                  clear HB
                  have HO_6 := n0_
                  have HO_31 := n1_
                  have HL132_1 := n2_
                  have HL134_1 := n3_
                  have BK133 := n4_
                  have HR134_1 := n5_
                  have HB := n6_
                  clear n0_ n1_ n2_ n3_ n4_ n5_ n6_
                  (try clear hb)
                  refine hK.out _ _ ⟨(blk_cell BK133.out 0).trans rfl, (blk_cell BK133.out 1).trans rfl, HS2_, HS3_⟩ (fun hHeld => ?_)
                  clear hK K
                  refine norm_ (a' := ?_) ?_ ?_
                  rotate_left
                  · show Act.put _ (some 50) _ = _
                    simp only [Act.put, sa, sb, sc, i64_w, i32_w]
                    rfl
                  refine pu HT_ (v := ?_) (a' := ?_) 12 51 rfl rfl (by kernel_rfl) (fun _ _ _ h => h) (Or.inl ⟨by rfl, ?_⟩) ?_ ?_
                  rotate_left
                  · intro w'
                    go_simp
                    with_reducible rfl
                  rotate_left
                  · simp only [Act.put, sa, sb, sc, i64_w, i32_w]
                    rfl
                  refine pu HT_ (v := ?_) (a' := ?_) 13 52 rfl rfl (by kernel_rfl) (fun _ _ _ h => h) (Or.inl ⟨by rfl, ?_⟩) ?_ ?_
                  rotate_left
                  · intro w'
                    go_simp
                    with_reducible rfl
                  rotate_left
                  · simp only [Act.put, sa, sb, sc, i64_w, i32_w]
                    rfl
                  refine done_ (done_of HT_.out (by kernel_rfl)) ?_
                  try go_wp2
                  have n0_ := am (Kd.N_drew HO_6.out)
                  have n1_ := am (Kd.N_drew HO_31.out)
                  have n2_ := am (Kd.V_drew HL132_1.out)
                  have n3_ := am (Kd.V_drew HL134_1.out)
                  have n4_ := am (blk_drew BK133.out)
                  have n5_ := am (Kd.C_drew HR134_1.out)
                  have n6_ := am (below_drew1 HB.out)
                  clear HO_6
                  clear HO_31
                  clear HL132_1
                  clear HL134_1
                  clear BK133
                  clear HR134_1
                  clear HB
                  have HO_6 := n0_
                  have HO_31 := n1_
                  have HL132_1 := n2_
                  have HL134_1 := n3_
                  have BK133 := n4_
                  have HR134_1 := n5_
                  have HB := n6_
                  clear n0_ n1_ n2_ n3_ n4_ n5_ n6_
                  have p136 : 0 ≤ ((ji22) : Int) := of_decide_eq_true (by (with_reducible assumption))
                  have q136 : (ji22) < (x6_2.length : Int) := of_decide_eq_true (by (with_reducible assumption))
                  obtain ⟨ad136, A136_1, c136_1, e136, hx136_0, hx136_1, hl136_1, hi136_1⟩ := at_T39 (Kd.N_reads' HO_6.out).2.2 (ji22) p136 q136
                  obtain rfl : ad134 = ad136 := (by injection e136)
                  obtain ⟨ce136, hce136, hMe136, hcc136⟩ := Kd.N_get HO_6.out z39 (ji22) p136 (by exact q136)
                  obtain ⟨ua136_1, uc136_1, rfl, ul136_1, ge136_1⟩ := k39_openF hMe136
                  have hv136_1 := hcc136 1 _ rfl
                  rw [add_field _ _ 1 (by omega)] at hv136_1
                  replace hv136_1 := Option.some.inj (hv136_1.symm.trans hx136_1)
                  injection hv136_1 with hva_ hvn_ hvc_
                  rw [hva_] at ge136_1
                  rw [hvc_] at ul136_1
                  have HL136_1 := am (show Kd.V (Kd.int .i64) 3 _ w.heap.size _ _ ((rd_T39 x6_2 (ji22)).f1) from Kd.V_mk ul136_1 ge136_1)
                  clear hva_ hvn_ hvc_ ge136_1 ul136_1
                  clear hcc136 hce136
                  have HR136_1 := am hi136_1
                  have HC136_1 := am hl136_1
                  clear hi136_1 hl136_1
                  replace p136 := eq_true p136
                  replace q136 := eq_true q136
                  refine start_ (n := 15) (S := fun w' => w'.cell? ⟨gb133, 0, none⟩ = some (.int .u64 ((rd_T39 x31_2 x33_2).f0)) ∧ w'.cell? ⟨gb133, 1, none⟩ = some (.slice A132_1 ((rd_T39 x31_2 x33_2).f1).length c132_1) ∧ w'.cell? (ad134.add (((ji22)).toNat * 2)) = some (.int .u64 ((rd_T39 x6_2 (ji22)).f0)) ∧ w'.cell? ⟨(ad134.add (((ji22)).toNat * 2)).block, (ad134.add (((ji22)).toNat * 2)).off + 1, none⟩ = some (.slice A136_1 ((rd_T39 x6_2 (ji22)).f1).length c136_1)) (ds := [14]) #[false, false, false, false, false, false, false, false, false, false, false, false, false, false, false] (by kernel_rfl) rfl rfl ⟨(blk_cell BK133.out 0).trans rfl, (blk_cell BK133.out 1).trans rfl, hx136_0, hx136_1⟩ (fun hHeld => ?_); refine with_tabW cost_normal.tab15 cost_normal.bits15 (fun HT_ HW_ => ?_)
                  generalize w34.drew = w35 at HO_6 HO_31 HL132_1 HL134_1 BK133 HR134_1 HB HL136_1 HR136_1 hx136_0 hx136_1 hHeld ⊢
                  refine pu HT_ (v := ?_) (a' := ?_) 0 53 rfl rfl (by kernel_rfl) (fun _ _ _ h => h) (Or.inl ⟨by rfl, ?_⟩) ?_ ?_
                  rotate_left
                  · intro w'
                    go_simp
                    with_reducible rfl
                  rotate_left
                  · simp only [Act.put, sa, sb, sc, i64_w, i32_w]
                    rfl
                  refine pu HT_ (v := ?_) (a' := ?_) 1 54 rfl rfl (by kernel_rfl) (fun _ _ _ h => h) (Or.inl ⟨by rfl, ?_⟩) ?_ ?_
                  rotate_left
                  · intro w'
                    go_simp
                    with_reducible rfl
                  rotate_left
                  · simp only [Act.put, sa, sb, sc, i64_w, i32_w]
                    rfl
                  refine pu HT_ (v := ?_) (a' := ?_) 2 55 rfl rfl (by kernel_rfl) (fun _ _ _ h => h) (Or.inl ⟨by rfl, ?_⟩) ?_ ?_
                  rotate_left
                  · intro w'
                    go_simp
                    with_reducible rfl
                  rotate_left
                  · simp only [Act.put, sa, sb, sc, i64_w, i32_w]
                    rfl
                  refine pu HT_ (v := ?_) (a' := ?_) 3 56 rfl rfl (by kernel_rfl) (fun _ _ _ h => h) (Or.inl ⟨by rfl, ?_⟩) ?_ ?_
                  rotate_left
                  · intro w'
                    go_simp
                    with_reducible rfl
                  rotate_left
                  · simp only [Act.put, sa, sb, sc, i64_w, i32_w]
                    rfl
                  refine pu HT_ (v := ?_) (a' := ?_) 4 57 rfl rfl (by kernel_rfl) (fun _ _ _ h => h) (Or.inl ⟨by rfl, ?_⟩) ?_ ?_
                  rotate_left
                  · intro w'
                    go_simp
                    with_reducible rfl
                  rotate_left
                  · simp only [Act.put, sa, sb, sc, i64_w, i32_w]
                    rfl
                  refine pu HT_ (v := ?_) (a' := ?_) 5 58 rfl rfl (by kernel_rfl) (fun _ _ _ h => h) (Or.inl ⟨by rfl, ?_⟩) ?_ ?_
                  rotate_left
                  · intro w'
                    go_simp
                    with_reducible rfl
                  rotate_left
                  · simp only [Act.put, sa, sb, sc, i64_w, i32_w]
                    rfl
                  refine pu HT_ (v := ?_) (a' := ?_) 6 59 rfl rfl (by kernel_rfl) (fun _ _ _ h => h) (Or.inl ⟨by rfl, ?_⟩) ?_ ?_
                  rotate_left
                  · intro w'
                    go_simp
                    with_reducible rfl
                  rotate_left
                  · simp only [Act.put, sa, sb, sc, i64_w, i32_w]
                    rfl
                  refine pu HT_ (v := ?_) (a' := ?_) 7 60 rfl rfl (by kernel_rfl) (fun _ _ _ h => h) (Or.inl ⟨by rfl, ?_⟩) ?_ ?_
                  rotate_left
                  · intro w'
                    go_simp
                    with_reducible rfl
                  rotate_left
                  · simp only [Act.put, sa, sb, sc, i64_w, i32_w]
                    rfl
                  refine pu HT_ (v := ?_) (a' := ?_) 9 62 rfl rfl (by kernel_rfl) (fun _ _ _ h => h) (Or.inl ⟨by rfl, ?_⟩) ?_ ?_
                  rotate_left
                  · intro w'
                    go_simp
                    with_reducible rfl
                  rotate_left
                  · simp only [Act.put, sa, sb, sc, i64_w, i32_w]
                    rfl
                  refine take_ (i := 8) (N := some 61) (v := ?_) (a' := ?_) #[true, true, true, true, true, true, true, true, true, true, false, false, false, false, false] rfl rfl (take_ofW HT_.out HW_.out (by kernel_rfl)) (fun _ _ _ h => h) (Or.inl ⟨by rfl, ?_⟩) hHeld ?_ ?_
                  rotate_left
                  · rintro w' ⟨s0, s1, s2, s3⟩
                    go_simp
                    with_reducible rfl
                  rotate_left
                  · simp only [Act.put, sa, sb, sc, i64_w, i32_w]
                    rfl
                  refine take_ (i := 10) (N := some 63) (v := ?_) (a' := ?_) #[true, true, true, true, true, true, true, true, true, true, true, false, false, false, false] rfl rfl (take_ofW HT_.out HW_.out (by kernel_rfl)) (fun _ _ _ h => h) (Or.inl ⟨by rfl, ?_⟩) hHeld ?_ ?_
                  rotate_left
                  · rintro w' ⟨s0, s1, s2, s3⟩
                    go_simp
                    with_reducible rfl
                  rotate_left
                  · simp only [Act.put, sa, sb, sc, i64_w, i32_w]
                    rfl
                  refine one_ (i := 11) (N := some 64) #[true, true, true, true, true, true, true, true, true, true, true, true, false, false, false] rfl rfl (one_of HT_.out (by kernel_rfl)) (by decide) (fun K hK => ?_)
                  refine goes_ Try.func22 (by kernel_rfl) rfl #[.int .u64 ((rd_T39 x6_2 (ji22)).f0), .int .u64 ((rd_T39 x31_2 x33_2).f0)] (by rfl) rfl rfl (by (try simp only [List.map_toArray, List.map_cons, List.map_nil]); rfl) ?_
                  with_reducible refine (cost_plus.calls ((rd_T39 x6_2 (ji22)).f0) ((rd_T39 x31_2 x33_2).f0) t137 _ A27.out).mono ?_
                  rintro e w' ⟨rfl, ⟨nd, rfl⟩⟩
                  refine ⟨_, rfl, ?_⟩
                  have p28 : 0 ≤ ((ji22) : Int) := of_decide_eq_true (by (with_reducible assumption))
                  have q28 : ((ji22) : Int) < ((x6_2.length : Int) : Int) := of_decide_eq_true (by (with_reducible assumption))
                  obtain ⟨go28, co28, eo28, gb28, gl28, cl28, HG28⟩ := Kd.N_form HO_6.out (by omega)
                  (cases eo28)
                  have GB28 := am gb28
                  have GG28 := am HG28
                  clear gb28 gl28 HG28
                  (simp only [add_plain] at hx134_0)
                  (simp only [add_plain] at hx134_1)
                  (simp only [add_plain] at hx136_0)
                  (simp only [add_plain] at hx136_1)
                  obtain ⟨ce28, hcl28, hM28, hcc28, hfr28⟩ := Kd.N_elem HO_6.out z39 ((ji22) : Int) p28 q28
                  obtain ⟨ua28_1, uc28_1, rfl, ul28_1, ge28_1⟩ := k39_openF hM28
                  have hx28_0 : World.cell? _ ⟨go28, ((ji22) : Int).toNat * 2, none⟩ = some (.int .u64 ((rd_T39 x6_2 (ji22)).f0)) := hcc28 0 _ rfl
                  have hx28_1 : World.cell? _ ⟨go28, ((ji22) : Int).toNat * 2 + 1, none⟩ = some (.slice ua28_1 ((rd_T39 x6_2 (ji22)).f1).length uc28_1) := hcc28 1 _ rfl
                  have hf28_0 : World.frozen? _ ⟨go28, ((ji22) : Int).toNat * 2, none⟩ = false := hfr28 0
                  have hf28_1 : World.frozen? _ ⟨go28, ((ji22) : Int).toNat * 2 + 1, none⟩ = false := hfr28 1
                  clear hcl28 hcc28 hfr28 hM28
                  replace p28 := eq_true p28
                  replace q28 := eq_true q28
                  have HX36 := am (show Kd.N k39 39 _ w.heap.size (fun k_ => (w.heap.size ≤ k_) ∧ some k_ ≠ (.slice (some ad132) x31_2.length co17 : Value).ownBlock ∧ k_ ≠ gb133) (.slice (some ⟨go28, 0, none⟩) x6_2.length co31) x6_2 from (Kd.N_mono (HO_6.out) (fun k_ hk => ⟨hk.1, ⟨hk.2.1, hk.2.2⟩⟩)))
                  obtain ⟨ce36, hcl36, hM36, hcc36, hfr36⟩ := Kd.N_elem HX36.out z39 ((ji22) : Int) (of_decide_eq_true (by (with_reducible assumption))) (by have h_ : ((ji22) : Int) < ((x6_2.length : Int) : Int) := of_decide_eq_true (by (with_reducible assumption)); exact h_)
                  obtain ⟨ua36_1, uc36_1, rfl, ul36_1, ge36_1⟩ := k39_openF hM36
                  have HP36 := (Kd.N_seg HX36.out ((ji22) : Int) (of_decide_eq_true (by (with_reducible assumption))) (by have h_ : ((ji22) : Int) < ((x6_2.length : Int) : Int) := of_decide_eq_true (by (with_reducible assumption)); exact h_) (seg := [.int .u64 t137]) (j := 0) hcl36 hcc36 (show 1 ≤ 2 from by decide) (x' := (⟨t137, (rd_T39 x6_2 (ji22)).f1⟩ : S39)) (k39_mkF _ _ (⟨t137, (rd_T39 x6_2 (ji22)).f1⟩ : S39) ul36_1 ge36_1) (fun _ hk => hk)).1
                  rw [← Ny138.out] at HP36
                  have HQ36 := am HP36
                  clear hcl36 hcc36 hfr36 hM36 HP36
                  refine hK.out _ _ ⟨(blk_cell BK133.out 0).trans rfl, (blk_cell BK133.out 1).trans rfl, hHeld.2.2.1, hHeld.2.2.2⟩ (fun hHeld => ?_)
                  clear hK K
                  refine norm_ (a' := ?_) ?_ ?_
                  rotate_left
                  · show Act.put _ (some 64) _ = _
                    simp only [Act.put, sa, sb, sc, i64_w, i32_w]
                    rfl
                  refine pu HT_ (v := ?_) (a' := ?_) 12 65 rfl rfl (by kernel_rfl) (fun _ _ _ h => h) (Or.inl ⟨by rfl, ?_⟩) ?_ ?_
                  rotate_left
                  · intro w'
                    go_simp
                    with_reducible rfl
                  rotate_left
                  · simp only [Act.put, sa, sb, sc, i64_w, i32_w]
                    rfl
                  refine pu HT_ (v := ?_) (a' := ?_) 13 66 rfl rfl (by kernel_rfl) (fun _ _ _ h => h) (Or.inl ⟨by rfl, ?_⟩) ?_ ?_
                  rotate_left
                  · intro w'
                    go_simp
                    with_reducible rfl
                  rotate_left
                  · simp only [Act.put, sa, sb, sc, i64_w, i32_w]
                    rfl
                  refine last_ (i := 14) (N := none) #[true, true, true, true, true, true, true, true, true, true, true, true, true, true, true] rfl rfl (one_of HT_.out (by kernel_rfl)) (by decide) (fun K hK => ?_)
                  refine skip_ (w1 := ?_) (by rfl) rfl ?_ ?_
                  rotate_left
                  · go_simp
                    rfl
                  refine hK.out _ _ ?_
                  clear hK K
                  refine done_ (done_of HT_.out (by kernel_rfl)) ?_
                  try go_wp2
                  (try simp only [← hl31_2])
                  go_roundg k2
                  case measure => have := HK1.out; have := HK2.out; omega
                  case rel => exact ⟨(y138), (x31_2), (wrap64 (x33_2 + 1)), (by rfl), H', ⟨by have := HK1.out; have := HK2.out; omega⟩, ⟨by (try simp only [hl31_2]); exact Kd.N_mono HQ36.out (fun _ hk => ⟨hk.1, hk.2.1⟩)⟩, ⟨by (try simp only [hl31_2]); exact Kd.N_mono (Kd.N_far (p := ⟨go28, ((ji22) : Int).toNat * 2, none⟩) (Kd.N_mono HO_31.out (fun k_ hk => (⟨hk, fun e_ => hk.2.1 (by rw [e_]; rfl)⟩ : _ ∧ k_ ≠ go28))) (fun _ hk => hk.2) (.int .u64 t137)) (fun _ hk => ⟨hk.1.1, hk.1.2.1⟩)⟩, ⟨by repeat ((with_reducible first | exact HB.out | apply pw_below_drewN | refine below_set ?_ GB28.out))⟩⟩
                · rw [if_neg c26] at H
                  have c26b0 : (t135 == 0) = false := beq_eq_false_iff_ne.mpr c26
                  have c26b1 : (t135 != 0) = true := bne_iff_ne.mpr c26
                  replace H := its H
                  obtain ⟨c37, H⟩ := H
                  have LMc37 := am c37
                  clear c37
                  obtain ⟨y139, hy139⟩ : ∃ y_ : List (S39), y_ = (x6_2 ++ [(⟨(rd_T39 x31_2 x33_2).f0, (rd_T39 x31_2 x33_2).f1⟩ : S39)]) := ⟨_, rfl⟩
                  replace H : (cost_normal.l1 k2 y139 x31_2 (x3_1.length : Int) (wrap64 (x33_2 + 1))) = some r := by (rw [hy139]; with_reducible exact H)
                  have Ny139 := am hy139
                  clear hy139
                  have H' := am H
                  clear H
                  have p132 : 0 ≤ (x33_2 : Int) := of_decide_eq_true (by (with_reducible assumption))
                  have q132 : x33_2 < (x31_2.length : Int) := of_decide_eq_true (by (with_reducible assumption))
                  obtain ⟨ad132, A132_1, c132_1, e132, hx132_0, hx132_1, hl132_1, hi132_1⟩ := at_T39 (Kd.N_reads' HO_31.out).2.2 x33_2 p132 q132
                  cases e132
                  obtain ⟨ce132, hce132, hMe132, hcc132⟩ := Kd.N_get HO_31.out z39 x33_2 p132 (by exact q132)
                  obtain ⟨ua132_1, uc132_1, rfl, ul132_1, ge132_1⟩ := k39_openF hMe132
                  have hv132_1 := hcc132 1 _ rfl
                  rw [add_field _ _ 1 (by omega)] at hv132_1
                  replace hv132_1 := Option.some.inj (hv132_1.symm.trans hx132_1)
                  injection hv132_1 with hva_ hvn_ hvc_
                  rw [hva_] at ge132_1
                  rw [hvc_] at ul132_1
                  have HL132_1 := am (show Kd.V (Kd.int .i64) 3 _ w.heap.size _ _ ((rd_T39 x31_2 x33_2).f1) from Kd.V_mk ul132_1 ge132_1)
                  clear hva_ hvn_ hvc_ ge132_1 ul132_1
                  clear hcc132 hce132
                  have HR132_1 := am hi132_1
                  have HC132_1 := am hl132_1
                  clear hi132_1 hl132_1
                  replace p132 := eq_true p132
                  replace q132 := eq_true q132
                  try go_wp2_with (((with_reducible refine gate_dst (N := 8) rfl ?_); refine box_event ?hg (N := 8) ?hd (cs := #[.int .u64 0, .slice none 0 0]) (t := 39) ?hr ?_; (case hd => rfl); (case hg => rfl); (case hr => (go_simp; done)); intro gb133 hg w38 hbox hb; replace HO_6 := am (Kd.N_below (Kd.N_elderB HO_6.out gb133 (Nat.le_of_eq hg.symm)) hb); replace HO_31 := am (Kd.N_below (Kd.N_elderB HO_31.out gb133 (Nat.le_of_eq hg.symm)) hb); replace HL132_1 := am (Kd.V_below (Kd.V_elderB HL132_1.out gb133 (Nat.le_of_eq hg.symm)) hb); replace HR132_1 := am (Kd.C_below HR132_1.out hb); have BK133 := am (hbox); have GW133 := am ((by rw [hg]; exact (below_size HB.out) : w.heap.size ≤ gb133)); have GE133 := am ((by rw [hg]; exact (below_size HB.out) : w.heap.size ≤ gb133)); replace HB := am (below_step HB.out hb); clear hb hbox hg; have hcz39_0 : w38.cell? ⟨gb133, 0, none⟩ = some (.int .u64 0) := (blk_cell BK133.out 0).trans rfl; have hcz39_1 : w38.cell? ⟨gb133, 1, none⟩ = some (.slice none 0 0) := (blk_cell BK133.out 1).trans rfl; have hfz39_0 := blk_frozen BK133.out 0; have hfz39_1 := blk_frozen BK133.out 1; obtain ⟨Ao40, co40, eo40⟩ := Kd.N_slice HO_6.out; subst eo40))
                  have n0_ : Aside0 (Kd.N k39 39 ((w38.setCell ⟨gb133, 0, none⟩ (.int .u64 ((rd_T39 x31_2 x33_2).f0))).setCell ⟨gb133, 1, none⟩ (.slice A132_1 ((rd_T39 x31_2 x33_2).f1).length c132_1)) w.heap.size (fun k_ => (w.heap.size ≤ k_) ∧ some k_ ≠ (.slice (some ad132) x31_2.length co17 : Value).ownBlock ∧ k_ ≠ gb133) (.slice Ao40 x6_2.length co40) x6_2) := ⟨by exact Kd.N_mono (Kd.N_far (p := ⟨gb133, 1, none⟩) (Kd.N_far (p := ⟨gb133, 0, none⟩) (Kd.N_mono HO_6.out (fun k_ hk => (⟨hk, hk.2⟩ : _ ∧ k_ ≠ gb133))) (fun _ hk => hk.2) (.int .u64 ((rd_T39 x31_2 x33_2).f0))) (fun _ hk => hk.2) (.slice A132_1 ((rd_T39 x31_2 x33_2).f1).length c132_1)) (fun _ hk => ⟨hk.1.1.1, ⟨hk.1.1.2, hk.1.2⟩⟩)⟩
                  have n1_ : Aside0 (Kd.N k39 39 ((w38.setCell ⟨gb133, 0, none⟩ (.int .u64 ((rd_T39 x31_2 x33_2).f0))).setCell ⟨gb133, 1, none⟩ (.slice A132_1 ((rd_T39 x31_2 x33_2).f1).length c132_1)) w.heap.size (fun k_ => (w.heap.size ≤ k_) ∧ some k_ ≠ (.slice Ao40 x6_2.length co40 : Value).ownBlock ∧ k_ ≠ gb133) (.slice (some ad132) x31_2.length co17) x31_2) := ⟨by exact Kd.N_mono (Kd.N_far (p := ⟨gb133, 1, none⟩) (Kd.N_far (p := ⟨gb133, 0, none⟩) (Kd.N_mono HO_31.out (fun k_ hk => (⟨hk, hk.2⟩ : _ ∧ k_ ≠ gb133))) (fun _ hk => hk.2) (.int .u64 ((rd_T39 x31_2 x33_2).f0))) (fun _ hk => hk.2) (.slice A132_1 ((rd_T39 x31_2 x33_2).f1).length c132_1)) (fun _ hk => ⟨hk.1.1.1, ⟨hk.1.1.2, hk.1.2⟩⟩)⟩
                  have n2_ : Aside0 (Kd.V (Kd.int .i64) 3 ((w38.setCell ⟨gb133, 0, none⟩ (.int .u64 ((rd_T39 x31_2 x33_2).f0))).setCell ⟨gb133, 1, none⟩ (.slice A132_1 ((rd_T39 x31_2 x33_2).f1).length c132_1)) w.heap.size (fun k_ => (w.heap.size ≤ k_) ∧ some k_ ≠ (.slice Ao40 x6_2.length co40 : Value).ownBlock ∧ some k_ ≠ (.slice (some ad132) x31_2.length co17 : Value).ownBlock ∧ k_ ≠ gb133) (.slice A132_1 ((rd_T39 x31_2 x33_2).f1).length c132_1) ((rd_T39 x31_2 x33_2).f1)) := ⟨by exact Kd.V_mono (Kd.V_far (p := ⟨gb133, 1, none⟩) (Kd.V_far (p := ⟨gb133, 0, none⟩) (Kd.V_mono HL132_1.out (fun k_ hk => (⟨hk, hk.2⟩ : _ ∧ k_ ≠ gb133))) (fun _ hk => hk.2) (.int .u64 ((rd_T39 x31_2 x33_2).f0))) (fun _ hk => hk.2) (.slice A132_1 ((rd_T39 x31_2 x33_2).f1).length c132_1)) (fun _ hk => ⟨hk.1.1.1.1, ⟨hk.1.1.1.2, ⟨hk.1.1.2, hk.1.2⟩⟩⟩)⟩
                  have n3_ : Aside0 (((w38.setCell ⟨gb133, 0, none⟩ (.int .u64 ((rd_T39 x31_2 x33_2).f0))).setCell ⟨gb133, 1, none⟩ (.slice A132_1 ((rd_T39 x31_2 x33_2).f1).length c132_1)).heap[gb133]? = some (.cells #[.int .u64 ((rd_T39 x31_2 x33_2).f0), .slice A132_1 ((rd_T39 x31_2 x33_2).f1).length c132_1] 39 (0, 0))) := ⟨by (with_reducible repeat (first | refine blk_drewN ?_ _ | refine blk_drew ?_ | refine blk_alloc ?_ _)); refine blk_put (cs := #[.int .u64 ((rd_T39 x31_2 x33_2).f0), .slice none 0 0]) ?_ 1 _ rfl; (with_reducible repeat (first | refine blk_drewN ?_ _ | refine blk_drew ?_ | refine blk_alloc ?_ _)); refine blk_put (cs := #[.int .u64 0, .slice none 0 0]) ?_ 0 _ rfl; (with_reducible repeat (first | refine blk_drewN ?_ _ | refine blk_drew ?_ | refine blk_alloc ?_ _)); exact BK133.out⟩
                  have n4_ : Aside0 (Below w.heap.size w ((w38.setCell ⟨gb133, 0, none⟩ (.int .u64 ((rd_T39 x31_2 x33_2).f0))).setCell ⟨gb133, 1, none⟩ (.slice A132_1 ((rd_T39 x31_2 x33_2).f1).length c132_1))) := ⟨by repeat ((with_reducible first | exact HB.out | refine below_set ?_ GE133.out))⟩
                  (try clear HO_6)
                  (try clear HO_31)
                  (try clear HL132_1)
                  (try clear BK133)
                  (try clear HB)
                  generalize ((w38.setCell ⟨gb133, 0, none⟩ (.int .u64 ((rd_T39 x31_2 x33_2).f0))).setCell ⟨gb133, 1, none⟩ (.slice A132_1 ((rd_T39 x31_2 x33_2).f1).length c132_1)) = w41 at n0_ n1_ n2_ n3_ n4_ ⊢
                  have HO_6 := n0_
                  have HO_31 := n1_
                  have HL132_1 := n2_
                  have BK133 := n3_
                  have HB := n4_
                  clear n0_ n1_ n2_ n3_ n4_
                  have n0_ := am (Kd.N_drew HO_6.out)
                  have n1_ := am (Kd.N_drew HO_31.out)
                  have n2_ := am (Kd.V_drew HL132_1.out)
                  have n3_ := am (blk_drew BK133.out)
                  have n4_ := am (below_drew1 HB.out)
                  clear HO_6
                  clear HO_31
                  clear HL132_1
                  clear BK133
                  clear HB
                  have HO_6 := n0_
                  have HO_31 := n1_
                  have HL132_1 := n2_
                  have BK133 := n3_
                  have HB := n4_
                  clear n0_ n1_ n2_ n3_ n4_
                  have p134 : 0 ≤ ((ji22) : Int) := of_decide_eq_true (by (with_reducible assumption))
                  have q134 : (ji22) < (x6_2.length : Int) := of_decide_eq_true (by (with_reducible assumption))
                  obtain ⟨ad134, A134_1, c134_1, e134, hx134_0, hx134_1, hl134_1, hi134_1⟩ := at_T39 (Kd.N_reads' HO_6.out).2.2 (ji22) p134 q134
                  cases e134
                  obtain ⟨ce134, hce134, hMe134, hcc134⟩ := Kd.N_get HO_6.out z39 (ji22) p134 (by exact q134)
                  obtain ⟨ua134_1, uc134_1, rfl, ul134_1, ge134_1⟩ := k39_openF hMe134
                  have hv134_1 := hcc134 1 _ rfl
                  rw [add_field _ _ 1 (by omega)] at hv134_1
                  replace hv134_1 := Option.some.inj (hv134_1.symm.trans hx134_1)
                  injection hv134_1 with hva_ hvn_ hvc_
                  rw [hva_] at ge134_1
                  rw [hvc_] at ul134_1
                  have HL134_1 := am (show Kd.V (Kd.int .i64) 3 _ w.heap.size _ _ ((rd_T39 x6_2 (ji22)).f1) from Kd.V_mk ul134_1 ge134_1)
                  clear hva_ hvn_ hvc_ ge134_1 ul134_1
                  clear hcc134 hce134
                  have HR134_1 := am hi134_1
                  have HC134_1 := am hl134_1
                  clear hi134_1 hl134_1
                  replace p134 := eq_true p134
                  replace q134 := eq_true q134
                  refine start_ (n := 14) (S := fun w' => w'.cell? ⟨gb133, 0, none⟩ = some (.int .u64 ((rd_T39 x31_2 x33_2).f0)) ∧ w'.cell? ⟨gb133, 1, none⟩ = some (.slice A132_1 ((rd_T39 x31_2 x33_2).f1).length c132_1) ∧ w'.cell? (ad134.add (((ji22)).toNat * 2)) = some (.int .u64 ((rd_T39 x6_2 (ji22)).f0)) ∧ w'.cell? ⟨(ad134.add (((ji22)).toNat * 2)).block, (ad134.add (((ji22)).toNat * 2)).off + 1, none⟩ = some (.slice A134_1 ((rd_T39 x6_2 (ji22)).f1).length c134_1)) (ds := []) #[false, false, false, false, false, false, false, false, false, false, false, false, false, false] (by kernel_rfl) rfl rfl ⟨(blk_cell BK133.out 0).trans rfl, (blk_cell BK133.out 1).trans rfl, hx134_0, hx134_1⟩ (fun hHeld => ?_); refine with_tabW cost_normal.tab14 cost_normal.bits14 (fun HT_ HW_ => ?_)
                  generalize w41.drew = w42 at HO_6 HO_31 HL132_1 BK133 HB HL134_1 HR134_1 hx134_0 hx134_1 hHeld ⊢
                  refine pu HT_ (v := ?_) (a' := ?_) 0 39 rfl rfl (by kernel_rfl) (fun _ _ _ h => h) (Or.inl ⟨by rfl, ?_⟩) ?_ ?_
                  rotate_left
                  · intro w'
                    go_simp
                    with_reducible rfl
                  rotate_left
                  · simp only [Act.put, sa, sb, sc, i64_w, i32_w]
                    rfl
                  refine pu HT_ (v := ?_) (a' := ?_) 1 40 rfl rfl (by kernel_rfl) (fun _ _ _ h => h) (Or.inl ⟨by rfl, ?_⟩) ?_ ?_
                  rotate_left
                  · intro w'
                    go_simp
                    with_reducible rfl
                  rotate_left
                  · simp only [Act.put, sa, sb, sc, i64_w, i32_w]
                    rfl
                  refine pu HT_ (v := ?_) (a' := ?_) 2 41 rfl rfl (by kernel_rfl) (fun _ _ _ h => h) (Or.inl ⟨by rfl, ?_⟩) ?_ ?_
                  rotate_left
                  · intro w'
                    go_simp
                    with_reducible rfl
                  rotate_left
                  · simp only [Act.put, sa, sb, sc, i64_w, i32_w]
                    rfl
                  refine pu HT_ (v := ?_) (a' := ?_) 3 42 rfl rfl (by kernel_rfl) (fun _ _ _ h => h) (Or.inl ⟨by rfl, ?_⟩) ?_ ?_
                  rotate_left
                  · intro w'
                    go_simp
                    with_reducible rfl
                  rotate_left
                  · simp only [Act.put, sa, sb, sc, i64_w, i32_w]
                    rfl
                  refine pu HT_ (v := ?_) (a' := ?_) 4 43 rfl rfl (by kernel_rfl) (fun _ _ _ h => h) (Or.inl ⟨by rfl, ?_⟩) ?_ ?_
                  rotate_left
                  · intro w'
                    go_simp
                    with_reducible rfl
                  rotate_left
                  · simp only [Act.put, sa, sb, sc, i64_w, i32_w]
                    rfl
                  refine pu HT_ (v := ?_) (a' := ?_) 5 44 rfl rfl (by kernel_rfl) (fun _ _ _ h => h) (Or.inl ⟨by rfl, ?_⟩) ?_ ?_
                  rotate_left
                  · intro w'
                    go_simp
                    with_reducible rfl
                  rotate_left
                  · simp only [Act.put, sa, sb, sc, i64_w, i32_w]
                    rfl
                  refine pu HT_ (v := ?_) (a' := ?_) 6 45 rfl rfl (by kernel_rfl) (fun _ _ _ h => h) (Or.inl ⟨by rfl, ?_⟩) ?_ ?_
                  rotate_left
                  · intro w'
                    go_simp
                    with_reducible rfl
                  rotate_left
                  · simp only [Act.put, sa, sb, sc, i64_w, i32_w]
                    rfl
                  refine pu HT_ (v := ?_) (a' := ?_) 7 46 rfl rfl (by kernel_rfl) (fun _ _ _ h => h) (Or.inl ⟨by rfl, ?_⟩) ?_ ?_
                  rotate_left
                  · intro w'
                    go_simp
                    with_reducible rfl
                  rotate_left
                  · simp only [Act.put, sa, sb, sc, i64_w, i32_w]
                    rfl
                  refine pu HT_ (v := ?_) (a' := ?_) 9 48 rfl rfl (by kernel_rfl) (fun _ _ _ h => h) (Or.inl ⟨by rfl, ?_⟩) ?_ ?_
                  rotate_left
                  · intro w'
                    go_simp
                    with_reducible rfl
                  rotate_left
                  · simp only [Act.put, sa, sb, sc, i64_w, i32_w]
                    rfl
                  refine take_ (i := 8) (N := some 47) (v := ?_) (a' := ?_) #[true, true, true, true, true, true, true, true, true, true, false, false, false, false] rfl rfl (take_ofW HT_.out HW_.out (by kernel_rfl)) (fun _ _ _ h => h) (Or.inl ⟨by rfl, ?_⟩) hHeld ?_ ?_
                  rotate_left
                  · rintro w' ⟨s0, s1, s2, s3⟩
                    go_simp
                    with_reducible rfl
                  rotate_left
                  · simp only [Act.put, sa, sb, sc, i64_w, i32_w]
                    rfl
                  refine take_ (i := 10) (N := some 49) (v := ?_) (a' := ?_) #[true, true, true, true, true, true, true, true, true, true, true, false, false, false] rfl rfl (take_ofW HT_.out HW_.out (by kernel_rfl)) (fun _ _ _ h => h) (Or.inl ⟨by rfl, ?_⟩) hHeld ?_ ?_
                  rotate_left
                  · rintro w' ⟨s0, s1, s2, s3⟩
                    go_simp
                    with_reducible rfl
                  rotate_left
                  · simp only [Act.put, sa, sb, sc, i64_w, i32_w]
                    rfl
                  refine one_ (i := 11) (N := some 50) #[true, true, true, true, true, true, true, true, true, true, true, true, false, false] rfl rfl (one_of HT_.out (by kernel_rfl)) (by decide) (fun K hK => ?_)
                  refine goes_ Try.func42 (by kernel_rfl) rfl #[.slice A134_1 ((rd_T39 x6_2 (ji22)).f1).length c134_1, .slice A132_1 ((rd_T39 x31_2 x33_2).f1).length c132_1] (by rfl) rfl rfl (by (try simp only [List.map_toArray, List.map_cons, List.map_nil]); rfl) ?_
                  with_reducible refine (cost_order.calls k2 _ _ ((rd_T39 x6_2 (ji22)).f1) _ _ ((rd_T39 x31_2 x33_2).f1) t135 _ ?side1 ?side2 ?side3 ?side4 A25.out).mono ?_
                  (case side1 => exact HR134_1.out)
                  (case side2 => exact HC134_1.out)
                  (case side3 => repeat (exact ((Kd.V_reads' HL132_1.out).2.2)))
                  (case side4 => exact HC132_1.out)
                  rintro e w43 ⟨rfl, hb⟩
                  have HS2_ := (hb.cell (World.block_lt_of_cell? _ _ (hHeld.2.2.1))).trans (hHeld.2.2.1)
                  have HS3_ := (hb.cell (World.block_lt_of_cell? _ _ (hHeld.2.2.2))).trans (hHeld.2.2.2)
                  refine ⟨_, rfl, ?_⟩
                  have n0_ := am (Kd.N_below HO_6.out hb)
                  have n1_ := am (Kd.N_below HO_31.out hb)
                  have n2_ := am (Kd.V_below HL132_1.out hb)
                  have n3_ := am (Kd.V_below HL134_1.out hb)
                  have n4_ := am (blk_below (g := gb133) (o := .cells #[.int .u64 ((rd_T39 x31_2 x33_2).f0), .slice A132_1 ((rd_T39 x31_2 x33_2).f1).length c132_1] 39 (0, 0)) (by (with_reducible repeat (first | refine blk_drewN ?_ _ | refine blk_drew ?_ | refine blk_alloc ?_ _)); exact BK133.out) hb)
                  have n5_ := am (Kd.C_below HR134_1.out hb)
                  have n6_ := am (below_step HB.out hb)
                  clear HO_6
                  clear HO_31
                  clear HL132_1
                  clear HL134_1
                  clear BK133
                  clear HR134_1
                  clear HB
                  have HO_6 := n0_
                  have HO_31 := n1_
                  have HL132_1 := n2_
                  have HL134_1 := n3_
                  have BK133 := n4_
                  have HR134_1 := n5_
                  have HB := n6_
                  clear n0_ n1_ n2_ n3_ n4_ n5_ n6_
                  (try clear hb)
                  refine hK.out _ _ ⟨(blk_cell BK133.out 0).trans rfl, (blk_cell BK133.out 1).trans rfl, HS2_, HS3_⟩ (fun hHeld => ?_)
                  clear hK K
                  refine norm_ (a' := ?_) ?_ ?_
                  rotate_left
                  · show Act.put _ (some 50) _ = _
                    simp only [Act.put, sa, sb, sc, i64_w, i32_w]
                    rfl
                  refine pu HT_ (v := ?_) (a' := ?_) 12 51 rfl rfl (by kernel_rfl) (fun _ _ _ h => h) (Or.inl ⟨by rfl, ?_⟩) ?_ ?_
                  rotate_left
                  · intro w'
                    go_simp
                    with_reducible rfl
                  rotate_left
                  · simp only [Act.put, sa, sb, sc, i64_w, i32_w]
                    rfl
                  refine pu HT_ (v := ?_) (a' := ?_) 13 52 rfl rfl (by kernel_rfl) (fun _ _ _ h => h) (Or.inl ⟨by rfl, ?_⟩) ?_ ?_
                  rotate_left
                  · intro w'
                    go_simp
                    with_reducible rfl
                  rotate_left
                  · simp only [Act.put, sa, sb, sc, i64_w, i32_w]
                    rfl
                  refine done_ (done_of HT_.out (by kernel_rfl)) ?_
                  have hcz44_0 : w43.cell? ⟨gb133, 0, none⟩ = some (.int .u64 ((rd_T39 x31_2 x33_2).f0)) := (blk_cell BK133.out 0).trans rfl
                  have hcz44_1 : w43.cell? ⟨gb133, 1, none⟩ = some (.slice A132_1 ((rd_T39 x31_2 x33_2).f1).length c132_1) := (blk_cell BK133.out 1).trans rfl
                  have hfz44_0 := blk_frozen BK133.out 0
                  have hfz44_1 := blk_frozen BK133.out 1
                  try go_wp2_with (((with_reducible refine gate_builtin (b := .append) (xs := #[.tmp 67, .tmp 69]) rfl ?_); at_builtin; refine Kd.N_append k39 (w0 := w) w.heap.size rfl (.tmp 67) (.tmp 69) 22 39 (.agg #[(.int .u64 0), (.slice none 0 0)]) 32 rfl Try.underlying22 info39 rfl (by decide) (by omega) (.slice (some ad134) x6_2.length co40) x6_2 (⟨(rd_T39 x31_2 x33_2).f0, (rd_T39 x31_2 x33_2).f1⟩ : S39) [.int .u64 ((rd_T39 x31_2 x33_2).f0), .slice A132_1 ((rd_T39 x31_2 x33_2).f1).length c132_1] (fun k_ => (w.heap.size ≤ k_) ∧ some k_ ≠ (.slice (some ad132) x31_2.length co17 : Value).ownBlock ∧ k_ ≠ gb133) (fun k_ => ((fun k_ => (w.heap.size ≤ k_) ∧ some k_ ≠ (.slice (some ad132) x31_2.length co17 : Value).ownBlock ∧ k_ ≠ gb133)) k_ ∧ some k_ ≠ (.slice (some ad134) x6_2.length co40 : Value).ownBlock) rfl rfl ?aP (fun _ hk => hk) ?aF ?aO ?aB ?aS ?aL ?_; (case aP => exact (k39_mkF _ _ (⟨(rd_T39 x31_2 x33_2).f0, (rd_T39 x31_2 x33_2).f1⟩ : S39) (Kd.V_reads' (Kd.V_mono (ok' := (fun k_ => ((fun k_ => (w.heap.size ≤ k_) ∧ some k_ ≠ (.slice (some ad132) x31_2.length co17 : Value).ownBlock ∧ k_ ≠ gb133)) k_ ∧ some k_ ≠ (.slice (some ad134) x6_2.length co40 : Value).ownBlock)) (HL132_1.out) (fun k_ hk => ⟨⟨hk.1, ⟨hk.2.2.1, hk.2.2.2⟩⟩, hk.2.1⟩))).2.1 (Kd.V_F (Kd.V_mono (ok' := (fun k_ => ((fun k_ => (w.heap.size ≤ k_) ∧ some k_ ≠ (.slice (some ad132) x31_2.length co17 : Value).ownBlock ∧ k_ ≠ gb133)) k_ ∧ some k_ ≠ (.slice (some ad134) x6_2.length co40 : Value).ownBlock)) (HL132_1.out) (fun k_ hk => ⟨⟨hk.1, ⟨hk.2.2.1, hk.2.2.2⟩⟩, hk.2.1⟩))))); (case aB => exact HB.out); (case aF => exact (fun k_ hk => ⟨(Nat.le_trans (below_size HB.out) hk), Kd.fresh' (Kd.N_lt HO_31.out) k_ hk, Kd.freshB (g := gb133) (o := .cells #[.int .u64 ((rd_T39 x31_2 x33_2).f0), .slice A132_1 ((rd_T39 x31_2 x33_2).f1).length c132_1] 39 (0, 0)) (by (with_reducible repeat (first | refine blk_drewN ?_ _ | refine blk_drew ?_ | refine blk_alloc ?_ _)); exact BK133.out) k_ hk⟩)); (case aO => exact HO_6.out); (case aS => exact (below_size HB.out)); (case aL => have := LMc37.out; omega); intro v140 w45 ho hb hg hat; rw [← Ny139.out] at ho; replace HO_31 := am (Kd.N_afterv (ok := (fun k_ => (w.heap.size ≤ k_) ∧ k_ ≠ gb133)) (by exact Kd.N_mono HO_31.out (fun _ hk => ⟨⟨hk.1, hk.2.2⟩, hk.2.1⟩)) hg hat); replace HL132_1 := am (Kd.V_afterv (ok := (fun k_ => (w.heap.size ≤ k_) ∧ some k_ ≠ (.slice (some ad132) x31_2.length co17 : Value).ownBlock ∧ k_ ≠ gb133)) (by exact Kd.V_mono HL132_1.out (fun _ hk => ⟨⟨hk.1, ⟨hk.2.2.1, hk.2.2.2⟩⟩, hk.2.1⟩)) hg hat); replace BK133 := am (blk_grown (g := gb133) (o := .cells #[.int .u64 ((rd_T39 x31_2 x33_2).f0), .slice A132_1 ((rd_T39 x31_2 x33_2).f1).length c132_1] 39 (0, 0)) (by (with_reducible repeat (first | refine blk_drewN ?_ _ | refine blk_drew ?_ | refine blk_alloc ?_ _)); exact BK133.out) hg (Kd.N_away HO_6.out (fun _ hk => hk.2.2))); replace HL134_1 := am (Kd.V_afterv (ok := (fun k_ => (w.heap.size ≤ k_) ∧ some k_ ≠ (.slice (some ad132) x31_2.length co17 : Value).ownBlock ∧ k_ ≠ gb133)) HL134_1.out hg hat); replace HB := am (hb); have HO141 := am (ho); clear HO_6; clear ho hb hg hat))
                  (try simp only [← hl31_2])
                  go_roundg k2
                  case measure => have := HK1.out; have := HK2.out; omega
                  case rel => exact ⟨(y139), (x31_2), (wrap64 (x33_2 + 1)), (by rfl), H', ⟨by have := HK1.out; have := HK2.out; omega⟩, ⟨by (try simp only [hl31_2]); exact Kd.N_mono HO141.out (fun _ hk => ⟨hk.1, hk.2.1⟩)⟩, ⟨by (try simp only [hl31_2]); exact Kd.N_mono HO_31.out (fun _ hk => ⟨hk.1.1, hk.2⟩)⟩, ⟨by exact HB.out⟩⟩
              · rw [if_neg c21] at H
                have c21b0 : decide (0 < (x6_2.length : Int)) = false := decide_eq_false c21
                have c21b1 : decide (0 < x6_2.length) = false := decide_eq_false (by omega)
                clear c21
                replace H := its H
                obtain ⟨c46, H⟩ := H
                have LMc46 := am c46
                clear c46
                obtain ⟨y142, hy142⟩ : ∃ y_ : List (S39), y_ = (x6_2 ++ [(⟨(rd_T39 x31_2 x33_2).f0, (rd_T39 x31_2 x33_2).f1⟩ : S39)]) := ⟨_, rfl⟩
                replace H : (cost_normal.l1 k2 y142 x31_2 (x3_1.length : Int) (wrap64 (x33_2 + 1))) = some r := by (rw [hy142]; with_reducible exact H)
                have Ny142 := am hy142
                clear hy142
                have H' := am H
                clear H
                have p132 : 0 ≤ (x33_2 : Int) := of_decide_eq_true (by (with_reducible assumption))
                have q132 : x33_2 < (x31_2.length : Int) := of_decide_eq_true (by (with_reducible assumption))
                obtain ⟨ad132, A132_1, c132_1, e132, hx132_0, hx132_1, hl132_1, hi132_1⟩ := at_T39 (Kd.N_reads' HO_31.out).2.2 x33_2 p132 q132
                cases e132
                obtain ⟨ce132, hce132, hMe132, hcc132⟩ := Kd.N_get HO_31.out z39 x33_2 p132 (by exact q132)
                obtain ⟨ua132_1, uc132_1, rfl, ul132_1, ge132_1⟩ := k39_openF hMe132
                have hv132_1 := hcc132 1 _ rfl
                rw [add_field _ _ 1 (by omega)] at hv132_1
                replace hv132_1 := Option.some.inj (hv132_1.symm.trans hx132_1)
                injection hv132_1 with hva_ hvn_ hvc_
                rw [hva_] at ge132_1
                rw [hvc_] at ul132_1
                have HL132_1 := am (show Kd.V (Kd.int .i64) 3 _ w.heap.size _ _ ((rd_T39 x31_2 x33_2).f1) from Kd.V_mk ul132_1 ge132_1)
                clear hva_ hvn_ hvc_ ge132_1 ul132_1
                clear hcc132 hce132
                have HR132_1 := am hi132_1
                have HC132_1 := am hl132_1
                clear hi132_1 hl132_1
                replace p132 := eq_true p132
                replace q132 := eq_true q132
                try go_wp2_with (((with_reducible refine gate_dst (N := 8) rfl ?_); refine box_event ?hg (N := 8) ?hd (cs := #[.int .u64 0, .slice none 0 0]) (t := 39) ?hr ?_; (case hd => rfl); (case hg => rfl); (case hr => (go_simp; done)); intro gb133 hg w47 hbox hb; replace HO_6 := am (Kd.N_below (Kd.N_elderB HO_6.out gb133 (Nat.le_of_eq hg.symm)) hb); replace HO_31 := am (Kd.N_below (Kd.N_elderB HO_31.out gb133 (Nat.le_of_eq hg.symm)) hb); replace HL132_1 := am (Kd.V_below (Kd.V_elderB HL132_1.out gb133 (Nat.le_of_eq hg.symm)) hb); replace HR132_1 := am (Kd.C_below HR132_1.out hb); have BK133 := am (hbox); have GW133 := am ((by rw [hg]; exact (below_size HB.out) : w.heap.size ≤ gb133)); have GE133 := am ((by rw [hg]; exact (below_size HB.out) : w.heap.size ≤ gb133)); replace HB := am (below_step HB.out hb); clear hb hbox hg; have hcz48_0 : w47.cell? ⟨gb133, 0, none⟩ = some (.int .u64 0) := (blk_cell BK133.out 0).trans rfl; have hcz48_1 : w47.cell? ⟨gb133, 1, none⟩ = some (.slice none 0 0) := (blk_cell BK133.out 1).trans rfl; have hfz48_0 := blk_frozen BK133.out 0; have hfz48_1 := blk_frozen BK133.out 1; obtain ⟨Ao49, co49, eo49⟩ := Kd.N_slice HO_6.out; subst eo49))
                have n0_ : Aside0 (Kd.N k39 39 ((w47.setCell ⟨gb133, 0, none⟩ (.int .u64 ((rd_T39 x31_2 x33_2).f0))).setCell ⟨gb133, 1, none⟩ (.slice A132_1 ((rd_T39 x31_2 x33_2).f1).length c132_1)) w.heap.size (fun k_ => (w.heap.size ≤ k_) ∧ some k_ ≠ (.slice (some ad132) x31_2.length co17 : Value).ownBlock ∧ k_ ≠ gb133) (.slice Ao49 x6_2.length co49) x6_2) := ⟨by exact Kd.N_mono (Kd.N_far (p := ⟨gb133, 1, none⟩) (Kd.N_far (p := ⟨gb133, 0, none⟩) (Kd.N_mono HO_6.out (fun k_ hk => (⟨hk, hk.2⟩ : _ ∧ k_ ≠ gb133))) (fun _ hk => hk.2) (.int .u64 ((rd_T39 x31_2 x33_2).f0))) (fun _ hk => hk.2) (.slice A132_1 ((rd_T39 x31_2 x33_2).f1).length c132_1)) (fun _ hk => ⟨hk.1.1.1, ⟨hk.1.1.2, hk.1.2⟩⟩)⟩
                have n1_ : Aside0 (Kd.N k39 39 ((w47.setCell ⟨gb133, 0, none⟩ (.int .u64 ((rd_T39 x31_2 x33_2).f0))).setCell ⟨gb133, 1, none⟩ (.slice A132_1 ((rd_T39 x31_2 x33_2).f1).length c132_1)) w.heap.size (fun k_ => (w.heap.size ≤ k_) ∧ some k_ ≠ (.slice Ao49 x6_2.length co49 : Value).ownBlock ∧ k_ ≠ gb133) (.slice (some ad132) x31_2.length co17) x31_2) := ⟨by exact Kd.N_mono (Kd.N_far (p := ⟨gb133, 1, none⟩) (Kd.N_far (p := ⟨gb133, 0, none⟩) (Kd.N_mono HO_31.out (fun k_ hk => (⟨hk, hk.2⟩ : _ ∧ k_ ≠ gb133))) (fun _ hk => hk.2) (.int .u64 ((rd_T39 x31_2 x33_2).f0))) (fun _ hk => hk.2) (.slice A132_1 ((rd_T39 x31_2 x33_2).f1).length c132_1)) (fun _ hk => ⟨hk.1.1.1, ⟨hk.1.1.2, hk.1.2⟩⟩)⟩
                have n2_ : Aside0 (Kd.V (Kd.int .i64) 3 ((w47.setCell ⟨gb133, 0, none⟩ (.int .u64 ((rd_T39 x31_2 x33_2).f0))).setCell ⟨gb133, 1, none⟩ (.slice A132_1 ((rd_T39 x31_2 x33_2).f1).length c132_1)) w.heap.size (fun k_ => (w.heap.size ≤ k_) ∧ some k_ ≠ (.slice Ao49 x6_2.length co49 : Value).ownBlock ∧ some k_ ≠ (.slice (some ad132) x31_2.length co17 : Value).ownBlock ∧ k_ ≠ gb133) (.slice A132_1 ((rd_T39 x31_2 x33_2).f1).length c132_1) ((rd_T39 x31_2 x33_2).f1)) := ⟨by exact Kd.V_mono (Kd.V_far (p := ⟨gb133, 1, none⟩) (Kd.V_far (p := ⟨gb133, 0, none⟩) (Kd.V_mono HL132_1.out (fun k_ hk => (⟨hk, hk.2⟩ : _ ∧ k_ ≠ gb133))) (fun _ hk => hk.2) (.int .u64 ((rd_T39 x31_2 x33_2).f0))) (fun _ hk => hk.2) (.slice A132_1 ((rd_T39 x31_2 x33_2).f1).length c132_1)) (fun _ hk => ⟨hk.1.1.1.1, ⟨hk.1.1.1.2, ⟨hk.1.1.2, hk.1.2⟩⟩⟩)⟩
                have n3_ : Aside0 (((w47.setCell ⟨gb133, 0, none⟩ (.int .u64 ((rd_T39 x31_2 x33_2).f0))).setCell ⟨gb133, 1, none⟩ (.slice A132_1 ((rd_T39 x31_2 x33_2).f1).length c132_1)).heap[gb133]? = some (.cells #[.int .u64 ((rd_T39 x31_2 x33_2).f0), .slice A132_1 ((rd_T39 x31_2 x33_2).f1).length c132_1] 39 (0, 0))) := ⟨by (with_reducible repeat (first | refine blk_drewN ?_ _ | refine blk_drew ?_ | refine blk_alloc ?_ _)); refine blk_put (cs := #[.int .u64 ((rd_T39 x31_2 x33_2).f0), .slice none 0 0]) ?_ 1 _ rfl; (with_reducible repeat (first | refine blk_drewN ?_ _ | refine blk_drew ?_ | refine blk_alloc ?_ _)); refine blk_put (cs := #[.int .u64 0, .slice none 0 0]) ?_ 0 _ rfl; (with_reducible repeat (first | refine blk_drewN ?_ _ | refine blk_drew ?_ | refine blk_alloc ?_ _)); exact BK133.out⟩
                have n4_ : Aside0 (Below w.heap.size w ((w47.setCell ⟨gb133, 0, none⟩ (.int .u64 ((rd_T39 x31_2 x33_2).f0))).setCell ⟨gb133, 1, none⟩ (.slice A132_1 ((rd_T39 x31_2 x33_2).f1).length c132_1))) := ⟨by repeat ((with_reducible first | exact HB.out | refine below_set ?_ GE133.out))⟩
                (try clear HO_6)
                (try clear HO_31)
                (try clear HL132_1)
                (try clear BK133)
                (try clear HB)
                generalize ((w47.setCell ⟨gb133, 0, none⟩ (.int .u64 ((rd_T39 x31_2 x33_2).f0))).setCell ⟨gb133, 1, none⟩ (.slice A132_1 ((rd_T39 x31_2 x33_2).f1).length c132_1)) = w50 at n0_ n1_ n2_ n3_ n4_ ⊢
                have HO_6 := n0_
                have HO_31 := n1_
                have HL132_1 := n2_
                have BK133 := n3_
                have HB := n4_
                clear n0_ n1_ n2_ n3_ n4_
                have n0_ := am (Kd.N_drew HO_6.out)
                have n1_ := am (Kd.N_drew HO_31.out)
                have n2_ := am (Kd.V_drew HL132_1.out)
                have n3_ := am (blk_drew BK133.out)
                have n4_ := am (below_drew1 HB.out)
                clear HO_6
                clear HO_31
                clear HL132_1
                clear BK133
                clear HB
                have HO_6 := n0_
                have HO_31 := n1_
                have HL132_1 := n2_
                have BK133 := n3_
                have HB := n4_
                clear n0_ n1_ n2_ n3_ n4_
                refine start_ (n := 14) (S := fun w' => True) (ds := []) #[false, false, false, false, false, false, false, false, false, false, false, false, false, false] (by kernel_rfl) rfl rfl trivial (fun hHeld => ?_); refine with_tabW cost_normal.tab14 cost_normal.bits14 (fun HT_ HW_ => ?_)
                generalize w50.drew = w51 at HO_6 HO_31 HL132_1 BK133 HB hHeld ⊢
                refine pu HT_ (v := ?_) (a' := ?_) 0 39 rfl rfl (by kernel_rfl) (fun _ _ _ h => h) (Or.inl ⟨by rfl, ?_⟩) ?_ ?_
                rotate_left
                · intro w'
                  go_simp
                  with_reducible rfl
                rotate_left
                · simp only [Act.put, sa, sb, sc, i64_w, i32_w]
                  rfl
                refine pu HT_ (v := ?_) (a' := ?_) 1 40 rfl rfl (by kernel_rfl) (fun _ _ _ h => h) (Or.inl ⟨by rfl, ?_⟩) ?_ ?_
                rotate_left
                · intro w'
                  go_simp
                  with_reducible rfl
                rotate_left
                · simp only [Act.put, sa, sb, sc, i64_w, i32_w]
                  rfl
                refine pu HT_ (v := ?_) (a' := ?_) 2 41 rfl rfl (by kernel_rfl) (fun _ _ _ h => h) (Or.inl ⟨by rfl, ?_⟩) ?_ ?_
                rotate_left
                · intro w'
                  go_simp
                  with_reducible rfl
                rotate_left
                · simp only [Act.put, sa, sb, sc, i64_w, i32_w]
                  rfl
                refine pure_ (i := 3) (N := some 42) (v := undef) (a' := ?_) #[true, true, true, true, false, false, false, false, false, false, false, false, false, false] rfl rfl (any_of HT_.out (by kernel_rfl)) (fun _ _ _ h => h) (Or.inr ⟨by rfl, rfl⟩) ?_ ?_
                rotate_left
                · simp only [Act.put, sa, sb, sc, i64_w, i32_w]
                  rfl
                refine pure_ (i := 4) (N := some 43) (v := undef) (a' := ?_) #[true, true, true, true, true, false, false, false, false, false, false, false, false, false] rfl rfl (any_of HT_.out (by kernel_rfl)) (fun _ _ _ h => h) (Or.inr ⟨by rfl, rfl⟩) ?_ ?_
                rotate_left
                · simp only [Act.put, sa, sb, sc, i64_w, i32_w]
                  rfl
                refine pure_ (i := 5) (N := some 44) (v := undef) (a' := ?_) #[true, true, true, true, true, true, false, false, false, false, false, false, false, false] rfl rfl (any_of HT_.out (by kernel_rfl)) (fun _ _ _ h => h) (Or.inr ⟨by rfl, rfl⟩) ?_ ?_
                rotate_left
                · simp only [Act.put, sa, sb, sc, i64_w, i32_w]
                  rfl
                refine pure_ (i := 6) (N := some 45) (v := undef) (a' := ?_) #[true, true, true, true, true, true, true, false, false, false, false, false, false, false] rfl rfl (any_of HT_.out (by kernel_rfl)) (fun _ _ _ h => h) (Or.inr ⟨by rfl, rfl⟩) ?_ ?_
                rotate_left
                · simp only [Act.put, sa, sb, sc, i64_w, i32_w]
                  rfl
                refine pure_ (i := 7) (N := some 46) (v := undef) (a' := ?_) #[true, true, true, true, true, true, true, true, false, false, false, false, false, false] rfl rfl (any_of HT_.out (by kernel_rfl)) (fun _ _ _ h => h) (Or.inr ⟨by rfl, rfl⟩) ?_ ?_
                rotate_left
                · simp only [Act.put, sa, sb, sc, i64_w, i32_w]
                  rfl
                refine pure_ (i := 8) (N := some 47) (v := undef) (a' := ?_) #[true, true, true, true, true, true, true, true, true, false, false, false, false, false] rfl rfl (any_of HT_.out (by kernel_rfl)) (fun _ _ _ h => h) (Or.inr ⟨by rfl, rfl⟩) ?_ ?_
                rotate_left
                · simp only [Act.put, sa, sb, sc, i64_w, i32_w]
                  rfl
                refine pure_ (i := 9) (N := some 48) (v := undef) (a' := ?_) #[true, true, true, true, true, true, true, true, true, true, false, false, false, false] rfl rfl (any_of HT_.out (by kernel_rfl)) (fun _ _ _ h => h) (Or.inr ⟨by rfl, rfl⟩) ?_ ?_
                rotate_left
                · simp only [Act.put, sa, sb, sc, i64_w, i32_w]
                  rfl
                refine pure_ (i := 10) (N := some 49) (v := undef) (a' := ?_) #[true, true, true, true, true, true, true, true, true, true, true, false, false, false] rfl rfl (any_of HT_.out (by kernel_rfl)) (fun _ _ _ h => h) (Or.inr ⟨by rfl, rfl⟩) ?_ ?_
                rotate_left
                · simp only [Act.put, sa, sb, sc, i64_w, i32_w]
                  rfl
                refine pure_ (i := 11) (N := some 50) (v := undef) (a' := ?_) #[true, true, true, true, true, true, true, true, true, true, true, true, false, false] rfl rfl (any_of HT_.out (by kernel_rfl)) (fun _ _ _ h => h) (Or.inr ⟨by rfl, rfl⟩) ?_ ?_
                rotate_left
                · simp only [Act.put, sa, sb, sc, i64_w, i32_w]
                  rfl
                refine pure_ (i := 12) (N := some 51) (v := undef) (a' := ?_) #[true, true, true, true, true, true, true, true, true, true, true, true, true, false] rfl rfl (any_of HT_.out (by kernel_rfl)) (fun _ _ _ h => h) (Or.inr ⟨by rfl, rfl⟩) ?_ ?_
                rotate_left
                · simp only [Act.put, sa, sb, sc, i64_w, i32_w]
                  rfl
                refine pu HT_ (v := ?_) (a' := ?_) 13 52 rfl rfl (by kernel_rfl) (fun _ _ _ h => h) (Or.inl ⟨by rfl, ?_⟩) ?_ ?_
                rotate_left
                · intro w'
                  go_simp
                  with_reducible rfl
                rotate_left
                · simp only [Act.put, sa, sb, sc, i64_w, i32_w]
                  rfl
                refine done_ (done_of HT_.out (by kernel_rfl)) ?_
                have hcz52_0 : w51.cell? ⟨gb133, 0, none⟩ = some (.int .u64 ((rd_T39 x31_2 x33_2).f0)) := (blk_cell BK133.out 0).trans rfl
                have hcz52_1 : w51.cell? ⟨gb133, 1, none⟩ = some (.slice A132_1 ((rd_T39 x31_2 x33_2).f1).length c132_1) := (blk_cell BK133.out 1).trans rfl
                have hfz52_0 := blk_frozen BK133.out 0
                have hfz52_1 := blk_frozen BK133.out 1
                try go_wp2_with (((with_reducible refine gate_builtin (b := .append) (xs := #[.tmp 67, .tmp 69]) rfl ?_); at_builtin; refine Kd.N_append k39 (w0 := w) w.heap.size rfl (.tmp 67) (.tmp 69) 22 39 (.agg #[(.int .u64 0), (.slice none 0 0)]) 32 rfl Try.underlying22 info39 rfl (by decide) (by omega) (.slice Ao49 x6_2.length co49) x6_2 (⟨(rd_T39 x31_2 x33_2).f0, (rd_T39 x31_2 x33_2).f1⟩ : S39) [.int .u64 ((rd_T39 x31_2 x33_2).f0), .slice A132_1 ((rd_T39 x31_2 x33_2).f1).length c132_1] (fun k_ => (w.heap.size ≤ k_) ∧ some k_ ≠ (.slice (some ad132) x31_2.length co17 : Value).ownBlock ∧ k_ ≠ gb133) (fun k_ => ((fun k_ => (w.heap.size ≤ k_) ∧ some k_ ≠ (.slice (some ad132) x31_2.length co17 : Value).ownBlock ∧ k_ ≠ gb133)) k_ ∧ some k_ ≠ (.slice Ao49 x6_2.length co49 : Value).ownBlock) rfl rfl ?aP (fun _ hk => hk) ?aF ?aO ?aB ?aS ?aL ?_; (case aP => exact (k39_mkF _ _ (⟨(rd_T39 x31_2 x33_2).f0, (rd_T39 x31_2 x33_2).f1⟩ : S39) (Kd.V_reads' (Kd.V_mono (ok' := (fun k_ => ((fun k_ => (w.heap.size ≤ k_) ∧ some k_ ≠ (.slice (some ad132) x31_2.length co17 : Value).ownBlock ∧ k_ ≠ gb133)) k_ ∧ some k_ ≠ (.slice Ao49 x6_2.length co49 : Value).ownBlock)) (HL132_1.out) (fun k_ hk => ⟨⟨hk.1, ⟨hk.2.2.1, hk.2.2.2⟩⟩, hk.2.1⟩))).2.1 (Kd.V_F (Kd.V_mono (ok' := (fun k_ => ((fun k_ => (w.heap.size ≤ k_) ∧ some k_ ≠ (.slice (some ad132) x31_2.length co17 : Value).ownBlock ∧ k_ ≠ gb133)) k_ ∧ some k_ ≠ (.slice Ao49 x6_2.length co49 : Value).ownBlock)) (HL132_1.out) (fun k_ hk => ⟨⟨hk.1, ⟨hk.2.2.1, hk.2.2.2⟩⟩, hk.2.1⟩))))); (case aB => exact HB.out); (case aF => exact (fun k_ hk => ⟨(Nat.le_trans (below_size HB.out) hk), Kd.fresh' (Kd.N_lt HO_31.out) k_ hk, Kd.freshB (g := gb133) (o := .cells #[.int .u64 ((rd_T39 x31_2 x33_2).f0), .slice A132_1 ((rd_T39 x31_2 x33_2).f1).length c132_1] 39 (0, 0)) (by (with_reducible repeat (first | refine blk_drewN ?_ _ | refine blk_drew ?_ | refine blk_alloc ?_ _)); exact BK133.out) k_ hk⟩)); (case aO => exact HO_6.out); (case aS => exact (below_size HB.out)); (case aL => have := LMc46.out; omega); intro v143 w53 ho hb hg hat; rw [← Ny142.out] at ho; replace HO_31 := am (Kd.N_afterv (ok := (fun k_ => (w.heap.size ≤ k_) ∧ k_ ≠ gb133)) (by exact Kd.N_mono HO_31.out (fun _ hk => ⟨⟨hk.1, hk.2.2⟩, hk.2.1⟩)) hg hat); replace HL132_1 := am (Kd.V_afterv (ok := (fun k_ => (w.heap.size ≤ k_) ∧ some k_ ≠ (.slice (some ad132) x31_2.length co17 : Value).ownBlock ∧ k_ ≠ gb133)) (by exact Kd.V_mono HL132_1.out (fun _ hk => ⟨⟨hk.1, ⟨hk.2.2.1, hk.2.2.2⟩⟩, hk.2.1⟩)) hg hat); replace BK133 := am (blk_grown (g := gb133) (o := .cells #[.int .u64 ((rd_T39 x31_2 x33_2).f0), .slice A132_1 ((rd_T39 x31_2 x33_2).f1).length c132_1] 39 (0, 0)) (by (with_reducible repeat (first | refine blk_drewN ?_ _ | refine blk_drew ?_ | refine blk_alloc ?_ _)); exact BK133.out) hg (Kd.N_away HO_6.out (fun _ hk => hk.2.2))); replace HB := am (hb); have HO144 := am (ho); clear HO_6; clear ho hb hg hat))
                (try simp only [← hl31_2])
                go_roundg k2
                case measure => have := HK1.out; have := HK2.out; omega
                case rel => exact ⟨(y142), (x31_2), (wrap64 (x33_2 + 1)), (by rfl), H', ⟨by have := HK1.out; have := HK2.out; omega⟩, ⟨by (try simp only [hl31_2]); exact Kd.N_mono HO144.out (fun _ hk => ⟨hk.1, hk.2.1⟩)⟩, ⟨by (try simp only [hl31_2]); exact Kd.N_mono HO_31.out (fun _ hk => ⟨hk.1.1, hk.2⟩)⟩, ⟨by exact HB.out⟩⟩
            · rw [if_neg c18] at H
              have c18b0 : decide (x33_2 < (x3_1.length : Int)) = false := decide_eq_false c18
              clear c18
              (try simp only [hl31_2] at c18b0)
              obtain rfl := Option.some.inj H
              go_wp2
              go_ret
              exact ⟨_, by rfl, by exact Kd.N_mono HO_6.out (fun _ hk => hk.1), by exact HB.out⟩
end Go.Proofs.Ytkkocmmilmbgpaa.S
end
section
namespace Go.Proofs.Ytkkocmmilmbgpaa.S
open Go.RowKit Go.Proofs.YtkkocmmilmbgpaaW.PrintWords
set_option linter.unusedVariables false
set_option linter.unusedSimpArgs false
namespace Nf
open Mg Sym
theorem rdT (P : List S39) (t : S39) (ts : List S39) : rd_T39 (P ++ t :: ts) ((P.length : Nat) : Int) = t := by
  unfold rd_T39
  rw [Int.toNat_natCast, List.getD_eq_getElem?_getD, List.getElem?_append_right (Nat.le_refl _), Nat.sub_self]
  rfl
theorem wsucc (n : Nat) (h : n < 9223372036854775807) : wrap64 ((n : Int) + 1) = ((n + 1 : Nat) : Int) := by unfold wrap64; omega
theorem wpred (n : Nat) (h : n < 9223372036854775807) : wrap64 (((n + 1 : Nat) : Int) - 1) = (n : Int) := by unfold wrap64; omega
theorem clone_eq (l : List Int) (h : l.length < 17592186044416) : slices_Clone_int_int.f l = some l := by
  unfold slices_Clone_int_int.f
  rw [Option.bind_some, if_pos (by simpa using h), List.nil_append]
theorem cut_l0 (a : List Int) (hl : a.length < 1000000) : ∀ (n k : Nat), n ≤ a.length → tr a = tr (a.take n) → n + 1 ≤ k → cost_cut.l0 k a (n : Int) = some (tr a)
  | 0, 0, _, _, hk => by omega
  | 0, k + 1, _, h, _ => by
    rw [cost_cut.l0, if_neg (by omega), if_pos (by omega), if_pos (by omega), clone_eq _ (by simp), Option.bind_some, h]
    rfl
  | n + 1, 0, _, _, hk => by omega
  | n + 1, k + 1, hn, h, hk => by
    have hx : rd a (n : Int) = a[n] := by
      unfold rd
      rw [Int.toNat_natCast, List.getD_eq_getElem?_getD, List.getElem?_eq_getElem (by omega)]
      rfl
    have ht : a.take (n + 1) = a.take n ++ [a[n]] := by rw [List.take_succ_eq_append_getElem (by omega)]
    rw [cost_cut.l0, if_pos (by omega), wpred n (by omega), if_pos (by omega), if_pos (by omega), hx]
    by_cases hz : a[n] = 0
    · rw [if_pos hz]
      exact cut_l0 a hl n k (by omega) (by rw [h, ht, hz, tr_snoc0]) (by omega)
    · rw [if_neg hz, if_pos (by omega), if_pos (by omega), clone_eq _ (by rw [List.length_take]; omega), Option.bind_some, h, ht, tr_snoc hz, Int.toNat_natCast, ht]
theorem cut_eq (a : List Int) (hl : a.length < 1000000) (k : Nat) (hk : a.length + 1 ≤ k) : cost_cut.f k a = some (tr a) := by
  unfold cost_cut.f
  exact cut_l0 a hl a.length k (Nat.le_refl _) (by rw [List.take_length]) hk
theorem pl_eq (a b : Int) (ha : 0 ≤ a) (ha' : a ≤ 18446744073709551615) (hb : 0 ≤ b) (hb' : b ≤ 18446744073709551615) : cost_plus.f a b = some (pl a b) := by
  obtain ⟨a, rfl⟩ := Int.eq_ofNat_of_zero_le ha
  obtain ⟨b, rfl⟩ := Int.eq_ofNat_of_zero_le hb
  rw [Cost.plus_eq a b (by omega) (by omega)]
  unfold pl
  rw [Int.toNat_natCast, Int.toNat_natCast]
theorem norm_l1 (T : List S39) (hT : T.length < 1000000000) : ∀ (ts Q P : List S39) (c : S39), T = Q ++ ts → P.length + 1 + ts.length < 1000000000 → okC c → (∀ x ∈ ts, okC x) →
    ∀ k, ts.length + 2060 ≤ k → cost_normal.l1 k (P ++ [c]) T (T.length : Int) (Q.length : Int) = some (P ++ go c ts)
  | [], Q, P, c, hQ, hl, hc, _, 0, hk => by simp at hk
  | [], Q, P, c, hQ, hl, hc, _, k + 1, hk => by
    rw [cost_normal.l1, if_neg (by rw [hQ, List.append_nil]; omega)]
    rfl
  | t :: ts, Q, P, c, hQ, hl, hc, hok, 0, hk => by simp at hk
  | t :: ts, Q, P, c, hQ, hl, hc, hok, k + 1, hk => by
    have ht := hok t List.mem_cons_self
    have hTl : T.length = Q.length + (ts.length + 1) := by rw [hQ]; simp
    have hlp : ((P ++ [c]).length : Int) = ((P.length + 1 : Nat) : Int) := by simp
    rw [List.length_cons] at hk hl
    have hr1 : rd_T39 T (Q.length : Int) = t := by rw [hQ]; exact rdT Q t ts
    have hr2 : rd_T39 (P ++ [c]) ((P.length : Nat) : Int) = c := rdT P c []
    rw [cost_normal.l1, if_pos (by omega), if_pos (by omega), if_pos (by omega), if_pos (by omega), hlp, wpred _ (by omega), if_pos (by omega), if_pos (by omega), hr1, hr2,
      order_eq c.f1 t.f1 (by have := hc.1.1; omega) (by have := ht.1.1; omega) k (by have := hc.1.1; have := ht.1.1; omega), Option.bind_some, wsucc _ (by omega)]
    have hQ2 : T = (Q ++ [t]) ++ ts := by rw [hQ]; simp
    have hql : ((Q.length + 1 : Nat) : Int) = ((Q ++ [t]).length : Int) := by simp
    rw [go]
    by_cases e : ordT c.f1 t.f1 = 0
    · have hp1 : 1 ≤ pl c.f0 t.f0 ∧ pl c.f0 t.f0 ≤ 18446744073709551615 := by
        have := hc.2.2.1
        unfold pl; omega
      rw [if_pos e, if_pos e, pl_eq c.f0 t.f0 (by have := hc.2.2; omega) hc.2.2.2 (by have := ht.2.2; omega) ht.2.2.2, Option.bind_some, Int.toNat_natCast, List.set_append_right _ _ (Nat.le_refl _), Nat.sub_self, hql]
      exact norm_l1 T hT ts (Q ++ [t]) P ⟨pl c.f0 t.f0, c.f1⟩ hQ2 (by omega) ⟨hc.1, hc.2.1, hp1⟩ (fun x hx => hok x (List.mem_cons_of_mem _ hx)) k (by omega)
    · rw [if_neg e, if_neg e, if_pos (by simp; omega), hql]
      have := norm_l1 T hT ts (Q ++ [t]) (P ++ [c]) t hQ2 (by simp; omega) ht (fun x hx => hok x (List.mem_cons_of_mem _ hx)) k (by omega)
      rw [List.append_assoc] at this ⊢
      rw [List.append_assoc] at this
      exact this
theorem norm_l1_0 (T : List S39) (hT : T.length < 1000000000) (hok : ∀ x ∈ T, okC x) (k : Nat) (hk : T.length + 2061 ≤ k) : cost_normal.l1 k [] T (T.length : Int) 0 = some (nf1 T) := by
  obtain ⟨k, rfl⟩ : ∃ j, k = j + 1 := ⟨k - 1, by omega⟩
  match T with
  | [] => rw [cost_normal.l1, if_neg (by simp)]; rfl
  | c :: ts =>
    have hl : (((c :: ts).length : Nat) : Int) = ((ts.length + 1 : Nat) : Int) := rfl
    have hr : rd_T39 (c :: ts) 0 = c := rfl
    rw [cost_normal.l1, if_pos (by rw [hl]; omega), if_pos (by omega), if_pos (by rw [hl]; omega), if_neg (by simp), if_pos (by simp), hr]
    rw [List.length_cons] at hT hk
    rw [show wrap64 (0 + 1) = ((([c] : List S39).length : Nat) : Int) from by unfold wrap64; simp]
    exact norm_l1 (c :: ts) hT ts [c] [] c rfl (by simp; omega) (hok c List.mem_cons_self) (fun x hx => hok x (List.mem_cons_of_mem _ hx)) k (by omega)
theorem norm_l0 (T : List S39) (hT : T.length < 1000000000) (hok : ∀ x ∈ T, okA x) (K : Nat) (hK : 2000 ≤ K) (R : List S39)
    (hR : ∀ k, K ≤ k → (if ((prep T).all fun y => decide (y.f1.length < 4611686018427387904)) = true then ((api_Term_of_cost_normal_1_40.f k (prep T)).bind fun t500 => (cost_normal.l1 k ([] : List (S39)) t500 ((prep T).length : Int) 0)) else none) = some R) :
    ∀ (ts P : List S39), T = P ++ ts → ∀ k, K + ts.length + 1 ≤ k → cost_normal.l0 k (prep P) T (T.length : Int) (P.length : Int) = some R
  | [], P, hP, 0, hk => by omega
  | [], P, hP, k + 1, hk => by
    rw [List.append_nil] at hP
    subst hP
    rw [cost_normal.l0, if_neg (by omega)]
    exact hR k (by simp at hk; omega)
  | t :: ts, P, hP, 0, hk => by omega
  | t :: ts, P, hP, k + 1, hk => by
    have ht := hok t (by rw [hP]; simp)
    have hTl : T.length = P.length + (ts.length + 1) := by rw [hP]; simp
    have hr1 : rd_T39 T (P.length : Int) = t := by rw [hP]; exact rdT P t ts
    have hP2 : T = (P ++ [t]) ++ ts := by rw [hP]; simp
    have hql : ((P.length + 1 : Nat) : Int) = ((P ++ [t]).length : Int) := by simp
    have hpp : prep (P ++ [t]) = prep P ++ pre t := by simp [prep]
    have ih := norm_l0 T hT hok K hK R hR ts (P ++ [t]) hP2 k (by simp only [List.length_cons] at hk; omega)
    have hpl := prep_len P
    rw [cost_normal.l0, if_pos (by omega), if_pos (by omega), if_pos (by omega), hr1, wsucc _ (by omega), hql]
    by_cases h0 : t.f0 > 0
    · rw [if_pos h0, cut_eq t.f1 (by have := ht.1.1; omega) k (by have := ht.1.1; omega), Option.bind_some, if_pos (by omega)]
      rw [hpp, pre, if_pos h0] at ih
      exact ih
    · rw [if_neg h0]
      rw [hpp, pre, if_neg h0, List.append_nil] at ih
      exact ih
theorem normal_eq (T : List S39) (hT : T.length < 1000000000) (hok : ∀ x ∈ T, okA x) : ∃ K, ∀ k, K ≤ k → cost_normal.f k T = some (nf T) := by
  have hp := prep_len T
  have hokp : ∀ x ∈ prep T, Sym.okT x := fun x hx => (prep_ok hok x ((st_mem ltT).2 hx)).1
  refine ⟨(2060 + gN (prep T).length + ((prep T).length + 2) * 61 + (prep T).length + 3000) + T.length + 1, fun k hk => ?_⟩
  unfold cost_normal.f
  have := norm_l0 T hT hok (2060 + gN (prep T).length + ((prep T).length + 2) * 61 + (prep T).length + 3000) (by omega) (nf T) (fun k hk => by
    rw [if_pos (List.all_eq_true.2 (fun y hy => decide_eq_true (by have := (hokp y hy).1; omega)))]
    unfold api_Term_of_cost_normal_1_40.f
    rw [stable_terms (prep T) (by omega) hokp k (by omega), Option.bind_some, Option.bind_some]
    have := norm_l1_0 (st ltT (prep T)) (by rw [st_len]; omega) (prep_ok hok) k (by rw [st_len]; omega)
    rw [st_len] at this
    exact this) T [] rfl k hk
  exact this
end Nf
end Go.Proofs.Ytkkocmmilmbgpaa.S
end
section
namespace Go.Proofs.YtkkocmmilmbgpaaW.PrintWords
open Go Go.RowKit
set_option linter.unusedVariables false
namespace Kd
section
variable {P : Program} {ops : Array Oper} {rest : List Oper} {o : Oper} {a : Act} {Q : Exit → Act → World → Prop} {Kc : Act → World → Prop} {α : Type}
theorem R_make0_step (d : Kd α) {w0 W : World} (base e : Nat) (hw : Region.wanted o (yielded ops a.tmps) = true) {N : Tmp} (hd : o.dst = some N) (t : TypeId) (x y : Operand) (ho : o.op = .makeSlice t x y) (n : Int) (hx : a.eval x = .int .i64 0) (hy : a.eval y = .int .i64 n)
    (ht : P.underlying t = some (.slice e)) (z : Value) (bytes : Nat) (hinfo : (P.info? e).map (fun i => (i.zero, i.size, i.bytes)) = some (some z, d.sz, bytes)) (hz : z.cells.size = d.sz) (hs0 : 0 < d.sz) (hb0 : 0 < bytes)
    (z0 : α) {ok okp : Nat → Prop} (hzero : d.M W base okp z0 z.cells.toList) (hok : ∀ k, okp k → ok k) (hfresh : ok W.heap.size) (h0 : 0 ≤ n) (hl : n.toNat * bytes ≤ 281474976710656) (HB : Below base w0 W) (hbase : base ≤ W.heap.size)
    (h : ∀ v1 w1, d.R e w1 base ok v1 [] → Below base w0 w1 → W.grownBy w1 none → (∃ b, v1.ownBlock = some b ∧ W.heap.size ≤ b) → Kc (a.put o.dst v1) w1) : if Region.wanted o (yielded ops a.tmps) = true then Oper.wp P o a W Kc Q else Kc (a.put o.dst undef) W := by
  obtain ⟨v1, w1, hrun, hR, hb, hg, hat⟩ := make0_run (d := d) (P := P) (a := a) base e t x y ho n hx hy ht z bytes hinfo hb0 hfresh h0 hl hbase
  rw [if_pos hw]
  unfold Oper.wp
  rw [hrun]
  exact h v1 w1 hR (HB.grown hg hbase (by intro k hk; cases hk)) hg hat
end
end Kd
end Go.Proofs.YtkkocmmilmbgpaaW.PrintWords
end
section
namespace Go.Proofs.Ytkkocmmilmbgpaa.S
open Go.RowKit Go.Proofs.YtkkocmmilmbgpaaW.PrintWords Go.Proofs.YtkkocmmilmbgpaaW.PrintLast Go.Proofs.YtkkocmmilmbgpaaW.PrintMore
attribute [local go_sem] max2_int min2_int max_two min_two max_three min_three max_four min_four
set_option linter.unusedVariables false
set_option linter.unusedSimpArgs false
def locksteplaw28_own.l0 : Nat → List (S39) → List (S39) → Int → Option ((List (S39)))
  | 0, _, _, _ => none
  | k + 1, x0, x3, x4 => if x4 < (x0.length : Int) then (if 0 ≤ x4 then (if 0 ≤ (wrap64 ((((rd_T39 x0 x4).f1).length : Int) + 1)) then (if (wrap64 ((((rd_T39 x0 x4).f1).length : Int) + 1) : Int).toNat ≤ 35184372088832 then ((some (([] : List Int) : List Int)).bind fun y245 => (if y245.length + ((rd_T39 x0 x4).f1).length < 17592186044416 then (if x3.length < 4398046511104 then (locksteplaw28_own.l0 k x0 (x3 ++ [(⟨(rd_T39 x0 x4).f0, (y245 ++ ((rd_T39 x0 x4).f1))⟩ : S39)]) (wrap64 (x4 + 1))) else (none)) else (none))) else (none)) else (none)) else (none)) else (some x3)
def locksteplaw28_own.f (k : Nat) (l0 : List (S39)) : Option ((List (S39))) := if 0 ≤ (wrap64 ((l0.length : Int) + 1)) then (if (wrap64 ((l0.length : Int) + 1) : Int).toNat ≤ 8796093022208 then (locksteplaw28_own.l0 k l0 (([] : List (S39))) 0) else (none)) else (none)
theorem locksteplaw28_own.mono_l : ∀ k, (∀ y0 y1 y2, LeO (locksteplaw28_own.l0 k y0 y1 y2) (locksteplaw28_own.l0 (k + 1) y0 y1 y2))
  | 0 => fun _ _ _ r h => by simp [locksteplaw28_own.l0] at h
  | k + 1 => by
    have ih0 := locksteplaw28_own.mono_l k
    · intro y0 y1 y2
      unfold locksteplaw28_own.l0
      repeat' first
      | (with_reducible exact ih0 _ _ _)
      | (with_reducible exact LeO.refl _)
      | (with_reducible exact LeO.none _)
      | (with_reducible refine LeO.ite ?_ ?_)
      | (with_reducible refine LeO.bind ?_ (fun _ => ?_))
      | exact ih0 _ _ _
      | exact LeO.none _
      | refine LeO.ite ?_ ?_
      | refine LeO.bind ?_ (fun _ => ?_)
theorem locksteplaw28_own.mono : ∀ a0 k, LeO (locksteplaw28_own.f k a0) (locksteplaw28_own.f (k + 1) a0) := by
  intro a0 k
  have ih0 := locksteplaw28_own.mono_l k
  unfold locksteplaw28_own.f
  repeat' first
      | (with_reducible exact ih0 _ _ _)
      | (with_reducible exact LeO.refl _)
      | (with_reducible exact LeO.none _)
      | (with_reducible refine LeO.ite ?_ ?_)
      | (with_reducible refine LeO.bind ?_ (fun _ => ?_))
      | exact ih0 _ _ _
      | exact LeO.none _
      | refine LeO.ite ?_ ?_
      | refine LeO.bind ?_ (fun _ => ?_)
def locksteplaw28_own.T5 : Bool × List (List Nat × List Nat) := (true, [([], []), ([], []), ([], []), ([1, 2], [1, 2]), ([3], [3]), ([4], [4]), ([], []), ([], []), ([6, 7], [6, 7]), ([8], [8]), ([9], [9]), ([10], [10]), ([11], [11]), ([12], [12]), ([], []), ([], []), ([14, 15], [14, 15]), ([16], [16]), ([17], [17]), ([13, 18], [13, 18]), ([5, 19], [5, 19]), ([20], [20]), ([0, 21, 19], [0, 21]), ([22, 22, 0, 1, 2, 3, 4, 5, 6, 7, 8, 9, 10, 11, 12, 13, 14, 15, 16, 17, 18, 19, 20, 21, 22], [0, 22])])
def locksteplaw28_own.B5 : List Nat := [0, 0, 0, 6, 14, 30, 0, 0, 192, 448, 960, 1984, 4032, 8128, 0, 0, 49152, 114688, 245760, 524224, 1048574, 2097150, 4194303, 8388607]
theorem locksteplaw28_own.tab5 : rtab .any (opsOf Try.f9 5) = locksteplaw28_own.T5 := by kernel_rfl
theorem locksteplaw28_own.bits5 : waitsOk locksteplaw28_own.T5.2 locksteplaw28_own.B5 = true := by kernel_rfl
set_option maxHeartbeats 8000000 in
set_option maxRecDepth 100000 in
theorem locksteplaw28_own.calls (k : Nat) (A0 : Option Addr) (c0 : Nat) (l0 : List (S39)) (r : List (S39)) (w : World) (hr0 : Kd.C k39 w A0 l0.length l0) (hc0 : l0.length ≤ c0) (h : locksteplaw28_own.f k l0 = some r) :
    Calls Try.prog 9 #[.slice A0 l0.length c0] w fun e w' => ∃ v0_ : Value, e = .returned (v0_) ∧ Kd.R k39 39 w' w.heap.size (fun _ => True) v0_ r ∧ Below w.heap.size w w' := by
  have hu39 := Try.underlying39
  have HR0 := am hr0
  have HC0 := am hc0
  clear hr0 hc0
  have HB := am (Below.refl w.heap.size w)
  have H : (if 0 ≤ (wrap64 ((l0.length : Int) + 1)) then (if (wrap64 ((l0.length : Int) + 1) : Int).toNat ≤ 8796093022208 then (locksteplaw28_own.l0 k l0 (([] : List (S39))) 0) else (none)) else (none)) = some r := h
  clear h
  obtain ⟨ji2, hji2⟩ : ∃ j_ : Int, (wrap64 ((l0.length : Int) + 1)) = j_ := ⟨_, rfl⟩
  replace H : (if 0 ≤ (ji2) then (if (ji2 : Int).toNat ≤ 8796093022208 then (locksteplaw28_own.l0 k l0 (([] : List (S39))) 0) else (none)) else (none)) = some r := by (rw [hji2] at H; exact H)
  have hji2w : (IntKind.i64.wrap ((l0.length : Int) + 1)) = ji2 := (i64_w _).trans hji2
  replace H := its H
  obtain ⟨c3, H⟩ := H
  have c3b0 := eq_true c3
  have c3b1 : decide (0 ≤ (ji2)) = true := decide_eq_true c3
  clear c3
  replace H := its H
  obtain ⟨c4, H⟩ := H
  have c4b0 := eq_true c4
  have c4b1 : decide ((ji2 : Int).toNat ≤ 8796093022208) = true := decide_eq_true c4
  clear c4
  obtain ⟨y240, hy240⟩ : ∃ y_ : List (S39), y_ = (([] : List (S39))) := ⟨_, rfl⟩
  replace H : (locksteplaw28_own.l0 k l0 y240 0) = some r := by (rw [hy240]; with_reducible exact H)
  have Ny240 := am hy240
  clear hy240
  have H' := am H
  clear H
  go_enter Try.func9, Try.ntmps9
  go_wp2_with (((with_reducible refine gate_dst (N := 8) rfl ?_); refine Kd.R_make0 k39 _ 39 rfl (N := 8) rfl 22 _ _ rfl ji2 rfl rfl Try.underlying22 (.agg #[(.int .u64 0), (.slice none 0 0)]) 32 info39 rfl (by decide) (by omega) z39 (ok := fun _ => True) (okp := fun _ => True) (k39_mkM _ _ _ z39 (Kd.R_nil _ _ _ _ _)) (fun _ hk => hk) trivial (of_decide_eq_true (by (with_reducible assumption))) (Nat.le_trans (Nat.mul_le_mul_right _ (of_decide_eq_true (by (with_reducible assumption)) : ji2.toNat ≤ 8796093022208)) (by omega)) (Below.refl _ _) (Nat.le_refl _) ?_; intro v241 w5 ho6 hb hg_ hnew_; clear hg_ hnew_; (rw [← Ny240.out] at ho6); have HO242 := am (Kd.R_lower ho6 (below_size HB.out)); replace HB := am (below_step HB.out hb); clear hb ho6))
  go_loopg [3, 4] k (fun kq v3 v4 w' => ∃ (x3_1 : List (S39)) (x4_1 : Int), v4 = .int .i64 x4_1 ∧ Aside0 (locksteplaw28_own.l0 kq l0 x3_1 x4_1 = some r) ∧ Aside0 (kq ≤ k) ∧ Aside0 (Kd.R k39 39 w' w.heap.size (fun _ => True) v3 x3_1) ∧ Aside0 (Below w.heap.size w w'))
  case atStart => exact ⟨(y240), (0), (by rfl), H', ⟨Nat.le_refl _⟩, ⟨by exact HO242.out⟩, ⟨by exact HB.out⟩⟩
  case round =>
    clear H'
    try clear c3b0
    try clear c3b1
    try clear c4b0
    try clear c4b1
    obtain ⟨x3_1, x4_1, rfl, HA, HK1, HO_3, HB⟩ := hrel
    cases gk with
    | zero => exact absurd HA.out (by simp [locksteplaw28_own.l0])
    | succ k1 =>
      have H := HA.out
      clear HA
      simp only [locksteplaw28_own.l0] at H
      by_cases c7 : x4_1 < (l0.length : Int)
      · rw [if_pos c7] at H
        have c7b0 : decide (x4_1 < (l0.length : Int)) = true := decide_eq_true c7
        clear c7
        replace H := its H
        obtain ⟨c8, H⟩ := H
        have c8b0 : decide (0 ≤ x4_1) = true := decide_eq_true c8
        clear c8
        obtain ⟨ji9, hji9⟩ : ∃ j_ : Int, (wrap64 ((((rd_T39 l0 x4_1).f1).length : Int) + 1)) = j_ := ⟨_, rfl⟩
        replace H : (if 0 ≤ (ji9) then (if (ji9 : Int).toNat ≤ 35184372088832 then ((some (([] : List Int) : List Int)).bind fun y245 => (if y245.length + ((rd_T39 l0 x4_1).f1).length < 17592186044416 then (if x3_1.length < 4398046511104 then (locksteplaw28_own.l0 k1 l0 (x3_1 ++ [(⟨(rd_T39 l0 x4_1).f0, (y245 ++ ((rd_T39 l0 x4_1).f1))⟩ : S39)]) (wrap64 (x4_1 + 1))) else (none)) else (none))) else (none)) else (none)) = some r := by (rw [hji9] at H; exact H)
        have hji9w : (IntKind.i64.wrap ((((rd_T39 l0 x4_1).f1).length : Int) + 1)) = ji9 := (i64_w _).trans hji9
        replace H := its H
        obtain ⟨c10, H⟩ := H
        have c10b0 := eq_true c10
        have c10b1 : decide (0 ≤ (ji9)) = true := decide_eq_true c10
        clear c10
        replace H := its H
        obtain ⟨c11, H⟩ := H
        have c11b0 := eq_true c11
        have c11b1 : decide ((ji9 : Int).toNat ≤ 35184372088832) = true := decide_eq_true c11
        clear c11
        obtain ⟨y245, hy245⟩ : ∃ y_ : List Int, y_ = (([] : List Int)) := ⟨_, rfl⟩
        replace H : (if y245.length + ((rd_T39 l0 x4_1).f1).length < 17592186044416 then (if x3_1.length < 4398046511104 then (locksteplaw28_own.l0 k1 l0 (x3_1 ++ [(⟨(rd_T39 l0 x4_1).f0, (y245 ++ ((rd_T39 l0 x4_1).f1))⟩ : S39)]) (wrap64 (x4_1 + 1))) else (none)) else (none)) = some r := by (have H2_ := (Option.bind_some _ _).symm.trans H; rw [hy245]; with_reducible exact H2_)
        have Ny245 := am hy245
        clear hy245
        replace H := its H
        obtain ⟨c12, H⟩ := H
        have LMc12 := am c12
        clear c12
        obtain ⟨y249, hy249⟩ : ∃ y_ : List Int, y_ = (y245 ++ ((rd_T39 l0 x4_1).f1)) := ⟨_, rfl⟩
        replace H : (if x3_1.length < 4398046511104 then (locksteplaw28_own.l0 k1 l0 (x3_1 ++ [(⟨(rd_T39 l0 x4_1).f0, y249⟩ : S39)]) (wrap64 (x4_1 + 1))) else (none)) = some r := by (rw [hy249]; with_reducible exact H)
        have Ny249 := am hy249
        clear hy249
        replace H := its H
        obtain ⟨c13, H⟩ := H
        have LMc13 := am c13
        clear c13
        obtain ⟨y252, hy252⟩ : ∃ y_ : List (S39), y_ = (x3_1 ++ [(⟨(rd_T39 l0 x4_1).f0, y249⟩ : S39)]) := ⟨_, rfl⟩
        replace H : (locksteplaw28_own.l0 k1 l0 y252 (wrap64 (x4_1 + 1))) = some r := by (rw [hy252]; with_reducible exact H)
        have Ny252 := am hy252
        clear hy252
        have H' := am H
        clear H
        try go_wp2
        have n0_ := am (Kd.R_drew HO_3.out)
        have n1_ := am (below_drew1 HB.out)
        clear HO_3
        clear HB
        have HO_3 := n0_
        have HB := n1_
        clear n0_ n1_
        have p243 : 0 ≤ (x4_1 : Int) := of_decide_eq_true (by (with_reducible assumption))
        have q243 : x4_1 < (l0.length : Int) := of_decide_eq_true (by (with_reducible assumption))
        obtain ⟨ad243, A243_1, c243_1, e243, hx243_0, hx243_1, hl243_1, hi243_1⟩ := at_T39 HR0.out x4_1 p243 q243
        have hw243_1 := hx243_1
        have hw243_0 := hx243_0
        cases e243
        replace hx243_0 := (HB.out.cell (World.block_lt_of_cell? w _ hx243_0)).trans hx243_0
        replace hx243_1 := (HB.out.cell (World.block_lt_of_cell? w _ hx243_1)).trans hx243_1
        have HR243_1 := am hi243_1
        have HC243_1 := am hl243_1
        clear hi243_1 hl243_1
        replace p243 := eq_true p243
        replace q243 := eq_true q243
        have p244 : 0 ≤ (x4_1 : Int) := of_decide_eq_true (by (with_reducible assumption))
        have q244 : x4_1 < (l0.length : Int) := of_decide_eq_true (by (with_reducible assumption))
        obtain ⟨ad244, A244_1, c244_1, e244, hx244_0, hx244_1, hl244_1, hi244_1⟩ := at_T39 HR0.out x4_1 p244 q244
        have hw244_1 := hx244_1
        have hw244_0 := hx244_0
        obtain rfl : ad243 = ad244 := (by injection e244)
        replace hx244_0 := (HB.out.cell (World.block_lt_of_cell? w _ hx244_0)).trans hx244_0
        replace hx244_1 := (HB.out.cell (World.block_lt_of_cell? w _ hx244_1)).trans hx244_1
        have HR244_1 := am hi244_1
        have HC244_1 := am hl244_1
        clear hi244_1 hl244_1
        replace p244 := eq_true p244
        replace q244 := eq_true q244
        have ea_ := Option.some.inj (hx243_1.symm.trans hx244_1)
        injection ea_ with ea_ en_ ec_
        subst ea_
        subst ec_
        clear en_
        have p248 : 0 ≤ (x4_1 : Int) := of_decide_eq_true (by (with_reducible assumption))
        have q248 : x4_1 < (l0.length : Int) := of_decide_eq_true (by (with_reducible assumption))
        obtain ⟨ad248, A248_1, c248_1, e248, hx248_0, hx248_1, hl248_1, hi248_1⟩ := at_T39 HR0.out x4_1 p248 q248
        have hw248_1 := hx248_1
        have hw248_0 := hx248_0
        obtain rfl : ad243 = ad248 := (by injection e248)
        replace hx248_0 := (HB.out.cell (World.block_lt_of_cell? w _ hx248_0)).trans hx248_0
        replace hx248_1 := (HB.out.cell (World.block_lt_of_cell? w _ hx248_1)).trans hx248_1
        have HR248_1 := am hi248_1
        have HC248_1 := am hl248_1
        clear hi248_1 hl248_1
        replace p248 := eq_true p248
        replace q248 := eq_true q248
        have ea_ := Option.some.inj (hx243_1.symm.trans hx248_1)
        injection ea_ with ea_ en_ ec_
        subst ea_
        subst ec_
        clear en_
        refine start_ (n := 24) (S := fun w' => w'.cell? (ad243.add ((x4_1).toNat * 2)) = some (.int .u64 ((rd_T39 l0 x4_1).f0)) ∧ w'.cell? ⟨(ad243.add ((x4_1).toNat * 2)).block, (ad243.add ((x4_1).toNat * 2)).off + 1, none⟩ = some (.slice A243_1 ((rd_T39 l0 x4_1).f1).length c243_1) ∧ w'.cell? (ad243.add ((x4_1).toNat * 2)) = some (.int .u64 ((rd_T39 l0 x4_1).f0)) ∧ w'.cell? ⟨(ad243.add ((x4_1).toNat * 2)).block, (ad243.add ((x4_1).toNat * 2)).off + 1, none⟩ = some (.slice A243_1 ((rd_T39 l0 x4_1).f1).length c243_1) ∧ w'.cell? (ad243.add ((x4_1).toNat * 2)) = some (.int .u64 ((rd_T39 l0 x4_1).f0)) ∧ w'.cell? ⟨(ad243.add ((x4_1).toNat * 2)).block, (ad243.add ((x4_1).toNat * 2)).off + 1, none⟩ = some (.slice A243_1 ((rd_T39 l0 x4_1).f1).length c243_1)) (ds := []) #[false, false, false, false, false, false, false, false, false, false, false, false, false, false, false, false, false, false, false, false, false, false, false, false] (by kernel_rfl) rfl rfl ⟨((HB.out.cell (World.block_lt_of_cell? w _ hw243_0)).trans hw243_0), ((HB.out.cell (World.block_lt_of_cell? w _ hw243_1)).trans hw243_1), ((HB.out.cell (World.block_lt_of_cell? w _ hw244_0)).trans hw244_0), ((HB.out.cell (World.block_lt_of_cell? w _ hw244_1)).trans hw244_1), ((HB.out.cell (World.block_lt_of_cell? w _ hw248_0)).trans hw248_0), ((HB.out.cell (World.block_lt_of_cell? w _ hw248_1)).trans hw248_1)⟩ (fun hHeld => ?_); refine with_tabW locksteplaw28_own.tab5 locksteplaw28_own.bits5 (fun HT_ HW_ => ?_)
        generalize wr.drew = w14 at HO_3 HB HR243_1 HR244_1 HR248_1 hx243_0 hx243_1 hx244_0 hx244_1 hx248_0 hx248_1 hHeld ⊢
        refine pu HT_ (v := ?_) (a' := ?_) 0 15 rfl rfl (by kernel_rfl) (fun _ _ _ h => h) (Or.inl ⟨by rfl, ?_⟩) ?_ ?_
        rotate_left
        · intro w'
          go_simp
          with_reducible rfl
        rotate_left
        · simp only [Act.put, sa, sb, sc, i64_w, i32_w]
          rfl
        refine pu HT_ (v := ?_) (a' := ?_) 1 16 rfl rfl (by kernel_rfl) (fun _ _ _ h => h) (Or.inl ⟨by rfl, ?_⟩) ?_ ?_
        rotate_left
        · intro w'
          go_simp
          with_reducible rfl
        rotate_left
        · simp only [Act.put, sa, sb, sc, i64_w, i32_w]
          rfl
        refine pu HT_ (v := ?_) (a' := ?_) 2 17 rfl rfl (by kernel_rfl) (fun _ _ _ h => h) (Or.inl ⟨by rfl, ?_⟩) ?_ ?_
        rotate_left
        · intro w'
          go_simp
          with_reducible rfl
        rotate_left
        · simp only [Act.put, sa, sb, sc, i64_w, i32_w]
          rfl
        refine pu HT_ (v := ?_) (a' := ?_) 3 18 rfl rfl (by kernel_rfl) (fun _ _ _ h => h) (Or.inl ⟨by rfl, ?_⟩) ?_ ?_
        rotate_left
        · intro w'
          go_simp
          with_reducible rfl
        rotate_left
        · simp only [Act.put, sa, sb, sc, i64_w, i32_w]
          rfl
        refine pu HT_ (v := ?_) (a' := ?_) 4 19 rfl rfl (by kernel_rfl) (fun _ _ _ h => h) (Or.inl ⟨by rfl, ?_⟩) ?_ ?_
        rotate_left
        · intro w'
          go_simp
          with_reducible rfl
        rotate_left
        · simp only [Act.put, sa, sb, sc, i64_w, i32_w]
          rfl
        refine pu HT_ (v := ?_) (a' := ?_) 6 21 rfl rfl (by kernel_rfl) (fun _ _ _ h => h) (Or.inl ⟨by rfl, ?_⟩) ?_ ?_
        rotate_left
        · intro w'
          go_simp
          with_reducible rfl
        rotate_left
        · simp only [Act.put, sa, sb, sc, i64_w, i32_w]
          rfl
        refine pu HT_ (v := ?_) (a' := ?_) 7 22 rfl rfl (by kernel_rfl) (fun _ _ _ h => h) (Or.inl ⟨by rfl, ?_⟩) ?_ ?_
        rotate_left
        · intro w'
          go_simp
          with_reducible rfl
        rotate_left
        · simp only [Act.put, sa, sb, sc, i64_w, i32_w]
          rfl
        refine pu HT_ (v := ?_) (a' := ?_) 8 23 rfl rfl (by kernel_rfl) (fun _ _ _ h => h) (Or.inl ⟨by rfl, ?_⟩) ?_ ?_
        rotate_left
        · intro w'
          go_simp
          with_reducible rfl
        rotate_left
        · simp only [Act.put, sa, sb, sc, i64_w, i32_w]
          rfl
        refine pu HT_ (v := ?_) (a' := ?_) 9 24 rfl rfl (by kernel_rfl) (fun _ _ _ h => h) (Or.inl ⟨by rfl, ?_⟩) ?_ ?_
        rotate_left
        · intro w'
          go_simp
          with_reducible rfl
        rotate_left
        · simp only [Act.put, sa, sb, sc, i64_w, i32_w]
          rfl
        refine pu HT_ (v := ?_) (a' := ?_) 14 29 rfl rfl (by kernel_rfl) (fun _ _ _ h => h) (Or.inl ⟨by rfl, ?_⟩) ?_ ?_
        rotate_left
        · intro w'
          go_simp
          with_reducible rfl
        rotate_left
        · simp only [Act.put, sa, sb, sc, i64_w, i32_w]
          rfl
        refine pu HT_ (v := ?_) (a' := ?_) 15 30 rfl rfl (by kernel_rfl) (fun _ _ _ h => h) (Or.inl ⟨by rfl, ?_⟩) ?_ ?_
        rotate_left
        · intro w'
          go_simp
          with_reducible rfl
        rotate_left
        · simp only [Act.put, sa, sb, sc, i64_w, i32_w]
          rfl
        refine pu HT_ (v := ?_) (a' := ?_) 16 31 rfl rfl (by kernel_rfl) (fun _ _ _ h => h) (Or.inl ⟨by rfl, ?_⟩) ?_ ?_
        rotate_left
        · intro w'
          go_simp
          with_reducible rfl
        rotate_left
        · simp only [Act.put, sa, sb, sc, i64_w, i32_w]
          rfl
        refine pu HT_ (v := ?_) (a' := ?_) 17 32 rfl rfl (by kernel_rfl) (fun _ _ _ h => h) (Or.inl ⟨by rfl, ?_⟩) ?_ ?_
        rotate_left
        · intro w'
          go_simp
          with_reducible rfl
        rotate_left
        · simp only [Act.put, sa, sb, sc, i64_w, i32_w]
          rfl
        refine take_ (i := 5) (N := some 20) (v := ?_) (a' := ?_) #[true, true, true, true, true, true, true, true, true, true, false, false, false, false, true, true, true, true, false, false, false, false, false, false] rfl rfl (take_ofW HT_.out HW_.out (by kernel_rfl)) (fun _ _ _ h => h) (Or.inl ⟨by rfl, ?_⟩) hHeld ?_ ?_
        rotate_left
        · rintro w' ⟨s0, s1, s2, s3, s4, s5⟩
          go_simp
          with_reducible rfl
        rotate_left
        · simp only [Act.put, sa, sb, sc, i64_w, i32_w]
          rfl
        refine take_ (i := 10) (N := some 25) (v := ?_) (a' := ?_) #[true, true, true, true, true, true, true, true, true, true, true, false, false, false, true, true, true, true, false, false, false, false, false, false] rfl rfl (take_ofW HT_.out HW_.out (by kernel_rfl)) (fun _ _ _ h => h) (Or.inl ⟨by rfl, ?_⟩) hHeld ?_ ?_
        rotate_left
        · rintro w' ⟨s0, s1, s2, s3, s4, s5⟩
          go_simp
          with_reducible rfl
        rotate_left
        · simp only [Act.put, sa, sb, sc, i64_w, i32_w]
          rfl
        refine pu HT_ (v := ?_) (a' := ?_) 11 26 rfl rfl (by kernel_rfl) (fun _ _ _ h => h) (Or.inl ⟨by rfl, ?_⟩) ?_ ?_
        rotate_left
        · intro w'
          go_simp
          with_reducible rfl
        rotate_left
        · simp only [Act.put, sa, sb, sc, i64_w, i32_w]
          rfl
        refine pu HT_ (v := ?_) (a' := ?_) 12 27 rfl rfl (by kernel_rfl) (fun _ _ _ h => h) (Or.inl ⟨by rfl, ?_⟩) ?_ ?_
        rotate_left
        · intro w'
          go_simp
          with_reducible rfl
        rotate_left
        · simp only [Act.put, sa, sb, sc, i64_w, i32_w]
          rfl
        refine take_ (i := 18) (N := some 33) (v := ?_) (a' := ?_) #[true, true, true, true, true, true, true, true, true, true, true, true, true, false, true, true, true, true, true, false, false, false, false, false] rfl rfl (take_ofW HT_.out HW_.out (by kernel_rfl)) (fun _ _ _ h => h) (Or.inl ⟨by rfl, ?_⟩) hHeld ?_ ?_
        rotate_left
        · rintro w' ⟨s0, s1, s2, s3, s4, s5⟩
          go_simp
          with_reducible rfl
        rotate_left
        · simp only [Act.put, sa, sb, sc, i64_w, i32_w]
          rfl
        refine one_ (i := 13) (N := some 28) #[true, true, true, true, true, true, true, true, true, true, true, true, true, true, true, true, true, true, true, false, false, false, false, false] rfl rfl (one_of HT_.out (by kernel_rfl)) (by decide) (fun K hK => ?_)
        refine Kd.R_make0_step (Kd.int .i64) _ 3 (by rfl) (N := 28) rfl 37 _ _ rfl ji9 rfl rfl Try.underlying37 (.int .i64 0) 8 info3 rfl (by decide) (by omega) 0 (ok := fun _ => True) (okp := fun _ => True) rfl (fun _ hk => hk) trivial (of_decide_eq_true (by (with_reducible assumption))) (Nat.le_trans (Nat.mul_le_mul_right _ (of_decide_eq_true (by (with_reducible assumption)) : ji9.toNat ≤ 35184372088832)) (by omega)) (Below.refl _ _) (Nat.le_refl _) ?_
        intro v246 w15 ho16 hb hg_ hnew_
        clear hg_ hnew_
        (rw [← Ny245.out] at ho16)
        have n0_ := am (Kd.R_elder' HO_3.out (Kd.R_base ho16) hb)
        have n1_ := am (Kd.R_lower ho16 (below_size HB.out))
        have n2_ := am (below_step HB.out hb)
        clear HO_3
        clear HB
        have HO_3 := n0_
        have HO247 := n1_
        have HB := n2_
        clear n0_ n1_ n2_
        clear hb ho16
        refine hK.out _ _ ⟨((HB.out.cell (World.block_lt_of_cell? w _ hw243_0)).trans hw243_0), ((HB.out.cell (World.block_lt_of_cell? w _ hw243_1)).trans hw243_1), ((HB.out.cell (World.block_lt_of_cell? w _ hw244_0)).trans hw244_0), ((HB.out.cell (World.block_lt_of_cell? w _ hw244_1)).trans hw244_1), ((HB.out.cell (World.block_lt_of_cell? w _ hw248_0)).trans hw248_0), ((HB.out.cell (World.block_lt_of_cell? w _ hw248_1)).trans hw248_1)⟩ (fun hHeld => ?_)
        clear hK K
        refine norm_ (a' := ?_) ?_ ?_
        rotate_left
        · show Act.put _ (some 28) _ = _
          simp only [Act.put, sa, sb, sc, i64_w, i32_w]
          rfl
        refine one_ (i := 19) (N := some 34) #[true, true, true, true, true, true, true, true, true, true, true, true, true, true, true, true, true, true, true, true, false, false, false, false] rfl rfl (one_of HT_.out (by kernel_rfl)) (by decide) (fun K hK => ?_)
        refine Kd.R_append_rows_step (Kd.int .i64) (w0 := w) w.heap.size (by rfl) (.tmp 28) (.tmp 33) 37 3 (.int .i64 0) 8 rfl Try.underlying37 info3 rfl (by decide) (by omega) v246 y245 ((rd_T39 l0 x4_1).f1) _ _ _ (fun _ => True) (fun _ => False) rfl rfl ?aO ?aR (fun _ _ h => h) (fun _ h => h.elim) ?aF ?aB ?aS ?aL ?_
        (case aR => exact (Kd.C_below HR248_1.out HB.out))
        (case aB => exact HB.out)
        (case aF => exact (fun _ _ => trivial))
        (case aO => exact HO247.out)
        (case aS => exact (below_size HB.out))
        (case aL => have := LMc12.out; omega)
        intro v250 w17 ho hb hg hat
        rw [← Ny249.out] at ho
        have n0_ := am (Kd.R_after (ok := (fun _ => True)) HO_3.out hg hat)
        have n1_ := am (hb)
        have n2_ := am (ho)
        clear HO_3
        clear HB
        clear HO247
        have HO_3 := n0_
        have HB := n1_
        have HO251 := n2_
        clear n0_ n1_ n2_
        clear ho hb hg hat
        obtain ⟨Ao18, co18, eo18⟩ := Kd.R_slice HO251.out
        (subst eo18)
        refine hK.out _ _ ⟨((HB.out.cell (World.block_lt_of_cell? w _ hw243_0)).trans hw243_0), ((HB.out.cell (World.block_lt_of_cell? w _ hw243_1)).trans hw243_1), ((HB.out.cell (World.block_lt_of_cell? w _ hw244_0)).trans hw244_0), ((HB.out.cell (World.block_lt_of_cell? w _ hw244_1)).trans hw244_1), ((HB.out.cell (World.block_lt_of_cell? w _ hw248_0)).trans hw248_0), ((HB.out.cell (World.block_lt_of_cell? w _ hw248_1)).trans hw248_1)⟩ (fun hHeld => ?_)
        clear hK K
        refine norm_ (a' := ?_) ?_ ?_
        rotate_left
        · show Act.put _ (some 34) _ = _
          simp only [Act.put, sa, sb, sc, i64_w, i32_w]
          rfl
        refine pu HT_ (v := ?_) (a' := ?_) 20 35 rfl rfl (by kernel_rfl) (fun _ _ _ h => h) (Or.inl ⟨by rfl, ?_⟩) ?_ ?_
        rotate_left
        · intro w'
          go_simp
          with_reducible rfl
        rotate_left
        · simp only [Act.put, sa, sb, sc, i64_w, i32_w]
          rfl
        refine one_ (i := 21) (N := some 36) #[true, true, true, true, true, true, true, true, true, true, true, true, true, true, true, true, true, true, true, true, true, true, false, false] rfl rfl (one_of HT_.out (by kernel_rfl)) (by decide) (fun K hK => ?_)
        refine value_ (w1 := ?_) (v := ?_) (by rfl) rfl ?_ ?_
        rotate_left 2
        · go_simp
          constructor
          · rfl
          · rfl
        refine hK.out _ _ ⟨(World.cell?_alloc_lt _ _ _ (World.block_lt_of_cell? _ _ (((HB.out.cell (World.block_lt_of_cell? w _ hw243_0)).trans hw243_0)))).trans (((HB.out.cell (World.block_lt_of_cell? w _ hw243_0)).trans hw243_0)), (World.cell?_alloc_lt _ _ _ (World.block_lt_of_cell? _ _ (((HB.out.cell (World.block_lt_of_cell? w _ hw243_1)).trans hw243_1)))).trans (((HB.out.cell (World.block_lt_of_cell? w _ hw243_1)).trans hw243_1)), (World.cell?_alloc_lt _ _ _ (World.block_lt_of_cell? _ _ (((HB.out.cell (World.block_lt_of_cell? w _ hw244_0)).trans hw244_0)))).trans (((HB.out.cell (World.block_lt_of_cell? w _ hw244_0)).trans hw244_0)), (World.cell?_alloc_lt _ _ _ (World.block_lt_of_cell? _ _ (((HB.out.cell (World.block_lt_of_cell? w _ hw244_1)).trans hw244_1)))).trans (((HB.out.cell (World.block_lt_of_cell? w _ hw244_1)).trans hw244_1)), (World.cell?_alloc_lt _ _ _ (World.block_lt_of_cell? _ _ (((HB.out.cell (World.block_lt_of_cell? w _ hw248_0)).trans hw248_0)))).trans (((HB.out.cell (World.block_lt_of_cell? w _ hw248_0)).trans hw248_0)), (World.cell?_alloc_lt _ _ _ (World.block_lt_of_cell? _ _ (((HB.out.cell (World.block_lt_of_cell? w _ hw248_1)).trans hw248_1)))).trans (((HB.out.cell (World.block_lt_of_cell? w _ hw248_1)).trans hw248_1))⟩ (fun hHeld => ?_)
        clear hK K
        refine norm_ (a' := ?_) ?_ ?_
        rotate_left
        · show Act.put _ (some 36) _ = _
          simp only [Act.put, sa, sb, sc, i64_w, i32_w]
          rfl
        refine one_ (i := 22) (N := some 37) #[true, true, true, true, true, true, true, true, true, true, true, true, true, true, true, true, true, true, true, true, true, true, true, false] rfl rfl (one_of HT_.out (by kernel_rfl)) (by decide) (fun K hK => ?_)
        refine Kd.R_append_step k39 (w0 := w) w.heap.size (by rfl) (.tmp 15) (.tmp 36) 22 39 (.agg #[(.int .u64 0), (.slice none 0 0)]) 32 rfl Try.underlying22 info39 rfl (by decide) (by omega) u3 x3_1 (⟨(rd_T39 l0 x4_1).f0, y249⟩ : S39) [.int .u64 ((rd_T39 l0 x4_1).f0), .slice Ao18 y249.length co18] (fun _ => True) (fun k_ => ((fun _ => True)) k_ ∧ some k_ ≠ (u3 : Value).ownBlock) rfl rfl ?aP (fun _ hk => hk) ?aF ?aO ?aB ?aS ?aL ?_
        (case aP => exact k39_mkM _ _ _ (⟨(rd_T39 l0 x4_1).f0, y249⟩ : S39) (Kd.R_mono (Kd.R_apart' (HO251.out) (Kd.R_typed HO_3.out) (by decide)) (fun k_ hk => ⟨trivial, hk.2⟩)))
        (case aB => exact HB.out)
        (case aF => exact (fun _ _ => trivial))
        (case aO => exact (by exact Kd.R_mono HO_3.out (fun _ hk => trivial)))
        (case aS => exact (below_size HB.out))
        (case aL => have := LMc13.out; omega)
        intro v253 w19 ho hb hg hat
        rw [← Ny252.out] at ho
        have n0_ := am (hb)
        have n1_ := am (ho)
        clear HB
        clear HO_3
        clear HO251
        have HB := n0_
        have HO254 := n1_
        clear n0_ n1_
        clear ho hb hg hat
        refine hK.out _ _ ⟨((HB.out.cell (World.block_lt_of_cell? w _ hw243_0)).trans hw243_0), ((HB.out.cell (World.block_lt_of_cell? w _ hw243_1)).trans hw243_1), ((HB.out.cell (World.block_lt_of_cell? w _ hw244_0)).trans hw244_0), ((HB.out.cell (World.block_lt_of_cell? w _ hw244_1)).trans hw244_1), ((HB.out.cell (World.block_lt_of_cell? w _ hw248_0)).trans hw248_0), ((HB.out.cell (World.block_lt_of_cell? w _ hw248_1)).trans hw248_1)⟩ (fun hHeld => ?_)
        clear hK K
        refine norm_ (a' := ?_) ?_ ?_
        rotate_left
        · show Act.put _ (some 37) _ = _
          simp only [Act.put, sa, sb, sc, i64_w, i32_w]
          rfl
        refine pu HT_ (v := ?_) (a' := ?_) 23 3 rfl rfl (by kernel_rfl) (fun _ _ _ h => h) (Or.inl ⟨by rfl, ?_⟩) ?_ ?_
        rotate_left
        · intro w'
          go_simp
          with_reducible rfl
        rotate_left
        · simp only [Act.put, sa, sb, sc, i64_w, i32_w]
          rfl
        refine done_ (done_of HT_.out (by kernel_rfl)) ?_
        try go_wp2
        go_roundg k1
        case measure => have := HK1.out; omega
        case rel => exact ⟨(y252), (wrap64 (x4_1 + 1)), (by rfl), H', ⟨by have := HK1.out; omega⟩, ⟨by exact HO254.out⟩, ⟨by exact HB.out⟩⟩
      · rw [if_neg c7] at H
        have c7b0 : decide (x4_1 < (l0.length : Int)) = false := decide_eq_false c7
        clear c7
        obtain rfl := Option.some.inj H
        go_wp2
        go_ret
        exact ⟨_, by rfl, by exact HO_3.out, by exact HB.out⟩
end Go.Proofs.Ytkkocmmilmbgpaa.S
end
section
namespace Go.Proofs.Ytkkocmmilmbgpaa.S
open Go.RowKit Go.Proofs.YtkkocmmilmbgpaaW.PrintWords Go.Proofs.YtkkocmmilmbgpaaW.PrintLast Go.Proofs.YtkkocmmilmbgpaaW.PrintMore
set_option linter.unusedVariables false
set_option linter.unusedSimpArgs false
def api_Term_45.f (_l : List S39) (n : Int) : Option (List S39) := if 0 ≤ n ∧ n ≤ 4398046511104 then some [] else none
theorem R_cut0 {α : Type} {d : Kd α} {e base n cap g : Nat} {ok : Nat → Prop} {w : World} {xs : List α} (h : Kd.R d e w base ok (.slice (some ⟨g, 0, none⟩) n cap) xs) : Kd.R d e w base ok (.slice (some ⟨g, 0, none⟩) 0 cap) [] := by
  obtain ⟨h0, inner, ⟨h1, h2⟩, h3⟩ := h
  refine ⟨fun k hk => h0 k (by simpa [Value.ownBlock] using hk), [], ⟨by simp, ?_⟩, Reps.none _ _⟩
  rcases h2 with ⟨h2, _⟩ | ⟨g', cap', cur, hv, hb, hh, l1, l2, l3, l4⟩
  · exact absurd h2 (by simp)
  · injection hv with a b c
    cases a
    subst c
    exact .inr ⟨_, _, cur, rfl, hb, hh, Nat.zero_le _, l2, l3, by simp⟩
theorem api_Term_45.calls (a1 : Int) (r : List S39) (w : World) (h : api_Term_45.f [] a1 = some r) :
    Calls Try.prog 45 #[.slice none 0 0, .int .i64 a1] w fun e w' => ∃ v0_ : Value, e = .returned (v0_) ∧ Kd.R k39 39 w' w.heap.size (fun _ => True) v0_ r ∧ Below w.heap.size w w' := by
  unfold api_Term_45.f at h
  by_cases c : 0 ≤ a1 ∧ a1 ≤ 4398046511104
  rotate_left
  · rw [if_neg c] at h; cases h
  rw [if_pos c] at h
  obtain rfl := Option.some.inj h
  obtain ⟨c0, c1⟩ := c
  have hn : decide (a1 < 0) = false := decide_eq_false (by omega)
  have e1 : wrap64 a1 = a1 := by unfold wrap64; omega
  have HB := Aside0.mk (Below.refl w.heap.size w)
  by_cases cz : a1 = 0
  · subst cz
    go_enter Try.func45, Try.ntmps45
    go_wp2
    go_ret
    exact ⟨_, rfl, Kd.R_nil _ _ _ _ _, Below.refl _ _⟩
  · have hp : decide (0 < a1) = true := decide_eq_true (by omega)
    go_enter Try.func45, Try.ntmps45
    go_wp2_with ((with_reducible refine gate_builtin (b := .append) (xs := #[.tmp 20, .tmp 21]) rfl ?_); at_builtin; refine Kd.R_append_zeros k39 (w0 := w) w.heap.size rfl (.tmp 20) (.tmp 21) 22 3 39 _ 32 rfl Try.underlying22 (k := .i64) Try.underlying3 info39 rfl (by decide) (by omega) (.slice none 0 0) [] z39 (kx := .i64) a1 (fun _ => True) rfl rfl ?zZ (fun _ _ => trivial) (Kd.R_nil _ _ _ _ _) c0 ?zB ?zS ?zL ?_; (case zB => exact HB.out); (case zS => exact Nat.le_refl _); (case zL => simp only [List.length_nil]; omega); (case zZ => exact ⟨[.int .u64 0], [.slice none 0 0], rfl, rfl, ⟨_, rfl, Kd.R_nil _ _ _ _ _⟩⟩); intro v1 w1 ho hb hg hat; obtain ⟨g1, cap1, ev1, _, _, _, _⟩ := Kd.R_form ho (by simp only [List.nil_append, List.length_replicate]; omega); rw [List.nil_append, List.length_replicate] at ev1; subst ev1; have HO := Aside0.mk ho; have HB2 := Aside0.mk hb; clear ho hb hg hat)
    go_ret
    exact ⟨_, rfl, R_cut0 HO.out, HB2.out⟩
end Go.Proofs.Ytkkocmmilmbgpaa.S
end
section
namespace Go.Proofs.Ytkkocmmilmbgpaa.S
open Go.RowKit Go.Proofs.YtkkocmmilmbgpaaW.PrintWords Go.Proofs.YtkkocmmilmbgpaaW.PrintLast Go.Proofs.YtkkocmmilmbgpaaW.PrintMore
attribute [local go_sem] max2_int min2_int max_two min_two max_three min_three max_four min_four
set_option linter.unusedVariables false
set_option linter.unusedSimpArgs false
mutual
def api_Term_29.l0 : Nat → List (List (S39)) → Int → List (List (S39)) → Int → Int → Option ((List (S39)))
  | 0, _, _, _, _, _ => none
  | k + 1, x0, x3, x9, x10, x11 => if x11 < x10 then (if 0 ≤ x11 then (if x11 < (x9.length : Int) then (if (wrap64 (x3 + ((rd_L4 x9 x11).length : Int))) < 0 then (if 0 ≤ (-1) then (if (-1) < (x0.length : Int) then (api_Term_29.l0 k x0 (wrap64 (x3 + ((rd_L4 x9 x11).length : Int))) x9 x10 (wrap64 (x11 + 1))) else (none)) else (none)) else (api_Term_29.l0 k x0 (wrap64 (x3 + ((rd_L4 x9 x11).length : Int))) x9 x10 (wrap64 (x11 + 1)))) else (none)) else (none)) else ((api_Term_45.f ([] : List (S39)) x3).bind fun t340 => (api_Term_29.l1 k t340 x0 (x0.length : Int) 0))
def api_Term_29.l1 : Nat → List (S39) → List (List (S39)) → Int → Int → Option ((List (S39)))
  | 0, _, _, _, _ => none
  | k + 1, x6, x25, x26, x27 => if x27 < x26 then (if 0 ≤ x27 then (if x27 < (x25.length : Int) then (if x6.length + (rd_L4 x25 x27).length < 4398046511104 then (api_Term_29.l1 k (x6 ++ (rd_L4 x25 x27)) x25 x26 (wrap64 (x27 + 1))) else (none)) else (none)) else (none)) else (some x6)
end
def api_Term_29.f (k : Nat) (l0 : List (List (S39))) : Option ((List (S39))) := api_Term_29.l0 k l0 0 l0 (l0.length : Int) 0
theorem api_Term_29.mono_l : ∀ k, (∀ y0 y1 y2 y3 y4, LeO (api_Term_29.l0 k y0 y1 y2 y3 y4) (api_Term_29.l0 (k + 1) y0 y1 y2 y3 y4)) ∧ (∀ y0 y1 y2 y3, LeO (api_Term_29.l1 k y0 y1 y2 y3) (api_Term_29.l1 (k + 1) y0 y1 y2 y3))
  | 0 => ⟨fun _ _ _ _ _ r h => by simp [api_Term_29.l0] at h, fun _ _ _ _ r h => by simp [api_Term_29.l1] at h⟩
  | k + 1 => by
    obtain ⟨ih0, ih1⟩ := api_Term_29.mono_l k
    refine ⟨?_, ?_⟩
    · intro y0 y1 y2 y3 y4
      unfold api_Term_29.l0
      repeat' first
      | (with_reducible exact ih0 _ _ _ _ _)
      | (with_reducible exact ih1 _ _ _ _)
      | (with_reducible exact LeO.refl _)
      | (with_reducible exact LeO.none _)
      | (with_reducible refine LeO.ite ?_ ?_)
      | (with_reducible refine LeO.bind ?_ (fun _ => ?_))
      | exact ih0 _ _ _ _ _
      | exact ih1 _ _ _ _
      | exact LeO.none _
      | refine LeO.ite ?_ ?_
      | refine LeO.bind ?_ (fun _ => ?_)
    · intro y0 y1 y2 y3
      unfold api_Term_29.l1
      repeat' first
      | (with_reducible exact ih0 _ _ _ _ _)
      | (with_reducible exact ih1 _ _ _ _)
      | (with_reducible exact LeO.refl _)
      | (with_reducible exact LeO.none _)
      | (with_reducible refine LeO.ite ?_ ?_)
      | (with_reducible refine LeO.bind ?_ (fun _ => ?_))
      | exact ih0 _ _ _ _ _
      | exact ih1 _ _ _ _
      | exact LeO.none _
      | refine LeO.ite ?_ ?_
      | refine LeO.bind ?_ (fun _ => ?_)
theorem api_Term_29.mono : ∀ a0 k, LeO (api_Term_29.f k a0) (api_Term_29.f (k + 1) a0) := by
  intro a0 k
  obtain ⟨ih0, ih1⟩ := api_Term_29.mono_l k
  unfold api_Term_29.f
  repeat' first
      | (with_reducible exact ih0 _ _ _ _ _)
      | (with_reducible exact ih1 _ _ _ _)
      | (with_reducible exact LeO.refl _)
      | (with_reducible exact LeO.none _)
      | (with_reducible refine LeO.ite ?_ ?_)
      | (with_reducible refine LeO.bind ?_ (fun _ => ?_))
      | exact ih0 _ _ _ _ _
      | exact ih1 _ _ _ _
      | exact LeO.none _
      | refine LeO.ite ?_ ?_
      | refine LeO.bind ?_ (fun _ => ?_)
set_option maxHeartbeats 8000000 in
set_option maxRecDepth 100000 in
theorem api_Term_29.calls (k : Nat) (P0_ : Nat → Prop) (A0 : Option Addr) (c0 : Nat) (l0 : List (List (S39))) (r : List (S39)) (w : World) (hs0 : Kd.V (Kd.slice 39 k39) 22 w w.heap.size (fun k_ => P0_ k_) (.slice A0 l0.length c0) l0) (h : api_Term_29.f k l0 = some r) :
    Calls Try.prog 29 #[.slice A0 l0.length c0] w fun e w' => ∃ v0_ : Value, e = .returned (v0_) ∧ Kd.N k39 39 w' w.heap.size (fun k_ => (P0_ k_ ∨ w.heap.size ≤ k_)) v0_ r ∧ Below w.heap.size w w' := by
  have HO0 := am (show Kd.V (Kd.slice 39 k39) 22 w w.heap.size (fun k_ => (P0_ k_ ∨ w.heap.size ≤ k_)) (.slice A0 l0.length c0) l0 from Kd.V_mono hs0 (fun k_ hk => .inl hk))
  have HB := am (Below.refl w.heap.size w)
  have H : (api_Term_29.l0 k l0 0 l0 (l0.length : Int) 0) = some r := h
  clear h
  have H' := am H
  clear H
  go_enter Try.func29, Try.ntmps29
  go_wp2
  go_loopg [3, 11] k (fun kq v3 v11 w' => ∃ (x3_1 : Int) (x11_1 : Int), v3 = .int .i64 x3_1 ∧ v11 = .int .i64 x11_1 ∧ Aside0 (api_Term_29.l0 kq l0 x3_1 l0 (l0.length : Int) x11_1 = some r) ∧ Aside0 (kq ≤ k) ∧ Aside0 (Kd.V (Kd.slice 39 k39) 22 w' w.heap.size (fun k_ => (P0_ k_ ∨ w.heap.size ≤ k_)) (.slice A0 l0.length c0) l0) ∧ Aside0 (Kd.V (Kd.slice 39 k39) 22 w' w.heap.size (fun k_ => (P0_ k_ ∨ w.heap.size ≤ k_)) (.slice A0 l0.length c0) l0) ∧ Aside0 (Below w.heap.size w w'))
  case atStart => exact ⟨(0), (0), (by rfl), (by rfl), H', ⟨Nat.le_refl _⟩, ⟨by exact HO0.out⟩, ⟨by exact HO0.out⟩, ⟨by exact HB.out⟩⟩
  case round =>
    clear H'
    obtain ⟨x3_1, x11_1, rfl, rfl, HA, HK1, HO_0, HO_9, HB⟩ := hrel
    cases gk with
    | zero => exact absurd HA.out (by simp [api_Term_29.l0])
    | succ k1 =>
      have H := HA.out
      clear HA
      simp only [api_Term_29.l0] at H
      by_cases c2 : x11_1 < (l0.length : Int)
      · rw [if_pos c2] at H
        have c2b0 : decide (x11_1 < (l0.length : Int)) = true := decide_eq_true c2
        clear c2
        replace H := its H
        obtain ⟨c3, H⟩ := H
        have c3b0 : decide (0 ≤ x11_1) = true := decide_eq_true c3
        clear c3
        replace H := its H
        obtain ⟨c4, H⟩ := H
        have c4b0 : decide (x11_1 < (l0.length : Int)) = true := decide_eq_true c4
        clear c4
        by_cases c5 : (wrap64 (x3_1 + ((rd_L4 l0 x11_1).length : Int))) < 0
        · rw [if_pos c5] at H
          have c5b0 : decide ((wrap64 (x3_1 + ((rd_L4 l0 x11_1).length : Int))) < 0) = true := decide_eq_true c5
          clear c5
          replace H := its H
          obtain ⟨c6, H⟩ := H
          have c6b0 : decide (0 ≤ (-1)) = true := decide_eq_true c6
          clear c6
          replace H := its H
          obtain ⟨c7, H⟩ := H
          have c7b0 : decide ((-1) < (l0.length : Int)) = true := decide_eq_true c7
          clear c7
          have H' := am H
          clear H
          have p338 : 0 ≤ (x11_1 : Int) := of_decide_eq_true (by (with_reducible assumption))
          have q338 : x11_1 < (l0.length : Int) := of_decide_eq_true (by (with_reducible assumption))
          obtain ⟨ad338, A338_0, c338_0, e338, hx338_0, hl338_0, hi338_0⟩ := at_L4 (Kd.V_reads' HO_9.out).2.2 x11_1 p338 q338
          cases e338
          obtain ⟨ce338, hce338, hMe338, hcc338⟩ := Kd.V_get HO_9.out [] x11_1 p338 (by exact q338)
          obtain ⟨ua338_0, uc338_0, rfl, ul338_0, ge338_0⟩ := Kd.FK_slice_open hMe338
          have hv338_0 := hcc338 0 _ rfl
          rw [Nat.add_zero, show ((Kd.slice 39 k39)).sz = 1 from rfl, Nat.mul_one] at hv338_0
          replace hv338_0 := Option.some.inj (hv338_0.symm.trans hx338_0)
          injection hv338_0 with hva_ hvn_ hvc_
          rw [hva_] at ge338_0
          rw [hvc_] at ul338_0
          have HL338_0 := am (show Kd.V k39 39 _ w.heap.size _ _ (rd_L4 l0 x11_1) from Kd.V_mk ul338_0 ge338_0)
          clear hva_ hvn_ hvc_ ge338_0 ul338_0
          clear hcc338 hce338
          have HR338_0 := am hi338_0
          have HC338_0 := am hl338_0
          clear hi338_0 hl338_0
          replace p338 := eq_true p338
          replace q338 := eq_true q338
          exact absurd (of_decide_eq_true (by (with_reducible assumption)) : (0 : Int) ≤ -1) (by decide)
        · rw [if_neg c5] at H
          have c5b0 : decide ((wrap64 (x3_1 + ((rd_L4 l0 x11_1).length : Int))) < 0) = false := decide_eq_false c5
          clear c5
          have H' := am H
          clear H
          have p338 : 0 ≤ (x11_1 : Int) := of_decide_eq_true (by (with_reducible assumption))
          have q338 : x11_1 < (l0.length : Int) := of_decide_eq_true (by (with_reducible assumption))
          obtain ⟨ad338, A338_0, c338_0, e338, hx338_0, hl338_0, hi338_0⟩ := at_L4 (Kd.V_reads' HO_9.out).2.2 x11_1 p338 q338
          cases e338
          obtain ⟨ce338, hce338, hMe338, hcc338⟩ := Kd.V_get HO_9.out [] x11_1 p338 (by exact q338)
          obtain ⟨ua338_0, uc338_0, rfl, ul338_0, ge338_0⟩ := Kd.FK_slice_open hMe338
          have hv338_0 := hcc338 0 _ rfl
          rw [Nat.add_zero, show ((Kd.slice 39 k39)).sz = 1 from rfl, Nat.mul_one] at hv338_0
          replace hv338_0 := Option.some.inj (hv338_0.symm.trans hx338_0)
          injection hv338_0 with hva_ hvn_ hvc_
          rw [hva_] at ge338_0
          rw [hvc_] at ul338_0
          have HL338_0 := am (show Kd.V k39 39 _ w.heap.size _ _ (rd_L4 l0 x11_1) from Kd.V_mk ul338_0 ge338_0)
          clear hva_ hvn_ hvc_ ge338_0 ul338_0
          clear hcc338 hce338
          have HR338_0 := am hi338_0
          have HC338_0 := am hl338_0
          clear hi338_0 hl338_0
          replace p338 := eq_true p338
          replace q338 := eq_true q338
          go_wp2
          go_roundg k1
          case measure => have := HK1.out; omega
          case rel => exact ⟨(wrap64 (x3_1 + ((rd_L4 l0 x11_1).length : Int))), (wrap64 (x11_1 + 1)), (by rfl), (by rfl), H', ⟨by have := HK1.out; omega⟩, ⟨by exact HO_0.out⟩, ⟨by exact HO_9.out⟩, ⟨by exact HB.out⟩⟩
      · rw [if_neg c2] at H
        have c2b0 : decide (x11_1 < (l0.length : Int)) = false := decide_eq_false c2
        clear c2
        replace H := Option.bind_eq_some_iff.mp H
        obtain ⟨t340, A80, H⟩ := H
        replace H : (api_Term_29.l1 k1 t340 l0 (l0.length : Int) 0) = some r := H
        have A8 := am A80
        clear A80
        have H' := am H
        clear H
        go_wp2_with (((with_reducible refine gate_callee (f := 45) rfl ?_); refine goesL_ (some 24) rfl rfl Try.func45 (by kernel_rfl) rfl #[.slice none 0 0, .int .i64 x3_1] rfl (by (try simp only [List.map_toArray, List.map_cons, List.map_nil]); rfl) ?_; (refine (api_Term_45.calls x3_1 t340 _ A8.out).mono ?_); rintro e w9 ⟨v341, rfl, ho0, hb⟩; refine ⟨_, rfl, ?_⟩; replace HO_0 := am (Kd.V_elder' HO_0.out (Kd.R_base ho0) hb); replace HO_9 := am (Kd.V_elder' HO_9.out (Kd.R_base ho0) hb); have HO342 := am (Kd.N_lower (Kd.N_mono (ok' := fun k_ => (P0_ k_ ∨ w.heap.size ≤ k_)) (Kd.R_N (Kd.R_bound ho0)) (fun k_ hk_ => (.inr (Nat.le_trans (below_size HB.out) hk_.2.1)))) (below_size HB.out)); replace HB := am (below_step HB.out hb); (try clear hb); (try clear ho0)))
        go_loopg [6, 27] k1 (fun kq v6 v27 w' => ∃ (x6_2 : List (S39)) (x27_2 : Int), v27 = .int .i64 x27_2 ∧ Aside0 (api_Term_29.l1 kq x6_2 l0 (l0.length : Int) x27_2 = some r) ∧ Aside0 (kq ≤ k1) ∧ Aside0 (Kd.N k39 39 w' w.heap.size (fun k_ => (P0_ k_ ∨ w.heap.size ≤ k_)) v6 x6_2) ∧ Aside0 (Kd.V (Kd.slice 39 k39) 22 w' w.heap.size (fun k_ => (P0_ k_ ∨ w.heap.size ≤ k_) ∧ some k_ ≠ (v6 : Value).ownBlock) (.slice A0 l0.length c0) l0) ∧ Aside0 (Below w.heap.size w w'))
        case atStart => exact ⟨(t340), (0), (by rfl), H', ⟨Nat.le_refl _⟩, ⟨by exact HO342.out⟩, ⟨by exact HO_0.out⟩, ⟨by exact HB.out⟩⟩
        case round =>
          clear H'
          try clear c2b0
          obtain ⟨x6_2, x27_2, rfl, HA, HK2, HO_6, HO_25, HB⟩ := hrel
          cases gk with
          | zero => exact absurd HA.out (by simp [api_Term_29.l1])
          | succ k2 =>
            have H := HA.out
            clear HA
            simp only [api_Term_29.l1] at H
            by_cases c10 : x27_2 < (l0.length : Int)
            · rw [if_pos c10] at H
              have c10b0 : decide (x27_2 < (l0.length : Int)) = true := decide_eq_true c10
              clear c10
              replace H := its H
              obtain ⟨c11, H⟩ := H
              have c11b0 : decide (0 ≤ x27_2) = true := decide_eq_true c11
              clear c11
              replace H := its H
              obtain ⟨c12, H⟩ := H
              have c12b0 : decide (x27_2 < (l0.length : Int)) = true := decide_eq_true c12
              clear c12
              replace H := its H
              obtain ⟨c13, H⟩ := H
              have LMc13 := am c13
              clear c13
              obtain ⟨y344, hy344⟩ : ∃ y_ : List (S39), y_ = (x6_2 ++ (rd_L4 l0 x27_2)) := ⟨_, rfl⟩
              replace H : (api_Term_29.l1 k2 y344 l0 (l0.length : Int) (wrap64 (x27_2 + 1))) = some r := by (rw [hy344]; with_reducible exact H)
              have Ny344 := am hy344
              clear hy344
              have H' := am H
              clear H
              have p343 : 0 ≤ (x27_2 : Int) := of_decide_eq_true (by (with_reducible assumption))
              have q343 : x27_2 < (l0.length : Int) := of_decide_eq_true (by (with_reducible assumption))
              obtain ⟨ad343, A343_0, c343_0, e343, hx343_0, hl343_0, hi343_0⟩ := at_L4 (Kd.V_reads' HO_25.out).2.2 x27_2 p343 q343
              cases e343
              obtain ⟨ce343, hce343, hMe343, hcc343⟩ := Kd.V_get HO_25.out [] x27_2 p343 (by exact q343)
              obtain ⟨ua343_0, uc343_0, rfl, ul343_0, ge343_0⟩ := Kd.FK_slice_open hMe343
              have hv343_0 := hcc343 0 _ rfl
              rw [Nat.add_zero, show ((Kd.slice 39 k39)).sz = 1 from rfl, Nat.mul_one] at hv343_0
              replace hv343_0 := Option.some.inj (hv343_0.symm.trans hx343_0)
              injection hv343_0 with hva_ hvn_ hvc_
              rw [hva_] at ge343_0
              rw [hvc_] at ul343_0
              have HL343_0 := am (show Kd.V k39 39 _ w.heap.size _ _ (rd_L4 l0 x27_2) from Kd.V_mk ul343_0 ge343_0)
              clear hva_ hvn_ hvc_ ge343_0 ul343_0
              clear hcc343 hce343
              have HR343_0 := am hi343_0
              have HC343_0 := am hl343_0
              clear hi343_0 hl343_0
              replace p343 := eq_true p343
              replace q343 := eq_true q343
              go_wp2_with (((with_reducible refine gate_builtin (b := .append) (xs := #[.tmp 31, .tmp 32]) rfl ?_); at_builtin; refine Kd.N_append_rows k39 (w0 := w) w.heap.size rfl (.tmp 31) (.tmp 32) 22 39 (.agg #[(.int .u64 0), (.slice none 0 0)]) 32 rfl Try.underlying22 info39 rfl (by decide) (by omega) u6 x6_2 (rd_L4 l0 x27_2) _ _ _ (fun k_ => (P0_ k_ ∨ w.heap.size ≤ k_)) (fun k_ => ((fun k_ => (P0_ k_ ∨ w.heap.size ≤ k_))) k_ ∧ some k_ ≠ (u6 : Value).ownBlock) rfl rfl ?aO ?aR (fun _ hk => hk) ?aF ?aB ?aS ?aL ?_; (case aR => exact (by skip; exact Kd.V_F (Kd.V_mono (ok' := (fun k_ => ((fun k_ => (P0_ k_ ∨ w.heap.size ≤ k_))) k_ ∧ some k_ ≠ (u6 : Value).ownBlock)) (HL343_0.out) (fun k_ hk => ⟨hk.1, hk.2⟩)))); (case aB => exact HB.out); (case aF => exact (fun k_ hk => (.inr (Nat.le_trans (below_size HB.out) hk)))); (case aO => exact HO_6.out); (case aS => exact (below_size HB.out)); (case aL => have := LMc13.out; omega); intro v345 w14 ho hb hg hat; rw [← Ny344.out] at ho; replace HO_25 := am (Kd.V_afterv (ok := (fun k_ => (P0_ k_ ∨ w.heap.size ≤ k_))) HO_25.out hg hat); replace HL343_0 := am (Kd.V_afterv (ok := (fun k_ => (P0_ k_ ∨ w.heap.size ≤ k_))) HL343_0.out hg hat); replace HB := am (hb); have HO346 := am (ho); clear HO_6; clear ho hb hg hat))
              go_roundg k2
              case measure => have := HK1.out; have := HK2.out; omega
              case rel => exact ⟨(y344), (wrap64 (x27_2 + 1)), (by rfl), H', ⟨by have := HK1.out; have := HK2.out; omega⟩, ⟨by exact HO346.out⟩, ⟨by exact HO_25.out⟩, ⟨by exact HB.out⟩⟩
            · rw [if_neg c10] at H
              have c10b0 : decide (x27_2 < (l0.length : Int)) = false := decide_eq_false c10
              clear c10
              obtain rfl := Option.some.inj H
              go_wp2
              go_ret
              exact ⟨_, by rfl, by exact HO_6.out, by exact HB.out⟩
end Go.Proofs.Ytkkocmmilmbgpaa.S
end
section
namespace Go.Proofs.Ytkkocmmilmbgpaa.S
open Go.RowKit Go.Proofs.YtkkocmmilmbgpaaW.PrintWords Go.Proofs.YtkkocmmilmbgpaaW.PrintLast Go.Proofs.YtkkocmmilmbgpaaW.PrintMore
attribute [local go_sem] max2_int min2_int max_two min_two max_three min_three max_four min_four
set_option linter.unusedVariables false
set_option linter.unusedSimpArgs false
def cost_can_1.f (a0 : Int) : Option (Bool) := if a0 < 0 then (some true) else (some (decide (a0 > 64)))
set_option maxHeartbeats 8000000 in
set_option maxRecDepth 100000 in
theorem cost_can_1.calls (a0 : Int) (r : Bool) (w : World) (h : cost_can_1.f a0 = some r) :
    Calls Try.prog 38 #[.int .i64 a0] w fun e w' => e = .returned (.bool r) ∧ Drawn0 w w' := by
  have H : (if a0 < 0 then (some true) else (some (decide (a0 > 64)))) = some r := h
  clear h
  by_cases c2 : a0 < 0
  · rw [if_pos c2] at H
    have c2b0 : decide (a0 < 0) = true := decide_eq_true c2
    clear c2
    obtain rfl := Option.some.inj H
    go_enter Try.func38, Try.ntmps38
    go_wp2
    go_ret
    exact ⟨by first | rfl | (simp; done) | (simp [*]; done), by repeat (first | exact Drawn0.refl _ | apply Drawn0.step)⟩
  · rw [if_neg c2] at H
    have c2b0 : decide (a0 < 0) = false := decide_eq_false c2
    clear c2
    obtain rfl := Option.some.inj H
    go_enter Try.func38, Try.ntmps38
    go_wp2
    go_ret
    exact ⟨by first | rfl | (simp; done) | (simp [*]; done), by repeat (first | exact Drawn0.refl _ | apply Drawn0.step)⟩
end Go.Proofs.Ytkkocmmilmbgpaa.S
end
section
namespace Go.Proofs.Ytkkocmmilmbgpaa.S
open Go.RowKit Go.Proofs.YtkkocmmilmbgpaaW.PrintWords Go.Proofs.YtkkocmmilmbgpaaW.PrintLast Go.Proofs.YtkkocmmilmbgpaaW.PrintMore
attribute [local go_sem] max2_int min2_int max_two min_two max_three min_three max_four min_four
set_option linter.unusedVariables false
set_option linter.unusedSimpArgs false
def slices_IndexFunc_int_int_of_cost_can_1.l0 : Nat → List Int → Int → Int → Option (Int)
  | 0, _, _, _ => none
  | k + 1, x0, x7, x8 => if x8 < x7 then (if 0 ≤ x8 then (if x8 < (x0.length : Int) then ((cost_can_1.f (rd x0 x8)).bind fun t102 => (if t102 = true then (some x8) else (slices_IndexFunc_int_int_of_cost_can_1.l0 k x0 x7 (wrap64 (x8 + 1))))) else (none)) else (none)) else (some (-1))
def slices_IndexFunc_int_int_of_cost_can_1.f (k : Nat) (l0 : List Int)  : Option (Int) := slices_IndexFunc_int_int_of_cost_can_1.l0 k l0 (l0.length : Int) 0
theorem slices_IndexFunc_int_int_of_cost_can_1.mono_l : ∀ k, (∀ y0 y1 y2, LeO (slices_IndexFunc_int_int_of_cost_can_1.l0 k y0 y1 y2) (slices_IndexFunc_int_int_of_cost_can_1.l0 (k + 1) y0 y1 y2))
  | 0 => fun _ _ _ r h => by simp [slices_IndexFunc_int_int_of_cost_can_1.l0] at h
  | k + 1 => by
    have ih0 := slices_IndexFunc_int_int_of_cost_can_1.mono_l k
    · intro y0 y1 y2
      unfold slices_IndexFunc_int_int_of_cost_can_1.l0
      repeat' first
      | (with_reducible exact ih0 _ _ _)
      | (with_reducible exact LeO.refl _)
      | (with_reducible exact LeO.none _)
      | (with_reducible refine LeO.ite ?_ ?_)
      | (with_reducible refine LeO.bind ?_ (fun _ => ?_))
      | exact ih0 _ _ _
      | exact LeO.none _
      | refine LeO.ite ?_ ?_
      | refine LeO.bind ?_ (fun _ => ?_)
theorem slices_IndexFunc_int_int_of_cost_can_1.mono : ∀ a0 k, LeO (slices_IndexFunc_int_int_of_cost_can_1.f k a0) (slices_IndexFunc_int_int_of_cost_can_1.f (k + 1) a0) := by
  intro a0 k
  have ih0 := slices_IndexFunc_int_int_of_cost_can_1.mono_l k
  unfold slices_IndexFunc_int_int_of_cost_can_1.f
  repeat' first
      | (with_reducible exact ih0 _ _ _)
      | (with_reducible exact LeO.refl _)
      | (with_reducible exact LeO.none _)
      | (with_reducible refine LeO.ite ?_ ?_)
      | (with_reducible refine LeO.bind ?_ (fun _ => ?_))
      | exact ih0 _ _ _
      | exact LeO.none _
      | refine LeO.ite ?_ ?_
      | refine LeO.bind ?_ (fun _ => ?_)
set_option maxHeartbeats 8000000 in
set_option maxRecDepth 100000 in
theorem slices_IndexFunc_int_int_of_cost_can_1.calls (k : Nat) (A0 : Option Addr) (c0 : Nat) (l0 : List Int)  (r : Int) (w : World) (hr0 : Kd.C (Kd.int .i64) w A0 l0.length l0) (hc0 : l0.length ≤ c0) (h : slices_IndexFunc_int_int_of_cost_can_1.f k l0 = some r) :
    Calls Try.prog 46 #[.slice A0 l0.length c0, .func (.func 38) #[] #[]] w fun e w' => e = .returned (.int .i64 r) ∧ Drawn0 w w' := by
  have HR0 := am hr0
  have HC0 := am hc0
  clear hr0 hc0
  have H : (slices_IndexFunc_int_int_of_cost_can_1.l0 k l0 (l0.length : Int) 0) = some r := h
  clear h
  have H' := am H
  clear H
  go_enter Try.func46, Try.ntmps46
  go_wp2
  go_loopg [8] k (fun kq v8 w' => ∃ (x8_1 : Int), v8 = .int .i64 x8_1 ∧ Aside0 (slices_IndexFunc_int_int_of_cost_can_1.l0 kq l0 (l0.length : Int) x8_1 = some r) ∧ Aside0 (kq ≤ k) ∧ Drawn0 w w')
  case atStart => exact ⟨(0), (by rfl), H', ⟨Nat.le_refl _⟩, by exact Drawn0.refl _⟩
  case round =>
    clear H'
    obtain ⟨x8_1, rfl, HA, HK1, ⟨m1, rfl⟩⟩ := hrel
    cases gk with
    | zero => exact absurd HA.out (by simp [slices_IndexFunc_int_int_of_cost_can_1.l0])
    | succ k1 =>
      have H := HA.out
      clear HA
      simp only [slices_IndexFunc_int_int_of_cost_can_1.l0] at H
      by_cases c3 : x8_1 < (l0.length : Int)
      · rw [if_pos c3] at H
        have c3b0 : decide (x8_1 < (l0.length : Int)) = true := decide_eq_true c3
        clear c3
        by_cases c4 : 0 ≤ x8_1
        · rw [if_pos c4] at H
          have c4b0 : decide (0 ≤ x8_1) = true := decide_eq_true c4
          clear c4
          by_cases c5 : x8_1 < (l0.length : Int)
          · rw [if_pos c5] at H
            have c5b0 : decide (x8_1 < (l0.length : Int)) = true := decide_eq_true c5
            clear c5
            replace H := Option.bind_eq_some_iff.mp H
            obtain ⟨t102, A60, H⟩ := H
            replace H : (if t102 = true then (some x8_1) else (slices_IndexFunc_int_int_of_cost_can_1.l0 k1 l0 (l0.length : Int) (wrap64 (x8_1 + 1)))) = some r := H
            have A6 := am A60
            clear A60
            by_cases c7 : t102 = true
            · subst c7
              have H1 : (some x8_1) = some r := by rw [if_pos rfl] at H; exact H
              clear H
              have H := H1
              clear H1
              obtain rfl := Option.some.inj H
              have p101 : 0 ≤ (x8_1 : Int) := of_decide_eq_true (by (with_reducible assumption))
              have q101 : x8_1 < (l0.length : Int) := of_decide_eq_true (by (with_reducible assumption))
              obtain ⟨ad101, e101, hx101_0⟩ := Kd.at_int HR0.out x8_1 p101 q101
              cases e101
              replace p101 := eq_true p101
              replace q101 := eq_true q101
              go_wp2_with ((go_at_call 38; (with_reducible refine (cost_can_1.calls (rd l0 x8_1) true _ A6.out).mono ?_); rintro e w' ⟨rfl, ⟨nd, rfl⟩⟩))
              go_ret
              exact ⟨by rfl, by repeat (first | exact Drawn0.refl _ | apply Drawn0.step)⟩
            · replace c7 := Bool.eq_false_iff.mpr c7
              subst c7
              have H1 : (slices_IndexFunc_int_int_of_cost_can_1.l0 k1 l0 (l0.length : Int) (wrap64 (x8_1 + 1))) = some r := by rw [if_neg (show ¬ (false = true) by decide)] at H; exact H
              clear H
              have H := H1
              clear H1
              have H' := am H
              clear H
              have p101 : 0 ≤ (x8_1 : Int) := of_decide_eq_true (by (with_reducible assumption))
              have q101 : x8_1 < (l0.length : Int) := of_decide_eq_true (by (with_reducible assumption))
              obtain ⟨ad101, e101, hx101_0⟩ := Kd.at_int HR0.out x8_1 p101 q101
              cases e101
              replace p101 := eq_true p101
              replace q101 := eq_true q101
              go_wp2_with ((go_at_call 38; (with_reducible refine (cost_can_1.calls (rd l0 x8_1) false _ A6.out).mono ?_); rintro e w' ⟨rfl, ⟨nd, rfl⟩⟩))
              go_roundg k1
              case measure => have := HK1.out; omega
              case rel => exact ⟨(wrap64 (x8_1 + 1)), (by rfl), H', ⟨by have := HK1.out; omega⟩, by repeat (first | exact Drawn0.refl _ | apply Drawn0.step)⟩
          · rw [if_neg c5] at H
            exact absurd H (by simp)
        · rw [if_neg c4] at H
          exact absurd H (by simp)
      · rw [if_neg c3] at H
        have c3b0 : decide (x8_1 < (l0.length : Int)) = false := decide_eq_false c3
        clear c3
        obtain rfl := Option.some.inj H
        go_wp2
        go_ret
        exact ⟨by rfl, by repeat (first | exact Drawn0.refl _ | apply Drawn0.step)⟩
end Go.Proofs.Ytkkocmmilmbgpaa.S
end
section
namespace Go.Proofs.Ytkkocmmilmbgpaa.S
open Go.RowKit Go.Proofs.YtkkocmmilmbgpaaW.PrintWords Go.Proofs.YtkkocmmilmbgpaaW.PrintLast Go.Proofs.YtkkocmmilmbgpaaW.PrintMore
attribute [local go_sem] max2_int min2_int max_two min_two max_three min_three max_four min_four
set_option linter.unusedVariables false
set_option linter.unusedSimpArgs false
def slices_ContainsFunc_int_int_of_cost_can_1.f (k : Nat) (l0 : List Int)  : Option (Bool) := (slices_IndexFunc_int_int_of_cost_can_1.f k l0).bind fun t103 => (some (decide (t103 ≥ 0)))
theorem slices_ContainsFunc_int_int_of_cost_can_1.mono : ∀ a0 k, LeO (slices_ContainsFunc_int_int_of_cost_can_1.f k a0) (slices_ContainsFunc_int_int_of_cost_can_1.f (k + 1) a0) := by
  intro a0 k
  unfold slices_ContainsFunc_int_int_of_cost_can_1.f
  repeat' first
      | (with_reducible exact slices_IndexFunc_int_int_of_cost_can_1.mono _ _)
      | (with_reducible exact LeO.refl _)
      | (with_reducible exact LeO.none _)
      | (with_reducible refine LeO.ite ?_ ?_)
      | (with_reducible refine LeO.bind ?_ (fun _ => ?_))
      | exact slices_IndexFunc_int_int_of_cost_can_1.mono _ _
      | exact LeO.none _
      | refine LeO.ite ?_ ?_
      | refine LeO.bind ?_ (fun _ => ?_)
set_option maxHeartbeats 8000000 in
set_option maxRecDepth 100000 in
theorem slices_ContainsFunc_int_int_of_cost_can_1.calls (k : Nat) (A0 : Option Addr) (c0 : Nat) (l0 : List Int)  (r : Bool) (w : World) (hr0 : Kd.C (Kd.int .i64) w A0 l0.length l0) (hc0 : l0.length ≤ c0) (h : slices_ContainsFunc_int_int_of_cost_can_1.f k l0 = some r) :
    Calls Try.prog 31 #[.slice A0 l0.length c0, .func (.func 38) #[] #[]] w fun e w' => e = .returned (.bool r) ∧ Drawn0 w w' := by
  have HR0 := am hr0
  have HC0 := am hc0
  clear hr0 hc0
  have H : ((slices_IndexFunc_int_int_of_cost_can_1.f k l0).bind fun t103 => (some (decide (t103 ≥ 0)))) = some r := h
  clear h
  replace H := Option.bind_eq_some_iff.mp H
  obtain ⟨t103, A30, H⟩ := H
  replace H : (some (decide (t103 ≥ 0))) = some r := H
  have A3 := am A30
  clear A30
  obtain rfl := Option.some.inj H
  go_enter Try.func31, Try.ntmps31
  go_wp2_with (((with_reducible refine gate_callee (f := 46) rfl ?_); refine goesL_ (some 7) rfl rfl Try.func46 (by kernel_rfl) rfl #[.slice A0 l0.length c0, .func (.func 38) #[] #[]] rfl (by (try simp only [List.map_toArray, List.map_cons, List.map_nil]); rfl) ?_; (with_reducible refine (slices_IndexFunc_int_int_of_cost_can_1.calls k _ _ l0  t103 _ ?side1 ?side2 A3.out).mono ?_); (case side1 => exact HR0.out); (case side2 => exact HC0.out); rintro e w' ⟨rfl, ⟨nd, rfl⟩⟩; refine ⟨_, rfl, ?_⟩))
  go_ret
  exact ⟨by rfl, by repeat (first | exact Drawn0.refl _ | apply Drawn0.step)⟩
end Go.Proofs.Ytkkocmmilmbgpaa.S
end
section
namespace Go.Proofs.Ytkkocmmilmbgpaa.S
open Go.RowKit Go.Proofs.YtkkocmmilmbgpaaW.PrintWords Go.Proofs.YtkkocmmilmbgpaaW.PrintLast Go.Proofs.YtkkocmmilmbgpaaW.PrintMore
attribute [local go_sem] max2_int min2_int max_two min_two max_three min_three max_four min_four
set_option linter.unusedVariables false
set_option linter.unusedSimpArgs false
def cost_can.l0 : Nat → List (S39) → Int → Int → Option (Int)
  | 0, _, _, _ => none
  | k + 1, x8, x9, x10 => if x10 < x9 then (if 0 ≤ x10 then (if x10 < (x8.length : Int) then (if (((rd_T39 x8 x10).f1).length : Int) > 256 then (some 1) else ((slices_ContainsFunc_int_int_of_cost_can_1.f k ((rd_T39 x8 x10).f1)).bind fun t106 => (if t106 = true then (some 1) else (cost_can.l0 k x8 x9 (wrap64 (x10 + 1)))))) else (none)) else (none)) else (some 0)
def cost_can.f (k : Nat) (l0 : List (S39)) : Option (Int) := if (l0.length : Int) > 4096 then (some 2) else (cost_can.l0 k l0 (l0.length : Int) 0)
theorem cost_can.mono_l : ∀ k, (∀ y0 y1 y2, LeO (cost_can.l0 k y0 y1 y2) (cost_can.l0 (k + 1) y0 y1 y2))
  | 0 => fun _ _ _ r h => by simp [cost_can.l0] at h
  | k + 1 => by
    have ih0 := cost_can.mono_l k
    · intro y0 y1 y2
      unfold cost_can.l0
      repeat' first
      | (with_reducible exact ih0 _ _ _)
      | (with_reducible exact slices_ContainsFunc_int_int_of_cost_can_1.mono _ _)
      | (with_reducible exact LeO.refl _)
      | (with_reducible exact LeO.none _)
      | (with_reducible refine LeO.ite ?_ ?_)
      | (with_reducible refine LeO.bind ?_ (fun _ => ?_))
      | exact ih0 _ _ _
      | exact slices_ContainsFunc_int_int_of_cost_can_1.mono _ _
      | exact LeO.none _
      | refine LeO.ite ?_ ?_
      | refine LeO.bind ?_ (fun _ => ?_)
theorem cost_can.mono : ∀ a0 k, LeO (cost_can.f k a0) (cost_can.f (k + 1) a0) := by
  intro a0 k
  have ih0 := cost_can.mono_l k
  unfold cost_can.f
  repeat' first
      | (with_reducible exact ih0 _ _ _)
      | (with_reducible exact slices_ContainsFunc_int_int_of_cost_can_1.mono _ _)
      | (with_reducible exact LeO.refl _)
      | (with_reducible exact LeO.none _)
      | (with_reducible refine LeO.ite ?_ ?_)
      | (with_reducible refine LeO.bind ?_ (fun _ => ?_))
      | exact ih0 _ _ _
      | exact slices_ContainsFunc_int_int_of_cost_can_1.mono _ _
      | exact LeO.none _
      | refine LeO.ite ?_ ?_
      | refine LeO.bind ?_ (fun _ => ?_)
set_option maxHeartbeats 8000000 in
set_option maxRecDepth 100000 in
theorem cost_can.calls (k : Nat) (A0 : Option Addr) (c0 : Nat) (l0 : List (S39)) (r : Int) (w : World) (hr0 : Kd.C k39 w A0 l0.length l0) (hc0 : l0.length ≤ c0) (h : cost_can.f k l0 = some r) :
    Calls Try.prog 24 #[.slice A0 l0.length c0] w fun e w' => e = .returned (.int .i64 r) ∧ Below w.heap.size w w' := by
  have hu39 := Try.underlying39
  have HR0 := am hr0
  have HC0 := am hc0
  clear hr0 hc0
  have HB := am (Below.refl w.heap.size w)
  have H : (if (l0.length : Int) > 4096 then (some 2) else (cost_can.l0 k l0 (l0.length : Int) 0)) = some r := h
  clear h
  by_cases c2 : (l0.length : Int) > 4096
  · rw [if_pos c2] at H
    have c2b0 : decide (4096 < (l0.length : Int)) = true := decide_eq_true c2
    have c2b1 : decide (4096 < l0.length) = true := decide_eq_true (by omega)
    clear c2
    obtain rfl := Option.some.inj H
    go_enter Try.func24, Try.ntmps24
    go_wp2
    go_ret
    exact ⟨by rfl, by exact HB.out⟩
  · rw [if_neg c2] at H
    have c2b0 : decide (4096 < (l0.length : Int)) = false := decide_eq_false c2
    have c2b1 : decide (4096 < l0.length) = false := decide_eq_false (by omega)
    clear c2
    have H' := am H
    clear H
    go_enter Try.func24, Try.ntmps24
    go_wp2
    go_loopg [10] k (fun kq v10 w' => ∃ (x10_1 : Int), v10 = .int .i64 x10_1 ∧ Aside0 (cost_can.l0 kq l0 (l0.length : Int) x10_1 = some r) ∧ Aside0 (kq ≤ k) ∧ Aside0 (Below w.heap.size w w'))
    case atStart => exact ⟨(0), (by rfl), H', ⟨Nat.le_refl _⟩, ⟨by exact HB.out⟩⟩
    case round =>
      clear H'
      try clear c2b0
      try clear c2b1
      obtain ⟨x10_1, rfl, HA, HK1, HB⟩ := hrel
      cases gk with
      | zero => exact absurd HA.out (by simp [cost_can.l0])
      | succ k1 =>
        have H := HA.out
        clear HA
        simp only [cost_can.l0] at H
        by_cases c3 : x10_1 < (l0.length : Int)
        · rw [if_pos c3] at H
          have c3b0 : decide (x10_1 < (l0.length : Int)) = true := decide_eq_true c3
          clear c3
          replace H := its H
          obtain ⟨c4, H⟩ := H
          have c4b0 : decide (0 ≤ x10_1) = true := decide_eq_true c4
          clear c4
          replace H := its H
          obtain ⟨c5, H⟩ := H
          have c5b0 : decide (x10_1 < (l0.length : Int)) = true := decide_eq_true c5
          clear c5
          by_cases c6 : (((rd_T39 l0 x10_1).f1).length : Int) > 256
          · rw [if_pos c6] at H
            have c6b0 : decide (256 < (((rd_T39 l0 x10_1).f1).length : Int)) = true := decide_eq_true c6
            have c6b1 : decide (256 < ((rd_T39 l0 x10_1).f1).length) = true := decide_eq_true (by omega)
            clear c6
            obtain rfl := Option.some.inj H
            have p104 : 0 ≤ (x10_1 : Int) := of_decide_eq_true (by (with_reducible assumption))
            have q104 : x10_1 < (l0.length : Int) := of_decide_eq_true (by (with_reducible assumption))
            obtain ⟨ad104, A104_1, c104_1, e104, hx104_0, hx104_1, hl104_1, hi104_1⟩ := at_T39 HR0.out x10_1 p104 q104
            cases e104
            replace hx104_0 := (HB.out.cell (World.block_lt_of_cell? w _ hx104_0)).trans hx104_0
            replace hx104_1 := (HB.out.cell (World.block_lt_of_cell? w _ hx104_1)).trans hx104_1
            have HR104_1 := am hi104_1
            have HC104_1 := am hl104_1
            clear hi104_1 hl104_1
            replace p104 := eq_true p104
            replace q104 := eq_true q104
            go_wp2_with (((with_reducible refine gate_dst (N := 4) rfl ?_); refine box_event ?hg (N := 4) ?hd (cs := #[.int .u64 0, .slice none 0 0]) (t := 39) ?hr ?_; (case hd => rfl); (case hg => rfl); (case hr => (go_simp; done)); intro gb105 hg w7 hbox hb; have BK105 := am (hbox); have GW105 := am ((by rw [hg]; exact (below_size HB.out) : w.heap.size ≤ gb105)); have GE105 := am ((by rw [hg]; exact (below_size HB.out) : w.heap.size ≤ gb105)); replace HB := am (below_step HB.out hb); clear hb hbox hg; have hcz8_0 : w7.cell? ⟨gb105, 0, none⟩ = some (.int .u64 0) := (blk_cell BK105.out 0).trans rfl; have hcz8_1 : w7.cell? ⟨gb105, 1, none⟩ = some (.slice none 0 0) := (blk_cell BK105.out 1).trans rfl; have hfz8_0 := blk_frozen BK105.out 0; have hfz8_1 := blk_frozen BK105.out 1))
            go_ret
            exact ⟨by rfl, by repeat ((with_reducible first | exact HB.out | refine below_set ?_ GE105.out))⟩
          · rw [if_neg c6] at H
            have c6b0 : decide (256 < (((rd_T39 l0 x10_1).f1).length : Int)) = false := decide_eq_false c6
            have c6b1 : decide (256 < ((rd_T39 l0 x10_1).f1).length) = false := decide_eq_false (by omega)
            clear c6
            replace H := Option.bind_eq_some_iff.mp H
            obtain ⟨t106, A90, H⟩ := H
            replace H : (if t106 = true then (some 1) else (cost_can.l0 k1 l0 (l0.length : Int) (wrap64 (x10_1 + 1)))) = some r := H
            have A9 := am A90
            clear A90
            by_cases c10 : t106 = true
            · subst c10
              have H1 : (some 1) = some r := by rw [if_pos rfl] at H; exact H
              clear H
              have H := H1
              clear H1
              obtain rfl := Option.some.inj H
              have p104 : 0 ≤ (x10_1 : Int) := of_decide_eq_true (by (with_reducible assumption))
              have q104 : x10_1 < (l0.length : Int) := of_decide_eq_true (by (with_reducible assumption))
              obtain ⟨ad104, A104_1, c104_1, e104, hx104_0, hx104_1, hl104_1, hi104_1⟩ := at_T39 HR0.out x10_1 p104 q104
              cases e104
              replace hx104_0 := (HB.out.cell (World.block_lt_of_cell? w _ hx104_0)).trans hx104_0
              replace hx104_1 := (HB.out.cell (World.block_lt_of_cell? w _ hx104_1)).trans hx104_1
              have HR104_1 := am hi104_1
              have HC104_1 := am hl104_1
              clear hi104_1 hl104_1
              replace p104 := eq_true p104
              replace q104 := eq_true q104
              go_wp2_with (first | ((with_reducible refine gate_dst (N := 4) rfl ?_); refine box_event ?hg (N := 4) ?hd (cs := #[.int .u64 0, .slice none 0 0]) (t := 39) ?hr ?_; (case hd => rfl); (case hg => rfl); (case hr => (go_simp; done)); intro gb105 hg w11 hbox hb; have BK105 := am (hbox); have GW105 := am ((by rw [hg]; exact (below_size HB.out) : w.heap.size ≤ gb105)); have GE105 := am ((by rw [hg]; exact (below_size HB.out) : w.heap.size ≤ gb105)); replace HB := am (below_step HB.out hb); clear hb hbox hg; have hcz12_0 : w11.cell? ⟨gb105, 0, none⟩ = some (.int .u64 0) := (blk_cell BK105.out 0).trans rfl; have hcz12_1 : w11.cell? ⟨gb105, 1, none⟩ = some (.slice none 0 0) := (blk_cell BK105.out 1).trans rfl; have hfz12_0 := blk_frozen BK105.out 0; have hfz12_1 := blk_frozen BK105.out 1) | (go_at_call 31; (with_reducible refine (slices_ContainsFunc_int_int_of_cost_can_1.calls k1 _ _ ((rd_T39 l0 x10_1).f1)  true _ ?side1 ?side2 A9.out).mono ?_); (case side1 => exact Kd.C_below HR104_1.out (by repeat ((with_reducible first | exact HB.out | refine below_set ?_ GE105.out)))); (case side2 => exact HC104_1.out); rintro e w' ⟨rfl, ⟨nd, rfl⟩⟩))
              go_ret
              exact ⟨by rfl, by repeat ((with_reducible first | exact HB.out | apply pw_below_drewN | refine below_set ?_ GE105.out))⟩
            · replace c10 := Bool.eq_false_iff.mpr c10
              subst c10
              have H1 : (cost_can.l0 k1 l0 (l0.length : Int) (wrap64 (x10_1 + 1))) = some r := by rw [if_neg (show ¬ (false = true) by decide)] at H; exact H
              clear H
              have H := H1
              clear H1
              have H' := am H
              clear H
              have p104 : 0 ≤ (x10_1 : Int) := of_decide_eq_true (by (with_reducible assumption))
              have q104 : x10_1 < (l0.length : Int) := of_decide_eq_true (by (with_reducible assumption))
              obtain ⟨ad104, A104_1, c104_1, e104, hx104_0, hx104_1, hl104_1, hi104_1⟩ := at_T39 HR0.out x10_1 p104 q104
              cases e104
              replace hx104_0 := (HB.out.cell (World.block_lt_of_cell? w _ hx104_0)).trans hx104_0
              replace hx104_1 := (HB.out.cell (World.block_lt_of_cell? w _ hx104_1)).trans hx104_1
              have HR104_1 := am hi104_1
              have HC104_1 := am hl104_1
              clear hi104_1 hl104_1
              replace p104 := eq_true p104
              replace q104 := eq_true q104
              go_wp2_with (first | ((with_reducible refine gate_dst (N := 4) rfl ?_); refine box_event ?hg (N := 4) ?hd (cs := #[.int .u64 0, .slice none 0 0]) (t := 39) ?hr ?_; (case hd => rfl); (case hg => rfl); (case hr => (go_simp; done)); intro gb105 hg w13 hbox hb; have BK105 := am (hbox); have GW105 := am ((by rw [hg]; exact (below_size HB.out) : w.heap.size ≤ gb105)); have GE105 := am ((by rw [hg]; exact (below_size HB.out) : w.heap.size ≤ gb105)); replace HB := am (below_step HB.out hb); clear hb hbox hg; have hcz14_0 : w13.cell? ⟨gb105, 0, none⟩ = some (.int .u64 0) := (blk_cell BK105.out 0).trans rfl; have hcz14_1 : w13.cell? ⟨gb105, 1, none⟩ = some (.slice none 0 0) := (blk_cell BK105.out 1).trans rfl; have hfz14_0 := blk_frozen BK105.out 0; have hfz14_1 := blk_frozen BK105.out 1) | (go_at_call 31; (with_reducible refine (slices_ContainsFunc_int_int_of_cost_can_1.calls k1 _ _ ((rd_T39 l0 x10_1).f1)  false _ ?side1 ?side2 A9.out).mono ?_); (case side1 => exact Kd.C_below HR104_1.out (by repeat ((with_reducible first | exact HB.out | refine below_set ?_ GE105.out)))); (case side2 => exact HC104_1.out); rintro e w' ⟨rfl, ⟨nd, rfl⟩⟩))
              go_roundg k1
              case measure => have := HK1.out; omega
              case rel => exact ⟨(wrap64 (x10_1 + 1)), (by rfl), H', ⟨by have := HK1.out; omega⟩, ⟨by repeat ((with_reducible first | exact HB.out | apply pw_below_drewN | refine below_set ?_ GE105.out))⟩⟩
        · rw [if_neg c3] at H
          have c3b0 : decide (x10_1 < (l0.length : Int)) = false := decide_eq_false c3
          clear c3
          obtain rfl := Option.some.inj H
          go_wp2
          go_ret
          exact ⟨by rfl, by exact HB.out⟩
end Go.Proofs.Ytkkocmmilmbgpaa.S
end
section
namespace Go.Proofs.Ytkkocmmilmbgpaa.S
open Go.RowKit Go.Proofs.YtkkocmmilmbgpaaW.PrintWords Go.Proofs.YtkkocmmilmbgpaaW.PrintLast Go.Proofs.YtkkocmmilmbgpaaW.PrintMore
attribute [local go_sem] max2_int min2_int max_two min_two max_three min_three max_four min_four
set_option linter.unusedVariables false
set_option linter.unusedSimpArgs false
def cost_Normal.f (k : Nat) (l0 : List (S39)) : Option ((List (S39)) × Int) := (cost_can.f k l0).bind fun t240 => (if t240 = 0 then ((cost_normal.f k l0).bind fun t241 => (some (t241, 0))) else (some (([] : List (S39)), t240)))
theorem cost_Normal.mono : ∀ a0 k, LeO (cost_Normal.f k a0) (cost_Normal.f (k + 1) a0) := by
  intro a0 k
  unfold cost_Normal.f
  repeat' first
      | (with_reducible exact cost_can.mono _ _)
      | (with_reducible exact cost_normal.mono _ _)
      | (with_reducible exact LeO.refl _)
      | (with_reducible exact LeO.none _)
      | (with_reducible refine LeO.ite ?_ ?_)
      | (with_reducible refine LeO.bind ?_ (fun _ => ?_))
      | exact cost_can.mono _ _
      | exact cost_normal.mono _ _
      | exact LeO.none _
      | refine LeO.ite ?_ ?_
      | refine LeO.bind ?_ (fun _ => ?_)
set_option maxHeartbeats 8000000 in
set_option maxRecDepth 100000 in
theorem cost_Normal.calls (k : Nat) (A0 : Option Addr) (c0 : Nat) (l0 : List (S39)) (r1 : List (S39)) (r2 : Int) (w : World) (hr0 : Kd.C k39 w A0 l0.length l0) (hc0 : l0.length ≤ c0) (h : cost_Normal.f k l0 = some (r1, r2)) :
    Calls Try.prog 10 #[.slice A0 l0.length c0] w fun e w' => ∃ v0_ : Value, e = .returned (.tuple #[v0_, .int .i64 r2]) ∧ Kd.N k39 39 w' w.heap.size (fun k_ => (w.heap.size ≤ k_)) v0_ r1 ∧ Below w.heap.size w w' := by
  have HR0 := am hr0
  have HC0 := am hc0
  clear hr0 hc0
  have HB := am (Below.refl w.heap.size w)
  have H : ((cost_can.f k l0).bind fun t240 => (if t240 = 0 then ((cost_normal.f k l0).bind fun t241 => (some (t241, 0))) else (some (([] : List (S39)), t240)))) = some (r1, r2) := h
  clear h
  replace H := Option.bind_eq_some_iff.mp H
  obtain ⟨t240, A20, H⟩ := H
  replace H : (if t240 = 0 then ((cost_normal.f k l0).bind fun t241 => (some (t241, 0))) else (some (([] : List (S39)), t240))) = some (r1, r2) := H
  have A2 := am A20
  clear A20
  by_cases c3 : t240 = 0
  · rw [if_pos c3] at H
    have c3b0 : (t240 == 0) = true := beq_iff_eq.mpr c3
    have c3b1 : (t240 != 0) = false := bne_eq_false_iff_eq.mpr c3
    clear c3
    replace H := Option.bind_eq_some_iff.mp H
    obtain ⟨t241, A40, H⟩ := H
    replace H : (some (t241, 0)) = some (r1, r2) := H
    have A4 := am A40
    clear A40
    simp only [Option.some.injEq, Prod.mk.injEq] at H
    obtain ⟨rfl, rfl⟩ := H
    go_enter Try.func10, Try.ntmps10
    go_wp2_with (first | ((with_reducible refine gate_callee (f := 24) rfl ?_); refine goesL_ (some 6) rfl rfl Try.func24 (by kernel_rfl) rfl #[.slice A0 l0.length c0] rfl (by (try simp only [List.map_toArray, List.map_cons, List.map_nil]); rfl) ?_; (with_reducible refine (cost_can.calls k _ _ l0 t240 _ ?side1 ?side2 A2.out).mono ?_); (case side1 => exact HR0.out); (case side2 => exact HC0.out); rintro e w5 ⟨rfl, hb⟩; refine ⟨_, rfl, ?_⟩; have n0_ := am (below_step (by exact HB.out) hb); clear HB; have HB := n0_; clear n0_; (try clear hb)) | ((with_reducible refine gate_callee (f := 25) rfl ?_); refine goesL_ (some 11) rfl rfl Try.func25 (by kernel_rfl) rfl #[.slice A0 l0.length c0] rfl (by (try simp only [List.map_toArray, List.map_cons, List.map_nil]); rfl) ?_; (with_reducible refine (cost_normal.calls k _ _ l0 t241 _ ?side1 ?side2 A4.out).mono ?_); (case side1 => exact (Kd.C_below HR0.out HB.out)); (case side2 => exact HC0.out); rintro e w6 ⟨v242, rfl, ho0, hb⟩; refine ⟨_, rfl, ?_⟩; have n0_ := am (Kd.N_lower (Kd.N_mono (ok' := fun k_ => (w.heap.size ≤ k_)) ho0 (fun k_ hk_ => (Nat.le_trans (below_size (by exact HB.out)) hk_))) (below_size (by exact HB.out))); have n1_ := am (below_step (by exact HB.out) hb); clear HB; have HO243 := n0_; have HB := n1_; clear n0_ n1_; (try clear hb); (try clear ho0)))
    go_ret2
    exact ⟨_, by rfl, by exact HO243.out, by exact HB.out⟩
  · rw [if_neg c3] at H
    have c3b0 : (t240 == 0) = false := beq_eq_false_iff_ne.mpr c3
    have c3b1 : (t240 != 0) = true := bne_iff_ne.mpr c3
    simp only [Option.some.injEq, Prod.mk.injEq] at H
    obtain ⟨rfl, rfl⟩ := H
    go_enter Try.func10, Try.ntmps10
    go_wp2_with (((with_reducible refine gate_callee (f := 24) rfl ?_); refine goesL_ (some 6) rfl rfl Try.func24 (by kernel_rfl) rfl #[.slice A0 l0.length c0] rfl (by (try simp only [List.map_toArray, List.map_cons, List.map_nil]); rfl) ?_; (with_reducible refine (cost_can.calls k _ _ l0 t240 _ ?side1 ?side2 A2.out).mono ?_); (case side1 => exact HR0.out); (case side2 => exact HC0.out); rintro e w7 ⟨rfl, hb⟩; refine ⟨_, rfl, ?_⟩; have n0_ := am (below_step (by exact HB.out) hb); clear HB; have HB := n0_; clear n0_; (try clear hb)))
    go_ret2
    exact ⟨_, by rfl, by exact Kd.N_nil _ _ _ _ _, by exact HB.out⟩
end Go.Proofs.Ytkkocmmilmbgpaa.S
end
section
namespace Go.Proofs.Ytkkocmmilmbgpaa.S
open Go.RowKit Go.Proofs.YtkkocmmilmbgpaaW.PrintWords Go.Proofs.YtkkocmmilmbgpaaW.PrintLast Go.Proofs.YtkkocmmilmbgpaaW.PrintMore
attribute [local go_sem] max2_int min2_int max_two min_two max_three min_three max_four min_four
set_option linter.unusedVariables false
set_option linter.unusedSimpArgs false
def cost_both.f (k : Nat) (l0 : List (S39)) (l1 : List (S39)) : Option (Int) := (cost_can.f k l0).bind fun t107 => (if t107 = 0 then ((cost_can.f k l1).bind fun t108 => (some t108)) else (some t107))
theorem cost_both.mono : ∀ a0 a1 k, LeO (cost_both.f k a0 a1) (cost_both.f (k + 1) a0 a1) := by
  intro a0 a1 k
  unfold cost_both.f
  repeat' first
      | (with_reducible exact cost_can.mono _ _)
      | (with_reducible exact LeO.refl _)
      | (with_reducible exact LeO.none _)
      | (with_reducible refine LeO.ite ?_ ?_)
      | (with_reducible refine LeO.bind ?_ (fun _ => ?_))
      | exact cost_can.mono _ _
      | exact LeO.none _
      | refine LeO.ite ?_ ?_
      | refine LeO.bind ?_ (fun _ => ?_)
set_option maxHeartbeats 8000000 in
set_option maxRecDepth 100000 in
theorem cost_both.calls (k : Nat) (A0 : Option Addr) (c0 : Nat) (l0 : List (S39)) (A1 : Option Addr) (c1 : Nat) (l1 : List (S39)) (r : Int) (w : World) (hr0 : Kd.C k39 w A0 l0.length l0) (hc0 : l0.length ≤ c0) (hr1 : Kd.C k39 w A1 l1.length l1) (hc1 : l1.length ≤ c1) (h : cost_both.f k l0 l1 = some r) :
    Calls Try.prog 28 #[.slice A0 l0.length c0, .slice A1 l1.length c1] w fun e w' => e = .returned (.int .i64 r) ∧ Below w.heap.size w w' := by
  have HR0 := am hr0
  have HC0 := am hc0
  clear hr0 hc0
  have HR1 := am hr1
  have HC1 := am hc1
  clear hr1 hc1
  have HB := am (Below.refl w.heap.size w)
  have H : ((cost_can.f k l0).bind fun t107 => (if t107 = 0 then ((cost_can.f k l1).bind fun t108 => (some t108)) else (some t107))) = some r := h
  clear h
  replace H := Option.bind_eq_some_iff.mp H
  obtain ⟨t107, A30, H⟩ := H
  replace H : (if t107 = 0 then ((cost_can.f k l1).bind fun t108 => (some t108)) else (some t107)) = some r := H
  have A3 := am A30
  clear A30
  by_cases c4 : t107 = 0
  · rw [if_pos c4] at H
    have c4b0 : (t107 == 0) = true := beq_iff_eq.mpr c4
    have c4b1 : (t107 != 0) = false := bne_eq_false_iff_eq.mpr c4
    clear c4
    replace H := Option.bind_eq_some_iff.mp H
    obtain ⟨t108, A50, H⟩ := H
    replace H : (some t108) = some r := H
    have A5 := am A50
    clear A50
    obtain rfl := Option.some.inj H
    go_enter Try.func28, Try.ntmps28
    go_wp2_with (first | ((with_reducible refine gate_callee (f := 24) rfl ?_); refine goesL_ (some 7) rfl rfl Try.func24 (by kernel_rfl) rfl #[.slice A0 l0.length c0] rfl (by (try simp only [List.map_toArray, List.map_cons, List.map_nil]); rfl) ?_; (with_reducible refine (cost_can.calls k _ _ l0 t107 _ ?side1 ?side2 A3.out).mono ?_); (case side1 => exact HR0.out); (case side2 => exact HC0.out); rintro e w6 ⟨rfl, hb⟩; refine ⟨_, rfl, ?_⟩; have n0_ := am (below_step (by exact HB.out) hb); clear HB; have HB := n0_; clear n0_; (try clear hb)) | ((with_reducible refine gate_callee (f := 24) rfl ?_); refine goesL_ (some 12) rfl rfl Try.func24 (by kernel_rfl) rfl #[.slice A1 l1.length c1] rfl (by (try simp only [List.map_toArray, List.map_cons, List.map_nil]); rfl) ?_; (with_reducible refine (cost_can.calls k _ _ l1 t108 _ ?side1 ?side2 A5.out).mono ?_); (case side1 => exact (Kd.C_below HR1.out HB.out)); (case side2 => exact HC1.out); rintro e w7 ⟨rfl, hb⟩; refine ⟨_, rfl, ?_⟩; have n0_ := am (below_step (by exact HB.out) hb); clear HB; have HB := n0_; clear n0_; (try clear hb)))
    go_ret
    exact ⟨by rfl, by exact HB.out⟩
  · rw [if_neg c4] at H
    have c4b0 : (t107 == 0) = false := beq_eq_false_iff_ne.mpr c4
    have c4b1 : (t107 != 0) = true := bne_iff_ne.mpr c4
    obtain rfl := Option.some.inj H
    go_enter Try.func28, Try.ntmps28
    go_wp2_with (((with_reducible refine gate_callee (f := 24) rfl ?_); refine goesL_ (some 7) rfl rfl Try.func24 (by kernel_rfl) rfl #[.slice A0 l0.length c0] rfl (by (try simp only [List.map_toArray, List.map_cons, List.map_nil]); rfl) ?_; (with_reducible refine (cost_can.calls k _ _ l0 t107 _ ?side1 ?side2 A3.out).mono ?_); (case side1 => exact HR0.out); (case side2 => exact HC0.out); rintro e w8 ⟨rfl, hb⟩; refine ⟨_, rfl, ?_⟩; have n0_ := am (below_step (by exact HB.out) hb); clear HB; have HB := n0_; clear n0_; (try clear hb)))
    go_ret
    exact ⟨by rfl, by exact HB.out⟩
end Go.Proofs.Ytkkocmmilmbgpaa.S
end

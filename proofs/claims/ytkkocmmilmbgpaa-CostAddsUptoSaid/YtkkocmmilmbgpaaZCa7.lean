/- Part 7 of a claim of this seat: texts merged by a program of the claim's session (wip/bundle.py). -/
import Derived.Test.YtkkocmmilmbgpaaZCa2
import Derived.Test.YtkkocmmilmbgpaaZCa4
import Derived.Test.YtkkocmmilmbgpaaZCa5
import Derived.Test.YtkkocmmilmbgpaaZCa6
section
namespace Go.Proofs.Ytkkocmmilmbgpaa.S
open Go.RowKit Go.Proofs.YtkkocmmilmbgpaaW.PrintWords Go.Proofs.YtkkocmmilmbgpaaW.PrintLast Go.Proofs.YtkkocmmilmbgpaaW.PrintMore
attribute [local go_sem] max2_int min2_int max_two min_two max_three min_three max_four min_four
set_option linter.unusedVariables false
set_option linter.unusedSimpArgs false
mutual
def cost_Times.l0 : Nat → List (S39) → List (S39) → List (S39) → Int → Int → Option ((List (S39)) × Int)
  | 0, _, _, _, _, _ => none
  | k + 1, x1, x7, x25, x26, x27 => if x27 < x26 then (if 0 ≤ x27 then (if x27 < (x25.length : Int) then (cost_Times.l1 k x1 x7 x25 x26 x27 x1 (x1.length : Int) 0 ((rd_T39 x25 x27).f0) ((rd_T39 x25 x27).f1)) else (none)) else (none)) else ((cost_normal.f k x7).bind fun t157 => (if (t157.length : Int) > 4096 then (some (([] : List (S39)), 2)) else (some (t157, 0))))
def cost_Times.l1 : Nat → List (S39) → List (S39) → List (S39) → Int → Int → List (S39) → Int → Int → Int → List Int → Option ((List (S39)) × Int)
  | 0, _, _, _, _, _, _, _, _, _, _ => none
  | k + 1, x1, x7, x25, x26, x27, x31, x32, x33, x162000, x162001 => if x33 < x32 then (if 0 ≤ x33 then (if x33 < (x31.length : Int) then ((cost_times.f x162000 ((rd_T39 x31 x33).f0)).bind fun t164 => (if 0 ≤ (mx (x162001.length : Int) (((rd_T39 x31 x33).f1).length : Int)) then (if (mx (x162001.length : Int) (((rd_T39 x31 x33).f1).length : Int) : Int).toNat ≤ 35184372088832 then ((cost_order.f k x162001 x162001).bind fun t169 => (cost_Times.l2 k x1 x7 x25 x26 x27 x31 x32 x33 ((rd_T39 x31 x33).f1) (((rd_T39 x31 x33).f1).length : Int) 0 x162000 x162001 t164 (cpy (List.replicate (mx (x162001.length : Int) (((rd_T39 x31 x33).f1).length : Int) : Int).toNat 0) x162001))) else (none)) else (none))) else (none)) else (none)) else (if (x7.length : Int) > 16384 then ((cost_normal.f k x7).bind fun t177 => (if (t177.length : Int) > 4096 then (some (([] : List (S39)), 2)) else (cost_Times.l0 k x1 t177 x25 x26 (wrap64 (x27 + 1))))) else (cost_Times.l0 k x1 x7 x25 x26 (wrap64 (x27 + 1))))
def cost_Times.l2 : Nat → List (S39) → List (S39) → List (S39) → Int → Int → List (S39) → Int → Int → List Int → Int → Int → Int → List Int → Int → List Int → Option ((List (S39)) × Int)
  | 0, _, _, _, _, _, _, _, _, _, _, _, _, _, _, _ => none
  | k + 1, x1, x7, x25, x26, x27, x31, x32, x33, x57, x58, x59, x162000, x162001, x169000, x169001 => if x59 < x58 then (if 0 ≤ x59 then (if x59 < (x57.length : Int) then (if x59 < (x169001.length : Int) then (cost_Times.l2 k x1 x7 x25 x26 x27 x31 x32 x33 x57 x58 (wrap64 (x59 + 1)) x162000 x162001 x169000 (x169001.set (x59 : Int).toNat (wrap64 ((rd x169001 x59) + (rd x57 x59))))) else (none)) else (none)) else (none)) else ((slices_ContainsFunc_int_int_of_cost_Times_1.f k x169001).bind fun t173 => (if t173 = true then (some (([] : List (S39)), 2)) else (if x7.length < 4398046511104 then (cost_Times.l1 k x1 (x7 ++ [(⟨x169000, x169001⟩ : S39)]) x25 x26 x27 x31 x32 (wrap64 (x33 + 1)) x162000 x162001) else (none))))
end
def cost_Times.f (k : Nat) (l0 : List (S39)) (l1 : List (S39)) : Option ((List (S39)) × Int) := (cost_both.f k l0 l1).bind fun t150 => (if t150 = 0 then ((cost_normal.f k l0).bind fun t151 => ((cost_normal.f k l1).bind fun t154 => (cost_Times.l0 k t154 ([] : List (S39)) t151 (t151.length : Int) 0))) else (some (([] : List (S39)), t150)))
theorem cost_Times.mono_l : ∀ k, (∀ y0 y1 y2 y3 y4, LeO (cost_Times.l0 k y0 y1 y2 y3 y4) (cost_Times.l0 (k + 1) y0 y1 y2 y3 y4)) ∧ (∀ y0 y1 y2 y3 y4 y5 y6 y7 y8 y9, LeO (cost_Times.l1 k y0 y1 y2 y3 y4 y5 y6 y7 y8 y9) (cost_Times.l1 (k + 1) y0 y1 y2 y3 y4 y5 y6 y7 y8 y9)) ∧ (∀ y0 y1 y2 y3 y4 y5 y6 y7 y8 y9 y10 y11 y12 y13 y14, LeO (cost_Times.l2 k y0 y1 y2 y3 y4 y5 y6 y7 y8 y9 y10 y11 y12 y13 y14) (cost_Times.l2 (k + 1) y0 y1 y2 y3 y4 y5 y6 y7 y8 y9 y10 y11 y12 y13 y14))
  | 0 => ⟨fun _ _ _ _ _ r h => by simp [cost_Times.l0] at h, fun _ _ _ _ _ _ _ _ _ _ r h => by simp [cost_Times.l1] at h, fun _ _ _ _ _ _ _ _ _ _ _ _ _ _ _ r h => by simp [cost_Times.l2] at h⟩
  | k + 1 => by
    obtain ⟨ih0, ih1, ih2⟩ := cost_Times.mono_l k
    refine ⟨?_, ?_, ?_⟩
    · intro y0 y1 y2 y3 y4
      unfold cost_Times.l0
      repeat' first
      | (with_reducible exact ih0 _ _ _ _ _)
      | (with_reducible exact ih1 _ _ _ _ _ _ _ _ _ _)
      | (with_reducible exact ih2 _ _ _ _ _ _ _ _ _ _ _ _ _ _ _)
      | (with_reducible exact cost_both.mono _ _ _)
      | (with_reducible exact cost_normal.mono _ _)
      | (with_reducible exact cost_order.mono _ _ _)
      | (with_reducible exact slices_ContainsFunc_int_int_of_cost_Times_1.mono _ _)
      | (with_reducible exact LeO.refl _)
      | (with_reducible exact LeO.none _)
      | (with_reducible refine LeO.ite ?_ ?_)
      | (with_reducible refine LeO.bind ?_ (fun _ => ?_))
      | exact ih0 _ _ _ _ _
      | exact ih1 _ _ _ _ _ _ _ _ _ _
      | exact ih2 _ _ _ _ _ _ _ _ _ _ _ _ _ _ _
      | exact cost_both.mono _ _ _
      | exact cost_normal.mono _ _
      | exact cost_order.mono _ _ _
      | exact slices_ContainsFunc_int_int_of_cost_Times_1.mono _ _
      | exact LeO.none _
      | refine LeO.ite ?_ ?_
      | refine LeO.bind ?_ (fun _ => ?_)
    · intro y0 y1 y2 y3 y4 y5 y6 y7 y8 y9
      unfold cost_Times.l1
      repeat' first
      | (with_reducible exact ih0 _ _ _ _ _)
      | (with_reducible exact ih1 _ _ _ _ _ _ _ _ _ _)
      | (with_reducible exact ih2 _ _ _ _ _ _ _ _ _ _ _ _ _ _ _)
      | (with_reducible exact cost_both.mono _ _ _)
      | (with_reducible exact cost_normal.mono _ _)
      | (with_reducible exact cost_order.mono _ _ _)
      | (with_reducible exact slices_ContainsFunc_int_int_of_cost_Times_1.mono _ _)
      | (with_reducible exact LeO.refl _)
      | (with_reducible exact LeO.none _)
      | (with_reducible refine LeO.ite ?_ ?_)
      | (with_reducible refine LeO.bind ?_ (fun _ => ?_))
      | exact ih0 _ _ _ _ _
      | exact ih1 _ _ _ _ _ _ _ _ _ _
      | exact ih2 _ _ _ _ _ _ _ _ _ _ _ _ _ _ _
      | exact cost_both.mono _ _ _
      | exact cost_normal.mono _ _
      | exact cost_order.mono _ _ _
      | exact slices_ContainsFunc_int_int_of_cost_Times_1.mono _ _
      | exact LeO.none _
      | refine LeO.ite ?_ ?_
      | refine LeO.bind ?_ (fun _ => ?_)
    · intro y0 y1 y2 y3 y4 y5 y6 y7 y8 y9 y10 y11 y12 y13 y14
      unfold cost_Times.l2
      repeat' first
      | (with_reducible exact ih0 _ _ _ _ _)
      | (with_reducible exact ih1 _ _ _ _ _ _ _ _ _ _)
      | (with_reducible exact ih2 _ _ _ _ _ _ _ _ _ _ _ _ _ _ _)
      | (with_reducible exact cost_both.mono _ _ _)
      | (with_reducible exact cost_normal.mono _ _)
      | (with_reducible exact cost_order.mono _ _ _)
      | (with_reducible exact slices_ContainsFunc_int_int_of_cost_Times_1.mono _ _)
      | (with_reducible exact LeO.refl _)
      | (with_reducible exact LeO.none _)
      | (with_reducible refine LeO.ite ?_ ?_)
      | (with_reducible refine LeO.bind ?_ (fun _ => ?_))
      | exact ih0 _ _ _ _ _
      | exact ih1 _ _ _ _ _ _ _ _ _ _
      | exact ih2 _ _ _ _ _ _ _ _ _ _ _ _ _ _ _
      | exact cost_both.mono _ _ _
      | exact cost_normal.mono _ _
      | exact cost_order.mono _ _ _
      | exact slices_ContainsFunc_int_int_of_cost_Times_1.mono _ _
      | exact LeO.none _
      | refine LeO.ite ?_ ?_
      | refine LeO.bind ?_ (fun _ => ?_)
theorem cost_Times.mono : ∀ a0 a1 k, LeO (cost_Times.f k a0 a1) (cost_Times.f (k + 1) a0 a1) := by
  intro a0 a1 k
  obtain ⟨ih0, ih1, ih2⟩ := cost_Times.mono_l k
  unfold cost_Times.f
  repeat' first
      | (with_reducible exact ih0 _ _ _ _ _)
      | (with_reducible exact ih1 _ _ _ _ _ _ _ _ _ _)
      | (with_reducible exact ih2 _ _ _ _ _ _ _ _ _ _ _ _ _ _ _)
      | (with_reducible exact cost_both.mono _ _ _)
      | (with_reducible exact cost_normal.mono _ _)
      | (with_reducible exact cost_order.mono _ _ _)
      | (with_reducible exact slices_ContainsFunc_int_int_of_cost_Times_1.mono _ _)
      | (with_reducible exact LeO.refl _)
      | (with_reducible exact LeO.none _)
      | (with_reducible refine LeO.ite ?_ ?_)
      | (with_reducible refine LeO.bind ?_ (fun _ => ?_))
      | exact ih0 _ _ _ _ _
      | exact ih1 _ _ _ _ _ _ _ _ _ _
      | exact ih2 _ _ _ _ _ _ _ _ _ _ _ _ _ _ _
      | exact cost_both.mono _ _ _
      | exact cost_normal.mono _ _
      | exact cost_order.mono _ _ _
      | exact slices_ContainsFunc_int_int_of_cost_Times_1.mono _ _
      | exact LeO.none _
      | refine LeO.ite ?_ ?_
      | refine LeO.bind ?_ (fun _ => ?_)
def cost_Times.T12 : Bool × List (List Nat × List Nat) := (true, [([], []), ([0], [0]), ([], []), ([2], [2]), ([1, 3], [1, 3]), ([], []), ([5], [5]), ([6], [6]), ([], []), ([8], [8]), ([9], [9]), ([7, 10], [7, 10]), ([11, 11], [11]), ([4, 12], [4, 12]), ([], []), ([14, 13, 4, 0, 1, 2, 3, 4, 5, 6, 7, 8, 9, 10, 11, 12, 13, 14], [13, 14])])
def cost_Times.B12 : List Nat := [0, 1, 0, 4, 15, 0, 32, 96, 0, 256, 768, 2016, 4064, 8191, 0, 32767]
theorem cost_Times.tab12 : rtab .any (opsOf Try.f14 12) = cost_Times.T12 := by kernel_rfl
theorem cost_Times.bits12 : waitsOk cost_Times.T12.2 cost_Times.B12 = true := by kernel_rfl
set_option maxHeartbeats 8000000 in
set_option maxRecDepth 100000 in
theorem cost_Times.calls (k : Nat) (A0 : Option Addr) (c0 : Nat) (l0 : List (S39)) (A1 : Option Addr) (c1 : Nat) (l1 : List (S39)) (r1 : List (S39)) (r2 : Int) (w : World) (hr0 : Kd.C k39 w A0 l0.length l0) (hc0 : l0.length ≤ c0) (hr1 : Kd.C k39 w A1 l1.length l1) (hc1 : l1.length ≤ c1) (h : cost_Times.f k l0 l1 = some (r1, r2)) :
    Calls Try.prog 14 #[.slice A0 l0.length c0, .slice A1 l1.length c1] w fun e w' => ∃ v0_ : Value, e = .returned (.tuple #[v0_, .int .i64 r2]) ∧ Kd.N k39 39 w' w.heap.size (fun k_ => (w.heap.size ≤ k_)) v0_ r1 ∧ Below w.heap.size w w' := by
  have hu39 := Try.underlying39
  have HR0 := am hr0
  have HC0 := am hc0
  clear hr0 hc0
  have HR1 := am hr1
  have HC1 := am hc1
  clear hr1 hc1
  have HB := am (Below.refl w.heap.size w)
  have H : ((cost_both.f k l0 l1).bind fun t150 => (if t150 = 0 then ((cost_normal.f k l0).bind fun t151 => ((cost_normal.f k l1).bind fun t154 => (cost_Times.l0 k t154 ([] : List (S39)) t151 (t151.length : Int) 0))) else (some (([] : List (S39)), t150)))) = some (r1, r2) := h
  clear h
  replace H := Option.bind_eq_some_iff.mp H
  obtain ⟨t150, A30, H⟩ := H
  replace H : (if t150 = 0 then ((cost_normal.f k l0).bind fun t151 => ((cost_normal.f k l1).bind fun t154 => (cost_Times.l0 k t154 ([] : List (S39)) t151 (t151.length : Int) 0))) else (some (([] : List (S39)), t150))) = some (r1, r2) := H
  have A3 := am A30
  clear A30
  by_cases c4 : t150 = 0
  · rw [if_pos c4] at H
    have c4b0 : (t150 == 0) = true := beq_iff_eq.mpr c4
    have c4b1 : (t150 != 0) = false := bne_eq_false_iff_eq.mpr c4
    clear c4
    replace H := Option.bind_eq_some_iff.mp H
    obtain ⟨t151, A50, H⟩ := H
    replace H : ((cost_normal.f k l1).bind fun t154 => (cost_Times.l0 k t154 ([] : List (S39)) t151 (t151.length : Int) 0)) = some (r1, r2) := H
    have A5 := am A50
    clear A50
    replace H := Option.bind_eq_some_iff.mp H
    obtain ⟨t154, A60, H⟩ := H
    replace H : (cost_Times.l0 k t154 ([] : List (S39)) t151 (t151.length : Int) 0) = some (r1, r2) := H
    have A6 := am A60
    clear A60
    have H' := am H
    clear H
    go_enter Try.func14, Try.ntmps14
    go_wp2_with (first | ((with_reducible refine gate_callee (f := 28) rfl ?_); refine goesL_ (some 17) rfl rfl Try.func28 (by kernel_rfl) rfl #[.slice A0 l0.length c0, .slice A1 l1.length c1] rfl (by (try simp only [List.map_toArray, List.map_cons, List.map_nil]); rfl) ?_; (with_reducible refine (cost_both.calls k _ _ l0 _ _ l1 t150 _ ?side1 ?side2 ?side3 ?side4 A3.out).mono ?_); (case side1 => exact HR0.out); (case side2 => exact HC0.out); (case side3 => exact HR1.out); (case side4 => exact HC1.out); rintro e w7 ⟨rfl, hb⟩; refine ⟨_, rfl, ?_⟩; replace HB := am (below_step HB.out hb); (try clear hb)) | ((with_reducible refine gate_callee (f := 25) rfl ?_); refine goesL_ (some 22) rfl rfl Try.func25 (by kernel_rfl) rfl #[.slice A0 l0.length c0] rfl (by (try simp only [List.map_toArray, List.map_cons, List.map_nil]); rfl) ?_; (with_reducible refine (cost_normal.calls k _ _ l0 t151 _ ?side1 ?side2 A5.out).mono ?_); (case side1 => exact (Kd.C_below HR0.out HB.out)); (case side2 => exact HC0.out); rintro e w8 ⟨v152, rfl, ho0, hb⟩; refine ⟨_, rfl, ?_⟩; have HO153 := am (Kd.N_lower (Kd.N_mono (ok' := fun k_ => (w.heap.size ≤ k_)) ho0 (fun k_ hk_ => (Nat.le_trans (below_size HB.out) hk_))) (below_size HB.out)); replace HB := am (below_step HB.out hb); (try clear hb); (try clear ho0)) | ((with_reducible refine gate_callee (f := 25) rfl ?_); refine goesL_ (some 24) rfl rfl Try.func25 (by kernel_rfl) rfl #[.slice A1 l1.length c1] rfl (by (try simp only [List.map_toArray, List.map_cons, List.map_nil]); rfl) ?_; (with_reducible refine (cost_normal.calls k _ _ l1 t154 _ ?side1 ?side2 A6.out).mono ?_); (case side1 => exact (Kd.C_below HR1.out HB.out)); (case side2 => exact HC1.out); rintro e w9 ⟨v155, rfl, ho0, hb⟩; refine ⟨_, rfl, ?_⟩; have HO156 := am (Kd.N_lower (Kd.N_mono (ok' := fun k_ => (w.heap.size ≤ k_) ∧ some k_ ≠ (v152 : Value).ownBlock) ho0 (fun k_ hk_ => ⟨(Nat.le_trans (below_size HB.out) hk_), (Kd.fresh' (Kd.N_lt HO153.out) k_ hk_)⟩)) (below_size HB.out)); replace HO153 := am (Kd.N_elder' HO153.out (Kd.N_base ho0) hb); replace HB := am (below_step HB.out hb); (try clear hb); (try clear ho0); obtain ⟨Ao10, co10, eo10⟩ := Kd.N_slice HO153.out; subst eo10))
    go_loopg [7, 27] k (fun kq v7 v27 w' => ∃ (x7_1 : List (S39)) (x27_1 : Int), v27 = .int .i64 x27_1 ∧ Aside0 (cost_Times.l0 kq t154 x7_1 t151 (t151.length : Int) x27_1 = some (r1, r2)) ∧ Aside0 (kq ≤ k) ∧ Aside0 (Kd.N k39 39 w' w.heap.size (fun k_ => (w.heap.size ≤ k_) ∧ some k_ ≠ (v7 : Value).ownBlock ∧ some k_ ≠ ((.slice Ao10 t151.length co10) : Value).ownBlock) v155 t154) ∧ Aside0 (Kd.N k39 39 w' w.heap.size (fun k_ => (w.heap.size ≤ k_) ∧ some k_ ≠ (v155 : Value).ownBlock ∧ some k_ ≠ ((.slice Ao10 t151.length co10) : Value).ownBlock) v7 x7_1) ∧ Aside0 (Kd.N k39 39 w' w.heap.size (fun k_ => (w.heap.size ≤ k_) ∧ some k_ ≠ (v155 : Value).ownBlock ∧ some k_ ≠ (v7 : Value).ownBlock) (.slice Ao10 t151.length co10) t151) ∧ Aside0 (Below w.heap.size w w'))
    case atStart => exact ⟨(([] : List (S39))), (0), (by rfl), H', ⟨Nat.le_refl _⟩, ⟨by exact Kd.N_mono HO156.out (fun _ hk => ⟨hk.1, ⟨(by simp [Value.ownBlock]), hk.2⟩⟩)⟩, ⟨by exact Kd.N_nil _ _ _ _ _⟩, ⟨by exact Kd.N_mono HO153.out (fun _ hk => ⟨hk.1, ⟨hk.2, (by simp [Value.ownBlock])⟩⟩)⟩, ⟨by exact HB.out⟩⟩
    case round =>
      clear H'
      try clear c4b0
      try clear c4b1
      obtain ⟨x7_1, x27_1, rfl, HA, HK1, HO_1, HO_7, HO_25, HB⟩ := hrel
      cases gk with
      | zero => exact absurd HA.out (by simp [cost_Times.l0])
      | succ k1 =>
        have H := HA.out
        clear HA
        simp only [cost_Times.l0] at H
        by_cases c11 : x27_1 < (t151.length : Int)
        · rw [if_pos c11] at H
          have c11b0 : decide (x27_1 < (t151.length : Int)) = true := decide_eq_true c11
          clear c11
          replace H := its H
          obtain ⟨c12, H⟩ := H
          have c12b0 : decide (0 ≤ x27_1) = true := decide_eq_true c12
          clear c12
          replace H := its H
          obtain ⟨c13, H⟩ := H
          have c13b0 : decide (x27_1 < (t151.length : Int)) = true := decide_eq_true c13
          clear c13
          have H' := am H
          clear H
          have p160 : 0 ≤ (x27_1 : Int) := of_decide_eq_true (by (with_reducible assumption))
          have q160 : x27_1 < (t151.length : Int) := of_decide_eq_true (by (with_reducible assumption))
          obtain ⟨ad160, A160_1, c160_1, e160, hx160_0, hx160_1, hl160_1, hi160_1⟩ := at_T39 (Kd.N_reads' HO_25.out).2.2 x27_1 p160 q160
          cases e160
          obtain ⟨ce160, hce160, hMe160, hcc160⟩ := Kd.N_get HO_25.out z39 x27_1 p160 (by exact q160)
          obtain ⟨ua160_1, uc160_1, rfl, ul160_1, ge160_1⟩ := k39_openF hMe160
          have hv160_1 := hcc160 1 _ rfl
          rw [add_field _ _ 1 (by omega)] at hv160_1
          replace hv160_1 := Option.some.inj (hv160_1.symm.trans hx160_1)
          injection hv160_1 with hva_ hvn_ hvc_
          rw [hva_] at ge160_1
          rw [hvc_] at ul160_1
          have HL160_1 := am (show Kd.V (Kd.int .i64) 3 _ w.heap.size _ _ ((rd_T39 t151 x27_1).f1) from Kd.V_mk ul160_1 ge160_1)
          clear hva_ hvn_ hvc_ ge160_1 ul160_1
          clear hcc160 hce160
          have HR160_1 := am hi160_1
          have HC160_1 := am hl160_1
          clear hi160_1 hl160_1
          replace p160 := eq_true p160
          replace q160 := eq_true q160
          go_wp2_with (((with_reducible refine gate_dst (N := 9) rfl ?_); refine box_event ?hg (N := 9) ?hd (cs := #[.int .u64 0, .slice none 0 0]) (t := 39) ?hr ?_; (case hd => rfl); (case hg => rfl); (case hr => (go_simp; done)); intro gb161 hg w14 hbox hb; replace HO_1 := am (Kd.N_below (Kd.N_elderB HO_1.out gb161 (Nat.le_of_eq hg.symm)) hb); replace HO_7 := am (Kd.N_below (Kd.N_elderB HO_7.out gb161 (Nat.le_of_eq hg.symm)) hb); replace HO_25 := am (Kd.N_below (Kd.N_elderB HO_25.out gb161 (Nat.le_of_eq hg.symm)) hb); replace HL160_1 := am (Kd.V_below (Kd.V_elderB HL160_1.out gb161 (Nat.le_of_eq hg.symm)) hb); replace HR160_1 := am (Kd.C_below HR160_1.out hb); have BK161 := am (hbox); have GW161 := am ((by rw [hg]; exact (below_size HB.out) : w.heap.size ≤ gb161)); have GE161 := am ((by rw [hg]; exact (below_size HB.out) : w.heap.size ≤ gb161)); replace HB := am (below_step HB.out hb); clear hb hbox hg; have hcz15_0 : w14.cell? ⟨gb161, 0, none⟩ = some (.int .u64 0) := (blk_cell BK161.out 0).trans rfl; have hcz15_1 : w14.cell? ⟨gb161, 1, none⟩ = some (.slice none 0 0) := (blk_cell BK161.out 1).trans rfl; have hfz15_0 := blk_frozen BK161.out 0; have hfz15_1 := blk_frozen BK161.out 1; obtain ⟨Ao16, co16, eo16⟩ := Kd.N_slice HO_1.out; subst eo16))
          go_loopg [7, 33] k1 (fun kq v7 v33 w' => ∃ (x7_2 : List (S39)) (x33_2 : Int), v33 = .int .i64 x33_2 ∧ Aside0 (cost_Times.l1 kq t154 x7_2 t151 (t151.length : Int) x27_1 t154 (t154.length : Int) x33_2 ((rd_T39 t151 x27_1).f0) ((rd_T39 t151 x27_1).f1) = some (r1, r2)) ∧ Aside0 (kq ≤ k1) ∧ Aside0 (Kd.N k39 39 w' w.heap.size (fun k_ => (w.heap.size ≤ k_) ∧ some k_ ≠ (v7 : Value).ownBlock ∧ some k_ ≠ ((.slice (some ad160) t151.length co10) : Value).ownBlock ∧ k_ ≠ gb161) (.slice Ao16 t154.length co16) t154) ∧ Aside0 (Kd.N k39 39 w' w.heap.size (fun k_ => (w.heap.size ≤ k_) ∧ some k_ ≠ ((.slice Ao16 t154.length co16) : Value).ownBlock ∧ some k_ ≠ ((.slice (some ad160) t151.length co10) : Value).ownBlock ∧ some k_ ≠ ((.slice Ao16 t154.length co16) : Value).ownBlock ∧ k_ ≠ gb161) v7 x7_2) ∧ Aside0 (N2 k39 39 w' w.heap.size (fun k_ => (w.heap.size ≤ k_) ∧ some k_ ≠ ((.slice Ao16 t154.length co16) : Value).ownBlock ∧ some k_ ≠ (v7 : Value).ownBlock ∧ some k_ ≠ ((.slice Ao16 t154.length co16) : Value).ownBlock ∧ k_ ≠ gb161) (.slice (some ad160) t151.length co10) t151 (Kd.int .i64) 3 (.slice A160_1 ((rd_T39 t151 x27_1).f1).length c160_1) ((rd_T39 t151 x27_1).f1)) ∧ Aside0 (Kd.N k39 39 w' w.heap.size (fun k_ => (w.heap.size ≤ k_) ∧ some k_ ≠ (v7 : Value).ownBlock ∧ some k_ ≠ ((.slice (some ad160) t151.length co10) : Value).ownBlock ∧ k_ ≠ gb161) (.slice Ao16 t154.length co16) t154) ∧ Aside0 (w'.heap[gb161]? = some (.cells #[.int .u64 ((rd_T39 t151 x27_1).f0), (.slice A160_1 ((rd_T39 t151 x27_1).f1).length c160_1)] 39 (0, 0))) ∧ Aside0 (Below w.heap.size w w'))
          case atStart => exact ⟨(x7_1), (0), (by rfl), H', ⟨Nat.le_refl _⟩, ⟨by exact Kd.N_mono (Kd.N_far (p := ⟨gb161, 1, none⟩) (Kd.N_far (p := ⟨gb161, 0, none⟩) (Kd.N_mono HO_1.out (fun k_ hk => (⟨hk, hk.2⟩ : _ ∧ k_ ≠ gb161))) (fun _ hk => hk.2) (.int .u64 ((rd_T39 t151 x27_1).f0))) (fun _ hk => hk.2) (.slice A160_1 ((rd_T39 t151 x27_1).f1).length c160_1)) (fun _ hk => ⟨hk.1.1.1, ⟨hk.1.1.2.1, ⟨hk.1.1.2.2, hk.1.2⟩⟩⟩)⟩, ⟨by exact Kd.N_mono (Kd.N_far (p := ⟨gb161, 1, none⟩) (Kd.N_far (p := ⟨gb161, 0, none⟩) (Kd.N_mono HO_7.out (fun k_ hk => (⟨hk, hk.2⟩ : _ ∧ k_ ≠ gb161))) (fun _ hk => hk.2) (.int .u64 ((rd_T39 t151 x27_1).f0))) (fun _ hk => hk.2) (.slice A160_1 ((rd_T39 t151 x27_1).f1).length c160_1)) (fun _ hk => ⟨hk.1.1.1, ⟨hk.1.1.2.1, ⟨hk.1.1.2.2, ⟨hk.1.1.2.1, hk.1.2⟩⟩⟩⟩)⟩, ⟨⟨by exact Kd.N_mono (Kd.N_far (p := ⟨gb161, 1, none⟩) (Kd.N_far (p := ⟨gb161, 0, none⟩) (Kd.N_mono HO_25.out (fun k_ hk => (⟨hk, hk.2⟩ : _ ∧ k_ ≠ gb161))) (fun _ hk => hk.2) (.int .u64 ((rd_T39 t151 x27_1).f0))) (fun _ hk => hk.2) (.slice A160_1 ((rd_T39 t151 x27_1).f1).length c160_1)) (fun _ hk => ⟨hk.1.1.1, ⟨hk.1.1.2.1, ⟨hk.1.1.2.2, ⟨hk.1.1.2.1, hk.1.2⟩⟩⟩⟩), by exact Kd.V_mono (Kd.V_far (p := ⟨gb161, 1, none⟩) (Kd.V_far (p := ⟨gb161, 0, none⟩) HL160_1.out (fun _ hk => hk.2) (.int .u64 ((rd_T39 t151 x27_1).f0))) (fun _ hk => hk.2) (.slice A160_1 ((rd_T39 t151 x27_1).f1).length c160_1)) (fun k_ hk => ⟨hk.1.1.1, ⟨hk.1.1.2.1, ⟨hk.1.1.2.2, ⟨hk.1.1.2.1, hk.2⟩⟩⟩⟩)⟩⟩, ⟨by exact Kd.N_mono (Kd.N_far (p := ⟨gb161, 1, none⟩) (Kd.N_far (p := ⟨gb161, 0, none⟩) (Kd.N_mono HO_1.out (fun k_ hk => (⟨hk, hk.2⟩ : _ ∧ k_ ≠ gb161))) (fun _ hk => hk.2) (.int .u64 ((rd_T39 t151 x27_1).f0))) (fun _ hk => hk.2) (.slice A160_1 ((rd_T39 t151 x27_1).f1).length c160_1)) (fun _ hk => ⟨hk.1.1.1, ⟨hk.1.1.2.1, ⟨hk.1.1.2.2, hk.1.2⟩⟩⟩)⟩, ⟨by (with_reducible repeat (first | refine blk_drewN ?_ _ | refine blk_drew ?_ | refine blk_alloc ?_ _)); refine blk_put (cs := #[.int .u64 ((rd_T39 t151 x27_1).f0), .slice none 0 0]) ?_ 1 _ rfl; (with_reducible repeat (first | refine blk_drewN ?_ _ | refine blk_drew ?_ | refine blk_alloc ?_ _)); refine blk_put (cs := #[.int .u64 0, .slice none 0 0]) ?_ 0 _ rfl; (with_reducible repeat (first | refine blk_drewN ?_ _ | refine blk_drew ?_ | refine blk_alloc ?_ _)); exact BK161.out⟩, ⟨by repeat ((with_reducible first | exact HB.out | refine below_set ?_ GE161.out))⟩⟩
          case round =>
            clear H'
            try clear c11b0
            try clear c12b0
            try clear c13b0
            try clear hcz15_0
            try clear hcz15_1
            try clear hfz15_0
            try clear hfz15_1
            try clear hx160_0
            try clear hx160_1
            try clear p160
            try clear q160
            obtain ⟨x7_2, x33_2, rfl, HA, HK2, HO_1, HO_7, HO_25, HO_31, BK161, HB⟩ := hrel
            cases gk with
            | zero => exact absurd HA.out (by simp [cost_Times.l1])
            | succ k2 =>
              have H := HA.out
              clear HA
              simp only [cost_Times.l1] at H
              by_cases c17 : x33_2 < (t154.length : Int)
              · rw [if_pos c17] at H
                have c17b0 : decide (x33_2 < (t154.length : Int)) = true := decide_eq_true c17
                clear c17
                replace H := its H
                obtain ⟨c18, H⟩ := H
                have c18b0 : decide (0 ≤ x33_2) = true := decide_eq_true c18
                clear c18
                replace H := its H
                obtain ⟨c19, H⟩ := H
                have c19b0 : decide (x33_2 < (t154.length : Int)) = true := decide_eq_true c19
                clear c19
                replace H := Option.bind_eq_some_iff.mp H
                obtain ⟨t164, A200, H⟩ := H
                replace H : (if 0 ≤ (mx (((rd_T39 t151 x27_1).f1).length : Int) (((rd_T39 t154 x33_2).f1).length : Int)) then (if (mx (((rd_T39 t151 x27_1).f1).length : Int) (((rd_T39 t154 x33_2).f1).length : Int) : Int).toNat ≤ 35184372088832 then ((cost_order.f k2 ((rd_T39 t151 x27_1).f1) ((rd_T39 t151 x27_1).f1)).bind fun t169 => (cost_Times.l2 k2 t154 x7_2 t151 (t151.length : Int) x27_1 t154 (t154.length : Int) x33_2 ((rd_T39 t154 x33_2).f1) (((rd_T39 t154 x33_2).f1).length : Int) 0 ((rd_T39 t151 x27_1).f0) ((rd_T39 t151 x27_1).f1) t164 (cpy (List.replicate (mx (((rd_T39 t151 x27_1).f1).length : Int) (((rd_T39 t154 x33_2).f1).length : Int) : Int).toNat 0) ((rd_T39 t151 x27_1).f1)))) else (none)) else (none)) = some (r1, r2) := H
                have A20 := am A200
                clear A200
                obtain ⟨ji21, hji21⟩ : ∃ j_ : Int, (mx (((rd_T39 t151 x27_1).f1).length : Int) (((rd_T39 t154 x33_2).f1).length : Int)) = j_ := ⟨_, rfl⟩
                replace H : (if 0 ≤ (ji21) then (if (ji21 : Int).toNat ≤ 35184372088832 then ((cost_order.f k2 ((rd_T39 t151 x27_1).f1) ((rd_T39 t151 x27_1).f1)).bind fun t169 => (cost_Times.l2 k2 t154 x7_2 t151 (t151.length : Int) x27_1 t154 (t154.length : Int) x33_2 ((rd_T39 t154 x33_2).f1) (((rd_T39 t154 x33_2).f1).length : Int) 0 ((rd_T39 t151 x27_1).f0) ((rd_T39 t151 x27_1).f1) t164 (cpy (List.replicate (ji21 : Int).toNat 0) ((rd_T39 t151 x27_1).f1)))) else (none)) else (none)) = some (r1, r2) := by (rw [hji21] at H; exact H)
                have hji21_ : (if (((rd_T39 t151 x27_1).f1).length : Int) < (((rd_T39 t154 x33_2).f1).length : Int) then (((rd_T39 t154 x33_2).f1).length : Int) else (((rd_T39 t151 x27_1).f1).length : Int)) = ji21 := hji21
                have hji21n : (if ((rd_T39 t151 x27_1).f1).length < ((rd_T39 t154 x33_2).f1).length then (((rd_T39 t154 x33_2).f1).length : Int) else (((rd_T39 t151 x27_1).f1).length : Int)) = ji21 := by rw [← hji21_]; simp only [Int.ofNat_lt]
                replace H := its H
                obtain ⟨c22, H⟩ := H
                have c22b0 := eq_true c22
                have c22b1 : decide (0 ≤ (ji21)) = true := decide_eq_true c22
                clear c22
                replace H := its H
                obtain ⟨c23, H⟩ := H
                have c23b0 := eq_true c23
                have c23b1 : decide ((ji21 : Int).toNat ≤ 35184372088832) = true := decide_eq_true c23
                clear c23
                obtain ⟨y165, hy165⟩ : ∃ y_ : List Int, y_ = (List.replicate (ji21 : Int).toNat 0) := ⟨_, rfl⟩
                replace H : ((cost_order.f k2 ((rd_T39 t151 x27_1).f1) ((rd_T39 t151 x27_1).f1)).bind fun t169 => (cost_Times.l2 k2 t154 x7_2 t151 (t151.length : Int) x27_1 t154 (t154.length : Int) x33_2 ((rd_T39 t154 x33_2).f1) (((rd_T39 t154 x33_2).f1).length : Int) 0 ((rd_T39 t151 x27_1).f0) ((rd_T39 t151 x27_1).f1) t164 (cpy y165 ((rd_T39 t151 x27_1).f1)))) = some (r1, r2) := by (rw [hy165]; with_reducible exact H)
                have Ny165 := am hy165
                clear hy165
                replace H := Option.bind_eq_some_iff.mp H
                obtain ⟨t169, A240, H⟩ := H
                replace H : (cost_Times.l2 k2 t154 x7_2 t151 (t151.length : Int) x27_1 t154 (t154.length : Int) x33_2 ((rd_T39 t154 x33_2).f1) (((rd_T39 t154 x33_2).f1).length : Int) 0 ((rd_T39 t151 x27_1).f0) ((rd_T39 t151 x27_1).f1) t164 (cpy y165 ((rd_T39 t151 x27_1).f1))) = some (r1, r2) := H
                have A24 := am A240
                clear A240
                have H' := am H
                clear H
                have p162 : 0 ≤ (x33_2 : Int) := of_decide_eq_true (by (with_reducible assumption))
                have q162 : x33_2 < (t154.length : Int) := of_decide_eq_true (by (with_reducible assumption))
                obtain ⟨ad162, A162_1, c162_1, e162, hx162_0, hx162_1, hl162_1, hi162_1⟩ := at_T39 (Kd.N_reads' HO_31.out).2.2 x33_2 p162 q162
                cases e162
                obtain ⟨ce162, hce162, hMe162, hcc162⟩ := Kd.N_get HO_31.out z39 x33_2 p162 (by exact q162)
                obtain ⟨ua162_1, uc162_1, rfl, ul162_1, ge162_1⟩ := k39_openF hMe162
                have hv162_1 := hcc162 1 _ rfl
                rw [add_field _ _ 1 (by omega)] at hv162_1
                replace hv162_1 := Option.some.inj (hv162_1.symm.trans hx162_1)
                injection hv162_1 with hva_ hvn_ hvc_
                rw [hva_] at ge162_1
                rw [hvc_] at ul162_1
                have HL162_1 := am (show Kd.V (Kd.int .i64) 3 _ w.heap.size _ _ ((rd_T39 t154 x33_2).f1) from Kd.V_mk ul162_1 ge162_1)
                clear hva_ hvn_ hvc_ ge162_1 ul162_1
                clear hcc162 hce162
                have HR162_1 := am hi162_1
                have HC162_1 := am hl162_1
                clear hi162_1 hl162_1
                replace p162 := eq_true p162
                replace q162 := eq_true q162
                try go_wp2_with (((with_reducible refine gate_dst (N := 11) rfl ?_); refine box_event ?hg (N := 11) ?hd (cs := #[.int .u64 0, .slice none 0 0]) (t := 39) ?hr ?_; (case hd => rfl); (case hg => rfl); (case hr => (go_simp; done)); intro gb163 hg w25 hbox hb; replace HO_1 := am (Kd.N_below (Kd.N_elderB HO_1.out gb163 (Nat.le_of_eq hg.symm)) hb); replace HO_7 := am (Kd.N_below (Kd.N_elderB HO_7.out gb163 (Nat.le_of_eq hg.symm)) hb); replace HO_25 := am (N2_below (N2_elderB (by (with_reducible repeat (first | apply N2_alloc | apply N2_drewN | apply N2_drew)); exact HO_25.out) gb163 (Nat.le_of_eq hg.symm)) hb); replace HO_31 := am (Kd.N_below (Kd.N_elderB HO_31.out gb163 (Nat.le_of_eq hg.symm)) hb); replace HL162_1 := am (Kd.V_below (Kd.V_elderB HL162_1.out gb163 (Nat.le_of_eq hg.symm)) hb); replace HR162_1 := am (Kd.C_below HR162_1.out hb); have BK163 := am (hbox); have GW163 := am ((by rw [hg]; exact (below_size HB.out) : w.heap.size ≤ gb163)); have GE163 := am ((by rw [hg]; exact (below_size HB.out) : w.heap.size ≤ gb163)); replace HB := am (below_step HB.out hb); have NB161_163 := am ((by rw [hg]; exact Nat.ne_of_lt (blk_lt (g := gb161) (o := .cells #[.int .u64 ((rd_T39 t151 x27_1).f0), .slice A160_1 ((rd_T39 t151 x27_1).f1).length c160_1] 39 (0, 0)) (by (with_reducible repeat (first | refine blk_drewN ?_ _ | refine blk_drew ?_ | refine blk_alloc ?_ _)); exact BK161.out)) : gb161 ≠ gb163)); have NB163_161 := am ((by rw [hg]; exact Nat.ne_of_gt (blk_lt (g := gb161) (o := .cells #[.int .u64 ((rd_T39 t151 x27_1).f0), .slice A160_1 ((rd_T39 t151 x27_1).f1).length c160_1] 39 (0, 0)) (by (with_reducible repeat (first | refine blk_drewN ?_ _ | refine blk_drew ?_ | refine blk_alloc ?_ _)); exact BK161.out)) : gb163 ≠ gb161)); replace BK161 := am (blk_below (g := gb161) (o := .cells #[.int .u64 ((rd_T39 t151 x27_1).f0), .slice A160_1 ((rd_T39 t151 x27_1).f1).length c160_1] 39 (0, 0)) (by (with_reducible repeat (first | refine blk_drewN ?_ _ | refine blk_drew ?_ | refine blk_alloc ?_ _)); exact BK161.out) hb); clear hb hbox hg; have hnb26 := eq_false NB163_161.out; have hnc26 := eq_false NB161_163.out; have hcz27_0 : w25.cell? ⟨gb163, 0, none⟩ = some (.int .u64 0) := (blk_cell BK163.out 0).trans rfl; have hcz27_1 : w25.cell? ⟨gb163, 1, none⟩ = some (.slice none 0 0) := (blk_cell BK163.out 1).trans rfl; have hfz27_0 := blk_frozen BK163.out 0; have hfz27_1 := blk_frozen BK163.out 1))
                have n0_ : Aside0 (Kd.N k39 39 ((w25.setCell ⟨gb163, 0, none⟩ (.int .u64 ((rd_T39 t154 x33_2).f0))).setCell ⟨gb163, 1, none⟩ (.slice A162_1 ((rd_T39 t154 x33_2).f1).length c162_1)) w.heap.size (fun k_ => (w.heap.size ≤ k_) ∧ some k_ ≠ (u7 : Value).ownBlock ∧ some k_ ≠ (.slice (some ad160) t151.length co10 : Value).ownBlock ∧ k_ ≠ gb161 ∧ k_ ≠ gb163) (.slice (some ad162) t154.length co16) t154) := ⟨by exact Kd.N_mono (Kd.N_far (p := ⟨gb163, 1, none⟩) (Kd.N_far (p := ⟨gb163, 0, none⟩) (Kd.N_mono HO_1.out (fun k_ hk => (⟨hk, hk.2⟩ : _ ∧ k_ ≠ gb163))) (fun _ hk => hk.2) (.int .u64 ((rd_T39 t154 x33_2).f0))) (fun _ hk => hk.2) (.slice A162_1 ((rd_T39 t154 x33_2).f1).length c162_1)) (fun _ hk => ⟨hk.1.1.1, ⟨hk.1.1.2.1, ⟨hk.1.1.2.2.1, ⟨hk.1.1.2.2.2, hk.1.2⟩⟩⟩⟩)⟩
                have n1_ : Aside0 (Kd.N k39 39 ((w25.setCell ⟨gb163, 0, none⟩ (.int .u64 ((rd_T39 t154 x33_2).f0))).setCell ⟨gb163, 1, none⟩ (.slice A162_1 ((rd_T39 t154 x33_2).f1).length c162_1)) w.heap.size (fun k_ => (w.heap.size ≤ k_) ∧ some k_ ≠ (.slice (some ad162) t154.length co16 : Value).ownBlock ∧ some k_ ≠ (.slice (some ad160) t151.length co10 : Value).ownBlock ∧ some k_ ≠ (.slice (some ad162) t154.length co16 : Value).ownBlock ∧ k_ ≠ gb161 ∧ k_ ≠ gb163) u7 x7_2) := ⟨by exact Kd.N_mono (Kd.N_far (p := ⟨gb163, 1, none⟩) (Kd.N_far (p := ⟨gb163, 0, none⟩) (Kd.N_mono HO_7.out (fun k_ hk => (⟨hk, hk.2⟩ : _ ∧ k_ ≠ gb163))) (fun _ hk => hk.2) (.int .u64 ((rd_T39 t154 x33_2).f0))) (fun _ hk => hk.2) (.slice A162_1 ((rd_T39 t154 x33_2).f1).length c162_1)) (fun _ hk => ⟨hk.1.1.1, ⟨hk.1.1.2.1, ⟨hk.1.1.2.2.1, ⟨hk.1.1.2.2.2.1, ⟨hk.1.1.2.2.2.2, hk.1.2⟩⟩⟩⟩⟩)⟩
                have n2_ : Aside0 (N2 k39 39 ((w25.setCell ⟨gb163, 0, none⟩ (.int .u64 ((rd_T39 t154 x33_2).f0))).setCell ⟨gb163, 1, none⟩ (.slice A162_1 ((rd_T39 t154 x33_2).f1).length c162_1)) w.heap.size (fun k_ => (w.heap.size ≤ k_) ∧ some k_ ≠ (.slice (some ad162) t154.length co16 : Value).ownBlock ∧ some k_ ≠ (u7 : Value).ownBlock ∧ some k_ ≠ (.slice (some ad162) t154.length co16 : Value).ownBlock ∧ k_ ≠ gb161 ∧ k_ ≠ gb163) (.slice (some ad160) t151.length co10) t151 (Kd.int .i64) 3 (.slice A160_1 ((rd_T39 t151 x27_1).f1).length c160_1) ((rd_T39 t151 x27_1).f1)) := ⟨by (with_reducible repeat (first | apply N2_alloc | apply N2_drewN | apply N2_drew)); exact N2_mono (N2_far (p := ⟨gb163, 1, none⟩) (N2_far (p := ⟨gb163, 0, none⟩) (N2_mono HO_25.out (fun k_ hk => (⟨hk, hk.2⟩ : _ ∧ k_ ≠ gb163))) (fun _ hk => hk.2) (.int .u64 ((rd_T39 t154 x33_2).f0))) (fun _ hk => hk.2) (.slice A162_1 ((rd_T39 t154 x33_2).f1).length c162_1)) (fun _ hk => ⟨hk.1.1.1, ⟨hk.1.1.2.1, ⟨hk.1.1.2.2.1, ⟨hk.1.1.2.2.2.1, ⟨hk.1.1.2.2.2.2, hk.1.2⟩⟩⟩⟩⟩)⟩
                have n3_ : Aside0 (Kd.N k39 39 ((w25.setCell ⟨gb163, 0, none⟩ (.int .u64 ((rd_T39 t154 x33_2).f0))).setCell ⟨gb163, 1, none⟩ (.slice A162_1 ((rd_T39 t154 x33_2).f1).length c162_1)) w.heap.size (fun k_ => (w.heap.size ≤ k_) ∧ some k_ ≠ (u7 : Value).ownBlock ∧ some k_ ≠ (.slice (some ad160) t151.length co10 : Value).ownBlock ∧ k_ ≠ gb161 ∧ k_ ≠ gb163) (.slice (some ad162) t154.length co16) t154) := ⟨by exact Kd.N_mono (Kd.N_far (p := ⟨gb163, 1, none⟩) (Kd.N_far (p := ⟨gb163, 0, none⟩) (Kd.N_mono HO_31.out (fun k_ hk => (⟨hk, hk.2⟩ : _ ∧ k_ ≠ gb163))) (fun _ hk => hk.2) (.int .u64 ((rd_T39 t154 x33_2).f0))) (fun _ hk => hk.2) (.slice A162_1 ((rd_T39 t154 x33_2).f1).length c162_1)) (fun _ hk => ⟨hk.1.1.1, ⟨hk.1.1.2.1, ⟨hk.1.1.2.2.1, ⟨hk.1.1.2.2.2, hk.1.2⟩⟩⟩⟩)⟩
                have n4_ : Aside0 (Kd.V (Kd.int .i64) 3 ((w25.setCell ⟨gb163, 0, none⟩ (.int .u64 ((rd_T39 t154 x33_2).f0))).setCell ⟨gb163, 1, none⟩ (.slice A162_1 ((rd_T39 t154 x33_2).f1).length c162_1)) w.heap.size (fun k_ => (w.heap.size ≤ k_) ∧ some k_ ≠ (u7 : Value).ownBlock ∧ some k_ ≠ (.slice (some ad160) t151.length co10 : Value).ownBlock ∧ some k_ ≠ (.slice (some ad162) t154.length co16 : Value).ownBlock ∧ k_ ≠ gb161 ∧ k_ ≠ gb163) (.slice A162_1 ((rd_T39 t154 x33_2).f1).length c162_1) ((rd_T39 t154 x33_2).f1)) := ⟨by exact Kd.V_mono (Kd.V_far (p := ⟨gb163, 1, none⟩) (Kd.V_far (p := ⟨gb163, 0, none⟩) (Kd.V_mono HL162_1.out (fun k_ hk => (⟨hk, hk.2⟩ : _ ∧ k_ ≠ gb163))) (fun _ hk => hk.2) (.int .u64 ((rd_T39 t154 x33_2).f0))) (fun _ hk => hk.2) (.slice A162_1 ((rd_T39 t154 x33_2).f1).length c162_1)) (fun _ hk => ⟨hk.1.1.1.1, ⟨hk.1.1.1.2.1, ⟨hk.1.1.1.2.2.1, ⟨hk.1.1.2, ⟨hk.1.1.1.2.2.2, hk.1.2⟩⟩⟩⟩⟩)⟩
                have n5_ : Aside0 (((w25.setCell ⟨gb163, 0, none⟩ (.int .u64 ((rd_T39 t154 x33_2).f0))).setCell ⟨gb163, 1, none⟩ (.slice A162_1 ((rd_T39 t154 x33_2).f1).length c162_1)).heap[gb161]? = some (.cells #[.int .u64 ((rd_T39 t151 x27_1).f0), .slice A160_1 ((rd_T39 t151 x27_1).f1).length c160_1] 39 (0, 0))) := ⟨by (with_reducible repeat (first | refine blk_drewN ?_ _ | refine blk_drew ?_ | refine blk_alloc ?_ _)); refine blk_far ?_ NB161_163.out _; (with_reducible repeat (first | refine blk_drewN ?_ _ | refine blk_drew ?_ | refine blk_alloc ?_ _)); refine blk_far ?_ NB161_163.out _; (with_reducible repeat (first | refine blk_drewN ?_ _ | refine blk_drew ?_ | refine blk_alloc ?_ _)); exact BK161.out⟩
                have n6_ : Aside0 (((w25.setCell ⟨gb163, 0, none⟩ (.int .u64 ((rd_T39 t154 x33_2).f0))).setCell ⟨gb163, 1, none⟩ (.slice A162_1 ((rd_T39 t154 x33_2).f1).length c162_1)).heap[gb163]? = some (.cells #[.int .u64 ((rd_T39 t154 x33_2).f0), .slice A162_1 ((rd_T39 t154 x33_2).f1).length c162_1] 39 (0, 0))) := ⟨by (with_reducible repeat (first | refine blk_drewN ?_ _ | refine blk_drew ?_ | refine blk_alloc ?_ _)); refine blk_put (cs := #[.int .u64 ((rd_T39 t154 x33_2).f0), .slice none 0 0]) ?_ 1 _ rfl; (with_reducible repeat (first | refine blk_drewN ?_ _ | refine blk_drew ?_ | refine blk_alloc ?_ _)); refine blk_put (cs := #[.int .u64 0, .slice none 0 0]) ?_ 0 _ rfl; (with_reducible repeat (first | refine blk_drewN ?_ _ | refine blk_drew ?_ | refine blk_alloc ?_ _)); exact BK163.out⟩
                have n7_ : Aside0 (Below w.heap.size w ((w25.setCell ⟨gb163, 0, none⟩ (.int .u64 ((rd_T39 t154 x33_2).f0))).setCell ⟨gb163, 1, none⟩ (.slice A162_1 ((rd_T39 t154 x33_2).f1).length c162_1))) := ⟨by repeat ((with_reducible first | exact HB.out | refine below_set ?_ GE163.out))⟩
                (try clear HO_1)
                (try clear HO_7)
                (try clear HO_25)
                (try clear HO_31)
                (try clear HL162_1)
                (try clear BK161)
                (try clear BK163)
                (try clear HB)
                generalize ((w25.setCell ⟨gb163, 0, none⟩ (.int .u64 ((rd_T39 t154 x33_2).f0))).setCell ⟨gb163, 1, none⟩ (.slice A162_1 ((rd_T39 t154 x33_2).f1).length c162_1)) = w28 at n0_ n1_ n2_ n3_ n4_ n5_ n6_ n7_ ⊢
                have HO_1 := n0_
                have HO_7 := n1_
                have HO_25 := n2_
                have HO_31 := n3_
                have HL162_1 := n4_
                have BK161 := n5_
                have BK163 := n6_
                have HB := n7_
                clear n0_ n1_ n2_ n3_ n4_ n5_ n6_ n7_
                have n0_ := am (Kd.N_drew HO_1.out)
                have n1_ := am (Kd.N_drew HO_7.out)
                have n2_ := am (N2_drew HO_25.out)
                have n3_ := am (Kd.N_drew HO_31.out)
                have n4_ := am (Kd.V_drew HL162_1.out)
                have n5_ := am (blk_drew BK161.out)
                have n6_ := am (blk_drew BK163.out)
                have n7_ := am (below_drew1 HB.out)
                clear HO_1
                clear HO_7
                clear HO_25
                clear HO_31
                clear HL162_1
                clear BK161
                clear BK163
                clear HB
                have HO_1 := n0_
                have HO_7 := n1_
                have HO_25 := n2_
                have HO_31 := n3_
                have HL162_1 := n4_
                have BK161 := n5_
                have BK163 := n6_
                have HB := n7_
                clear n0_ n1_ n2_ n3_ n4_ n5_ n6_ n7_
                refine start_ (n := 16) (S := fun w' => w'.cell? ⟨gb161, 0, none⟩ = some (.int .u64 ((rd_T39 t151 x27_1).f0)) ∧ w'.cell? ⟨gb161, 1, none⟩ = some (.slice A160_1 ((rd_T39 t151 x27_1).f1).length c160_1) ∧ w'.cell? ⟨gb163, 0, none⟩ = some (.int .u64 ((rd_T39 t154 x33_2).f0)) ∧ w'.cell? ⟨gb163, 1, none⟩ = some (.slice A162_1 ((rd_T39 t154 x33_2).f1).length c162_1)) (ds := []) #[false, false, false, false, false, false, false, false, false, false, false, false, false, false, false, false] (by kernel_rfl) rfl rfl ⟨(blk_cell BK161.out 0).trans rfl, (blk_cell BK161.out 1).trans rfl, (blk_cell BK163.out 0).trans rfl, (blk_cell BK163.out 1).trans rfl⟩ (fun hHeld => ?_); refine with_tabW cost_Times.tab12 cost_Times.bits12 (fun HT_ HW_ => ?_)
                generalize w28.drew = w29 at HO_1 HO_7 HO_25 HO_31 HL162_1 BK161 BK163 HB hHeld ⊢
                refine pu HT_ (v := ?_) (a' := ?_) 0 37 rfl rfl (by kernel_rfl) (fun _ _ _ h => h) (Or.inl ⟨by rfl, ?_⟩) ?_ ?_
                rotate_left
                · intro w'
                  go_simp
                  with_reducible rfl
                rotate_left
                · simp only [Act.put, sa, sb, sc, i64_w, i32_w]
                  rfl
                refine pu HT_ (v := ?_) (a' := ?_) 2 39 rfl rfl (by kernel_rfl) (fun _ _ _ h => h) (Or.inl ⟨by rfl, ?_⟩) ?_ ?_
                rotate_left
                · intro w'
                  go_simp
                  with_reducible rfl
                rotate_left
                · simp only [Act.put, sa, sb, sc, i64_w, i32_w]
                  rfl
                refine pu HT_ (v := ?_) (a' := ?_) 5 42 rfl rfl (by kernel_rfl) (fun _ _ _ h => h) (Or.inl ⟨by rfl, ?_⟩) ?_ ?_
                rotate_left
                · intro w'
                  go_simp
                  with_reducible rfl
                rotate_left
                · simp only [Act.put, sa, sb, sc, i64_w, i32_w]
                  rfl
                refine pu HT_ (v := ?_) (a' := ?_) 8 45 rfl rfl (by kernel_rfl) (fun _ _ _ h => h) (Or.inl ⟨by rfl, ?_⟩) ?_ ?_
                rotate_left
                · intro w'
                  go_simp
                  with_reducible rfl
                rotate_left
                · simp only [Act.put, sa, sb, sc, i64_w, i32_w]
                  rfl
                refine take_ (i := 1) (N := some 38) (v := ?_) (a' := ?_) #[true, true, true, false, false, true, false, false, true, false, false, false, false, false, false, false] rfl rfl (take_ofW HT_.out HW_.out (by kernel_rfl)) (fun _ _ _ h => h) (Or.inl ⟨by rfl, ?_⟩) hHeld ?_ ?_
                rotate_left
                · rintro w' ⟨s0, s1, s2, s3⟩
                  go_simp
                  with_reducible rfl
                rotate_left
                · simp only [Act.put, sa, sb, sc, i64_w, i32_w]
                  rfl
                refine take_ (i := 3) (N := some 40) (v := ?_) (a' := ?_) #[true, true, true, true, false, true, false, false, true, false, false, false, false, false, false, false] rfl rfl (take_ofW HT_.out HW_.out (by kernel_rfl)) (fun _ _ _ h => h) (Or.inl ⟨by rfl, ?_⟩) hHeld ?_ ?_
                rotate_left
                · rintro w' ⟨s0, s1, s2, s3⟩
                  go_simp
                  with_reducible rfl
                rotate_left
                · simp only [Act.put, sa, sb, sc, i64_w, i32_w]
                  rfl
                refine take_ (i := 6) (N := some 43) (v := ?_) (a' := ?_) #[true, true, true, true, false, true, true, false, true, false, false, false, false, false, false, false] rfl rfl (take_ofW HT_.out HW_.out (by kernel_rfl)) (fun _ _ _ h => h) (Or.inl ⟨by rfl, ?_⟩) hHeld ?_ ?_
                rotate_left
                · rintro w' ⟨s0, s1, s2, s3⟩
                  go_simp
                  with_reducible rfl
                rotate_left
                · simp only [Act.put, sa, sb, sc, i64_w, i32_w]
                  rfl
                refine pu HT_ (v := ?_) (a' := ?_) 7 44 rfl rfl (by kernel_rfl) (fun _ _ _ h => h) (Or.inl ⟨by rfl, ?_⟩) ?_ ?_
                rotate_left
                · intro w'
                  go_simp
                  with_reducible rfl
                rotate_left
                · simp only [Act.put, sa, sb, sc, i64_w, i32_w]
                  rfl
                refine take_ (i := 9) (N := some 46) (v := ?_) (a' := ?_) #[true, true, true, true, false, true, true, true, true, true, false, false, false, false, false, false] rfl rfl (take_ofW HT_.out HW_.out (by kernel_rfl)) (fun _ _ _ h => h) (Or.inl ⟨by rfl, ?_⟩) hHeld ?_ ?_
                rotate_left
                · rintro w' ⟨s0, s1, s2, s3⟩
                  go_simp
                  with_reducible rfl
                rotate_left
                · simp only [Act.put, sa, sb, sc, i64_w, i32_w]
                  rfl
                refine pu HT_ (v := ?_) (a' := ?_) 10 47 rfl rfl (by kernel_rfl) (fun _ _ _ h => h) (Or.inl ⟨by rfl, ?_⟩) ?_ ?_
                rotate_left
                · intro w'
                  go_simp
                  with_reducible rfl
                rotate_left
                · simp only [Act.put, sa, sb, sc, i64_w, i32_w]
                  rfl
                refine pu HT_ (v := ?_) (a' := ?_) 11 48 rfl rfl (by kernel_rfl) (fun _ _ _ h => h) (Or.inl ⟨by rfl, ?_⟩) ?_ ?_
                rotate_left
                · intro w'
                  go_simp
                  with_reducible rfl
                rotate_left
                · simp only [Act.put, sa, sb, sc, i64_w, i32_w]
                  rfl
                refine join_ (σ := Value × Nat) 1 #[true, true, true, true, true, true, true, true, true, true, true, true, true, true, true, false] (fun s_ => [(41, .int .u64 t164), (49, s_.1), (12, .pointer (some ⟨s_.2, 0, none⟩)), (50, .agg #[.int .u64 t164, s_.1])]) (fun s_ w' => (w'.cell? ⟨gb161, 0, none⟩ = some (.int .u64 ((rd_T39 t151 x27_1).f0)) ∧ w'.cell? ⟨gb161, 1, none⟩ = some (.slice A160_1 ((rd_T39 t151 x27_1).f1).length c160_1) ∧ w'.cell? ⟨gb163, 0, none⟩ = some (.int .u64 ((rd_T39 t154 x33_2).f0)) ∧ w'.cell? ⟨gb163, 1, none⟩ = some (.slice A162_1 ((rd_T39 t154 x33_2).f1).length c162_1)) ∧ (Kd.V (Kd.int .i64) 3 w' w.heap.size (fun k_ => (w.heap.size ≤ k_) ∧ some k_ ≠ (s_.1 : Value).ownBlock ∧ some k_ ≠ (.slice (some ad160) t151.length co10 : Value).ownBlock ∧ some k_ ≠ (.slice (some ad162) t154.length co16 : Value).ownBlock ∧ some k_ ≠ (u7 : Value).ownBlock ∧ k_ ≠ gb161 ∧ k_ ≠ gb163 ∧ k_ ≠ s_.2) (.slice A162_1 ((rd_T39 t154 x33_2).f1).length c162_1) ((rd_T39 t154 x33_2).f1)) ∧ (Kd.R (Kd.int .i64) 3 w' w.heap.size (fun k_ => (w.heap.size ≤ k_)) s_.1 y165) ∧ (Kd.N k39 39 w' w.heap.size (fun k_ => (w.heap.size ≤ k_) ∧ some k_ ≠ (s_.1 : Value).ownBlock ∧ some k_ ≠ (.slice (some ad160) t151.length co10 : Value).ownBlock ∧ some k_ ≠ (u7 : Value).ownBlock ∧ k_ ≠ gb161 ∧ k_ ≠ gb163 ∧ k_ ≠ s_.2) (.slice (some ad162) t154.length co16) t154) ∧ (N2 k39 39 w' w.heap.size (fun k_ => (w.heap.size ≤ k_) ∧ some k_ ≠ (s_.1 : Value).ownBlock ∧ some k_ ≠ (.slice (some ad162) t154.length co16 : Value).ownBlock ∧ some k_ ≠ (.slice (some ad162) t154.length co16 : Value).ownBlock ∧ some k_ ≠ (u7 : Value).ownBlock ∧ k_ ≠ gb161 ∧ k_ ≠ gb163 ∧ k_ ≠ s_.2) (.slice (some ad160) t151.length co10) t151 (Kd.int .i64) 3 (.slice A160_1 ((rd_T39 t151 x27_1).f1).length c160_1) ((rd_T39 t151 x27_1).f1)) ∧ (Kd.N k39 39 w' w.heap.size (fun k_ => (w.heap.size ≤ k_) ∧ some k_ ≠ (s_.1 : Value).ownBlock ∧ some k_ ≠ (.slice (some ad160) t151.length co10 : Value).ownBlock ∧ some k_ ≠ (u7 : Value).ownBlock ∧ k_ ≠ gb161 ∧ k_ ≠ gb163 ∧ k_ ≠ s_.2) (.slice (some ad162) t154.length co16) t154) ∧ (Kd.N k39 39 w' w.heap.size (fun k_ => (w.heap.size ≤ k_) ∧ some k_ ≠ (s_.1 : Value).ownBlock ∧ some k_ ≠ (.slice (some ad162) t154.length co16 : Value).ownBlock ∧ some k_ ≠ (.slice (some ad160) t151.length co10 : Value).ownBlock ∧ some k_ ≠ (.slice (some ad162) t154.length co16 : Value).ownBlock ∧ k_ ≠ gb161 ∧ k_ ≠ gb163 ∧ k_ ≠ s_.2) u7 x7_2) ∧ (w'.heap[gb161]? = some (.cells #[.int .u64 ((rd_T39 t151 x27_1).f0), .slice A160_1 ((rd_T39 t151 x27_1).f1).length c160_1] 39 (0, 0))) ∧ (w'.heap[gb163]? = some (.cells #[.int .u64 ((rd_T39 t154 x33_2).f0), .slice A162_1 ((rd_T39 t154 x33_2).f1).length c162_1] 39 (0, 0))) ∧ (w'.heap[s_.2]? = some (.cells #[.int .u64 0, .slice none 0 0] 39 (0, 0))) ∧ (w.heap.size ≤ s_.2) ∧ (w.heap.size ≤ s_.2) ∧ (gb161 ≠ s_.2) ∧ (s_.2 ≠ gb161) ∧ (gb163 ≠ s_.2) ∧ (s_.2 ≠ gb163) ∧ (Below w.heap.size w w')) ?_ ?_
                rotate_left
                · intro hJ4_12_14
                  refine join_ (σ := Value) 2 #[true, true, true, true, true, true, true, true, true, true, true, true, true, true, false, false] (fun s_ => [(41, .int .u64 t164), (49, s_), (50, .agg #[.int .u64 t164, s_])]) (fun s_ w' => (w'.cell? ⟨gb161, 0, none⟩ = some (.int .u64 ((rd_T39 t151 x27_1).f0)) ∧ w'.cell? ⟨gb161, 1, none⟩ = some (.slice A160_1 ((rd_T39 t151 x27_1).f1).length c160_1) ∧ w'.cell? ⟨gb163, 0, none⟩ = some (.int .u64 ((rd_T39 t154 x33_2).f0)) ∧ w'.cell? ⟨gb163, 1, none⟩ = some (.slice A162_1 ((rd_T39 t154 x33_2).f1).length c162_1)) ∧ (Kd.V (Kd.int .i64) 3 w' w.heap.size (fun k_ => (w.heap.size ≤ k_) ∧ some k_ ≠ (s_ : Value).ownBlock ∧ some k_ ≠ (.slice (some ad160) t151.length co10 : Value).ownBlock ∧ some k_ ≠ (.slice (some ad162) t154.length co16 : Value).ownBlock ∧ some k_ ≠ (u7 : Value).ownBlock ∧ k_ ≠ gb161 ∧ k_ ≠ gb163) (.slice A162_1 ((rd_T39 t154 x33_2).f1).length c162_1) ((rd_T39 t154 x33_2).f1)) ∧ (Kd.R (Kd.int .i64) 3 w' w.heap.size (fun k_ => (w.heap.size ≤ k_)) s_ y165) ∧ (Kd.N k39 39 w' w.heap.size (fun k_ => (w.heap.size ≤ k_) ∧ some k_ ≠ (s_ : Value).ownBlock ∧ some k_ ≠ (.slice (some ad160) t151.length co10 : Value).ownBlock ∧ some k_ ≠ (u7 : Value).ownBlock ∧ k_ ≠ gb161 ∧ k_ ≠ gb163) (.slice (some ad162) t154.length co16) t154) ∧ (N2 k39 39 w' w.heap.size (fun k_ => (w.heap.size ≤ k_) ∧ some k_ ≠ (s_ : Value).ownBlock ∧ some k_ ≠ (.slice (some ad162) t154.length co16 : Value).ownBlock ∧ some k_ ≠ (.slice (some ad162) t154.length co16 : Value).ownBlock ∧ some k_ ≠ (u7 : Value).ownBlock ∧ k_ ≠ gb161 ∧ k_ ≠ gb163) (.slice (some ad160) t151.length co10) t151 (Kd.int .i64) 3 (.slice A160_1 ((rd_T39 t151 x27_1).f1).length c160_1) ((rd_T39 t151 x27_1).f1)) ∧ (Kd.N k39 39 w' w.heap.size (fun k_ => (w.heap.size ≤ k_) ∧ some k_ ≠ (s_ : Value).ownBlock ∧ some k_ ≠ (.slice (some ad160) t151.length co10 : Value).ownBlock ∧ some k_ ≠ (u7 : Value).ownBlock ∧ k_ ≠ gb161 ∧ k_ ≠ gb163) (.slice (some ad162) t154.length co16) t154) ∧ (Kd.N k39 39 w' w.heap.size (fun k_ => (w.heap.size ≤ k_) ∧ some k_ ≠ (s_ : Value).ownBlock ∧ some k_ ≠ (.slice (some ad162) t154.length co16 : Value).ownBlock ∧ some k_ ≠ (.slice (some ad160) t151.length co10 : Value).ownBlock ∧ some k_ ≠ (.slice (some ad162) t154.length co16 : Value).ownBlock ∧ k_ ≠ gb161 ∧ k_ ≠ gb163) u7 x7_2) ∧ (w'.heap[gb161]? = some (.cells #[.int .u64 ((rd_T39 t151 x27_1).f0), .slice A160_1 ((rd_T39 t151 x27_1).f1).length c160_1] 39 (0, 0))) ∧ (w'.heap[gb163]? = some (.cells #[.int .u64 ((rd_T39 t154 x33_2).f0), .slice A162_1 ((rd_T39 t154 x33_2).f1).length c162_1] 39 (0, 0))) ∧ (Below w.heap.size w w')) ?_ ?_
                  rotate_left
                  · intro hJ4_12
                    refine join_ (σ := Nat) 3 #[true, true, true, true, true, true, true, true, true, true, true, true, false, false, true, false] (fun s_ => [(41, .int .u64 t164), (12, .pointer (some ⟨s_, 0, none⟩))]) (fun s_ w' => (w'.cell? ⟨gb161, 0, none⟩ = some (.int .u64 ((rd_T39 t151 x27_1).f0)) ∧ w'.cell? ⟨gb161, 1, none⟩ = some (.slice A160_1 ((rd_T39 t151 x27_1).f1).length c160_1) ∧ w'.cell? ⟨gb163, 0, none⟩ = some (.int .u64 ((rd_T39 t154 x33_2).f0)) ∧ w'.cell? ⟨gb163, 1, none⟩ = some (.slice A162_1 ((rd_T39 t154 x33_2).f1).length c162_1)) ∧ (Kd.V (Kd.int .i64) 3 w' w.heap.size (fun k_ => (w.heap.size ≤ k_) ∧ some k_ ≠ (.slice (some ad160) t151.length co10 : Value).ownBlock ∧ some k_ ≠ (.slice (some ad162) t154.length co16 : Value).ownBlock ∧ some k_ ≠ (u7 : Value).ownBlock ∧ k_ ≠ gb161 ∧ k_ ≠ gb163 ∧ k_ ≠ s_) (.slice A162_1 ((rd_T39 t154 x33_2).f1).length c162_1) ((rd_T39 t154 x33_2).f1)) ∧ (Kd.N k39 39 w' w.heap.size (fun k_ => (w.heap.size ≤ k_) ∧ some k_ ≠ (.slice (some ad160) t151.length co10 : Value).ownBlock ∧ some k_ ≠ (u7 : Value).ownBlock ∧ k_ ≠ gb161 ∧ k_ ≠ gb163 ∧ k_ ≠ s_) (.slice (some ad162) t154.length co16) t154) ∧ (N2 k39 39 w' w.heap.size (fun k_ => (w.heap.size ≤ k_) ∧ some k_ ≠ (.slice (some ad162) t154.length co16 : Value).ownBlock ∧ some k_ ≠ (.slice (some ad162) t154.length co16 : Value).ownBlock ∧ some k_ ≠ (u7 : Value).ownBlock ∧ k_ ≠ gb161 ∧ k_ ≠ gb163 ∧ k_ ≠ s_) (.slice (some ad160) t151.length co10) t151 (Kd.int .i64) 3 (.slice A160_1 ((rd_T39 t151 x27_1).f1).length c160_1) ((rd_T39 t151 x27_1).f1)) ∧ (Kd.N k39 39 w' w.heap.size (fun k_ => (w.heap.size ≤ k_) ∧ some k_ ≠ (.slice (some ad160) t151.length co10 : Value).ownBlock ∧ some k_ ≠ (u7 : Value).ownBlock ∧ k_ ≠ gb161 ∧ k_ ≠ gb163 ∧ k_ ≠ s_) (.slice (some ad162) t154.length co16) t154) ∧ (Kd.N k39 39 w' w.heap.size (fun k_ => (w.heap.size ≤ k_) ∧ some k_ ≠ (.slice (some ad162) t154.length co16 : Value).ownBlock ∧ some k_ ≠ (.slice (some ad160) t151.length co10 : Value).ownBlock ∧ some k_ ≠ (.slice (some ad162) t154.length co16 : Value).ownBlock ∧ k_ ≠ gb161 ∧ k_ ≠ gb163 ∧ k_ ≠ s_) u7 x7_2) ∧ (w'.heap[gb161]? = some (.cells #[.int .u64 ((rd_T39 t151 x27_1).f0), .slice A160_1 ((rd_T39 t151 x27_1).f1).length c160_1] 39 (0, 0))) ∧ (w'.heap[gb163]? = some (.cells #[.int .u64 ((rd_T39 t154 x33_2).f0), .slice A162_1 ((rd_T39 t154 x33_2).f1).length c162_1] 39 (0, 0))) ∧ (w'.heap[s_]? = some (.cells #[.int .u64 0, .slice none 0 0] 39 (0, 0))) ∧ (w.heap.size ≤ s_) ∧ (w.heap.size ≤ s_) ∧ (gb161 ≠ s_) ∧ (s_ ≠ gb161) ∧ (gb163 ≠ s_) ∧ (s_ ≠ gb163) ∧ (Below w.heap.size w w')) ?_ ?_
                    rotate_left
                    · intro hJ4_14
                      refine join_ (σ := Value × Nat) 3 #[true, true, true, true, false, true, true, true, true, true, true, true, true, false, true, false] (fun s_ => [(49, s_.1), (12, .pointer (some ⟨s_.2, 0, none⟩))]) (fun s_ w' => (w'.cell? ⟨gb161, 0, none⟩ = some (.int .u64 ((rd_T39 t151 x27_1).f0)) ∧ w'.cell? ⟨gb161, 1, none⟩ = some (.slice A160_1 ((rd_T39 t151 x27_1).f1).length c160_1) ∧ w'.cell? ⟨gb163, 0, none⟩ = some (.int .u64 ((rd_T39 t154 x33_2).f0)) ∧ w'.cell? ⟨gb163, 1, none⟩ = some (.slice A162_1 ((rd_T39 t154 x33_2).f1).length c162_1)) ∧ (Kd.V (Kd.int .i64) 3 w' w.heap.size (fun k_ => (w.heap.size ≤ k_) ∧ some k_ ≠ (s_.1 : Value).ownBlock ∧ some k_ ≠ (.slice (some ad160) t151.length co10 : Value).ownBlock ∧ some k_ ≠ (.slice (some ad162) t154.length co16 : Value).ownBlock ∧ some k_ ≠ (u7 : Value).ownBlock ∧ k_ ≠ gb161 ∧ k_ ≠ gb163 ∧ k_ ≠ s_.2) (.slice A162_1 ((rd_T39 t154 x33_2).f1).length c162_1) ((rd_T39 t154 x33_2).f1)) ∧ (Kd.R (Kd.int .i64) 3 w' w.heap.size (fun k_ => (w.heap.size ≤ k_)) s_.1 y165) ∧ (Kd.N k39 39 w' w.heap.size (fun k_ => (w.heap.size ≤ k_) ∧ some k_ ≠ (s_.1 : Value).ownBlock ∧ some k_ ≠ (.slice (some ad160) t151.length co10 : Value).ownBlock ∧ some k_ ≠ (u7 : Value).ownBlock ∧ k_ ≠ gb161 ∧ k_ ≠ gb163 ∧ k_ ≠ s_.2) (.slice (some ad162) t154.length co16) t154) ∧ (N2 k39 39 w' w.heap.size (fun k_ => (w.heap.size ≤ k_) ∧ some k_ ≠ (s_.1 : Value).ownBlock ∧ some k_ ≠ (.slice (some ad162) t154.length co16 : Value).ownBlock ∧ some k_ ≠ (.slice (some ad162) t154.length co16 : Value).ownBlock ∧ some k_ ≠ (u7 : Value).ownBlock ∧ k_ ≠ gb161 ∧ k_ ≠ gb163 ∧ k_ ≠ s_.2) (.slice (some ad160) t151.length co10) t151 (Kd.int .i64) 3 (.slice A160_1 ((rd_T39 t151 x27_1).f1).length c160_1) ((rd_T39 t151 x27_1).f1)) ∧ (Kd.N k39 39 w' w.heap.size (fun k_ => (w.heap.size ≤ k_) ∧ some k_ ≠ (s_.1 : Value).ownBlock ∧ some k_ ≠ (.slice (some ad160) t151.length co10 : Value).ownBlock ∧ some k_ ≠ (u7 : Value).ownBlock ∧ k_ ≠ gb161 ∧ k_ ≠ gb163 ∧ k_ ≠ s_.2) (.slice (some ad162) t154.length co16) t154) ∧ (Kd.N k39 39 w' w.heap.size (fun k_ => (w.heap.size ≤ k_) ∧ some k_ ≠ (s_.1 : Value).ownBlock ∧ some k_ ≠ (.slice (some ad162) t154.length co16 : Value).ownBlock ∧ some k_ ≠ (.slice (some ad160) t151.length co10 : Value).ownBlock ∧ some k_ ≠ (.slice (some ad162) t154.length co16 : Value).ownBlock ∧ k_ ≠ gb161 ∧ k_ ≠ gb163 ∧ k_ ≠ s_.2) u7 x7_2) ∧ (w'.heap[gb161]? = some (.cells #[.int .u64 ((rd_T39 t151 x27_1).f0), .slice A160_1 ((rd_T39 t151 x27_1).f1).length c160_1] 39 (0, 0))) ∧ (w'.heap[gb163]? = some (.cells #[.int .u64 ((rd_T39 t154 x33_2).f0), .slice A162_1 ((rd_T39 t154 x33_2).f1).length c162_1] 39 (0, 0))) ∧ (w'.heap[s_.2]? = some (.cells #[.int .u64 0, .slice none 0 0] 39 (0, 0))) ∧ (w.heap.size ≤ s_.2) ∧ (w.heap.size ≤ s_.2) ∧ (gb161 ≠ s_.2) ∧ (s_.2 ≠ gb161) ∧ (gb163 ≠ s_.2) ∧ (s_.2 ≠ gb163) ∧ (Below w.heap.size w w')) ?_ ?_
                      rotate_left
                      · intro hJ12_14
                        refine join_ (σ := Unit) 4 #[true, true, true, true, true, true, true, true, true, true, true, true, false, false, false, false] (fun s_ => [(41, .int .u64 t164)]) (fun s_ w' => (w'.cell? ⟨gb161, 0, none⟩ = some (.int .u64 ((rd_T39 t151 x27_1).f0)) ∧ w'.cell? ⟨gb161, 1, none⟩ = some (.slice A160_1 ((rd_T39 t151 x27_1).f1).length c160_1) ∧ w'.cell? ⟨gb163, 0, none⟩ = some (.int .u64 ((rd_T39 t154 x33_2).f0)) ∧ w'.cell? ⟨gb163, 1, none⟩ = some (.slice A162_1 ((rd_T39 t154 x33_2).f1).length c162_1)) ∧ (Kd.V (Kd.int .i64) 3 w' w.heap.size (fun k_ => (w.heap.size ≤ k_) ∧ some k_ ≠ (.slice (some ad160) t151.length co10 : Value).ownBlock ∧ some k_ ≠ (.slice (some ad162) t154.length co16 : Value).ownBlock ∧ some k_ ≠ (u7 : Value).ownBlock ∧ k_ ≠ gb161 ∧ k_ ≠ gb163) (.slice A162_1 ((rd_T39 t154 x33_2).f1).length c162_1) ((rd_T39 t154 x33_2).f1)) ∧ (Kd.N k39 39 w' w.heap.size (fun k_ => (w.heap.size ≤ k_) ∧ some k_ ≠ (.slice (some ad160) t151.length co10 : Value).ownBlock ∧ some k_ ≠ (u7 : Value).ownBlock ∧ k_ ≠ gb161 ∧ k_ ≠ gb163) (.slice (some ad162) t154.length co16) t154) ∧ (N2 k39 39 w' w.heap.size (fun k_ => (w.heap.size ≤ k_) ∧ some k_ ≠ (.slice (some ad162) t154.length co16 : Value).ownBlock ∧ some k_ ≠ (.slice (some ad162) t154.length co16 : Value).ownBlock ∧ some k_ ≠ (u7 : Value).ownBlock ∧ k_ ≠ gb161 ∧ k_ ≠ gb163) (.slice (some ad160) t151.length co10) t151 (Kd.int .i64) 3 (.slice A160_1 ((rd_T39 t151 x27_1).f1).length c160_1) ((rd_T39 t151 x27_1).f1)) ∧ (Kd.N k39 39 w' w.heap.size (fun k_ => (w.heap.size ≤ k_) ∧ some k_ ≠ (.slice (some ad160) t151.length co10 : Value).ownBlock ∧ some k_ ≠ (u7 : Value).ownBlock ∧ k_ ≠ gb161 ∧ k_ ≠ gb163) (.slice (some ad162) t154.length co16) t154) ∧ (Kd.N k39 39 w' w.heap.size (fun k_ => (w.heap.size ≤ k_) ∧ some k_ ≠ (.slice (some ad162) t154.length co16 : Value).ownBlock ∧ some k_ ≠ (.slice (some ad160) t151.length co10 : Value).ownBlock ∧ some k_ ≠ (.slice (some ad162) t154.length co16 : Value).ownBlock ∧ k_ ≠ gb161 ∧ k_ ≠ gb163) u7 x7_2) ∧ (w'.heap[gb161]? = some (.cells #[.int .u64 ((rd_T39 t151 x27_1).f0), .slice A160_1 ((rd_T39 t151 x27_1).f1).length c160_1] 39 (0, 0))) ∧ (w'.heap[gb163]? = some (.cells #[.int .u64 ((rd_T39 t154 x33_2).f0), .slice A162_1 ((rd_T39 t154 x33_2).f1).length c162_1] 39 (0, 0))) ∧ (Below w.heap.size w w')) ?_ ?_
                        rotate_left
                        · intro hJ4
                          refine join_ (σ := Value) 4 #[true, true, true, true, false, true, true, true, true, true, true, true, true, false, false, false] (fun s_ => [(49, s_)]) (fun s_ w' => (w'.cell? ⟨gb161, 0, none⟩ = some (.int .u64 ((rd_T39 t151 x27_1).f0)) ∧ w'.cell? ⟨gb161, 1, none⟩ = some (.slice A160_1 ((rd_T39 t151 x27_1).f1).length c160_1) ∧ w'.cell? ⟨gb163, 0, none⟩ = some (.int .u64 ((rd_T39 t154 x33_2).f0)) ∧ w'.cell? ⟨gb163, 1, none⟩ = some (.slice A162_1 ((rd_T39 t154 x33_2).f1).length c162_1)) ∧ (Kd.V (Kd.int .i64) 3 w' w.heap.size (fun k_ => (w.heap.size ≤ k_) ∧ some k_ ≠ (s_ : Value).ownBlock ∧ some k_ ≠ (.slice (some ad160) t151.length co10 : Value).ownBlock ∧ some k_ ≠ (.slice (some ad162) t154.length co16 : Value).ownBlock ∧ some k_ ≠ (u7 : Value).ownBlock ∧ k_ ≠ gb161 ∧ k_ ≠ gb163) (.slice A162_1 ((rd_T39 t154 x33_2).f1).length c162_1) ((rd_T39 t154 x33_2).f1)) ∧ (Kd.R (Kd.int .i64) 3 w' w.heap.size (fun k_ => (w.heap.size ≤ k_)) s_ y165) ∧ (Kd.N k39 39 w' w.heap.size (fun k_ => (w.heap.size ≤ k_) ∧ some k_ ≠ (s_ : Value).ownBlock ∧ some k_ ≠ (.slice (some ad160) t151.length co10 : Value).ownBlock ∧ some k_ ≠ (u7 : Value).ownBlock ∧ k_ ≠ gb161 ∧ k_ ≠ gb163) (.slice (some ad162) t154.length co16) t154) ∧ (N2 k39 39 w' w.heap.size (fun k_ => (w.heap.size ≤ k_) ∧ some k_ ≠ (s_ : Value).ownBlock ∧ some k_ ≠ (.slice (some ad162) t154.length co16 : Value).ownBlock ∧ some k_ ≠ (.slice (some ad162) t154.length co16 : Value).ownBlock ∧ some k_ ≠ (u7 : Value).ownBlock ∧ k_ ≠ gb161 ∧ k_ ≠ gb163) (.slice (some ad160) t151.length co10) t151 (Kd.int .i64) 3 (.slice A160_1 ((rd_T39 t151 x27_1).f1).length c160_1) ((rd_T39 t151 x27_1).f1)) ∧ (Kd.N k39 39 w' w.heap.size (fun k_ => (w.heap.size ≤ k_) ∧ some k_ ≠ (s_ : Value).ownBlock ∧ some k_ ≠ (.slice (some ad160) t151.length co10 : Value).ownBlock ∧ some k_ ≠ (u7 : Value).ownBlock ∧ k_ ≠ gb161 ∧ k_ ≠ gb163) (.slice (some ad162) t154.length co16) t154) ∧ (Kd.N k39 39 w' w.heap.size (fun k_ => (w.heap.size ≤ k_) ∧ some k_ ≠ (s_ : Value).ownBlock ∧ some k_ ≠ (.slice (some ad162) t154.length co16 : Value).ownBlock ∧ some k_ ≠ (.slice (some ad160) t151.length co10 : Value).ownBlock ∧ some k_ ≠ (.slice (some ad162) t154.length co16 : Value).ownBlock ∧ k_ ≠ gb161 ∧ k_ ≠ gb163) u7 x7_2) ∧ (w'.heap[gb161]? = some (.cells #[.int .u64 ((rd_T39 t151 x27_1).f0), .slice A160_1 ((rd_T39 t151 x27_1).f1).length c160_1] 39 (0, 0))) ∧ (w'.heap[gb163]? = some (.cells #[.int .u64 ((rd_T39 t154 x33_2).f0), .slice A162_1 ((rd_T39 t154 x33_2).f1).length c162_1] 39 (0, 0))) ∧ (Below w.heap.size w w')) ?_ ?_
                          rotate_left
                          · intro hJ12
                            refine join_ (σ := Nat) 4 #[true, true, true, true, false, true, true, true, true, true, true, true, false, false, true, false] (fun s_ => [(12, .pointer (some ⟨s_, 0, none⟩))]) (fun s_ w' => (w'.cell? ⟨gb161, 0, none⟩ = some (.int .u64 ((rd_T39 t151 x27_1).f0)) ∧ w'.cell? ⟨gb161, 1, none⟩ = some (.slice A160_1 ((rd_T39 t151 x27_1).f1).length c160_1) ∧ w'.cell? ⟨gb163, 0, none⟩ = some (.int .u64 ((rd_T39 t154 x33_2).f0)) ∧ w'.cell? ⟨gb163, 1, none⟩ = some (.slice A162_1 ((rd_T39 t154 x33_2).f1).length c162_1)) ∧ (Kd.V (Kd.int .i64) 3 w' w.heap.size (fun k_ => (w.heap.size ≤ k_) ∧ some k_ ≠ (.slice (some ad160) t151.length co10 : Value).ownBlock ∧ some k_ ≠ (.slice (some ad162) t154.length co16 : Value).ownBlock ∧ some k_ ≠ (u7 : Value).ownBlock ∧ k_ ≠ gb161 ∧ k_ ≠ gb163 ∧ k_ ≠ s_) (.slice A162_1 ((rd_T39 t154 x33_2).f1).length c162_1) ((rd_T39 t154 x33_2).f1)) ∧ (Kd.N k39 39 w' w.heap.size (fun k_ => (w.heap.size ≤ k_) ∧ some k_ ≠ (.slice (some ad160) t151.length co10 : Value).ownBlock ∧ some k_ ≠ (u7 : Value).ownBlock ∧ k_ ≠ gb161 ∧ k_ ≠ gb163 ∧ k_ ≠ s_) (.slice (some ad162) t154.length co16) t154) ∧ (N2 k39 39 w' w.heap.size (fun k_ => (w.heap.size ≤ k_) ∧ some k_ ≠ (.slice (some ad162) t154.length co16 : Value).ownBlock ∧ some k_ ≠ (.slice (some ad162) t154.length co16 : Value).ownBlock ∧ some k_ ≠ (u7 : Value).ownBlock ∧ k_ ≠ gb161 ∧ k_ ≠ gb163 ∧ k_ ≠ s_) (.slice (some ad160) t151.length co10) t151 (Kd.int .i64) 3 (.slice A160_1 ((rd_T39 t151 x27_1).f1).length c160_1) ((rd_T39 t151 x27_1).f1)) ∧ (Kd.N k39 39 w' w.heap.size (fun k_ => (w.heap.size ≤ k_) ∧ some k_ ≠ (.slice (some ad160) t151.length co10 : Value).ownBlock ∧ some k_ ≠ (u7 : Value).ownBlock ∧ k_ ≠ gb161 ∧ k_ ≠ gb163 ∧ k_ ≠ s_) (.slice (some ad162) t154.length co16) t154) ∧ (Kd.N k39 39 w' w.heap.size (fun k_ => (w.heap.size ≤ k_) ∧ some k_ ≠ (.slice (some ad162) t154.length co16 : Value).ownBlock ∧ some k_ ≠ (.slice (some ad160) t151.length co10 : Value).ownBlock ∧ some k_ ≠ (.slice (some ad162) t154.length co16 : Value).ownBlock ∧ k_ ≠ gb161 ∧ k_ ≠ gb163 ∧ k_ ≠ s_) u7 x7_2) ∧ (w'.heap[gb161]? = some (.cells #[.int .u64 ((rd_T39 t151 x27_1).f0), .slice A160_1 ((rd_T39 t151 x27_1).f1).length c160_1] 39 (0, 0))) ∧ (w'.heap[gb163]? = some (.cells #[.int .u64 ((rd_T39 t154 x33_2).f0), .slice A162_1 ((rd_T39 t154 x33_2).f1).length c162_1] 39 (0, 0))) ∧ (w'.heap[s_]? = some (.cells #[.int .u64 0, .slice none 0 0] 39 (0, 0))) ∧ (w.heap.size ≤ s_) ∧ (w.heap.size ≤ s_) ∧ (gb161 ≠ s_) ∧ (s_ ≠ gb161) ∧ (gb163 ≠ s_) ∧ (s_ ≠ gb163) ∧ (Below w.heap.size w w')) ?_ ?_
                            rotate_left
                            · intro hJ14
                              refine three_ (i := 4) (j := 12) (k := 14) (Ni := some 41) (Nj := some 49) (Nk := some 12) #[true, true, true, true, true, true, true, true, true, true, true, true, false, false, false, false] #[true, true, true, true, false, true, true, true, true, true, true, true, true, false, false, false] #[true, true, true, true, false, true, true, true, true, true, true, true, false, false, true, false] rfl rfl rfl rfl rfl rfl (three_of HT_.out (by kernel_rfl)) (by decide) (by decide) (by decide) (fun K hK => ?_) (fun K hK => ?_) (fun K hK => ?_)
                              · skip
                                refine goes_ Try.func23 (by kernel_rfl) rfl #[.int .u64 ((rd_T39 t151 x27_1).f0), .int .u64 ((rd_T39 t154 x33_2).f0)] (by rfl) rfl rfl (by (try simp only [List.map_toArray, List.map_cons, List.map_nil]); rfl) ?_
                                with_reducible refine (cost_times.calls ((rd_T39 t151 x27_1).f0) ((rd_T39 t154 x33_2).f0) t164 _ A20.out).mono ?_
                                rintro e w' ⟨rfl, ⟨nd, rfl⟩⟩
                                refine ⟨_, rfl, ?_⟩
                                refine hK.out _ _ ⟨(blk_cell BK161.out 0).trans rfl, (blk_cell BK161.out 1).trans rfl, (blk_cell BK163.out 0).trans rfl, (blk_cell BK163.out 1).trans rfl⟩ (fun hHeld => ?_)
                                clear hK K
                                refine norm_ (a' := ?_) ?_ ?_
                                rotate_left
                                · show Act.put _ (some 41) _ = _
                                  simp only [Act.put, sa, sb, sc, i64_w, i32_w]
                                  rfl
                                exact norm_ (by (simp only [putAll, Act.put, sa, sb, sc]; done)) (hJ4 () _ ⟨hHeld, (by (with_reducible repeat (apply Kd.V_drewN)); exact Kd.V_mono HL162_1.out (fun _ hk => ⟨hk.1, ⟨hk.2.2.1, ⟨hk.2.2.2.1, ⟨hk.2.1, ⟨hk.2.2.2.2.1, hk.2.2.2.2.2⟩⟩⟩⟩⟩)), (by (with_reducible repeat (apply Kd.N_drewN)); exact Kd.N_mono HO_1.out (fun _ hk => ⟨hk.1, ⟨hk.2.2.1, ⟨hk.2.1, ⟨hk.2.2.2.1, hk.2.2.2.2⟩⟩⟩⟩)), (by (with_reducible repeat (apply N2_drewN)); exact N2_mono HO_25.out (fun _ hk => ⟨hk.1, ⟨hk.2.1, ⟨hk.2.2.2.1, ⟨hk.2.2.1, ⟨hk.2.2.2.2.1, hk.2.2.2.2.2⟩⟩⟩⟩⟩)), (by (with_reducible repeat (apply Kd.N_drewN)); exact Kd.N_mono HO_31.out (fun _ hk => ⟨hk.1, ⟨hk.2.2.1, ⟨hk.2.1, ⟨hk.2.2.2.1, hk.2.2.2.2⟩⟩⟩⟩)), (by (with_reducible repeat (apply Kd.N_drewN)); exact HO_7.out), (by (with_reducible repeat (refine blk_drewN ?_ _)); exact BK161.out), (by (with_reducible repeat (refine blk_drewN ?_ _)); exact BK163.out), (by repeat ((with_reducible first | exact HB.out | apply pw_below_drewN)))⟩)
                              · skip
                                refine Kd.R_make_step (Kd.int .i64) _ 3 (by rfl) (N := 49) rfl 37 _ _ rfl ji21 rfl rfl Try.underlying37 (.int .i64 0) 8 info3 rfl (by decide) (by omega) 0 (ok := fun _ => True) (okp := fun _ => True) rfl (fun _ hk => hk) trivial (of_decide_eq_true (by (with_reducible assumption))) (Nat.le_trans (Nat.mul_le_mul_right _ (of_decide_eq_true (by (with_reducible assumption)) : ji21.toNat ≤ 35184372088832)) (by omega)) (Below.refl _ _) (Nat.le_refl _) ?_
                                intro v166 w30 ho31 hb hg_ hnew_
                                clear hg_ hnew_
                                (rw [← Ny165.out] at ho31)
                                have n0_ := am (Kd.N_elder' HO_1.out (Kd.R_base ho31) hb)
                                have n1_ := am (Kd.N_elder' HO_7.out (Kd.R_base ho31) hb)
                                have n2_ := am (N2_elder' (by (with_reducible repeat (first | apply N2_alloc | apply N2_drewN | apply N2_drew)); exact HO_25.out) (Kd.R_base ho31) hb)
                                have n3_ := am (Kd.N_elder' HO_31.out (Kd.R_base ho31) hb)
                                have n4_ := am (Kd.V_elder' HL162_1.out (Kd.R_base ho31) hb)
                                have n5_ := am (Kd.R_lower (Kd.R_newM (M := fun k_ => (w.heap.size ≤ k_)) ho31 (below_size HB.out) (fun k_ h_ => h_)) (below_size HB.out))
                                have n6_ := am (blk_below (g := gb161) (o := .cells #[.int .u64 ((rd_T39 t151 x27_1).f0), .slice A160_1 ((rd_T39 t151 x27_1).f1).length c160_1] 39 (0, 0)) (by (with_reducible repeat (first | refine blk_drewN ?_ _ | refine blk_drew ?_ | refine blk_alloc ?_ _)); exact BK161.out) hb)
                                have n7_ := am (blk_below (g := gb163) (o := .cells #[.int .u64 ((rd_T39 t154 x33_2).f0), .slice A162_1 ((rd_T39 t154 x33_2).f1).length c162_1] 39 (0, 0)) (by (with_reducible repeat (first | refine blk_drewN ?_ _ | refine blk_drew ?_ | refine blk_alloc ?_ _)); exact BK163.out) hb)
                                have n8_ := am (below_step HB.out hb)
                                clear HO_1
                                clear HO_7
                                clear HO_25
                                clear HO_31
                                clear HL162_1
                                clear BK161
                                clear BK163
                                clear HB
                                have HO_1 := n0_
                                have HO_7 := n1_
                                have HO_25 := n2_
                                have HO_31 := n3_
                                have HL162_1 := n4_
                                have HO167 := n5_
                                have BK161 := n6_
                                have BK163 := n7_
                                have HB := n8_
                                clear n0_ n1_ n2_ n3_ n4_ n5_ n6_ n7_ n8_
                                clear hb ho31
                                refine hK.out _ _ ⟨(blk_cell BK161.out 0).trans rfl, (blk_cell BK161.out 1).trans rfl, (blk_cell BK163.out 0).trans rfl, (blk_cell BK163.out 1).trans rfl⟩ (fun hHeld => ?_)
                                clear hK K
                                refine norm_ (a' := ?_) ?_ ?_
                                rotate_left
                                · show Act.put _ (some 49) _ = _
                                  simp only [Act.put, sa, sb, sc, i64_w, i32_w]
                                  rfl
                                exact norm_ (by (simp only [putAll, Act.put, sa, sb, sc]; done)) (hJ12 (v166) _ ⟨hHeld, (by exact Kd.V_mono HL162_1.out (fun _ hk => ⟨hk.1.1, ⟨hk.2, ⟨hk.1.2.2.1, ⟨hk.1.2.2.2.1, ⟨hk.1.2.1, ⟨hk.1.2.2.2.2.1, hk.1.2.2.2.2.2⟩⟩⟩⟩⟩⟩)), (by exact Kd.R_mono HO167.out (fun _ hk => hk.1)), (by exact Kd.N_mono HO_1.out (fun _ hk => ⟨hk.1.1, ⟨hk.2, ⟨hk.1.2.2.1, ⟨hk.1.2.1, ⟨hk.1.2.2.2.1, hk.1.2.2.2.2⟩⟩⟩⟩⟩)), (by (with_reducible repeat (first | apply N2_alloc | apply N2_drewN | apply N2_drew)); exact N2_mono HO_25.out (fun _ hk => ⟨hk.1.1, ⟨hk.2, ⟨hk.1.2.1, ⟨hk.1.2.2.2.1, ⟨hk.1.2.2.1, ⟨hk.1.2.2.2.2.1, hk.1.2.2.2.2.2⟩⟩⟩⟩⟩⟩)), (by exact Kd.N_mono HO_31.out (fun _ hk => ⟨hk.1.1, ⟨hk.2, ⟨hk.1.2.2.1, ⟨hk.1.2.1, ⟨hk.1.2.2.2.1, hk.1.2.2.2.2⟩⟩⟩⟩⟩)), (by exact Kd.N_mono HO_7.out (fun _ hk => ⟨hk.1.1, ⟨hk.2, ⟨hk.1.2.1, ⟨hk.1.2.2.1, ⟨hk.1.2.2.2.1, ⟨hk.1.2.2.2.2.1, hk.1.2.2.2.2.2⟩⟩⟩⟩⟩⟩)), (by (with_reducible repeat (first | refine blk_drewN ?_ _ | refine blk_drew ?_ | refine blk_alloc ?_ _)); exact BK161.out), (by (with_reducible repeat (first | refine blk_drewN ?_ _ | refine blk_drew ?_ | refine blk_alloc ?_ _)); exact BK163.out), HB.out⟩)
                              · skip
                                refine box_step ?hg (N := 12) ?hd (cs := #[.int .u64 0, .slice none 0 0]) (t := 39) ?hr ?_; (case hd => rfl); (case hg => rfl); (case hr => (go_simp; done))
                                intro gb168 hg w30 hbox hb
                                have n0_ := am (Kd.N_below (Kd.N_elderB HO_1.out gb168 (Nat.le_of_eq hg.symm)) hb)
                                have n1_ := am (Kd.N_below (Kd.N_elderB HO_7.out gb168 (Nat.le_of_eq hg.symm)) hb)
                                have n2_ := am (N2_below (N2_elderB (by (with_reducible repeat (first | apply N2_alloc | apply N2_drewN | apply N2_drew)); exact HO_25.out) gb168 (Nat.le_of_eq hg.symm)) hb)
                                have n3_ := am (Kd.N_below (Kd.N_elderB HO_31.out gb168 (Nat.le_of_eq hg.symm)) hb)
                                have n4_ := am (Kd.V_below (Kd.V_elderB HL162_1.out gb168 (Nat.le_of_eq hg.symm)) hb)
                                have n5_ := am (blk_below (g := gb161) (o := .cells #[.int .u64 ((rd_T39 t151 x27_1).f0), .slice A160_1 ((rd_T39 t151 x27_1).f1).length c160_1] 39 (0, 0)) (by (with_reducible repeat (first | refine blk_drewN ?_ _ | refine blk_drew ?_ | refine blk_alloc ?_ _)); exact BK161.out) hb)
                                have n6_ := am (blk_below (g := gb163) (o := .cells #[.int .u64 ((rd_T39 t154 x33_2).f0), .slice A162_1 ((rd_T39 t154 x33_2).f1).length c162_1] 39 (0, 0)) (by (with_reducible repeat (first | refine blk_drewN ?_ _ | refine blk_drew ?_ | refine blk_alloc ?_ _)); exact BK163.out) hb)
                                have n7_ := am (below_step HB.out hb)
                                have n8_ := am (hbox)
                                have n9_ := am ((by rw [hg]; exact (below_size HB.out) : w.heap.size ≤ gb168))
                                have n10_ := am ((by rw [hg]; exact (below_size HB.out) : w.heap.size ≤ gb168))
                                have n11_ := am ((by rw [hg]; exact Nat.ne_of_lt (blk_lt (g := gb161) (o := .cells #[.int .u64 ((rd_T39 t151 x27_1).f0), .slice A160_1 ((rd_T39 t151 x27_1).f1).length c160_1] 39 (0, 0)) (by (with_reducible repeat (first | refine blk_drewN ?_ _ | refine blk_drew ?_ | refine blk_alloc ?_ _)); exact BK161.out)) : gb161 ≠ gb168))
                                have n12_ := am ((by rw [hg]; exact Nat.ne_of_gt (blk_lt (g := gb161) (o := .cells #[.int .u64 ((rd_T39 t151 x27_1).f0), .slice A160_1 ((rd_T39 t151 x27_1).f1).length c160_1] 39 (0, 0)) (by (with_reducible repeat (first | refine blk_drewN ?_ _ | refine blk_drew ?_ | refine blk_alloc ?_ _)); exact BK161.out)) : gb168 ≠ gb161))
                                have n13_ := am ((by rw [hg]; exact Nat.ne_of_lt (blk_lt (g := gb163) (o := .cells #[.int .u64 ((rd_T39 t154 x33_2).f0), .slice A162_1 ((rd_T39 t154 x33_2).f1).length c162_1] 39 (0, 0)) (by (with_reducible repeat (first | refine blk_drewN ?_ _ | refine blk_drew ?_ | refine blk_alloc ?_ _)); exact BK163.out)) : gb163 ≠ gb168))
                                have n14_ := am ((by rw [hg]; exact Nat.ne_of_gt (blk_lt (g := gb163) (o := .cells #[.int .u64 ((rd_T39 t154 x33_2).f0), .slice A162_1 ((rd_T39 t154 x33_2).f1).length c162_1] 39 (0, 0)) (by (with_reducible repeat (first | refine blk_drewN ?_ _ | refine blk_drew ?_ | refine blk_alloc ?_ _)); exact BK163.out)) : gb168 ≠ gb163))
                                clear HO_1
                                clear HO_7
                                clear HO_25
                                clear HO_31
                                clear HL162_1
                                clear BK161
                                clear BK163
                                clear HB
                                have HO_1 := n0_
                                have HO_7 := n1_
                                have HO_25 := n2_
                                have HO_31 := n3_
                                have HL162_1 := n4_
                                have BK161 := n5_
                                have BK163 := n6_
                                have HB := n7_
                                have BK168 := n8_
                                have GW168 := n9_
                                have GE168 := n10_
                                have NB161_168 := n11_
                                have NB168_161 := n12_
                                have NB163_168 := n13_
                                have NB168_163 := n14_
                                clear n0_ n1_ n2_ n3_ n4_ n5_ n6_ n7_ n8_ n9_ n10_ n11_ n12_ n13_ n14_
                                clear hb hbox hg
                                refine hK.out _ _ ⟨(blk_cell BK161.out 0).trans rfl, (blk_cell BK161.out 1).trans rfl, (blk_cell BK163.out 0).trans rfl, (blk_cell BK163.out 1).trans rfl⟩ (fun hHeld => ?_)
                                clear hK K
                                refine norm_ (a' := ?_) ?_ ?_
                                rotate_left
                                · show Act.put _ (some 12) _ = _
                                  simp only [Act.put, sa, sb, sc, i64_w, i32_w]
                                  rfl
                                exact norm_ (by (simp only [putAll, Act.put, sa, sb, sc]; done)) (hJ14 (gb168) _ ⟨hHeld, (by exact Kd.V_mono HL162_1.out (fun _ hk => ⟨hk.1.1, ⟨hk.1.2.2.1, ⟨hk.1.2.2.2.1, ⟨hk.1.2.1, ⟨hk.1.2.2.2.2.1, ⟨hk.1.2.2.2.2.2, hk.2⟩⟩⟩⟩⟩⟩)), (by exact Kd.N_mono HO_1.out (fun _ hk => ⟨hk.1.1, ⟨hk.1.2.2.1, ⟨hk.1.2.1, ⟨hk.1.2.2.2.1, ⟨hk.1.2.2.2.2, hk.2⟩⟩⟩⟩⟩)), (by (with_reducible repeat (first | apply N2_alloc | apply N2_drewN | apply N2_drew)); exact N2_mono HO_25.out (fun _ hk => ⟨hk.1.1, ⟨hk.1.2.1, ⟨hk.1.2.2.2.1, ⟨hk.1.2.2.1, ⟨hk.1.2.2.2.2.1, ⟨hk.1.2.2.2.2.2, hk.2⟩⟩⟩⟩⟩⟩)), (by exact Kd.N_mono HO_31.out (fun _ hk => ⟨hk.1.1, ⟨hk.1.2.2.1, ⟨hk.1.2.1, ⟨hk.1.2.2.2.1, ⟨hk.1.2.2.2.2, hk.2⟩⟩⟩⟩⟩)), (by exact Kd.N_mono HO_7.out (fun _ hk => ⟨hk.1.1, ⟨hk.1.2.1, ⟨hk.1.2.2.1, ⟨hk.1.2.2.2.1, ⟨hk.1.2.2.2.2.1, ⟨hk.1.2.2.2.2.2, hk.2⟩⟩⟩⟩⟩⟩)), (by (with_reducible repeat (first | refine blk_drewN ?_ _ | refine blk_drew ?_ | refine blk_alloc ?_ _)); exact BK161.out), (by (with_reducible repeat (first | refine blk_drewN ?_ _ | refine blk_drew ?_ | refine blk_alloc ?_ _)); exact BK163.out), (by (with_reducible repeat (first | refine blk_drewN ?_ _ | refine blk_drew ?_ | refine blk_alloc ?_ _)); exact BK168.out), GW168.out, GE168.out, NB161_168.out, NB168_161.out, NB163_168.out, NB168_163.out, HB.out⟩)
                            · skip
                              rintro gb168 w31 ⟨hS_, h0_, h1_, h2_, h3_, h4_, h5_, h6_, h7_, h8_, h9_, h10_, h11_, h12_, h13_, h14_⟩
                              have n0_ : Aside0 (Kd.V (Kd.int .i64) 3 w31 w.heap.size (fun k_ => (w.heap.size ≤ k_) ∧ some k_ ≠ (.slice (some ad160) t151.length co10 : Value).ownBlock ∧ some k_ ≠ (.slice (some ad162) t154.length co16 : Value).ownBlock ∧ some k_ ≠ (u7 : Value).ownBlock ∧ k_ ≠ gb161 ∧ k_ ≠ gb163 ∧ k_ ≠ gb168) (.slice A162_1 ((rd_T39 t154 x33_2).f1).length c162_1) ((rd_T39 t154 x33_2).f1)) := ⟨h0_⟩
                              have n1_ : Aside0 (Kd.N k39 39 w31 w.heap.size (fun k_ => (w.heap.size ≤ k_) ∧ some k_ ≠ (.slice (some ad160) t151.length co10 : Value).ownBlock ∧ some k_ ≠ (u7 : Value).ownBlock ∧ k_ ≠ gb161 ∧ k_ ≠ gb163 ∧ k_ ≠ gb168) (.slice (some ad162) t154.length co16) t154) := ⟨h1_⟩
                              have n2_ : Aside0 (N2 k39 39 w31 w.heap.size (fun k_ => (w.heap.size ≤ k_) ∧ some k_ ≠ (.slice (some ad162) t154.length co16 : Value).ownBlock ∧ some k_ ≠ (.slice (some ad162) t154.length co16 : Value).ownBlock ∧ some k_ ≠ (u7 : Value).ownBlock ∧ k_ ≠ gb161 ∧ k_ ≠ gb163 ∧ k_ ≠ gb168) (.slice (some ad160) t151.length co10) t151 (Kd.int .i64) 3 (.slice A160_1 ((rd_T39 t151 x27_1).f1).length c160_1) ((rd_T39 t151 x27_1).f1)) := ⟨h2_⟩
                              have n3_ : Aside0 (Kd.N k39 39 w31 w.heap.size (fun k_ => (w.heap.size ≤ k_) ∧ some k_ ≠ (.slice (some ad160) t151.length co10 : Value).ownBlock ∧ some k_ ≠ (u7 : Value).ownBlock ∧ k_ ≠ gb161 ∧ k_ ≠ gb163 ∧ k_ ≠ gb168) (.slice (some ad162) t154.length co16) t154) := ⟨h3_⟩
                              have n4_ : Aside0 (Kd.N k39 39 w31 w.heap.size (fun k_ => (w.heap.size ≤ k_) ∧ some k_ ≠ (.slice (some ad162) t154.length co16 : Value).ownBlock ∧ some k_ ≠ (.slice (some ad160) t151.length co10 : Value).ownBlock ∧ some k_ ≠ (.slice (some ad162) t154.length co16 : Value).ownBlock ∧ k_ ≠ gb161 ∧ k_ ≠ gb163 ∧ k_ ≠ gb168) u7 x7_2) := ⟨h4_⟩
                              have n5_ : Aside0 (w31.heap[gb161]? = some (.cells #[.int .u64 ((rd_T39 t151 x27_1).f0), .slice A160_1 ((rd_T39 t151 x27_1).f1).length c160_1] 39 (0, 0))) := ⟨h5_⟩
                              have n6_ : Aside0 (w31.heap[gb163]? = some (.cells #[.int .u64 ((rd_T39 t154 x33_2).f0), .slice A162_1 ((rd_T39 t154 x33_2).f1).length c162_1] 39 (0, 0))) := ⟨h6_⟩
                              have n7_ : Aside0 (w31.heap[gb168]? = some (.cells #[.int .u64 0, .slice none 0 0] 39 (0, 0))) := ⟨h7_⟩
                              have n8_ : Aside0 (w.heap.size ≤ gb168) := ⟨h8_⟩
                              have n9_ : Aside0 (w.heap.size ≤ gb168) := ⟨h9_⟩
                              have n10_ : Aside0 (gb161 ≠ gb168) := ⟨h10_⟩
                              have n11_ : Aside0 (gb168 ≠ gb161) := ⟨h11_⟩
                              have n12_ : Aside0 (gb163 ≠ gb168) := ⟨h12_⟩
                              have n13_ : Aside0 (gb168 ≠ gb163) := ⟨h13_⟩
                              have n14_ : Aside0 (Below w.heap.size w w31) := ⟨h14_⟩
                              clear HO_1
                              clear HO_7
                              clear HO_25
                              clear HO_31
                              clear HL162_1
                              clear BK161
                              clear BK163
                              clear HB
                              clear h0_ h1_ h2_ h3_ h4_ h5_ h6_ h7_ h8_ h9_ h10_ h11_ h12_ h13_ h14_
                              have HL162_1 := n0_
                              have HO_1 := n1_
                              have HO_25 := n2_
                              have HO_31 := n3_
                              have HO_7 := n4_
                              have BK161 := n5_
                              have BK163 := n6_
                              have BK168 := n7_
                              have GW168 := n8_
                              have GE168 := n9_
                              have NB161_168 := n10_
                              have NB168_161 := n11_
                              have NB163_168 := n12_
                              have NB168_163 := n13_
                              have HB := n14_
                              clear n0_ n1_ n2_ n3_ n4_ n5_ n6_ n7_ n8_ n9_ n10_ n11_ n12_ n13_ n14_
                              have hHeld : w31.cell? ⟨gb161, 0, none⟩ = some (.int .u64 ((rd_T39 t151 x27_1).f0)) ∧ w31.cell? ⟨gb161, 1, none⟩ = some (.slice A160_1 ((rd_T39 t151 x27_1).f1).length c160_1) ∧ w31.cell? ⟨gb163, 0, none⟩ = some (.int .u64 ((rd_T39 t154 x33_2).f0)) ∧ w31.cell? ⟨gb163, 1, none⟩ = some (.slice A162_1 ((rd_T39 t154 x33_2).f1).length c162_1) := hS_
                              refine norm_ (a' := ?_) ?_ ?_
                              rotate_left
                              · simp only [putAll, Act.put, sa, sb, sc]
                                rfl
                              refine two_ (i := 4) (j := 12) (Ni := some 41) (Nj := some 49) #[true, true, true, true, true, true, true, true, true, true, true, true, false, false, true, false] #[true, true, true, true, false, true, true, true, true, true, true, true, true, false, true, false] rfl rfl rfl rfl (two_of HT_.out (by kernel_rfl)) (by decide) (by decide) (fun K hK => ?_) (fun K hK => ?_)
                              · skip
                                refine goes_ Try.func23 (by kernel_rfl) rfl #[.int .u64 ((rd_T39 t151 x27_1).f0), .int .u64 ((rd_T39 t154 x33_2).f0)] (by rfl) rfl rfl (by (try simp only [List.map_toArray, List.map_cons, List.map_nil]); rfl) ?_
                                with_reducible refine (cost_times.calls ((rd_T39 t151 x27_1).f0) ((rd_T39 t154 x33_2).f0) t164 _ A20.out).mono ?_
                                rintro e w' ⟨rfl, ⟨nd, rfl⟩⟩
                                refine ⟨_, rfl, ?_⟩
                                refine hK.out _ _ ⟨(blk_cell BK161.out 0).trans rfl, (blk_cell BK161.out 1).trans rfl, (blk_cell BK163.out 0).trans rfl, (blk_cell BK163.out 1).trans rfl⟩ (fun hHeld => ?_)
                                clear hK K
                                refine norm_ (a' := ?_) ?_ ?_
                                rotate_left
                                · show Act.put _ (some 41) _ = _
                                  simp only [Act.put, sa, sb, sc, i64_w, i32_w]
                                  rfl
                                exact norm_ (by (simp only [putAll, Act.put, sa, sb, sc]; done)) (hJ4_14 (gb168) _ ⟨hHeld, (by (with_reducible repeat (apply Kd.V_drewN)); exact HL162_1.out), (by (with_reducible repeat (apply Kd.N_drewN)); exact HO_1.out), (by (with_reducible repeat (apply N2_drewN)); exact HO_25.out), (by (with_reducible repeat (apply Kd.N_drewN)); exact HO_31.out), (by (with_reducible repeat (apply Kd.N_drewN)); exact HO_7.out), (by (with_reducible repeat (refine blk_drewN ?_ _)); exact BK161.out), (by (with_reducible repeat (refine blk_drewN ?_ _)); exact BK163.out), (by (with_reducible repeat (refine blk_drewN ?_ _)); exact BK168.out), GW168.out, GE168.out, NB161_168.out, NB168_161.out, NB163_168.out, NB168_163.out, (by repeat ((with_reducible first | exact HB.out | apply pw_below_drewN)))⟩)
                              · skip
                                refine Kd.R_make_step (Kd.int .i64) _ 3 (by rfl) (N := 49) rfl 37 _ _ rfl ji21 rfl rfl Try.underlying37 (.int .i64 0) 8 info3 rfl (by decide) (by omega) 0 (ok := fun _ => True) (okp := fun _ => True) rfl (fun _ hk => hk) trivial (of_decide_eq_true (by (with_reducible assumption))) (Nat.le_trans (Nat.mul_le_mul_right _ (of_decide_eq_true (by (with_reducible assumption)) : ji21.toNat ≤ 35184372088832)) (by omega)) (Below.refl _ _) (Nat.le_refl _) ?_
                                intro v166 w32 ho33 hb hg_ hnew_
                                clear hg_ hnew_
                                (rw [← Ny165.out] at ho33)
                                have n0_ := am (Kd.N_elder' HO_1.out (Kd.R_base ho33) hb)
                                have n1_ := am (Kd.N_elder' HO_7.out (Kd.R_base ho33) hb)
                                have n2_ := am (N2_elder' (by (with_reducible repeat (first | apply N2_alloc | apply N2_drewN | apply N2_drew)); exact HO_25.out) (Kd.R_base ho33) hb)
                                have n3_ := am (Kd.N_elder' HO_31.out (Kd.R_base ho33) hb)
                                have n4_ := am (Kd.V_elder' HL162_1.out (Kd.R_base ho33) hb)
                                have n5_ := am (Kd.R_lower (Kd.R_newM (M := fun k_ => (w.heap.size ≤ k_)) ho33 (below_size HB.out) (fun k_ h_ => h_)) (below_size HB.out))
                                have n6_ := am (blk_below (g := gb161) (o := .cells #[.int .u64 ((rd_T39 t151 x27_1).f0), .slice A160_1 ((rd_T39 t151 x27_1).f1).length c160_1] 39 (0, 0)) (by (with_reducible repeat (first | refine blk_drewN ?_ _ | refine blk_drew ?_ | refine blk_alloc ?_ _)); exact BK161.out) hb)
                                have n7_ := am (blk_below (g := gb163) (o := .cells #[.int .u64 ((rd_T39 t154 x33_2).f0), .slice A162_1 ((rd_T39 t154 x33_2).f1).length c162_1] 39 (0, 0)) (by (with_reducible repeat (first | refine blk_drewN ?_ _ | refine blk_drew ?_ | refine blk_alloc ?_ _)); exact BK163.out) hb)
                                have n8_ := am (blk_below (g := gb168) (o := .cells #[.int .u64 0, .slice none 0 0] 39 (0, 0)) (by (with_reducible repeat (first | refine blk_drewN ?_ _ | refine blk_drew ?_ | refine blk_alloc ?_ _)); exact BK168.out) hb)
                                have n9_ := am (below_step HB.out hb)
                                clear HO_1
                                clear HO_7
                                clear HO_25
                                clear HO_31
                                clear HL162_1
                                clear BK161
                                clear BK163
                                clear BK168
                                clear HB
                                have HO_1 := n0_
                                have HO_7 := n1_
                                have HO_25 := n2_
                                have HO_31 := n3_
                                have HL162_1 := n4_
                                have HO167 := n5_
                                have BK161 := n6_
                                have BK163 := n7_
                                have BK168 := n8_
                                have HB := n9_
                                clear n0_ n1_ n2_ n3_ n4_ n5_ n6_ n7_ n8_ n9_
                                clear hb ho33
                                refine hK.out _ _ ⟨(blk_cell BK161.out 0).trans rfl, (blk_cell BK161.out 1).trans rfl, (blk_cell BK163.out 0).trans rfl, (blk_cell BK163.out 1).trans rfl⟩ (fun hHeld => ?_)
                                clear hK K
                                refine norm_ (a' := ?_) ?_ ?_
                                rotate_left
                                · show Act.put _ (some 49) _ = _
                                  simp only [Act.put, sa, sb, sc, i64_w, i32_w]
                                  rfl
                                exact norm_ (by (simp only [putAll, Act.put, sa, sb, sc]; done)) (hJ12_14 (v166, gb168) _ ⟨hHeld, (by exact Kd.V_mono HL162_1.out (fun _ hk => ⟨hk.1.1, ⟨hk.2, ⟨hk.1.2.1, ⟨hk.1.2.2.1, ⟨hk.1.2.2.2.1, ⟨hk.1.2.2.2.2.1, ⟨hk.1.2.2.2.2.2.1, hk.1.2.2.2.2.2.2⟩⟩⟩⟩⟩⟩⟩)), (by exact Kd.R_mono HO167.out (fun _ hk => hk.1)), (by exact Kd.N_mono HO_1.out (fun _ hk => ⟨hk.1.1, ⟨hk.2, ⟨hk.1.2.1, ⟨hk.1.2.2.1, ⟨hk.1.2.2.2.1, ⟨hk.1.2.2.2.2.1, hk.1.2.2.2.2.2⟩⟩⟩⟩⟩⟩)), (by (with_reducible repeat (first | apply N2_alloc | apply N2_drewN | apply N2_drew)); exact N2_mono HO_25.out (fun _ hk => ⟨hk.1.1, ⟨hk.2, ⟨hk.1.2.1, ⟨hk.1.2.2.1, ⟨hk.1.2.2.2.1, ⟨hk.1.2.2.2.2.1, ⟨hk.1.2.2.2.2.2.1, hk.1.2.2.2.2.2.2⟩⟩⟩⟩⟩⟩⟩)), (by exact Kd.N_mono HO_31.out (fun _ hk => ⟨hk.1.1, ⟨hk.2, ⟨hk.1.2.1, ⟨hk.1.2.2.1, ⟨hk.1.2.2.2.1, ⟨hk.1.2.2.2.2.1, hk.1.2.2.2.2.2⟩⟩⟩⟩⟩⟩)), (by exact Kd.N_mono HO_7.out (fun _ hk => ⟨hk.1.1, ⟨hk.2, ⟨hk.1.2.1, ⟨hk.1.2.2.1, ⟨hk.1.2.2.2.1, ⟨hk.1.2.2.2.2.1, ⟨hk.1.2.2.2.2.2.1, hk.1.2.2.2.2.2.2⟩⟩⟩⟩⟩⟩⟩)), (by (with_reducible repeat (first | refine blk_drewN ?_ _ | refine blk_drew ?_ | refine blk_alloc ?_ _)); exact BK161.out), (by (with_reducible repeat (first | refine blk_drewN ?_ _ | refine blk_drew ?_ | refine blk_alloc ?_ _)); exact BK163.out), (by (with_reducible repeat (first | refine blk_drewN ?_ _ | refine blk_drew ?_ | refine blk_alloc ?_ _)); exact BK168.out), GW168.out, GE168.out, NB161_168.out, NB168_161.out, NB163_168.out, NB168_163.out, HB.out⟩)
                          · skip
                            rintro v166 w32 ⟨hS_, h0_, h1_, h2_, h3_, h4_, h5_, h6_, h7_, h8_⟩
                            have n0_ : Aside0 (Kd.V (Kd.int .i64) 3 w32 w.heap.size (fun k_ => (w.heap.size ≤ k_) ∧ some k_ ≠ (v166 : Value).ownBlock ∧ some k_ ≠ (.slice (some ad160) t151.length co10 : Value).ownBlock ∧ some k_ ≠ (.slice (some ad162) t154.length co16 : Value).ownBlock ∧ some k_ ≠ (u7 : Value).ownBlock ∧ k_ ≠ gb161 ∧ k_ ≠ gb163) (.slice A162_1 ((rd_T39 t154 x33_2).f1).length c162_1) ((rd_T39 t154 x33_2).f1)) := ⟨h0_⟩
                            have n1_ : Aside0 (Kd.R (Kd.int .i64) 3 w32 w.heap.size (fun k_ => (w.heap.size ≤ k_)) v166 y165) := ⟨h1_⟩
                            have n2_ : Aside0 (Kd.N k39 39 w32 w.heap.size (fun k_ => (w.heap.size ≤ k_) ∧ some k_ ≠ (v166 : Value).ownBlock ∧ some k_ ≠ (.slice (some ad160) t151.length co10 : Value).ownBlock ∧ some k_ ≠ (u7 : Value).ownBlock ∧ k_ ≠ gb161 ∧ k_ ≠ gb163) (.slice (some ad162) t154.length co16) t154) := ⟨h2_⟩
                            have n3_ : Aside0 (N2 k39 39 w32 w.heap.size (fun k_ => (w.heap.size ≤ k_) ∧ some k_ ≠ (v166 : Value).ownBlock ∧ some k_ ≠ (.slice (some ad162) t154.length co16 : Value).ownBlock ∧ some k_ ≠ (.slice (some ad162) t154.length co16 : Value).ownBlock ∧ some k_ ≠ (u7 : Value).ownBlock ∧ k_ ≠ gb161 ∧ k_ ≠ gb163) (.slice (some ad160) t151.length co10) t151 (Kd.int .i64) 3 (.slice A160_1 ((rd_T39 t151 x27_1).f1).length c160_1) ((rd_T39 t151 x27_1).f1)) := ⟨h3_⟩
                            have n4_ : Aside0 (Kd.N k39 39 w32 w.heap.size (fun k_ => (w.heap.size ≤ k_) ∧ some k_ ≠ (v166 : Value).ownBlock ∧ some k_ ≠ (.slice (some ad160) t151.length co10 : Value).ownBlock ∧ some k_ ≠ (u7 : Value).ownBlock ∧ k_ ≠ gb161 ∧ k_ ≠ gb163) (.slice (some ad162) t154.length co16) t154) := ⟨h4_⟩
                            have n5_ : Aside0 (Kd.N k39 39 w32 w.heap.size (fun k_ => (w.heap.size ≤ k_) ∧ some k_ ≠ (v166 : Value).ownBlock ∧ some k_ ≠ (.slice (some ad162) t154.length co16 : Value).ownBlock ∧ some k_ ≠ (.slice (some ad160) t151.length co10 : Value).ownBlock ∧ some k_ ≠ (.slice (some ad162) t154.length co16 : Value).ownBlock ∧ k_ ≠ gb161 ∧ k_ ≠ gb163) u7 x7_2) := ⟨h5_⟩
                            have n6_ : Aside0 (w32.heap[gb161]? = some (.cells #[.int .u64 ((rd_T39 t151 x27_1).f0), .slice A160_1 ((rd_T39 t151 x27_1).f1).length c160_1] 39 (0, 0))) := ⟨h6_⟩
                            have n7_ : Aside0 (w32.heap[gb163]? = some (.cells #[.int .u64 ((rd_T39 t154 x33_2).f0), .slice A162_1 ((rd_T39 t154 x33_2).f1).length c162_1] 39 (0, 0))) := ⟨h7_⟩
                            have n8_ : Aside0 (Below w.heap.size w w32) := ⟨h8_⟩
                            clear HO_1
                            clear HO_7
                            clear HO_25
                            clear HO_31
                            clear HL162_1
                            clear BK161
                            clear BK163
                            clear HB
                            clear h0_ h1_ h2_ h3_ h4_ h5_ h6_ h7_ h8_
                            have HL162_1 := n0_
                            have HO167 := n1_
                            have HO_1 := n2_
                            have HO_25 := n3_
                            have HO_31 := n4_
                            have HO_7 := n5_
                            have BK161 := n6_
                            have BK163 := n7_
                            have HB := n8_
                            clear n0_ n1_ n2_ n3_ n4_ n5_ n6_ n7_ n8_
                            have hHeld : w32.cell? ⟨gb161, 0, none⟩ = some (.int .u64 ((rd_T39 t151 x27_1).f0)) ∧ w32.cell? ⟨gb161, 1, none⟩ = some (.slice A160_1 ((rd_T39 t151 x27_1).f1).length c160_1) ∧ w32.cell? ⟨gb163, 0, none⟩ = some (.int .u64 ((rd_T39 t154 x33_2).f0)) ∧ w32.cell? ⟨gb163, 1, none⟩ = some (.slice A162_1 ((rd_T39 t154 x33_2).f1).length c162_1) := hS_
                            refine norm_ (a' := ?_) ?_ ?_
                            rotate_left
                            · simp only [putAll, Act.put, sa, sb, sc]
                              rfl
                            refine two_ (i := 4) (j := 14) (Ni := some 41) (Nj := some 12) #[true, true, true, true, true, true, true, true, true, true, true, true, true, false, false, false] #[true, true, true, true, false, true, true, true, true, true, true, true, true, false, true, false] rfl rfl rfl rfl (two_of HT_.out (by kernel_rfl)) (by decide) (by decide) (fun K hK => ?_) (fun K hK => ?_)
                            · skip
                              refine goes_ Try.func23 (by kernel_rfl) rfl #[.int .u64 ((rd_T39 t151 x27_1).f0), .int .u64 ((rd_T39 t154 x33_2).f0)] (by rfl) rfl rfl (by (try simp only [List.map_toArray, List.map_cons, List.map_nil]); rfl) ?_
                              with_reducible refine (cost_times.calls ((rd_T39 t151 x27_1).f0) ((rd_T39 t154 x33_2).f0) t164 _ A20.out).mono ?_
                              rintro e w' ⟨rfl, ⟨nd, rfl⟩⟩
                              refine ⟨_, rfl, ?_⟩
                              obtain ⟨Ao33, co33, eo33⟩ := Kd.R_slice HO167.out
                              (subst eo33)
                              refine hK.out _ _ ⟨(blk_cell BK161.out 0).trans rfl, (blk_cell BK161.out 1).trans rfl, (blk_cell BK163.out 0).trans rfl, (blk_cell BK163.out 1).trans rfl⟩ (fun hHeld => ?_)
                              clear hK K
                              refine norm_ (a' := ?_) ?_ ?_
                              rotate_left
                              · show Act.put _ (some 41) _ = _
                                simp only [Act.put, sa, sb, sc, i64_w, i32_w]
                                rfl
                              refine pu HT_ (v := ?_) (a' := ?_) 13 50 rfl rfl (by kernel_rfl) (fun _ _ _ h => h) (Or.inl ⟨by rfl, ?_⟩) ?_ ?_
                              rotate_left
                              · intro w'
                                go_simp
                                with_reducible rfl
                              rotate_left
                              · simp only [Act.put, sa, sb, sc, i64_w, i32_w]
                                rfl
                              exact norm_ (by (simp only [putAll, Act.put, sa, sb, sc]; done)) (hJ4_12 (.slice Ao33 y165.length co33) _ ⟨hHeld, (by (with_reducible repeat (apply Kd.V_drewN)); exact HL162_1.out), (by (with_reducible repeat (apply Kd.R_drewN)); exact HO167.out), (by (with_reducible repeat (apply Kd.N_drewN)); exact HO_1.out), (by (with_reducible repeat (apply N2_drewN)); exact HO_25.out), (by (with_reducible repeat (apply Kd.N_drewN)); exact HO_31.out), (by (with_reducible repeat (apply Kd.N_drewN)); exact HO_7.out), (by (with_reducible repeat (refine blk_drewN ?_ _)); exact BK161.out), (by (with_reducible repeat (refine blk_drewN ?_ _)); exact BK163.out), (by repeat ((with_reducible first | exact HB.out | apply pw_below_drewN)))⟩)
                            · skip
                              refine box_step ?hg (N := 12) ?hd (cs := #[.int .u64 0, .slice none 0 0]) (t := 39) ?hr ?_; (case hd => rfl); (case hg => rfl); (case hr => (go_simp; done))
                              intro gb168 hg w33 hbox hb
                              have n0_ := am (Kd.N_below (Kd.N_elderB HO_1.out gb168 (Nat.le_of_eq hg.symm)) hb)
                              have n1_ := am (Kd.N_below (Kd.N_elderB HO_7.out gb168 (Nat.le_of_eq hg.symm)) hb)
                              have n2_ := am (N2_below (N2_elderB (by (with_reducible repeat (first | apply N2_alloc | apply N2_drewN | apply N2_drew)); exact HO_25.out) gb168 (Nat.le_of_eq hg.symm)) hb)
                              have n3_ := am (Kd.N_below (Kd.N_elderB HO_31.out gb168 (Nat.le_of_eq hg.symm)) hb)
                              have n4_ := am (Kd.V_below (Kd.V_elderB HL162_1.out gb168 (Nat.le_of_eq hg.symm)) hb)
                              have n5_ := am (Kd.R_below HO167.out hb)
                              have n6_ := am (blk_below (g := gb161) (o := .cells #[.int .u64 ((rd_T39 t151 x27_1).f0), .slice A160_1 ((rd_T39 t151 x27_1).f1).length c160_1] 39 (0, 0)) (by (with_reducible repeat (first | refine blk_drewN ?_ _ | refine blk_drew ?_ | refine blk_alloc ?_ _)); exact BK161.out) hb)
                              have n7_ := am (blk_below (g := gb163) (o := .cells #[.int .u64 ((rd_T39 t154 x33_2).f0), .slice A162_1 ((rd_T39 t154 x33_2).f1).length c162_1] 39 (0, 0)) (by (with_reducible repeat (first | refine blk_drewN ?_ _ | refine blk_drew ?_ | refine blk_alloc ?_ _)); exact BK163.out) hb)
                              have n8_ := am (below_step HB.out hb)
                              have n9_ := am (hbox)
                              have n10_ := am ((by rw [hg]; exact (below_size HB.out) : w.heap.size ≤ gb168))
                              have n11_ := am ((by rw [hg]; exact (below_size HB.out) : w.heap.size ≤ gb168))
                              have n12_ := am ((by rw [hg]; exact Nat.ne_of_lt (blk_lt (g := gb161) (o := .cells #[.int .u64 ((rd_T39 t151 x27_1).f0), .slice A160_1 ((rd_T39 t151 x27_1).f1).length c160_1] 39 (0, 0)) (by (with_reducible repeat (first | refine blk_drewN ?_ _ | refine blk_drew ?_ | refine blk_alloc ?_ _)); exact BK161.out)) : gb161 ≠ gb168))
                              have n13_ := am ((by rw [hg]; exact Nat.ne_of_gt (blk_lt (g := gb161) (o := .cells #[.int .u64 ((rd_T39 t151 x27_1).f0), .slice A160_1 ((rd_T39 t151 x27_1).f1).length c160_1] 39 (0, 0)) (by (with_reducible repeat (first | refine blk_drewN ?_ _ | refine blk_drew ?_ | refine blk_alloc ?_ _)); exact BK161.out)) : gb168 ≠ gb161))
                              have n14_ := am ((by rw [hg]; exact Nat.ne_of_lt (blk_lt (g := gb163) (o := .cells #[.int .u64 ((rd_T39 t154 x33_2).f0), .slice A162_1 ((rd_T39 t154 x33_2).f1).length c162_1] 39 (0, 0)) (by (with_reducible repeat (first | refine blk_drewN ?_ _ | refine blk_drew ?_ | refine blk_alloc ?_ _)); exact BK163.out)) : gb163 ≠ gb168))
                              have n15_ := am ((by rw [hg]; exact Nat.ne_of_gt (blk_lt (g := gb163) (o := .cells #[.int .u64 ((rd_T39 t154 x33_2).f0), .slice A162_1 ((rd_T39 t154 x33_2).f1).length c162_1] 39 (0, 0)) (by (with_reducible repeat (first | refine blk_drewN ?_ _ | refine blk_drew ?_ | refine blk_alloc ?_ _)); exact BK163.out)) : gb168 ≠ gb163))
                              clear HO_1
                              clear HO_7
                              clear HO_25
                              clear HO_31
                              clear HL162_1
                              clear HO167
                              clear BK161
                              clear BK163
                              clear HB
                              have HO_1 := n0_
                              have HO_7 := n1_
                              have HO_25 := n2_
                              have HO_31 := n3_
                              have HL162_1 := n4_
                              have HO167 := n5_
                              have BK161 := n6_
                              have BK163 := n7_
                              have HB := n8_
                              have BK168 := n9_
                              have GW168 := n10_
                              have GE168 := n11_
                              have NB161_168 := n12_
                              have NB168_161 := n13_
                              have NB163_168 := n14_
                              have NB168_163 := n15_
                              clear n0_ n1_ n2_ n3_ n4_ n5_ n6_ n7_ n8_ n9_ n10_ n11_ n12_ n13_ n14_ n15_
                              clear hb hbox hg
                              refine hK.out _ _ ⟨(blk_cell BK161.out 0).trans rfl, (blk_cell BK161.out 1).trans rfl, (blk_cell BK163.out 0).trans rfl, (blk_cell BK163.out 1).trans rfl⟩ (fun hHeld => ?_)
                              clear hK K
                              refine norm_ (a' := ?_) ?_ ?_
                              rotate_left
                              · show Act.put _ (some 12) _ = _
                                simp only [Act.put, sa, sb, sc, i64_w, i32_w]
                                rfl
                              exact norm_ (by (simp only [putAll, Act.put, sa, sb, sc]; done)) (hJ12_14 (v166, gb168) _ ⟨hHeld, (by exact Kd.V_mono HL162_1.out (fun _ hk => ⟨hk.1.1, ⟨hk.1.2.1, ⟨hk.1.2.2.1, ⟨hk.1.2.2.2.1, ⟨hk.1.2.2.2.2.1, ⟨hk.1.2.2.2.2.2.1, ⟨hk.1.2.2.2.2.2.2, hk.2⟩⟩⟩⟩⟩⟩⟩)), HO167.out, (by exact Kd.N_mono HO_1.out (fun _ hk => ⟨hk.1.1, ⟨hk.1.2.1, ⟨hk.1.2.2.1, ⟨hk.1.2.2.2.1, ⟨hk.1.2.2.2.2.1, ⟨hk.1.2.2.2.2.2, hk.2⟩⟩⟩⟩⟩⟩)), (by (with_reducible repeat (first | apply N2_alloc | apply N2_drewN | apply N2_drew)); exact N2_mono HO_25.out (fun _ hk => ⟨hk.1.1, ⟨hk.1.2.1, ⟨hk.1.2.2.1, ⟨hk.1.2.2.2.1, ⟨hk.1.2.2.2.2.1, ⟨hk.1.2.2.2.2.2.1, ⟨hk.1.2.2.2.2.2.2, hk.2⟩⟩⟩⟩⟩⟩⟩)), (by exact Kd.N_mono HO_31.out (fun _ hk => ⟨hk.1.1, ⟨hk.1.2.1, ⟨hk.1.2.2.1, ⟨hk.1.2.2.2.1, ⟨hk.1.2.2.2.2.1, ⟨hk.1.2.2.2.2.2, hk.2⟩⟩⟩⟩⟩⟩)), (by exact Kd.N_mono HO_7.out (fun _ hk => ⟨hk.1.1, ⟨hk.1.2.1, ⟨hk.1.2.2.1, ⟨hk.1.2.2.2.1, ⟨hk.1.2.2.2.2.1, ⟨hk.1.2.2.2.2.2.1, ⟨hk.1.2.2.2.2.2.2, hk.2⟩⟩⟩⟩⟩⟩⟩)), (by (with_reducible repeat (first | refine blk_drewN ?_ _ | refine blk_drew ?_ | refine blk_alloc ?_ _)); exact BK161.out), (by (with_reducible repeat (first | refine blk_drewN ?_ _ | refine blk_drew ?_ | refine blk_alloc ?_ _)); exact BK163.out), (by (with_reducible repeat (first | refine blk_drewN ?_ _ | refine blk_drew ?_ | refine blk_alloc ?_ _)); exact BK168.out), GW168.out, GE168.out, NB161_168.out, NB168_161.out, NB163_168.out, NB168_163.out, HB.out⟩)
                        · skip
                          rintro _ w30 ⟨hS_, h0_, h1_, h2_, h3_, h4_, h5_, h6_, h7_⟩
                          have n0_ : Aside0 (Kd.V (Kd.int .i64) 3 w30 w.heap.size (fun k_ => (w.heap.size ≤ k_) ∧ some k_ ≠ (.slice (some ad160) t151.length co10 : Value).ownBlock ∧ some k_ ≠ (.slice (some ad162) t154.length co16 : Value).ownBlock ∧ some k_ ≠ (u7 : Value).ownBlock ∧ k_ ≠ gb161 ∧ k_ ≠ gb163) (.slice A162_1 ((rd_T39 t154 x33_2).f1).length c162_1) ((rd_T39 t154 x33_2).f1)) := ⟨h0_⟩
                          have n1_ : Aside0 (Kd.N k39 39 w30 w.heap.size (fun k_ => (w.heap.size ≤ k_) ∧ some k_ ≠ (.slice (some ad160) t151.length co10 : Value).ownBlock ∧ some k_ ≠ (u7 : Value).ownBlock ∧ k_ ≠ gb161 ∧ k_ ≠ gb163) (.slice (some ad162) t154.length co16) t154) := ⟨h1_⟩
                          have n2_ : Aside0 (N2 k39 39 w30 w.heap.size (fun k_ => (w.heap.size ≤ k_) ∧ some k_ ≠ (.slice (some ad162) t154.length co16 : Value).ownBlock ∧ some k_ ≠ (.slice (some ad162) t154.length co16 : Value).ownBlock ∧ some k_ ≠ (u7 : Value).ownBlock ∧ k_ ≠ gb161 ∧ k_ ≠ gb163) (.slice (some ad160) t151.length co10) t151 (Kd.int .i64) 3 (.slice A160_1 ((rd_T39 t151 x27_1).f1).length c160_1) ((rd_T39 t151 x27_1).f1)) := ⟨h2_⟩
                          have n3_ : Aside0 (Kd.N k39 39 w30 w.heap.size (fun k_ => (w.heap.size ≤ k_) ∧ some k_ ≠ (.slice (some ad160) t151.length co10 : Value).ownBlock ∧ some k_ ≠ (u7 : Value).ownBlock ∧ k_ ≠ gb161 ∧ k_ ≠ gb163) (.slice (some ad162) t154.length co16) t154) := ⟨h3_⟩
                          have n4_ : Aside0 (Kd.N k39 39 w30 w.heap.size (fun k_ => (w.heap.size ≤ k_) ∧ some k_ ≠ (.slice (some ad162) t154.length co16 : Value).ownBlock ∧ some k_ ≠ (.slice (some ad160) t151.length co10 : Value).ownBlock ∧ some k_ ≠ (.slice (some ad162) t154.length co16 : Value).ownBlock ∧ k_ ≠ gb161 ∧ k_ ≠ gb163) u7 x7_2) := ⟨h4_⟩
                          have n5_ : Aside0 (w30.heap[gb161]? = some (.cells #[.int .u64 ((rd_T39 t151 x27_1).f0), .slice A160_1 ((rd_T39 t151 x27_1).f1).length c160_1] 39 (0, 0))) := ⟨h5_⟩
                          have n6_ : Aside0 (w30.heap[gb163]? = some (.cells #[.int .u64 ((rd_T39 t154 x33_2).f0), .slice A162_1 ((rd_T39 t154 x33_2).f1).length c162_1] 39 (0, 0))) := ⟨h6_⟩
                          have n7_ : Aside0 (Below w.heap.size w w30) := ⟨h7_⟩
                          clear HO_1
                          clear HO_7
                          clear HO_25
                          clear HO_31
                          clear HL162_1
                          clear BK161
                          clear BK163
                          clear HB
                          clear h0_ h1_ h2_ h3_ h4_ h5_ h6_ h7_
                          have HL162_1 := n0_
                          have HO_1 := n1_
                          have HO_25 := n2_
                          have HO_31 := n3_
                          have HO_7 := n4_
                          have BK161 := n5_
                          have BK163 := n6_
                          have HB := n7_
                          clear n0_ n1_ n2_ n3_ n4_ n5_ n6_ n7_
                          have hHeld : w30.cell? ⟨gb161, 0, none⟩ = some (.int .u64 ((rd_T39 t151 x27_1).f0)) ∧ w30.cell? ⟨gb161, 1, none⟩ = some (.slice A160_1 ((rd_T39 t151 x27_1).f1).length c160_1) ∧ w30.cell? ⟨gb163, 0, none⟩ = some (.int .u64 ((rd_T39 t154 x33_2).f0)) ∧ w30.cell? ⟨gb163, 1, none⟩ = some (.slice A162_1 ((rd_T39 t154 x33_2).f1).length c162_1) := hS_
                          refine norm_ (a' := ?_) ?_ ?_
                          rotate_left
                          · simp only [putAll, Act.put, sa, sb, sc]
                            rfl
                          refine two_ (i := 12) (j := 14) (Ni := some 49) (Nj := some 12) #[true, true, true, true, true, true, true, true, true, true, true, true, true, false, false, false] #[true, true, true, true, true, true, true, true, true, true, true, true, false, false, true, false] rfl rfl rfl rfl (two_of HT_.out (by kernel_rfl)) (by decide) (by decide) (fun K hK => ?_) (fun K hK => ?_)
                          · skip
                            refine Kd.R_make_step (Kd.int .i64) _ 3 (by rfl) (N := 49) rfl 37 _ _ rfl ji21 rfl rfl Try.underlying37 (.int .i64 0) 8 info3 rfl (by decide) (by omega) 0 (ok := fun _ => True) (okp := fun _ => True) rfl (fun _ hk => hk) trivial (of_decide_eq_true (by (with_reducible assumption))) (Nat.le_trans (Nat.mul_le_mul_right _ (of_decide_eq_true (by (with_reducible assumption)) : ji21.toNat ≤ 35184372088832)) (by omega)) (Below.refl _ _) (Nat.le_refl _) ?_
                            intro v166 w31 ho32 hb hg_ hnew_
                            clear hg_ hnew_
                            (rw [← Ny165.out] at ho32)
                            have n0_ := am (Kd.N_elder' HO_1.out (Kd.R_base ho32) hb)
                            have n1_ := am (Kd.N_elder' HO_7.out (Kd.R_base ho32) hb)
                            have n2_ := am (N2_elder' (by (with_reducible repeat (first | apply N2_alloc | apply N2_drewN | apply N2_drew)); exact HO_25.out) (Kd.R_base ho32) hb)
                            have n3_ := am (Kd.N_elder' HO_31.out (Kd.R_base ho32) hb)
                            have n4_ := am (Kd.V_elder' HL162_1.out (Kd.R_base ho32) hb)
                            have n5_ := am (Kd.R_lower (Kd.R_newM (M := fun k_ => (w.heap.size ≤ k_)) ho32 (below_size HB.out) (fun k_ h_ => h_)) (below_size HB.out))
                            have n6_ := am (blk_below (g := gb161) (o := .cells #[.int .u64 ((rd_T39 t151 x27_1).f0), .slice A160_1 ((rd_T39 t151 x27_1).f1).length c160_1] 39 (0, 0)) (by (with_reducible repeat (first | refine blk_drewN ?_ _ | refine blk_drew ?_ | refine blk_alloc ?_ _)); exact BK161.out) hb)
                            have n7_ := am (blk_below (g := gb163) (o := .cells #[.int .u64 ((rd_T39 t154 x33_2).f0), .slice A162_1 ((rd_T39 t154 x33_2).f1).length c162_1] 39 (0, 0)) (by (with_reducible repeat (first | refine blk_drewN ?_ _ | refine blk_drew ?_ | refine blk_alloc ?_ _)); exact BK163.out) hb)
                            have n8_ := am (below_step HB.out hb)
                            clear HO_1
                            clear HO_7
                            clear HO_25
                            clear HO_31
                            clear HL162_1
                            clear BK161
                            clear BK163
                            clear HB
                            have HO_1 := n0_
                            have HO_7 := n1_
                            have HO_25 := n2_
                            have HO_31 := n3_
                            have HL162_1 := n4_
                            have HO167 := n5_
                            have BK161 := n6_
                            have BK163 := n7_
                            have HB := n8_
                            clear n0_ n1_ n2_ n3_ n4_ n5_ n6_ n7_ n8_
                            clear hb ho32
                            obtain ⟨Ao33, co33, eo33⟩ := Kd.R_slice HO167.out
                            (subst eo33)
                            refine hK.out _ _ ⟨(blk_cell BK161.out 0).trans rfl, (blk_cell BK161.out 1).trans rfl, (blk_cell BK163.out 0).trans rfl, (blk_cell BK163.out 1).trans rfl⟩ (fun hHeld => ?_)
                            clear hK K
                            refine norm_ (a' := ?_) ?_ ?_
                            rotate_left
                            · show Act.put _ (some 49) _ = _
                              simp only [Act.put, sa, sb, sc, i64_w, i32_w]
                              rfl
                            refine pu HT_ (v := ?_) (a' := ?_) 13 50 rfl rfl (by kernel_rfl) (fun _ _ _ h => h) (Or.inl ⟨by rfl, ?_⟩) ?_ ?_
                            rotate_left
                            · intro w'
                              go_simp
                              with_reducible rfl
                            rotate_left
                            · simp only [Act.put, sa, sb, sc, i64_w, i32_w]
                              rfl
                            exact norm_ (by (simp only [putAll, Act.put, sa, sb, sc]; done)) (hJ4_12 (.slice Ao33 y165.length co33) _ ⟨hHeld, (by exact Kd.V_mono HL162_1.out (fun _ hk => ⟨hk.1.1, ⟨hk.2, ⟨hk.1.2.1, ⟨hk.1.2.2.1, ⟨hk.1.2.2.2.1, ⟨hk.1.2.2.2.2.1, hk.1.2.2.2.2.2⟩⟩⟩⟩⟩⟩)), (by exact Kd.R_mono HO167.out (fun _ hk => hk.1)), (by exact Kd.N_mono HO_1.out (fun _ hk => ⟨hk.1.1, ⟨hk.2, ⟨hk.1.2.1, ⟨hk.1.2.2.1, ⟨hk.1.2.2.2.1, hk.1.2.2.2.2⟩⟩⟩⟩⟩)), (by (with_reducible repeat (first | apply N2_alloc | apply N2_drewN | apply N2_drew)); exact N2_mono HO_25.out (fun _ hk => ⟨hk.1.1, ⟨hk.2, ⟨hk.1.2.1, ⟨hk.1.2.2.1, ⟨hk.1.2.2.2.1, ⟨hk.1.2.2.2.2.1, hk.1.2.2.2.2.2⟩⟩⟩⟩⟩⟩)), (by exact Kd.N_mono HO_31.out (fun _ hk => ⟨hk.1.1, ⟨hk.2, ⟨hk.1.2.1, ⟨hk.1.2.2.1, ⟨hk.1.2.2.2.1, hk.1.2.2.2.2⟩⟩⟩⟩⟩)), (by exact Kd.N_mono HO_7.out (fun _ hk => ⟨hk.1.1, ⟨hk.2, ⟨hk.1.2.1, ⟨hk.1.2.2.1, ⟨hk.1.2.2.2.1, ⟨hk.1.2.2.2.2.1, hk.1.2.2.2.2.2⟩⟩⟩⟩⟩⟩)), (by (with_reducible repeat (first | refine blk_drewN ?_ _ | refine blk_drew ?_ | refine blk_alloc ?_ _)); exact BK161.out), (by (with_reducible repeat (first | refine blk_drewN ?_ _ | refine blk_drew ?_ | refine blk_alloc ?_ _)); exact BK163.out), HB.out⟩)
                          · skip
                            refine box_step ?hg (N := 12) ?hd (cs := #[.int .u64 0, .slice none 0 0]) (t := 39) ?hr ?_; (case hd => rfl); (case hg => rfl); (case hr => (go_simp; done))
                            intro gb168 hg w31 hbox hb
                            have n0_ := am (Kd.N_below (Kd.N_elderB HO_1.out gb168 (Nat.le_of_eq hg.symm)) hb)
                            have n1_ := am (Kd.N_below (Kd.N_elderB HO_7.out gb168 (Nat.le_of_eq hg.symm)) hb)
                            have n2_ := am (N2_below (N2_elderB (by (with_reducible repeat (first | apply N2_alloc | apply N2_drewN | apply N2_drew)); exact HO_25.out) gb168 (Nat.le_of_eq hg.symm)) hb)
                            have n3_ := am (Kd.N_below (Kd.N_elderB HO_31.out gb168 (Nat.le_of_eq hg.symm)) hb)
                            have n4_ := am (Kd.V_below (Kd.V_elderB HL162_1.out gb168 (Nat.le_of_eq hg.symm)) hb)
                            have n5_ := am (blk_below (g := gb161) (o := .cells #[.int .u64 ((rd_T39 t151 x27_1).f0), .slice A160_1 ((rd_T39 t151 x27_1).f1).length c160_1] 39 (0, 0)) (by (with_reducible repeat (first | refine blk_drewN ?_ _ | refine blk_drew ?_ | refine blk_alloc ?_ _)); exact BK161.out) hb)
                            have n6_ := am (blk_below (g := gb163) (o := .cells #[.int .u64 ((rd_T39 t154 x33_2).f0), .slice A162_1 ((rd_T39 t154 x33_2).f1).length c162_1] 39 (0, 0)) (by (with_reducible repeat (first | refine blk_drewN ?_ _ | refine blk_drew ?_ | refine blk_alloc ?_ _)); exact BK163.out) hb)
                            have n7_ := am (below_step HB.out hb)
                            have n8_ := am (hbox)
                            have n9_ := am ((by rw [hg]; exact (below_size HB.out) : w.heap.size ≤ gb168))
                            have n10_ := am ((by rw [hg]; exact (below_size HB.out) : w.heap.size ≤ gb168))
                            have n11_ := am ((by rw [hg]; exact Nat.ne_of_lt (blk_lt (g := gb161) (o := .cells #[.int .u64 ((rd_T39 t151 x27_1).f0), .slice A160_1 ((rd_T39 t151 x27_1).f1).length c160_1] 39 (0, 0)) (by (with_reducible repeat (first | refine blk_drewN ?_ _ | refine blk_drew ?_ | refine blk_alloc ?_ _)); exact BK161.out)) : gb161 ≠ gb168))
                            have n12_ := am ((by rw [hg]; exact Nat.ne_of_gt (blk_lt (g := gb161) (o := .cells #[.int .u64 ((rd_T39 t151 x27_1).f0), .slice A160_1 ((rd_T39 t151 x27_1).f1).length c160_1] 39 (0, 0)) (by (with_reducible repeat (first | refine blk_drewN ?_ _ | refine blk_drew ?_ | refine blk_alloc ?_ _)); exact BK161.out)) : gb168 ≠ gb161))
                            have n13_ := am ((by rw [hg]; exact Nat.ne_of_lt (blk_lt (g := gb163) (o := .cells #[.int .u64 ((rd_T39 t154 x33_2).f0), .slice A162_1 ((rd_T39 t154 x33_2).f1).length c162_1] 39 (0, 0)) (by (with_reducible repeat (first | refine blk_drewN ?_ _ | refine blk_drew ?_ | refine blk_alloc ?_ _)); exact BK163.out)) : gb163 ≠ gb168))
                            have n14_ := am ((by rw [hg]; exact Nat.ne_of_gt (blk_lt (g := gb163) (o := .cells #[.int .u64 ((rd_T39 t154 x33_2).f0), .slice A162_1 ((rd_T39 t154 x33_2).f1).length c162_1] 39 (0, 0)) (by (with_reducible repeat (first | refine blk_drewN ?_ _ | refine blk_drew ?_ | refine blk_alloc ?_ _)); exact BK163.out)) : gb168 ≠ gb163))
                            clear HO_1
                            clear HO_7
                            clear HO_25
                            clear HO_31
                            clear HL162_1
                            clear BK161
                            clear BK163
                            clear HB
                            have HO_1 := n0_
                            have HO_7 := n1_
                            have HO_25 := n2_
                            have HO_31 := n3_
                            have HL162_1 := n4_
                            have BK161 := n5_
                            have BK163 := n6_
                            have HB := n7_
                            have BK168 := n8_
                            have GW168 := n9_
                            have GE168 := n10_
                            have NB161_168 := n11_
                            have NB168_161 := n12_
                            have NB163_168 := n13_
                            have NB168_163 := n14_
                            clear n0_ n1_ n2_ n3_ n4_ n5_ n6_ n7_ n8_ n9_ n10_ n11_ n12_ n13_ n14_
                            clear hb hbox hg
                            refine hK.out _ _ ⟨(blk_cell BK161.out 0).trans rfl, (blk_cell BK161.out 1).trans rfl, (blk_cell BK163.out 0).trans rfl, (blk_cell BK163.out 1).trans rfl⟩ (fun hHeld => ?_)
                            clear hK K
                            refine norm_ (a' := ?_) ?_ ?_
                            rotate_left
                            · show Act.put _ (some 12) _ = _
                              simp only [Act.put, sa, sb, sc, i64_w, i32_w]
                              rfl
                            exact norm_ (by (simp only [putAll, Act.put, sa, sb, sc]; done)) (hJ4_14 (gb168) _ ⟨hHeld, (by exact Kd.V_mono HL162_1.out (fun _ hk => ⟨hk.1.1, ⟨hk.1.2.1, ⟨hk.1.2.2.1, ⟨hk.1.2.2.2.1, ⟨hk.1.2.2.2.2.1, ⟨hk.1.2.2.2.2.2, hk.2⟩⟩⟩⟩⟩⟩)), (by exact Kd.N_mono HO_1.out (fun _ hk => ⟨hk.1.1, ⟨hk.1.2.1, ⟨hk.1.2.2.1, ⟨hk.1.2.2.2.1, ⟨hk.1.2.2.2.2, hk.2⟩⟩⟩⟩⟩)), (by (with_reducible repeat (first | apply N2_alloc | apply N2_drewN | apply N2_drew)); exact N2_mono HO_25.out (fun _ hk => ⟨hk.1.1, ⟨hk.1.2.1, ⟨hk.1.2.2.1, ⟨hk.1.2.2.2.1, ⟨hk.1.2.2.2.2.1, ⟨hk.1.2.2.2.2.2, hk.2⟩⟩⟩⟩⟩⟩)), (by exact Kd.N_mono HO_31.out (fun _ hk => ⟨hk.1.1, ⟨hk.1.2.1, ⟨hk.1.2.2.1, ⟨hk.1.2.2.2.1, ⟨hk.1.2.2.2.2, hk.2⟩⟩⟩⟩⟩)), (by exact Kd.N_mono HO_7.out (fun _ hk => ⟨hk.1.1, ⟨hk.1.2.1, ⟨hk.1.2.2.1, ⟨hk.1.2.2.2.1, ⟨hk.1.2.2.2.2.1, ⟨hk.1.2.2.2.2.2, hk.2⟩⟩⟩⟩⟩⟩)), (by (with_reducible repeat (first | refine blk_drewN ?_ _ | refine blk_drew ?_ | refine blk_alloc ?_ _)); exact BK161.out), (by (with_reducible repeat (first | refine blk_drewN ?_ _ | refine blk_drew ?_ | refine blk_alloc ?_ _)); exact BK163.out), (by (with_reducible repeat (first | refine blk_drewN ?_ _ | refine blk_drew ?_ | refine blk_alloc ?_ _)); exact BK168.out), GW168.out, GE168.out, NB161_168.out, NB168_161.out, NB163_168.out, NB168_163.out, HB.out⟩)
                      · skip
                        rintro ⟨v166, gb168⟩ w33 ⟨hS_, h0_, h1_, h2_, h3_, h4_, h5_, h6_, h7_, h8_, h9_, h10_, h11_, h12_, h13_, h14_, h15_⟩
                        have n0_ : Aside0 (Kd.V (Kd.int .i64) 3 w33 w.heap.size (fun k_ => (w.heap.size ≤ k_) ∧ some k_ ≠ (v166 : Value).ownBlock ∧ some k_ ≠ (.slice (some ad160) t151.length co10 : Value).ownBlock ∧ some k_ ≠ (.slice (some ad162) t154.length co16 : Value).ownBlock ∧ some k_ ≠ (u7 : Value).ownBlock ∧ k_ ≠ gb161 ∧ k_ ≠ gb163 ∧ k_ ≠ gb168) (.slice A162_1 ((rd_T39 t154 x33_2).f1).length c162_1) ((rd_T39 t154 x33_2).f1)) := ⟨h0_⟩
                        have n1_ : Aside0 (Kd.R (Kd.int .i64) 3 w33 w.heap.size (fun k_ => (w.heap.size ≤ k_)) v166 y165) := ⟨h1_⟩
                        have n2_ : Aside0 (Kd.N k39 39 w33 w.heap.size (fun k_ => (w.heap.size ≤ k_) ∧ some k_ ≠ (v166 : Value).ownBlock ∧ some k_ ≠ (.slice (some ad160) t151.length co10 : Value).ownBlock ∧ some k_ ≠ (u7 : Value).ownBlock ∧ k_ ≠ gb161 ∧ k_ ≠ gb163 ∧ k_ ≠ gb168) (.slice (some ad162) t154.length co16) t154) := ⟨h2_⟩
                        have n3_ : Aside0 (N2 k39 39 w33 w.heap.size (fun k_ => (w.heap.size ≤ k_) ∧ some k_ ≠ (v166 : Value).ownBlock ∧ some k_ ≠ (.slice (some ad162) t154.length co16 : Value).ownBlock ∧ some k_ ≠ (.slice (some ad162) t154.length co16 : Value).ownBlock ∧ some k_ ≠ (u7 : Value).ownBlock ∧ k_ ≠ gb161 ∧ k_ ≠ gb163 ∧ k_ ≠ gb168) (.slice (some ad160) t151.length co10) t151 (Kd.int .i64) 3 (.slice A160_1 ((rd_T39 t151 x27_1).f1).length c160_1) ((rd_T39 t151 x27_1).f1)) := ⟨h3_⟩
                        have n4_ : Aside0 (Kd.N k39 39 w33 w.heap.size (fun k_ => (w.heap.size ≤ k_) ∧ some k_ ≠ (v166 : Value).ownBlock ∧ some k_ ≠ (.slice (some ad160) t151.length co10 : Value).ownBlock ∧ some k_ ≠ (u7 : Value).ownBlock ∧ k_ ≠ gb161 ∧ k_ ≠ gb163 ∧ k_ ≠ gb168) (.slice (some ad162) t154.length co16) t154) := ⟨h4_⟩
                        have n5_ : Aside0 (Kd.N k39 39 w33 w.heap.size (fun k_ => (w.heap.size ≤ k_) ∧ some k_ ≠ (v166 : Value).ownBlock ∧ some k_ ≠ (.slice (some ad162) t154.length co16 : Value).ownBlock ∧ some k_ ≠ (.slice (some ad160) t151.length co10 : Value).ownBlock ∧ some k_ ≠ (.slice (some ad162) t154.length co16 : Value).ownBlock ∧ k_ ≠ gb161 ∧ k_ ≠ gb163 ∧ k_ ≠ gb168) u7 x7_2) := ⟨h5_⟩
                        have n6_ : Aside0 (w33.heap[gb161]? = some (.cells #[.int .u64 ((rd_T39 t151 x27_1).f0), .slice A160_1 ((rd_T39 t151 x27_1).f1).length c160_1] 39 (0, 0))) := ⟨h6_⟩
                        have n7_ : Aside0 (w33.heap[gb163]? = some (.cells #[.int .u64 ((rd_T39 t154 x33_2).f0), .slice A162_1 ((rd_T39 t154 x33_2).f1).length c162_1] 39 (0, 0))) := ⟨h7_⟩
                        have n8_ : Aside0 (w33.heap[gb168]? = some (.cells #[.int .u64 0, .slice none 0 0] 39 (0, 0))) := ⟨h8_⟩
                        have n9_ : Aside0 (w.heap.size ≤ gb168) := ⟨h9_⟩
                        have n10_ : Aside0 (w.heap.size ≤ gb168) := ⟨h10_⟩
                        have n11_ : Aside0 (gb161 ≠ gb168) := ⟨h11_⟩
                        have n12_ : Aside0 (gb168 ≠ gb161) := ⟨h12_⟩
                        have n13_ : Aside0 (gb163 ≠ gb168) := ⟨h13_⟩
                        have n14_ : Aside0 (gb168 ≠ gb163) := ⟨h14_⟩
                        have n15_ : Aside0 (Below w.heap.size w w33) := ⟨h15_⟩
                        clear HO_1
                        clear HO_7
                        clear HO_25
                        clear HO_31
                        clear HL162_1
                        clear BK161
                        clear BK163
                        clear HB
                        clear h0_ h1_ h2_ h3_ h4_ h5_ h6_ h7_ h8_ h9_ h10_ h11_ h12_ h13_ h14_ h15_
                        have HL162_1 := n0_
                        have HO167 := n1_
                        have HO_1 := n2_
                        have HO_25 := n3_
                        have HO_31 := n4_
                        have HO_7 := n5_
                        have BK161 := n6_
                        have BK163 := n7_
                        have BK168 := n8_
                        have GW168 := n9_
                        have GE168 := n10_
                        have NB161_168 := n11_
                        have NB168_161 := n12_
                        have NB163_168 := n13_
                        have NB168_163 := n14_
                        have HB := n15_
                        clear n0_ n1_ n2_ n3_ n4_ n5_ n6_ n7_ n8_ n9_ n10_ n11_ n12_ n13_ n14_ n15_
                        have hHeld : w33.cell? ⟨gb161, 0, none⟩ = some (.int .u64 ((rd_T39 t151 x27_1).f0)) ∧ w33.cell? ⟨gb161, 1, none⟩ = some (.slice A160_1 ((rd_T39 t151 x27_1).f1).length c160_1) ∧ w33.cell? ⟨gb163, 0, none⟩ = some (.int .u64 ((rd_T39 t154 x33_2).f0)) ∧ w33.cell? ⟨gb163, 1, none⟩ = some (.slice A162_1 ((rd_T39 t154 x33_2).f1).length c162_1) := hS_
                        refine norm_ (a' := ?_) ?_ ?_
                        rotate_left
                        · simp only [putAll, Act.put, sa, sb, sc]
                          rfl
                        refine one_ (i := 4) (N := some 41) #[true, true, true, true, true, true, true, true, true, true, true, true, true, false, true, false] rfl rfl (one_of HT_.out (by kernel_rfl)) (by decide) (fun K hK => ?_)
                        refine goes_ Try.func23 (by kernel_rfl) rfl #[.int .u64 ((rd_T39 t151 x27_1).f0), .int .u64 ((rd_T39 t154 x33_2).f0)] (by rfl) rfl rfl (by (try simp only [List.map_toArray, List.map_cons, List.map_nil]); rfl) ?_
                        with_reducible refine (cost_times.calls ((rd_T39 t151 x27_1).f0) ((rd_T39 t154 x33_2).f0) t164 _ A20.out).mono ?_
                        rintro e w' ⟨rfl, ⟨nd, rfl⟩⟩
                        refine ⟨_, rfl, ?_⟩
                        obtain ⟨Ao34, co34, eo34⟩ := Kd.R_slice HO167.out
                        (subst eo34)
                        refine hK.out _ _ ⟨(blk_cell BK161.out 0).trans rfl, (blk_cell BK161.out 1).trans rfl, (blk_cell BK163.out 0).trans rfl, (blk_cell BK163.out 1).trans rfl⟩ (fun hHeld => ?_)
                        clear hK K
                        refine norm_ (a' := ?_) ?_ ?_
                        rotate_left
                        · show Act.put _ (some 41) _ = _
                          simp only [Act.put, sa, sb, sc, i64_w, i32_w]
                          rfl
                        refine pu HT_ (v := ?_) (a' := ?_) 13 50 rfl rfl (by kernel_rfl) (fun _ _ _ h => h) (Or.inl ⟨by rfl, ?_⟩) ?_ ?_
                        rotate_left
                        · intro w'
                          go_simp
                          with_reducible rfl
                        rotate_left
                        · simp only [Act.put, sa, sb, sc, i64_w, i32_w]
                          rfl
                        exact norm_ (by (simp only [putAll, Act.put, sa, sb, sc]; done)) (hJ4_12_14 (.slice Ao34 y165.length co34, gb168) _ ⟨hHeld, (by (with_reducible repeat (apply Kd.V_drewN)); exact HL162_1.out), (by (with_reducible repeat (apply Kd.R_drewN)); exact HO167.out), (by (with_reducible repeat (apply Kd.N_drewN)); exact HO_1.out), (by (with_reducible repeat (apply N2_drewN)); exact HO_25.out), (by (with_reducible repeat (apply Kd.N_drewN)); exact HO_31.out), (by (with_reducible repeat (apply Kd.N_drewN)); exact HO_7.out), (by (with_reducible repeat (refine blk_drewN ?_ _)); exact BK161.out), (by (with_reducible repeat (refine blk_drewN ?_ _)); exact BK163.out), (by (with_reducible repeat (refine blk_drewN ?_ _)); exact BK168.out), GW168.out, GE168.out, NB161_168.out, NB168_161.out, NB163_168.out, NB168_163.out, (by repeat ((with_reducible first | exact HB.out | apply pw_below_drewN)))⟩)
                    · skip
                      rintro gb168 w31 ⟨hS_, h0_, h1_, h2_, h3_, h4_, h5_, h6_, h7_, h8_, h9_, h10_, h11_, h12_, h13_, h14_⟩
                      have n0_ : Aside0 (Kd.V (Kd.int .i64) 3 w31 w.heap.size (fun k_ => (w.heap.size ≤ k_) ∧ some k_ ≠ (.slice (some ad160) t151.length co10 : Value).ownBlock ∧ some k_ ≠ (.slice (some ad162) t154.length co16 : Value).ownBlock ∧ some k_ ≠ (u7 : Value).ownBlock ∧ k_ ≠ gb161 ∧ k_ ≠ gb163 ∧ k_ ≠ gb168) (.slice A162_1 ((rd_T39 t154 x33_2).f1).length c162_1) ((rd_T39 t154 x33_2).f1)) := ⟨h0_⟩
                      have n1_ : Aside0 (Kd.N k39 39 w31 w.heap.size (fun k_ => (w.heap.size ≤ k_) ∧ some k_ ≠ (.slice (some ad160) t151.length co10 : Value).ownBlock ∧ some k_ ≠ (u7 : Value).ownBlock ∧ k_ ≠ gb161 ∧ k_ ≠ gb163 ∧ k_ ≠ gb168) (.slice (some ad162) t154.length co16) t154) := ⟨h1_⟩
                      have n2_ : Aside0 (N2 k39 39 w31 w.heap.size (fun k_ => (w.heap.size ≤ k_) ∧ some k_ ≠ (.slice (some ad162) t154.length co16 : Value).ownBlock ∧ some k_ ≠ (.slice (some ad162) t154.length co16 : Value).ownBlock ∧ some k_ ≠ (u7 : Value).ownBlock ∧ k_ ≠ gb161 ∧ k_ ≠ gb163 ∧ k_ ≠ gb168) (.slice (some ad160) t151.length co10) t151 (Kd.int .i64) 3 (.slice A160_1 ((rd_T39 t151 x27_1).f1).length c160_1) ((rd_T39 t151 x27_1).f1)) := ⟨h2_⟩
                      have n3_ : Aside0 (Kd.N k39 39 w31 w.heap.size (fun k_ => (w.heap.size ≤ k_) ∧ some k_ ≠ (.slice (some ad160) t151.length co10 : Value).ownBlock ∧ some k_ ≠ (u7 : Value).ownBlock ∧ k_ ≠ gb161 ∧ k_ ≠ gb163 ∧ k_ ≠ gb168) (.slice (some ad162) t154.length co16) t154) := ⟨h3_⟩
                      have n4_ : Aside0 (Kd.N k39 39 w31 w.heap.size (fun k_ => (w.heap.size ≤ k_) ∧ some k_ ≠ (.slice (some ad162) t154.length co16 : Value).ownBlock ∧ some k_ ≠ (.slice (some ad160) t151.length co10 : Value).ownBlock ∧ some k_ ≠ (.slice (some ad162) t154.length co16 : Value).ownBlock ∧ k_ ≠ gb161 ∧ k_ ≠ gb163 ∧ k_ ≠ gb168) u7 x7_2) := ⟨h4_⟩
                      have n5_ : Aside0 (w31.heap[gb161]? = some (.cells #[.int .u64 ((rd_T39 t151 x27_1).f0), .slice A160_1 ((rd_T39 t151 x27_1).f1).length c160_1] 39 (0, 0))) := ⟨h5_⟩
                      have n6_ : Aside0 (w31.heap[gb163]? = some (.cells #[.int .u64 ((rd_T39 t154 x33_2).f0), .slice A162_1 ((rd_T39 t154 x33_2).f1).length c162_1] 39 (0, 0))) := ⟨h6_⟩
                      have n7_ : Aside0 (w31.heap[gb168]? = some (.cells #[.int .u64 0, .slice none 0 0] 39 (0, 0))) := ⟨h7_⟩
                      have n8_ : Aside0 (w.heap.size ≤ gb168) := ⟨h8_⟩
                      have n9_ : Aside0 (w.heap.size ≤ gb168) := ⟨h9_⟩
                      have n10_ : Aside0 (gb161 ≠ gb168) := ⟨h10_⟩
                      have n11_ : Aside0 (gb168 ≠ gb161) := ⟨h11_⟩
                      have n12_ : Aside0 (gb163 ≠ gb168) := ⟨h12_⟩
                      have n13_ : Aside0 (gb168 ≠ gb163) := ⟨h13_⟩
                      have n14_ : Aside0 (Below w.heap.size w w31) := ⟨h14_⟩
                      clear HO_1
                      clear HO_7
                      clear HO_25
                      clear HO_31
                      clear HL162_1
                      clear BK161
                      clear BK163
                      clear HB
                      clear h0_ h1_ h2_ h3_ h4_ h5_ h6_ h7_ h8_ h9_ h10_ h11_ h12_ h13_ h14_
                      have HL162_1 := n0_
                      have HO_1 := n1_
                      have HO_25 := n2_
                      have HO_31 := n3_
                      have HO_7 := n4_
                      have BK161 := n5_
                      have BK163 := n6_
                      have BK168 := n7_
                      have GW168 := n8_
                      have GE168 := n9_
                      have NB161_168 := n10_
                      have NB168_161 := n11_
                      have NB163_168 := n12_
                      have NB168_163 := n13_
                      have HB := n14_
                      clear n0_ n1_ n2_ n3_ n4_ n5_ n6_ n7_ n8_ n9_ n10_ n11_ n12_ n13_ n14_
                      have hHeld : w31.cell? ⟨gb161, 0, none⟩ = some (.int .u64 ((rd_T39 t151 x27_1).f0)) ∧ w31.cell? ⟨gb161, 1, none⟩ = some (.slice A160_1 ((rd_T39 t151 x27_1).f1).length c160_1) ∧ w31.cell? ⟨gb163, 0, none⟩ = some (.int .u64 ((rd_T39 t154 x33_2).f0)) ∧ w31.cell? ⟨gb163, 1, none⟩ = some (.slice A162_1 ((rd_T39 t154 x33_2).f1).length c162_1) := hS_
                      refine norm_ (a' := ?_) ?_ ?_
                      rotate_left
                      · simp only [putAll, Act.put, sa, sb, sc]
                        rfl
                      refine one_ (i := 12) (N := some 49) #[true, true, true, true, true, true, true, true, true, true, true, true, true, false, true, false] rfl rfl (one_of HT_.out (by kernel_rfl)) (by decide) (fun K hK => ?_)
                      refine Kd.R_make_step (Kd.int .i64) _ 3 (by rfl) (N := 49) rfl 37 _ _ rfl ji21 rfl rfl Try.underlying37 (.int .i64 0) 8 info3 rfl (by decide) (by omega) 0 (ok := fun _ => True) (okp := fun _ => True) rfl (fun _ hk => hk) trivial (of_decide_eq_true (by (with_reducible assumption))) (Nat.le_trans (Nat.mul_le_mul_right _ (of_decide_eq_true (by (with_reducible assumption)) : ji21.toNat ≤ 35184372088832)) (by omega)) (Below.refl _ _) (Nat.le_refl _) ?_
                      intro v166 w32 ho33 hb hg_ hnew_
                      clear hg_ hnew_
                      (rw [← Ny165.out] at ho33)
                      have n0_ := am (Kd.N_elder' HO_1.out (Kd.R_base ho33) hb)
                      have n1_ := am (Kd.N_elder' HO_7.out (Kd.R_base ho33) hb)
                      have n2_ := am (N2_elder' (by (with_reducible repeat (first | apply N2_alloc | apply N2_drewN | apply N2_drew)); exact HO_25.out) (Kd.R_base ho33) hb)
                      have n3_ := am (Kd.N_elder' HO_31.out (Kd.R_base ho33) hb)
                      have n4_ := am (Kd.V_elder' HL162_1.out (Kd.R_base ho33) hb)
                      have n5_ := am (Kd.R_lower (Kd.R_newM (M := fun k_ => (w.heap.size ≤ k_)) ho33 (below_size HB.out) (fun k_ h_ => h_)) (below_size HB.out))
                      have n6_ := am (blk_below (g := gb161) (o := .cells #[.int .u64 ((rd_T39 t151 x27_1).f0), .slice A160_1 ((rd_T39 t151 x27_1).f1).length c160_1] 39 (0, 0)) (by (with_reducible repeat (first | refine blk_drewN ?_ _ | refine blk_drew ?_ | refine blk_alloc ?_ _)); exact BK161.out) hb)
                      have n7_ := am (blk_below (g := gb163) (o := .cells #[.int .u64 ((rd_T39 t154 x33_2).f0), .slice A162_1 ((rd_T39 t154 x33_2).f1).length c162_1] 39 (0, 0)) (by (with_reducible repeat (first | refine blk_drewN ?_ _ | refine blk_drew ?_ | refine blk_alloc ?_ _)); exact BK163.out) hb)
                      have n8_ := am (blk_below (g := gb168) (o := .cells #[.int .u64 0, .slice none 0 0] 39 (0, 0)) (by (with_reducible repeat (first | refine blk_drewN ?_ _ | refine blk_drew ?_ | refine blk_alloc ?_ _)); exact BK168.out) hb)
                      have n9_ := am (below_step HB.out hb)
                      clear HO_1
                      clear HO_7
                      clear HO_25
                      clear HO_31
                      clear HL162_1
                      clear BK161
                      clear BK163
                      clear BK168
                      clear HB
                      have HO_1 := n0_
                      have HO_7 := n1_
                      have HO_25 := n2_
                      have HO_31 := n3_
                      have HL162_1 := n4_
                      have HO167 := n5_
                      have BK161 := n6_
                      have BK163 := n7_
                      have BK168 := n8_
                      have HB := n9_
                      clear n0_ n1_ n2_ n3_ n4_ n5_ n6_ n7_ n8_ n9_
                      clear hb ho33
                      obtain ⟨Ao34, co34, eo34⟩ := Kd.R_slice HO167.out
                      (subst eo34)
                      refine hK.out _ _ ⟨(blk_cell BK161.out 0).trans rfl, (blk_cell BK161.out 1).trans rfl, (blk_cell BK163.out 0).trans rfl, (blk_cell BK163.out 1).trans rfl⟩ (fun hHeld => ?_)
                      clear hK K
                      refine norm_ (a' := ?_) ?_ ?_
                      rotate_left
                      · show Act.put _ (some 49) _ = _
                        simp only [Act.put, sa, sb, sc, i64_w, i32_w]
                        rfl
                      refine pu HT_ (v := ?_) (a' := ?_) 13 50 rfl rfl (by kernel_rfl) (fun _ _ _ h => h) (Or.inl ⟨by rfl, ?_⟩) ?_ ?_
                      rotate_left
                      · intro w'
                        go_simp
                        with_reducible rfl
                      rotate_left
                      · simp only [Act.put, sa, sb, sc, i64_w, i32_w]
                        rfl
                      exact norm_ (by (simp only [putAll, Act.put, sa, sb, sc]; done)) (hJ4_12_14 (.slice Ao34 y165.length co34, gb168) _ ⟨hHeld, (by exact Kd.V_mono HL162_1.out (fun _ hk => ⟨hk.1.1, ⟨hk.2, ⟨hk.1.2.1, ⟨hk.1.2.2.1, ⟨hk.1.2.2.2.1, ⟨hk.1.2.2.2.2.1, ⟨hk.1.2.2.2.2.2.1, hk.1.2.2.2.2.2.2⟩⟩⟩⟩⟩⟩⟩)), (by exact Kd.R_mono HO167.out (fun _ hk => hk.1)), (by exact Kd.N_mono HO_1.out (fun _ hk => ⟨hk.1.1, ⟨hk.2, ⟨hk.1.2.1, ⟨hk.1.2.2.1, ⟨hk.1.2.2.2.1, ⟨hk.1.2.2.2.2.1, hk.1.2.2.2.2.2⟩⟩⟩⟩⟩⟩)), (by (with_reducible repeat (first | apply N2_alloc | apply N2_drewN | apply N2_drew)); exact N2_mono HO_25.out (fun _ hk => ⟨hk.1.1, ⟨hk.2, ⟨hk.1.2.1, ⟨hk.1.2.2.1, ⟨hk.1.2.2.2.1, ⟨hk.1.2.2.2.2.1, ⟨hk.1.2.2.2.2.2.1, hk.1.2.2.2.2.2.2⟩⟩⟩⟩⟩⟩⟩)), (by exact Kd.N_mono HO_31.out (fun _ hk => ⟨hk.1.1, ⟨hk.2, ⟨hk.1.2.1, ⟨hk.1.2.2.1, ⟨hk.1.2.2.2.1, ⟨hk.1.2.2.2.2.1, hk.1.2.2.2.2.2⟩⟩⟩⟩⟩⟩)), (by exact Kd.N_mono HO_7.out (fun _ hk => ⟨hk.1.1, ⟨hk.2, ⟨hk.1.2.1, ⟨hk.1.2.2.1, ⟨hk.1.2.2.2.1, ⟨hk.1.2.2.2.2.1, ⟨hk.1.2.2.2.2.2.1, hk.1.2.2.2.2.2.2⟩⟩⟩⟩⟩⟩⟩)), (by (with_reducible repeat (first | refine blk_drewN ?_ _ | refine blk_drew ?_ | refine blk_alloc ?_ _)); exact BK161.out), (by (with_reducible repeat (first | refine blk_drewN ?_ _ | refine blk_drew ?_ | refine blk_alloc ?_ _)); exact BK163.out), (by (with_reducible repeat (first | refine blk_drewN ?_ _ | refine blk_drew ?_ | refine blk_alloc ?_ _)); exact BK168.out), GW168.out, GE168.out, NB161_168.out, NB168_161.out, NB163_168.out, NB168_163.out, HB.out⟩)
                  · skip
                    rintro v166 w33 ⟨hS_, h0_, h1_, h2_, h3_, h4_, h5_, h6_, h7_, h8_⟩
                    have n0_ : Aside0 (Kd.V (Kd.int .i64) 3 w33 w.heap.size (fun k_ => (w.heap.size ≤ k_) ∧ some k_ ≠ (v166 : Value).ownBlock ∧ some k_ ≠ (.slice (some ad160) t151.length co10 : Value).ownBlock ∧ some k_ ≠ (.slice (some ad162) t154.length co16 : Value).ownBlock ∧ some k_ ≠ (u7 : Value).ownBlock ∧ k_ ≠ gb161 ∧ k_ ≠ gb163) (.slice A162_1 ((rd_T39 t154 x33_2).f1).length c162_1) ((rd_T39 t154 x33_2).f1)) := ⟨h0_⟩
                    have n1_ : Aside0 (Kd.R (Kd.int .i64) 3 w33 w.heap.size (fun k_ => (w.heap.size ≤ k_)) v166 y165) := ⟨h1_⟩
                    have n2_ : Aside0 (Kd.N k39 39 w33 w.heap.size (fun k_ => (w.heap.size ≤ k_) ∧ some k_ ≠ (v166 : Value).ownBlock ∧ some k_ ≠ (.slice (some ad160) t151.length co10 : Value).ownBlock ∧ some k_ ≠ (u7 : Value).ownBlock ∧ k_ ≠ gb161 ∧ k_ ≠ gb163) (.slice (some ad162) t154.length co16) t154) := ⟨h2_⟩
                    have n3_ : Aside0 (N2 k39 39 w33 w.heap.size (fun k_ => (w.heap.size ≤ k_) ∧ some k_ ≠ (v166 : Value).ownBlock ∧ some k_ ≠ (.slice (some ad162) t154.length co16 : Value).ownBlock ∧ some k_ ≠ (.slice (some ad162) t154.length co16 : Value).ownBlock ∧ some k_ ≠ (u7 : Value).ownBlock ∧ k_ ≠ gb161 ∧ k_ ≠ gb163) (.slice (some ad160) t151.length co10) t151 (Kd.int .i64) 3 (.slice A160_1 ((rd_T39 t151 x27_1).f1).length c160_1) ((rd_T39 t151 x27_1).f1)) := ⟨h3_⟩
                    have n4_ : Aside0 (Kd.N k39 39 w33 w.heap.size (fun k_ => (w.heap.size ≤ k_) ∧ some k_ ≠ (v166 : Value).ownBlock ∧ some k_ ≠ (.slice (some ad160) t151.length co10 : Value).ownBlock ∧ some k_ ≠ (u7 : Value).ownBlock ∧ k_ ≠ gb161 ∧ k_ ≠ gb163) (.slice (some ad162) t154.length co16) t154) := ⟨h4_⟩
                    have n5_ : Aside0 (Kd.N k39 39 w33 w.heap.size (fun k_ => (w.heap.size ≤ k_) ∧ some k_ ≠ (v166 : Value).ownBlock ∧ some k_ ≠ (.slice (some ad162) t154.length co16 : Value).ownBlock ∧ some k_ ≠ (.slice (some ad160) t151.length co10 : Value).ownBlock ∧ some k_ ≠ (.slice (some ad162) t154.length co16 : Value).ownBlock ∧ k_ ≠ gb161 ∧ k_ ≠ gb163) u7 x7_2) := ⟨h5_⟩
                    have n6_ : Aside0 (w33.heap[gb161]? = some (.cells #[.int .u64 ((rd_T39 t151 x27_1).f0), .slice A160_1 ((rd_T39 t151 x27_1).f1).length c160_1] 39 (0, 0))) := ⟨h6_⟩
                    have n7_ : Aside0 (w33.heap[gb163]? = some (.cells #[.int .u64 ((rd_T39 t154 x33_2).f0), .slice A162_1 ((rd_T39 t154 x33_2).f1).length c162_1] 39 (0, 0))) := ⟨h7_⟩
                    have n8_ : Aside0 (Below w.heap.size w w33) := ⟨h8_⟩
                    clear HO_1
                    clear HO_7
                    clear HO_25
                    clear HO_31
                    clear HL162_1
                    clear BK161
                    clear BK163
                    clear HB
                    clear h0_ h1_ h2_ h3_ h4_ h5_ h6_ h7_ h8_
                    have HL162_1 := n0_
                    have HO167 := n1_
                    have HO_1 := n2_
                    have HO_25 := n3_
                    have HO_31 := n4_
                    have HO_7 := n5_
                    have BK161 := n6_
                    have BK163 := n7_
                    have HB := n8_
                    clear n0_ n1_ n2_ n3_ n4_ n5_ n6_ n7_ n8_
                    have hHeld : w33.cell? ⟨gb161, 0, none⟩ = some (.int .u64 ((rd_T39 t151 x27_1).f0)) ∧ w33.cell? ⟨gb161, 1, none⟩ = some (.slice A160_1 ((rd_T39 t151 x27_1).f1).length c160_1) ∧ w33.cell? ⟨gb163, 0, none⟩ = some (.int .u64 ((rd_T39 t154 x33_2).f0)) ∧ w33.cell? ⟨gb163, 1, none⟩ = some (.slice A162_1 ((rd_T39 t154 x33_2).f1).length c162_1) := hS_
                    obtain ⟨Ao34, co34, eo34⟩ := Kd.R_slice HO167.out
                    (subst eo34)
                    refine norm_ (a' := ?_) ?_ ?_
                    rotate_left
                    · simp only [putAll, Act.put, sa, sb, sc]
                      rfl
                    refine one_ (i := 14) (N := some 12) #[true, true, true, true, true, true, true, true, true, true, true, true, true, true, true, false] rfl rfl (one_of HT_.out (by kernel_rfl)) (by decide) (fun K hK => ?_)
                    refine box_step ?hg (N := 12) ?hd (cs := #[.int .u64 0, .slice none 0 0]) (t := 39) ?hr ?_; (case hd => rfl); (case hg => rfl); (case hr => (go_simp; done))
                    intro gb168 hg w35 hbox hb
                    have n0_ := am (Kd.N_below (Kd.N_elderB HO_1.out gb168 (Nat.le_of_eq hg.symm)) hb)
                    have n1_ := am (Kd.N_below (Kd.N_elderB HO_7.out gb168 (Nat.le_of_eq hg.symm)) hb)
                    have n2_ := am (N2_below (N2_elderB (by (with_reducible repeat (first | apply N2_alloc | apply N2_drewN | apply N2_drew)); exact HO_25.out) gb168 (Nat.le_of_eq hg.symm)) hb)
                    have n3_ := am (Kd.N_below (Kd.N_elderB HO_31.out gb168 (Nat.le_of_eq hg.symm)) hb)
                    have n4_ := am (Kd.V_below (Kd.V_elderB HL162_1.out gb168 (Nat.le_of_eq hg.symm)) hb)
                    have n5_ := am (Kd.R_below HO167.out hb)
                    have n6_ := am (blk_below (g := gb161) (o := .cells #[.int .u64 ((rd_T39 t151 x27_1).f0), .slice A160_1 ((rd_T39 t151 x27_1).f1).length c160_1] 39 (0, 0)) (by (with_reducible repeat (first | refine blk_drewN ?_ _ | refine blk_drew ?_ | refine blk_alloc ?_ _)); exact BK161.out) hb)
                    have n7_ := am (blk_below (g := gb163) (o := .cells #[.int .u64 ((rd_T39 t154 x33_2).f0), .slice A162_1 ((rd_T39 t154 x33_2).f1).length c162_1] 39 (0, 0)) (by (with_reducible repeat (first | refine blk_drewN ?_ _ | refine blk_drew ?_ | refine blk_alloc ?_ _)); exact BK163.out) hb)
                    have n8_ := am (below_step HB.out hb)
                    have n9_ := am (hbox)
                    have n10_ := am ((by rw [hg]; exact (below_size HB.out) : w.heap.size ≤ gb168))
                    have n11_ := am ((by rw [hg]; exact (below_size HB.out) : w.heap.size ≤ gb168))
                    have n12_ := am ((by rw [hg]; exact Nat.ne_of_lt (blk_lt (g := gb161) (o := .cells #[.int .u64 ((rd_T39 t151 x27_1).f0), .slice A160_1 ((rd_T39 t151 x27_1).f1).length c160_1] 39 (0, 0)) (by (with_reducible repeat (first | refine blk_drewN ?_ _ | refine blk_drew ?_ | refine blk_alloc ?_ _)); exact BK161.out)) : gb161 ≠ gb168))
                    have n13_ := am ((by rw [hg]; exact Nat.ne_of_gt (blk_lt (g := gb161) (o := .cells #[.int .u64 ((rd_T39 t151 x27_1).f0), .slice A160_1 ((rd_T39 t151 x27_1).f1).length c160_1] 39 (0, 0)) (by (with_reducible repeat (first | refine blk_drewN ?_ _ | refine blk_drew ?_ | refine blk_alloc ?_ _)); exact BK161.out)) : gb168 ≠ gb161))
                    have n14_ := am ((by rw [hg]; exact Nat.ne_of_lt (blk_lt (g := gb163) (o := .cells #[.int .u64 ((rd_T39 t154 x33_2).f0), .slice A162_1 ((rd_T39 t154 x33_2).f1).length c162_1] 39 (0, 0)) (by (with_reducible repeat (first | refine blk_drewN ?_ _ | refine blk_drew ?_ | refine blk_alloc ?_ _)); exact BK163.out)) : gb163 ≠ gb168))
                    have n15_ := am ((by rw [hg]; exact Nat.ne_of_gt (blk_lt (g := gb163) (o := .cells #[.int .u64 ((rd_T39 t154 x33_2).f0), .slice A162_1 ((rd_T39 t154 x33_2).f1).length c162_1] 39 (0, 0)) (by (with_reducible repeat (first | refine blk_drewN ?_ _ | refine blk_drew ?_ | refine blk_alloc ?_ _)); exact BK163.out)) : gb168 ≠ gb163))
                    clear HO_1
                    clear HO_7
                    clear HO_25
                    clear HO_31
                    clear HL162_1
                    clear HO167
                    clear BK161
                    clear BK163
                    clear HB
                    have HO_1 := n0_
                    have HO_7 := n1_
                    have HO_25 := n2_
                    have HO_31 := n3_
                    have HL162_1 := n4_
                    have HO167 := n5_
                    have BK161 := n6_
                    have BK163 := n7_
                    have HB := n8_
                    have BK168 := n9_
                    have GW168 := n10_
                    have GE168 := n11_
                    have NB161_168 := n12_
                    have NB168_161 := n13_
                    have NB163_168 := n14_
                    have NB168_163 := n15_
                    clear n0_ n1_ n2_ n3_ n4_ n5_ n6_ n7_ n8_ n9_ n10_ n11_ n12_ n13_ n14_ n15_
                    clear hb hbox hg
                    refine hK.out _ _ ⟨(blk_cell BK161.out 0).trans rfl, (blk_cell BK161.out 1).trans rfl, (blk_cell BK163.out 0).trans rfl, (blk_cell BK163.out 1).trans rfl⟩ (fun hHeld => ?_)
                    clear hK K
                    refine norm_ (a' := ?_) ?_ ?_
                    rotate_left
                    · show Act.put _ (some 12) _ = _
                      simp only [Act.put, sa, sb, sc, i64_w, i32_w]
                      rfl
                    exact norm_ (by (simp only [putAll, Act.put, sa, sb, sc]; done)) (hJ4_12_14 (.slice Ao34 y165.length co34, gb168) _ ⟨hHeld, (by exact Kd.V_mono HL162_1.out (fun _ hk => ⟨hk.1.1, ⟨hk.1.2.1, ⟨hk.1.2.2.1, ⟨hk.1.2.2.2.1, ⟨hk.1.2.2.2.2.1, ⟨hk.1.2.2.2.2.2.1, ⟨hk.1.2.2.2.2.2.2, hk.2⟩⟩⟩⟩⟩⟩⟩)), HO167.out, (by exact Kd.N_mono HO_1.out (fun _ hk => ⟨hk.1.1, ⟨hk.1.2.1, ⟨hk.1.2.2.1, ⟨hk.1.2.2.2.1, ⟨hk.1.2.2.2.2.1, ⟨hk.1.2.2.2.2.2, hk.2⟩⟩⟩⟩⟩⟩)), (by (with_reducible repeat (first | apply N2_alloc | apply N2_drewN | apply N2_drew)); exact N2_mono HO_25.out (fun _ hk => ⟨hk.1.1, ⟨hk.1.2.1, ⟨hk.1.2.2.1, ⟨hk.1.2.2.2.1, ⟨hk.1.2.2.2.2.1, ⟨hk.1.2.2.2.2.2.1, ⟨hk.1.2.2.2.2.2.2, hk.2⟩⟩⟩⟩⟩⟩⟩)), (by exact Kd.N_mono HO_31.out (fun _ hk => ⟨hk.1.1, ⟨hk.1.2.1, ⟨hk.1.2.2.1, ⟨hk.1.2.2.2.1, ⟨hk.1.2.2.2.2.1, ⟨hk.1.2.2.2.2.2, hk.2⟩⟩⟩⟩⟩⟩)), (by exact Kd.N_mono HO_7.out (fun _ hk => ⟨hk.1.1, ⟨hk.1.2.1, ⟨hk.1.2.2.1, ⟨hk.1.2.2.2.1, ⟨hk.1.2.2.2.2.1, ⟨hk.1.2.2.2.2.2.1, ⟨hk.1.2.2.2.2.2.2, hk.2⟩⟩⟩⟩⟩⟩⟩)), (by (with_reducible repeat (first | refine blk_drewN ?_ _ | refine blk_drew ?_ | refine blk_alloc ?_ _)); exact BK161.out), (by (with_reducible repeat (first | refine blk_drewN ?_ _ | refine blk_drew ?_ | refine blk_alloc ?_ _)); exact BK163.out), (by (with_reducible repeat (first | refine blk_drewN ?_ _ | refine blk_drew ?_ | refine blk_alloc ?_ _)); exact BK168.out), GW168.out, GE168.out, NB161_168.out, NB168_161.out, NB163_168.out, NB168_163.out, HB.out⟩)
                rintro ⟨v166, gb168⟩ w34 ⟨hS_, h0_, h1_, h2_, h3_, h4_, h5_, h6_, h7_, h8_, h9_, h10_, h11_, h12_, h13_, h14_, h15_⟩
                have n0_ : Aside0 (Kd.V (Kd.int .i64) 3 w34 w.heap.size (fun k_ => (w.heap.size ≤ k_) ∧ some k_ ≠ (v166 : Value).ownBlock ∧ some k_ ≠ (.slice (some ad160) t151.length co10 : Value).ownBlock ∧ some k_ ≠ (.slice (some ad162) t154.length co16 : Value).ownBlock ∧ some k_ ≠ (u7 : Value).ownBlock ∧ k_ ≠ gb161 ∧ k_ ≠ gb163 ∧ k_ ≠ gb168) (.slice A162_1 ((rd_T39 t154 x33_2).f1).length c162_1) ((rd_T39 t154 x33_2).f1)) := ⟨h0_⟩
                have n1_ : Aside0 (Kd.R (Kd.int .i64) 3 w34 w.heap.size (fun k_ => (w.heap.size ≤ k_)) v166 y165) := ⟨h1_⟩
                have n2_ : Aside0 (Kd.N k39 39 w34 w.heap.size (fun k_ => (w.heap.size ≤ k_) ∧ some k_ ≠ (v166 : Value).ownBlock ∧ some k_ ≠ (.slice (some ad160) t151.length co10 : Value).ownBlock ∧ some k_ ≠ (u7 : Value).ownBlock ∧ k_ ≠ gb161 ∧ k_ ≠ gb163 ∧ k_ ≠ gb168) (.slice (some ad162) t154.length co16) t154) := ⟨h2_⟩
                have n3_ : Aside0 (N2 k39 39 w34 w.heap.size (fun k_ => (w.heap.size ≤ k_) ∧ some k_ ≠ (v166 : Value).ownBlock ∧ some k_ ≠ (.slice (some ad162) t154.length co16 : Value).ownBlock ∧ some k_ ≠ (.slice (some ad162) t154.length co16 : Value).ownBlock ∧ some k_ ≠ (u7 : Value).ownBlock ∧ k_ ≠ gb161 ∧ k_ ≠ gb163 ∧ k_ ≠ gb168) (.slice (some ad160) t151.length co10) t151 (Kd.int .i64) 3 (.slice A160_1 ((rd_T39 t151 x27_1).f1).length c160_1) ((rd_T39 t151 x27_1).f1)) := ⟨h3_⟩
                have n4_ : Aside0 (Kd.N k39 39 w34 w.heap.size (fun k_ => (w.heap.size ≤ k_) ∧ some k_ ≠ (v166 : Value).ownBlock ∧ some k_ ≠ (.slice (some ad160) t151.length co10 : Value).ownBlock ∧ some k_ ≠ (u7 : Value).ownBlock ∧ k_ ≠ gb161 ∧ k_ ≠ gb163 ∧ k_ ≠ gb168) (.slice (some ad162) t154.length co16) t154) := ⟨h4_⟩
                have n5_ : Aside0 (Kd.N k39 39 w34 w.heap.size (fun k_ => (w.heap.size ≤ k_) ∧ some k_ ≠ (v166 : Value).ownBlock ∧ some k_ ≠ (.slice (some ad162) t154.length co16 : Value).ownBlock ∧ some k_ ≠ (.slice (some ad160) t151.length co10 : Value).ownBlock ∧ some k_ ≠ (.slice (some ad162) t154.length co16 : Value).ownBlock ∧ k_ ≠ gb161 ∧ k_ ≠ gb163 ∧ k_ ≠ gb168) u7 x7_2) := ⟨h5_⟩
                have n6_ : Aside0 (w34.heap[gb161]? = some (.cells #[.int .u64 ((rd_T39 t151 x27_1).f0), .slice A160_1 ((rd_T39 t151 x27_1).f1).length c160_1] 39 (0, 0))) := ⟨h6_⟩
                have n7_ : Aside0 (w34.heap[gb163]? = some (.cells #[.int .u64 ((rd_T39 t154 x33_2).f0), .slice A162_1 ((rd_T39 t154 x33_2).f1).length c162_1] 39 (0, 0))) := ⟨h7_⟩
                have n8_ : Aside0 (w34.heap[gb168]? = some (.cells #[.int .u64 0, .slice none 0 0] 39 (0, 0))) := ⟨h8_⟩
                have n9_ : Aside0 (w.heap.size ≤ gb168) := ⟨h9_⟩
                have n10_ : Aside0 (w.heap.size ≤ gb168) := ⟨h10_⟩
                have n11_ : Aside0 (gb161 ≠ gb168) := ⟨h11_⟩
                have n12_ : Aside0 (gb168 ≠ gb161) := ⟨h12_⟩
                have n13_ : Aside0 (gb163 ≠ gb168) := ⟨h13_⟩
                have n14_ : Aside0 (gb168 ≠ gb163) := ⟨h14_⟩
                have n15_ : Aside0 (Below w.heap.size w w34) := ⟨h15_⟩
                clear HO_1
                clear HO_7
                clear HO_25
                clear HO_31
                clear HL162_1
                clear BK161
                clear BK163
                clear HB
                clear h0_ h1_ h2_ h3_ h4_ h5_ h6_ h7_ h8_ h9_ h10_ h11_ h12_ h13_ h14_ h15_
                have HL162_1 := n0_
                have HO167 := n1_
                have HO_1 := n2_
                have HO_25 := n3_
                have HO_31 := n4_
                have HO_7 := n5_
                have BK161 := n6_
                have BK163 := n7_
                have BK168 := n8_
                have GW168 := n9_
                have GE168 := n10_
                have NB161_168 := n11_
                have NB168_161 := n12_
                have NB163_168 := n13_
                have NB168_163 := n14_
                have HB := n15_
                clear n0_ n1_ n2_ n3_ n4_ n5_ n6_ n7_ n8_ n9_ n10_ n11_ n12_ n13_ n14_ n15_
                have hHeld : w34.cell? ⟨gb161, 0, none⟩ = some (.int .u64 ((rd_T39 t151 x27_1).f0)) ∧ w34.cell? ⟨gb161, 1, none⟩ = some (.slice A160_1 ((rd_T39 t151 x27_1).f1).length c160_1) ∧ w34.cell? ⟨gb163, 0, none⟩ = some (.int .u64 ((rd_T39 t154 x33_2).f0)) ∧ w34.cell? ⟨gb163, 1, none⟩ = some (.slice A162_1 ((rd_T39 t154 x33_2).f1).length c162_1) := hS_
                obtain ⟨Ao35, co35, eo35⟩ := Kd.R_slice HO167.out
                (subst eo35)
                refine norm_ (a' := ?_) ?_ ?_
                rotate_left
                · simp only [putAll, Act.put, sa, sb, sc]
                  rfl
                refine one_ (i := 15) (N := none) #[true, true, true, true, true, true, true, true, true, true, true, true, true, true, true, true] rfl rfl (one_of HT_.out (by kernel_rfl)) (by decide) (fun K hK => ?_)
                have hs36 : w34.cell? ⟨gb168, 0, none⟩ = some (.int .u64 0) := (blk_cell BK168.out 0).trans rfl
                have hfs36 := blk_frozen BK168.out 0
                have hns36_0 := NB161_168.out
                have hns36_1 := NB163_168.out
                have hms36_0 := NB168_161.out
                have hms36_1 := NB168_163.out
                have hs37 : w34.cell? ⟨gb168, 1, none⟩ = some (.slice none 0 0) := (blk_cell BK168.out 1).trans rfl
                have hfs37 := blk_frozen BK168.out 1
                have hns37_0 := NB161_168.out
                have hns37_1 := NB163_168.out
                have hms37_0 := NB168_161.out
                have hms37_1 := NB168_163.out
                refine skip_ (w1 := ?_) (by rfl) rfl ?_ ?_
                rotate_left
                · go_simp
                  rfl
                refine hK.out _ _ ⟨((cell_far (p := ⟨gb168, _, none⟩) NB161_168.out _).trans (((cell_far (p := ⟨gb168, _, none⟩) NB161_168.out _).trans (hHeld.1)))), ((cell_far (p := ⟨gb168, _, none⟩) NB161_168.out _).trans (((cell_far (p := ⟨gb168, _, none⟩) NB161_168.out _).trans (hHeld.2.1)))), ((cell_far (p := ⟨gb168, _, none⟩) NB163_168.out _).trans (((cell_far (p := ⟨gb168, _, none⟩) NB163_168.out _).trans (hHeld.2.2.1)))), ((cell_far (p := ⟨gb168, _, none⟩) NB163_168.out _).trans (((cell_far (p := ⟨gb168, _, none⟩) NB163_168.out _).trans (hHeld.2.2.2))))⟩ (fun hHeld => ?_)
                clear hK K
                refine done_ (done_of HT_.out (by kernel_rfl)) ?_
                have hnb38 := eq_false NB168_161.out
                have hnc38 := eq_false NB161_168.out
                have hnb39 := eq_false NB168_163.out
                have hnc39 := eq_false NB163_168.out
                have hcz40_0 : w34.cell? ⟨gb168, 0, none⟩ = some (.int .u64 0) := (blk_cell BK168.out 0).trans rfl
                have hcz40_1 : w34.cell? ⟨gb168, 1, none⟩ = some (.slice none 0 0) := (blk_cell BK168.out 1).trans rfl
                have hfz40_0 := blk_frozen BK168.out 0
                have hfz40_1 := blk_frozen BK168.out 1
                have hcz41_0 : w34.cell? ⟨gb161, 0, none⟩ = some (.int .u64 ((rd_T39 t151 x27_1).f0)) := (blk_cell BK161.out 0).trans rfl
                have hcz41_1 : w34.cell? ⟨gb161, 1, none⟩ = some (.slice A160_1 ((rd_T39 t151 x27_1).f1).length c160_1) := (blk_cell BK161.out 1).trans rfl
                have hfz41_0 := blk_frozen BK161.out 0
                have hfz41_1 := blk_frozen BK161.out 1
                go_wp2_with ((with_reducible refine gate_builtin (b := .copy) (xs := #[.tmp 52, .tmp 54]) rfl ?_); refine copy64 (w0 := w) w.heap.size rfl (.tmp 52) (.tmp 54) rfl (.slice Ao35 y165.length co35) y165 ((rd_T39 t151 x27_1).f1) _ _ _ (fun k_ => w.heap.size ≤ k_) rfl rfl ?cO ?cR ?cB ?cS ?_; (case cO => exact (by exact (Kd.R_mono (Kd.R_far (p := ⟨gb168, 1, none⟩) (Kd.R_far (p := ⟨gb168, 0, none⟩) (Kd.R_types HO167.out BK168.out (by decide)) (fun _ hk => hk.2) (.int .u64 t164)) (fun _ hk => hk.2) (.slice Ao35 y165.length co35)) (fun _ h_ => h_.1)))); (case cR => exact N2_C (by (with_reducible repeat (first | apply N2_alloc | apply N2_drewN | apply N2_drew)); exact (N2_mono (N2_far (p := ⟨gb168, 1, none⟩) (N2_far (p := ⟨gb168, 0, none⟩) (N2_mono HO_25.out (fun k_ hk => (⟨hk, hk.2.2.2.2.2.2.2⟩ : _ ∧ k_ ≠ gb168))) (fun _ hk => hk.2) (.int .u64 t164)) (fun _ hk => hk.2) (.slice Ao35 y165.length co35)) (fun _ h_ => h_.1)))); (case cB => exact (by repeat ((with_reducible first | exact HB.out | refine below_set ?_ GE168.out)))); (case cS => exact below_size (by repeat ((with_reducible first | exact HB.out | refine below_set ?_ GE168.out)))); intro w42 hoC hbC hgC; have n0_ := am (Kd.N_grown (by exact (Kd.N_mono (Kd.N_far (p := ⟨gb168, 1, none⟩) (Kd.N_far (p := ⟨gb168, 0, none⟩) (Kd.N_mono HO_1.out (fun k_ hk => (⟨hk, hk.2.2.2.2.2.2⟩ : _ ∧ k_ ≠ gb168))) (fun _ hk => hk.2) (.int .u64 t164)) (fun _ hk => hk.2) (.slice Ao35 y165.length co35)) (fun _ h_ => h_.1))) hgC (fun k_ hk_ => by exact hk_.2.1)); have n1_ := am (Kd.N_grown (by exact (Kd.N_mono (Kd.N_far (p := ⟨gb168, 1, none⟩) (Kd.N_far (p := ⟨gb168, 0, none⟩) (Kd.N_mono HO_7.out (fun k_ hk => (⟨hk, hk.2.2.2.2.2.2.2⟩ : _ ∧ k_ ≠ gb168))) (fun _ hk => hk.2) (.int .u64 t164)) (fun _ hk => hk.2) (.slice Ao35 y165.length co35)) (fun _ h_ => h_.1))) hgC (fun k_ hk_ => by exact hk_.2.1)); have n2_ := am (N2_grown (by (with_reducible repeat (first | apply N2_alloc | apply N2_drewN | apply N2_drew)); exact (N2_mono (N2_far (p := ⟨gb168, 1, none⟩) (N2_far (p := ⟨gb168, 0, none⟩) (N2_mono HO_25.out (fun k_ hk => (⟨hk, hk.2.2.2.2.2.2.2⟩ : _ ∧ k_ ≠ gb168))) (fun _ hk => hk.2) (.int .u64 t164)) (fun _ hk => hk.2) (.slice Ao35 y165.length co35)) (fun _ h_ => h_.1))) hgC (fun k_ hk_ => by exact hk_.2.1)); have n3_ := am (Kd.N_grown (by exact (Kd.N_mono (Kd.N_far (p := ⟨gb168, 1, none⟩) (Kd.N_far (p := ⟨gb168, 0, none⟩) (Kd.N_mono HO_31.out (fun k_ hk => (⟨hk, hk.2.2.2.2.2.2⟩ : _ ∧ k_ ≠ gb168))) (fun _ hk => hk.2) (.int .u64 t164)) (fun _ hk => hk.2) (.slice Ao35 y165.length co35)) (fun _ h_ => h_.1))) hgC (fun k_ hk_ => by exact hk_.2.1)); have n4_ := am (Kd.V_grown (by exact (Kd.V_mono (Kd.V_far (p := ⟨gb168, 1, none⟩) (Kd.V_far (p := ⟨gb168, 0, none⟩) (Kd.V_mono HL162_1.out (fun k_ hk => (⟨hk, hk.2.2.2.2.2.2.2⟩ : _ ∧ k_ ≠ gb168))) (fun _ hk => hk.2) (.int .u64 t164)) (fun _ hk => hk.2) (.slice Ao35 y165.length co35)) (fun _ h_ => h_.1))) hgC (fun k_ hk_ => by exact hk_.2.1)); have n5_ := am hoC; have n6_ := am (blk_grownR (g := gb161) (cells := #[.int .u64 ((rd_T39 t151 x27_1).f0), .slice A160_1 ((rd_T39 t151 x27_1).f1).length c160_1]) (t := 39) (by (with_reducible repeat (first | refine blk_drewN ?_ _ | refine blk_drew ?_ | refine blk_alloc ?_ _)); refine blk_far ?_ NB161_168.out _; (with_reducible repeat (first | refine blk_drewN ?_ _ | refine blk_drew ?_ | refine blk_alloc ?_ _)); refine blk_far ?_ NB161_168.out _; (with_reducible repeat (first | refine blk_drewN ?_ _ | refine blk_drew ?_ | refine blk_alloc ?_ _)); exact BK161.out) hgC (by exact (Kd.R_mono (Kd.R_far (p := ⟨gb168, 1, none⟩) (Kd.R_far (p := ⟨gb168, 0, none⟩) (Kd.R_types HO167.out BK168.out (by decide)) (fun _ hk => hk.2) (.int .u64 t164)) (fun _ hk => hk.2) (.slice Ao35 y165.length co35)) (fun _ h_ => h_.1))) (by decide)); have n7_ := am (blk_grownR (g := gb163) (cells := #[.int .u64 ((rd_T39 t154 x33_2).f0), .slice A162_1 ((rd_T39 t154 x33_2).f1).length c162_1]) (t := 39) (by (with_reducible repeat (first | refine blk_drewN ?_ _ | refine blk_drew ?_ | refine blk_alloc ?_ _)); refine blk_far ?_ NB163_168.out _; (with_reducible repeat (first | refine blk_drewN ?_ _ | refine blk_drew ?_ | refine blk_alloc ?_ _)); refine blk_far ?_ NB163_168.out _; (with_reducible repeat (first | refine blk_drewN ?_ _ | refine blk_drew ?_ | refine blk_alloc ?_ _)); exact BK163.out) hgC (by exact (Kd.R_mono (Kd.R_far (p := ⟨gb168, 1, none⟩) (Kd.R_far (p := ⟨gb168, 0, none⟩) (Kd.R_types HO167.out BK168.out (by decide)) (fun _ hk => hk.2) (.int .u64 t164)) (fun _ hk => hk.2) (.slice Ao35 y165.length co35)) (fun _ h_ => h_.1))) (by decide)); have n8_ := am (blk_grownR (g := gb168) (cells := #[.int .u64 t164, .slice Ao35 y165.length co35]) (t := 39) (by (with_reducible repeat (first | refine blk_drewN ?_ _ | refine blk_drew ?_ | refine blk_alloc ?_ _)); refine blk_put (cs := #[.int .u64 t164, .slice none 0 0]) ?_ 1 _ rfl; (with_reducible repeat (first | refine blk_drewN ?_ _ | refine blk_drew ?_ | refine blk_alloc ?_ _)); refine blk_put (cs := #[.int .u64 0, .slice none 0 0]) ?_ 0 _ rfl; (with_reducible repeat (first | refine blk_drewN ?_ _ | refine blk_drew ?_ | refine blk_alloc ?_ _)); exact BK168.out) hgC (by exact (Kd.R_mono (Kd.R_far (p := ⟨gb168, 1, none⟩) (Kd.R_far (p := ⟨gb168, 0, none⟩) (Kd.R_types HO167.out BK168.out (by decide)) (fun _ hk => hk.2) (.int .u64 t164)) (fun _ hk => hk.2) (.slice Ao35 y165.length co35)) (fun _ h_ => h_.1))) (by decide)); have n9_ := am hbC; clear HO_1; clear HO_7; clear HO_25; clear HO_31; clear HL162_1; clear HO167; clear BK161; clear BK163; clear BK168; clear HB; have HO_1 := n0_; have HO_7 := n1_; have HO_25 := n2_; have HO_31 := n3_; have HL162_1 := n4_; have HO167 := n5_; have BK161 := n6_; have BK163 := n7_; have BK168 := n8_; have HB := n9_; clear n0_ n1_ n2_ n3_ n4_ n5_ n6_ n7_ n8_ n9_; have hcz43_0 : w42.cell? ⟨gb163, 0, none⟩ = some (.int .u64 ((rd_T39 t154 x33_2).f0)) := (blk_cell BK163.out 0).trans rfl; have hcz43_1 : w42.cell? ⟨gb163, 1, none⟩ = some (.slice A162_1 ((rd_T39 t154 x33_2).f1).length c162_1) := (blk_cell BK163.out 1).trans rfl; have hfz43_0 := blk_frozen BK163.out 0; have hfz43_1 := blk_frozen BK163.out 1)
                go_loopg [59] k2 (fun kq v59 w' => ∃ (x59_3 : Int) (x169001_3 : List Int) (u169001 : Value), v59 = .int .i64 x59_3 ∧ Aside0 (cost_Times.l2 kq t154 x7_2 t151 (t151.length : Int) x27_1 t154 (t154.length : Int) x33_2 ((rd_T39 t154 x33_2).f1) (((rd_T39 t154 x33_2).f1).length : Int) x59_3 ((rd_T39 t151 x27_1).f0) ((rd_T39 t151 x27_1).f1) t164 x169001_3 = some (r1, r2)) ∧ Aside0 (kq ≤ k2) ∧ Aside0 (Kd.N k39 39 w' w.heap.size (fun k_ => (w.heap.size ≤ k_) ∧ some k_ ≠ (u7 : Value).ownBlock ∧ some k_ ≠ ((.slice (some ad160) t151.length co10) : Value).ownBlock ∧ some k_ ≠ (u169001 : Value).ownBlock ∧ k_ ≠ gb161 ∧ k_ ≠ gb163 ∧ k_ ≠ gb168) (.slice (some ad162) t154.length co16) t154) ∧ Aside0 (Kd.N k39 39 w' w.heap.size (fun k_ => (w.heap.size ≤ k_) ∧ some k_ ≠ ((.slice (some ad162) t154.length co16) : Value).ownBlock ∧ some k_ ≠ ((.slice (some ad160) t151.length co10) : Value).ownBlock ∧ some k_ ≠ ((.slice (some ad162) t154.length co16) : Value).ownBlock ∧ some k_ ≠ (u169001 : Value).ownBlock ∧ k_ ≠ gb161 ∧ k_ ≠ gb163 ∧ k_ ≠ gb168) u7 x7_2) ∧ Aside0 (N2 k39 39 w' w.heap.size (fun k_ => (w.heap.size ≤ k_) ∧ some k_ ≠ ((.slice (some ad162) t154.length co16) : Value).ownBlock ∧ some k_ ≠ (u7 : Value).ownBlock ∧ some k_ ≠ ((.slice (some ad162) t154.length co16) : Value).ownBlock ∧ some k_ ≠ (u169001 : Value).ownBlock ∧ k_ ≠ gb161 ∧ k_ ≠ gb163 ∧ k_ ≠ gb168) (.slice (some ad160) t151.length co10) t151 (Kd.int .i64) 3 (.slice A160_1 ((rd_T39 t151 x27_1).f1).length c160_1) ((rd_T39 t151 x27_1).f1)) ∧ Aside0 (N2 k39 39 w' w.heap.size (fun k_ => (w.heap.size ≤ k_) ∧ some k_ ≠ (u7 : Value).ownBlock ∧ some k_ ≠ ((.slice (some ad160) t151.length co10) : Value).ownBlock ∧ some k_ ≠ (u169001 : Value).ownBlock ∧ k_ ≠ gb161 ∧ k_ ≠ gb163 ∧ k_ ≠ gb168) (.slice (some ad162) t154.length co16) t154 (Kd.int .i64) 3 (.slice A162_1 ((rd_T39 t154 x33_2).f1).length c162_1) ((rd_T39 t154 x33_2).f1)) ∧ Aside0 (Kd.R (Kd.int .i64) 3 w' w.heap.size (fun k_ => (w.heap.size ≤ k_)) u169001 x169001_3) ∧ Aside0 (w'.heap[gb161]? = some (.cells #[.int .u64 ((rd_T39 t151 x27_1).f0), (.slice A160_1 ((rd_T39 t151 x27_1).f1).length c160_1)] 39 (0, 0))) ∧ Aside0 (w'.heap[gb163]? = some (.cells #[.int .u64 ((rd_T39 t154 x33_2).f0), (.slice A162_1 ((rd_T39 t154 x33_2).f1).length c162_1)] 39 (0, 0))) ∧ Aside0 (w'.heap[gb168]? = some (.cells #[.int .u64 t164, u169001] 39 (0, 0))) ∧ Aside0 (Below w.heap.size w w'))
                case atStart => exact ⟨(0), (cpy y165 ((rd_T39 t151 x27_1).f1)), (.slice Ao35 y165.length co35), (by rfl), H', ⟨Nat.le_refl _⟩, ⟨by exact Kd.N_mono HO_1.out (fun _ hk => ⟨hk.1, ⟨hk.2.2.2.1, ⟨hk.2.2.1, ⟨hk.2.1, ⟨hk.2.2.2.2.1, ⟨hk.2.2.2.2.2.1, hk.2.2.2.2.2.2⟩⟩⟩⟩⟩⟩)⟩, ⟨by exact Kd.N_mono HO_7.out (fun _ hk => ⟨hk.1, ⟨hk.2.2.1, ⟨hk.2.2.2.1, ⟨hk.2.2.2.2.1, ⟨hk.2.1, ⟨hk.2.2.2.2.2.1, ⟨hk.2.2.2.2.2.2.1, hk.2.2.2.2.2.2.2⟩⟩⟩⟩⟩⟩⟩)⟩, ⟨by (with_reducible repeat (first | apply N2_alloc | apply N2_drewN | apply N2_drew)); exact N2_mono HO_25.out (fun _ hk => ⟨hk.1, ⟨hk.2.2.1, ⟨hk.2.2.2.2.1, ⟨hk.2.2.2.1, ⟨hk.2.1, ⟨hk.2.2.2.2.2.1, ⟨hk.2.2.2.2.2.2.1, hk.2.2.2.2.2.2.2⟩⟩⟩⟩⟩⟩⟩)⟩, ⟨⟨by exact Kd.N_mono HO_31.out (fun _ hk => ⟨hk.1, ⟨hk.2.2.2.1, ⟨hk.2.2.1, ⟨hk.2.1, ⟨hk.2.2.2.2.1, ⟨hk.2.2.2.2.2.1, hk.2.2.2.2.2.2⟩⟩⟩⟩⟩⟩), Kd.V_mono HL162_1.out (fun _ hk => by refine ⟨?_, ?_, ?_, ?_, ?_, ?_, ?_⟩ <;> first | exact hk.1 | exact hk.2.1 | exact hk.2.2.1 | exact hk.2.2.2.2.1 | exact hk.2.2.2.2.2.1 | exact hk.2.2.2.2.2.2.1 | exact hk.2.2.2.2.2.2.2)⟩⟩, ⟨by exact HO167.out⟩, ⟨by (with_reducible repeat (first | refine blk_drewN ?_ _ | refine blk_drew ?_ | refine blk_alloc ?_ _)); exact BK161.out⟩, ⟨by (with_reducible repeat (first | refine blk_drewN ?_ _ | refine blk_drew ?_ | refine blk_alloc ?_ _)); exact BK163.out⟩, ⟨by (with_reducible repeat (first | refine blk_drewN ?_ _ | refine blk_drew ?_ | refine blk_alloc ?_ _)); exact BK168.out⟩, ⟨by exact HB.out⟩⟩
                case round =>
                  clear H'
                  try clear hcz40_0
                  try clear hcz40_1
                  try clear hcz41_0
                  try clear hcz41_1
                  try clear hcz43_0
                  try clear hcz43_1
                  try clear hfz40_0
                  try clear hfz40_1
                  try clear hfz41_0
                  try clear hfz41_1
                  try clear hfz43_0
                  try clear hfz43_1
                  obtain ⟨x59_3, x169001_3, u169001, rfl, HA, HK3, HO_1, HO_7, HO_25, HO_31, HO_169001, BK161, BK163, BK168, HB⟩ := hrel
                  cases gk with
                  | zero => exact absurd HA.out (by simp [cost_Times.l2])
                  | succ k3 =>
                    have H := HA.out
                    clear HA
                    simp only [cost_Times.l2] at H
                    by_cases c44 : x59_3 < (((rd_T39 t154 x33_2).f1).length : Int)
                    · rw [if_pos c44] at H
                      have c44b0 : decide (x59_3 < (((rd_T39 t154 x33_2).f1).length : Int)) = true := decide_eq_true c44
                      clear c44
                      replace H := its H
                      obtain ⟨c45, H⟩ := H
                      have c45b0 : decide (0 ≤ x59_3) = true := decide_eq_true c45
                      clear c45
                      replace H := its H
                      obtain ⟨c46, H⟩ := H
                      have c46b0 : decide (x59_3 < (((rd_T39 t154 x33_2).f1).length : Int)) = true := decide_eq_true c46
                      clear c46
                      replace H := its H
                      obtain ⟨c47, H⟩ := H
                      have c47b0 : decide (x59_3 < (x169001_3.length : Int)) = true := decide_eq_true c47
                      clear c47
                      obtain ⟨y172, hy172⟩ : ∃ y_ : List Int, y_ = (x169001_3.set (x59_3 : Int).toNat (wrap64 ((rd x169001_3 x59_3) + (rd ((rd_T39 t154 x33_2).f1) x59_3)))) := ⟨_, rfl⟩
                      replace H : (cost_Times.l2 k3 t154 x7_2 t151 (t151.length : Int) x27_1 t154 (t154.length : Int) x33_2 ((rd_T39 t154 x33_2).f1) (((rd_T39 t154 x33_2).f1).length : Int) (wrap64 (x59_3 + 1)) ((rd_T39 t151 x27_1).f0) ((rd_T39 t151 x27_1).f1) t164 y172) = some (r1, r2) := by (rw [hy172]; with_reducible exact H)
                      have Ny172 := am hy172
                      clear hy172
                      have H' := am H
                      clear H
                      have p170 : 0 ≤ (x59_3 : Int) := of_decide_eq_true (by (with_reducible assumption))
                      have q170 : x59_3 < (((rd_T39 t154 x33_2).f1).length : Int) := of_decide_eq_true (by (with_reducible assumption))
                      obtain ⟨ad170, e170, hx170_0⟩ := Kd.at_int (N2_C HO_31.out) x59_3 p170 q170
                      cases e170
                      replace p170 := eq_true p170
                      replace q170 := eq_true q170
                      have hnb49 := eq_false NB168_161.out
                      have hnc49 := eq_false NB161_168.out
                      have hnb50 := eq_false NB168_163.out
                      have hnc50 := eq_false NB163_168.out
                      have hcz51_0 : wr.cell? ⟨gb168, 0, none⟩ = some (.int .u64 t164) := (blk_cell BK168.out 0).trans rfl
                      have hcz51_1 : wr.cell? ⟨gb168, 1, none⟩ = some (u169001) := (blk_cell BK168.out 1).trans rfl
                      have hfz51_0 := blk_frozen BK168.out 0
                      have hfz51_1 := blk_frozen BK168.out 1
                      obtain ⟨Ao52, co52, eo52⟩ := Kd.R_slice HO_169001.out
                      subst eo52
                      have p171 : 0 ≤ (x59_3 : Int) := of_decide_eq_true (by (with_reducible assumption))
                      have q171 : x59_3 < (x169001_3.length : Int) := of_decide_eq_true (by (with_reducible assumption))
                      obtain ⟨ad171, e171, hx171_0⟩ := Kd.at_int (Kd.R_reads' HO_169001.out).2.2 x59_3 p171 q171
                      cases e171
                      replace p171 := eq_true p171
                      replace q171 := eq_true q171
                      have p48 : 0 ≤ (x59_3 : Int) := of_decide_eq_true (by (with_reducible assumption))
                      have q48 : (x59_3 : Int) < ((x169001_3.length : Int) : Int) := of_decide_eq_true (by (with_reducible assumption))
                      obtain ⟨go48, co48, eo48, gb48, gl48, cl48, HG48⟩ := Kd.R_form HO_169001.out (by omega)
                      (cases eo48)
                      have GB48 := am gb48
                      have GG48 := am HG48
                      clear gb48 gl48 HG48
                      (simp only [add_plain] at hx171_0)
                      obtain ⟨hx48_0, hf48_0⟩ := Kd.R_celln 0 HO_169001.out (x59_3 : Int) p48 q48
                      replace p48 := eq_true p48
                      replace q48 := eq_true q48
                      have HP53 := Kd.R_putg HO_169001.out (x59_3 : Int) (wrap64 ((rd x169001_3 x59_3) + (rd ((rd_T39 t154 x33_2).f1) x59_3)))
                      go_wp2_with (((with_reducible refine gate_store (t := 3) (p := 71) rfl ?_); refine store_event (t := 3) (p := 71) (v := ?vo_w54) (w1 := (wr.setCell ⟨go48, (x59_3 : Int).toNat, none⟩ (.int .i64 (wrap64 ((rd x169001_3 x59_3) + (rd ((rd_T39 t154 x33_2).f1) x59_3)))))) ?hg ?ho ?hn ?hr ?_; (case ho => rfl); (case hg => rfl); (case hn => rfl); (case hr => (go_simp; done)); intro w54 hw; have hg : wr.grownBy w54 (some go48) := (by rw [hw]; exact HP53.2); have hp_ : Kd.R (Kd.int .i64) 3 w54 w.heap.size (fun k_ => (w.heap.size ≤ k_)) (.slice (some ⟨go48, 0, none⟩) x169001_3.length co52) y172 := (by rw [hw, Ny172.out]; exact HP53.1); clear HP53; replace HO_1 := am (Kd.N_afterv (v := (.slice (some ⟨go48, 0, none⟩) x169001_3.length co52)) (v1 := (.slice (some ⟨go48, 0, none⟩) x169001_3.length co52)) (ok := (fun k_ => (w.heap.size ≤ k_) ∧ some k_ ≠ (u7 : Value).ownBlock ∧ some k_ ≠ (.slice (some ad160) t151.length co10 : Value).ownBlock ∧ k_ ≠ gb161 ∧ k_ ≠ gb163 ∧ k_ ≠ gb168)) (by exact Kd.N_mono HO_1.out (fun _ hk => ⟨⟨hk.1, ⟨hk.2.1, ⟨hk.2.2.1, ⟨hk.2.2.2.2.1, ⟨hk.2.2.2.2.2.1, hk.2.2.2.2.2.2⟩⟩⟩⟩⟩, hk.2.2.2.1⟩)) hg (.inl rfl)); replace HO_7 := am (Kd.N_afterv (v := (.slice (some ⟨go48, 0, none⟩) x169001_3.length co52)) (v1 := (.slice (some ⟨go48, 0, none⟩) x169001_3.length co52)) (ok := (fun k_ => (w.heap.size ≤ k_) ∧ some k_ ≠ (.slice (some ad162) t154.length co16 : Value).ownBlock ∧ some k_ ≠ (.slice (some ad160) t151.length co10 : Value).ownBlock ∧ some k_ ≠ (.slice (some ad162) t154.length co16 : Value).ownBlock ∧ k_ ≠ gb161 ∧ k_ ≠ gb163 ∧ k_ ≠ gb168)) (by exact Kd.N_mono HO_7.out (fun _ hk => ⟨⟨hk.1, ⟨hk.2.1, ⟨hk.2.2.1, ⟨hk.2.2.2.1, ⟨hk.2.2.2.2.2.1, ⟨hk.2.2.2.2.2.2.1, hk.2.2.2.2.2.2.2⟩⟩⟩⟩⟩⟩, hk.2.2.2.2.1⟩)) hg (.inl rfl)); replace HO_25 := am (N2_afterv (v := (.slice (some ⟨go48, 0, none⟩) x169001_3.length co52)) (v1 := (.slice (some ⟨go48, 0, none⟩) x169001_3.length co52)) (ok := (fun k_ => (w.heap.size ≤ k_) ∧ some k_ ≠ (.slice (some ad162) t154.length co16 : Value).ownBlock ∧ some k_ ≠ (u7 : Value).ownBlock ∧ some k_ ≠ (.slice (some ad162) t154.length co16 : Value).ownBlock ∧ k_ ≠ gb161 ∧ k_ ≠ gb163 ∧ k_ ≠ gb168)) (by (with_reducible repeat (first | apply N2_alloc | apply N2_drewN | apply N2_drew)); exact N2_mono HO_25.out (fun _ hk => ⟨⟨hk.1, ⟨hk.2.1, ⟨hk.2.2.1, ⟨hk.2.2.2.1, ⟨hk.2.2.2.2.2.1, ⟨hk.2.2.2.2.2.2.1, hk.2.2.2.2.2.2.2⟩⟩⟩⟩⟩⟩, hk.2.2.2.2.1⟩)) hg (.inl rfl)); replace HO_31 := am (N2_afterv (v := (.slice (some ⟨go48, 0, none⟩) x169001_3.length co52)) (v1 := (.slice (some ⟨go48, 0, none⟩) x169001_3.length co52)) (ok := (fun k_ => (w.heap.size ≤ k_) ∧ some k_ ≠ (u7 : Value).ownBlock ∧ some k_ ≠ (.slice (some ad160) t151.length co10 : Value).ownBlock ∧ k_ ≠ gb161 ∧ k_ ≠ gb163 ∧ k_ ≠ gb168)) (by (with_reducible repeat (first | apply N2_alloc | apply N2_drewN | apply N2_drew)); exact N2_mono HO_31.out (fun _ hk => ⟨⟨hk.1, ⟨hk.2.1, ⟨hk.2.2.1, ⟨hk.2.2.2.2.1, ⟨hk.2.2.2.2.2.1, hk.2.2.2.2.2.2⟩⟩⟩⟩⟩, hk.2.2.2.1⟩)) hg (.inl rfl)); replace BK161 := am (blk_grown (g := gb161) (o := .cells #[.int .u64 ((rd_T39 t151 x27_1).f0), .slice A160_1 ((rd_T39 t151 x27_1).f1).length c160_1] 39 (0, 0)) (by (with_reducible repeat (first | refine blk_drewN ?_ _ | refine blk_drew ?_ | refine blk_alloc ?_ _)); exact BK161.out) hg (Kd.R_ne HO_169001.out BK161.out (by decide))); replace BK163 := am (blk_grown (g := gb163) (o := .cells #[.int .u64 ((rd_T39 t154 x33_2).f0), .slice (some ad170) ((rd_T39 t154 x33_2).f1).length c162_1] 39 (0, 0)) (by (with_reducible repeat (first | refine blk_drewN ?_ _ | refine blk_drew ?_ | refine blk_alloc ?_ _)); exact BK163.out) hg (Kd.R_ne HO_169001.out BK163.out (by decide))); replace BK168 := am (blk_grown (g := gb168) (o := .cells #[.int .u64 t164, .slice (some ⟨go48, 0, none⟩) x169001_3.length co52] 39 (0, 0)) (by (with_reducible repeat (first | refine blk_drewN ?_ _ | refine blk_drew ?_ | refine blk_alloc ?_ _)); exact BK168.out) hg (Kd.R_ne HO_169001.out BK168.out (by decide))); replace HO_169001 := am (hp_); replace HB := am ((by rw [hw]; exact below_set (HB.out) GB48.out : Below w.heap.size w w54)); clear hg hw hp_))
                      go_roundg k3
                      case measure => have := HK1.out; have := HK2.out; have := HK3.out; omega
                      case rel => exact ⟨(wrap64 (x59_3 + 1)), (y172), (.slice (some ⟨go48, 0, none⟩) x169001_3.length co52), (by rfl), H', ⟨by have := HK1.out; have := HK2.out; have := HK3.out; omega⟩, ⟨by exact Kd.N_mono HO_1.out (fun _ hk => ⟨hk.1.1, ⟨hk.1.2.1, ⟨hk.1.2.2.1, ⟨hk.2, ⟨hk.1.2.2.2.1, ⟨hk.1.2.2.2.2.1, hk.1.2.2.2.2.2⟩⟩⟩⟩⟩⟩)⟩, ⟨by exact Kd.N_mono HO_7.out (fun _ hk => ⟨hk.1.1, ⟨hk.1.2.1, ⟨hk.1.2.2.1, ⟨hk.1.2.2.2.1, ⟨hk.2, ⟨hk.1.2.2.2.2.1, ⟨hk.1.2.2.2.2.2.1, hk.1.2.2.2.2.2.2⟩⟩⟩⟩⟩⟩⟩)⟩, ⟨by (with_reducible repeat (first | apply N2_alloc | apply N2_drewN | apply N2_drew)); exact N2_mono HO_25.out (fun _ hk => ⟨hk.1.1, ⟨hk.1.2.1, ⟨hk.1.2.2.1, ⟨hk.1.2.2.2.1, ⟨hk.2, ⟨hk.1.2.2.2.2.1, ⟨hk.1.2.2.2.2.2.1, hk.1.2.2.2.2.2.2⟩⟩⟩⟩⟩⟩⟩)⟩, ⟨by (with_reducible repeat (first | apply N2_alloc | apply N2_drewN | apply N2_drew)); exact N2_mono HO_31.out (fun _ hk => ⟨hk.1.1, ⟨hk.1.2.1, ⟨hk.1.2.2.1, ⟨hk.2, ⟨hk.1.2.2.2.1, ⟨hk.1.2.2.2.2.1, hk.1.2.2.2.2.2⟩⟩⟩⟩⟩⟩)⟩, ⟨by exact HO_169001.out⟩, ⟨by (with_reducible repeat (first | refine blk_drewN ?_ _ | refine blk_drew ?_ | refine blk_alloc ?_ _)); exact BK161.out⟩, ⟨by (with_reducible repeat (first | refine blk_drewN ?_ _ | refine blk_drew ?_ | refine blk_alloc ?_ _)); exact BK163.out⟩, ⟨by (with_reducible repeat (first | refine blk_drewN ?_ _ | refine blk_drew ?_ | refine blk_alloc ?_ _)); exact BK168.out⟩, ⟨by exact HB.out⟩⟩
                    · rw [if_neg c44] at H
                      replace HO_31 := am HO_31.out.1
                      have c44b0 : decide (x59_3 < (((rd_T39 t154 x33_2).f1).length : Int)) = false := decide_eq_false c44
                      clear c44
                      replace H := Option.bind_eq_some_iff.mp H
                      obtain ⟨t173, A550, H⟩ := H
                      replace H : (if t173 = true then (some (([] : List (S39)), 2)) else (if x7_2.length < 4398046511104 then (cost_Times.l1 k3 t154 (x7_2 ++ [(⟨t164, x169001_3⟩ : S39)]) t151 (t151.length : Int) x27_1 t154 (t154.length : Int) (wrap64 (x33_2 + 1)) ((rd_T39 t151 x27_1).f0) ((rd_T39 t151 x27_1).f1)) else (none))) = some (r1, r2) := H
                      have A55 := am A550
                      clear A550
                      by_cases c56 : t173 = true
                      · subst c56
                        have H1 : (some (([] : List (S39)), 2)) = some (r1, r2) := by rw [if_pos rfl] at H; exact H
                        clear H
                        have H := H1
                        clear H1
                        simp only [Option.some.injEq, Prod.mk.injEq] at H
                        obtain ⟨rfl, rfl⟩ := H
                        have hnb57 := eq_false NB168_161.out
                        have hnc57 := eq_false NB161_168.out
                        have hnb58 := eq_false NB168_163.out
                        have hnc58 := eq_false NB163_168.out
                        have hcz59_0 : wr.cell? ⟨gb168, 0, none⟩ = some (.int .u64 t164) := (blk_cell BK168.out 0).trans rfl
                        have hcz59_1 : wr.cell? ⟨gb168, 1, none⟩ = some (u169001) := (blk_cell BK168.out 1).trans rfl
                        have hfz59_0 := blk_frozen BK168.out 0
                        have hfz59_1 := blk_frozen BK168.out 1
                        obtain ⟨Ao60, co60, eo60⟩ := Kd.R_slice HO_169001.out
                        subst eo60
                        go_wp2_with (((with_reducible refine gate_callee (f := 31) rfl ?_); refine goesL_ (some 75) rfl rfl Try.func31 (by kernel_rfl) rfl #[.slice Ao60 x169001_3.length co60, .func (.func 32) #[] #[]] rfl (by (try simp only [List.map_toArray, List.map_cons, List.map_nil]); rfl) ?_; (with_reducible refine (slices_ContainsFunc_int_int_of_cost_Times_1.calls k3 _ _ x169001_3  true _ ?side1 ?side2 A55.out).mono ?_); (case side1 => exact (Kd.R_reads' HO_169001.out).2.2); (case side2 => exact (Kd.R_reads' HO_169001.out).2.1); rintro e w' ⟨rfl, ⟨nd, rfl⟩⟩; refine ⟨_, rfl, ?_⟩))
                        go_ret2
                        exact ⟨_, by rfl, by exact Kd.N_nil _ _ _ _ _, by repeat ((with_reducible first | exact HB.out | apply pw_below_drewN))⟩
                      · replace c56 := Bool.eq_false_iff.mpr c56
                        subst c56
                        have H1 : (if x7_2.length < 4398046511104 then (cost_Times.l1 k3 t154 (x7_2 ++ [(⟨t164, x169001_3⟩ : S39)]) t151 (t151.length : Int) x27_1 t154 (t154.length : Int) (wrap64 (x33_2 + 1)) ((rd_T39 t151 x27_1).f0) ((rd_T39 t151 x27_1).f1)) else (none)) = some (r1, r2) := by rw [if_neg (show ¬ (false = true) by decide)] at H; exact H
                        clear H
                        have H := H1
                        clear H1
                        replace H := its H
                        obtain ⟨c61, H⟩ := H
                        have LMc61 := am c61
                        clear c61
                        obtain ⟨y174, hy174⟩ : ∃ y_ : List (S39), y_ = (x7_2 ++ [(⟨t164, x169001_3⟩ : S39)]) := ⟨_, rfl⟩
                        replace H : (cost_Times.l1 k3 t154 y174 t151 (t151.length : Int) x27_1 t154 (t154.length : Int) (wrap64 (x33_2 + 1)) ((rd_T39 t151 x27_1).f0) ((rd_T39 t151 x27_1).f1)) = some (r1, r2) := by (rw [hy174]; with_reducible exact H)
                        have Ny174 := am hy174
                        clear hy174
                        have H' := am H
                        clear H
                        have hnb62 := eq_false NB168_161.out
                        have hnc62 := eq_false NB161_168.out
                        have hnb63 := eq_false NB168_163.out
                        have hnc63 := eq_false NB163_168.out
                        have hcz64_0 : wr.cell? ⟨gb168, 0, none⟩ = some (.int .u64 t164) := (blk_cell BK168.out 0).trans rfl
                        have hcz64_1 : wr.cell? ⟨gb168, 1, none⟩ = some (u169001) := (blk_cell BK168.out 1).trans rfl
                        have hfz64_0 := blk_frozen BK168.out 0
                        have hfz64_1 := blk_frozen BK168.out 1
                        obtain ⟨Ao65, co65, eo65⟩ := Kd.R_slice HO_169001.out
                        subst eo65
                        go_wp2_with (first | ((with_reducible refine gate_callee (f := 31) rfl ?_); refine goesL_ (some 75) rfl rfl Try.func31 (by kernel_rfl) rfl #[.slice Ao65 x169001_3.length co65, .func (.func 32) #[] #[]] rfl (by (try simp only [List.map_toArray, List.map_cons, List.map_nil]); rfl) ?_; (with_reducible refine (slices_ContainsFunc_int_int_of_cost_Times_1.calls k3 _ _ x169001_3  false _ ?side1 ?side2 A55.out).mono ?_); (case side1 => exact (Kd.R_reads' HO_169001.out).2.2); (case side2 => exact (Kd.R_reads' HO_169001.out).2.1); rintro e w' ⟨rfl, ⟨nd, rfl⟩⟩; refine ⟨_, rfl, ?_⟩) | ((with_reducible refine gate_builtin (b := .append) (xs := #[.tmp 76, .tmp 78]) rfl ?_); at_builtin; refine Kd.N_append k39 (w0 := w) w.heap.size rfl (.tmp 76) (.tmp 78) 22 39 (.agg #[(.int .u64 0), (.slice none 0 0)]) 32 rfl Try.underlying22 info39 rfl (by decide) (by omega) u7 x7_2 (⟨t164, x169001_3⟩ : S39) [.int .u64 t164, .slice Ao65 x169001_3.length co65] (fun k_ => (w.heap.size ≤ k_) ∧ some k_ ≠ (.slice (some ad162) t154.length co16 : Value).ownBlock ∧ some k_ ≠ (.slice (some ad160) t151.length co10 : Value).ownBlock ∧ some k_ ≠ (.slice (some ad162) t154.length co16 : Value).ownBlock ∧ k_ ≠ gb161 ∧ k_ ≠ gb163 ∧ k_ ≠ gb168) (fun k_ => ((fun k_ => (w.heap.size ≤ k_) ∧ some k_ ≠ (.slice (some ad162) t154.length co16 : Value).ownBlock ∧ some k_ ≠ (.slice (some ad160) t151.length co10 : Value).ownBlock ∧ some k_ ≠ (.slice (some ad162) t154.length co16 : Value).ownBlock ∧ k_ ≠ gb161 ∧ k_ ≠ gb163 ∧ k_ ≠ gb168)) k_ ∧ some k_ ≠ (u7 : Value).ownBlock) rfl rfl ?aP (fun _ hk => hk) ?aF ?aO ?aB ?aS ?aL ?_; (case aP => exact (k39_mkF _ _ (⟨t164, x169001_3⟩ : S39) (Kd.R_reads' (Kd.R_mono (ok' := (fun k_ => ((fun k_ => (w.heap.size ≤ k_) ∧ some k_ ≠ (.slice (some ad162) t154.length co16 : Value).ownBlock ∧ some k_ ≠ (.slice (some ad160) t151.length co10 : Value).ownBlock ∧ some k_ ≠ (.slice (some ad162) t154.length co16 : Value).ownBlock ∧ k_ ≠ gb161 ∧ k_ ≠ gb163 ∧ k_ ≠ gb168)) k_ ∧ some k_ ≠ (u7 : Value).ownBlock)) (Kd.R_types (Kd.R_types (Kd.R_types (Kd.R_apart' (Kd.R_apart' (Kd.R_apart' (Kd.R_apart' (HO_169001.out) (Kd.N_typed HO_1.out) (by decide)) (Kd.N_typed HO_25.out.1) (by decide)) (Kd.N_typed HO_31.out) (by decide)) (Kd.N_typed HO_7.out) (by decide)) BK161.out (by decide)) BK163.out (by decide)) BK168.out (by decide)) (fun k_ hk => ⟨⟨hk.1.1.1.1.1.1.1, ⟨hk.1.1.1.1.1.1.2, ⟨hk.1.1.1.1.1.2, ⟨hk.1.1.1.1.2, ⟨hk.1.1.2, ⟨hk.1.2, hk.2⟩⟩⟩⟩⟩⟩, hk.1.1.1.2⟩))).2.1 (Kd.R_F (Kd.R_mono (ok' := (fun k_ => ((fun k_ => (w.heap.size ≤ k_) ∧ some k_ ≠ (.slice (some ad162) t154.length co16 : Value).ownBlock ∧ some k_ ≠ (.slice (some ad160) t151.length co10 : Value).ownBlock ∧ some k_ ≠ (.slice (some ad162) t154.length co16 : Value).ownBlock ∧ k_ ≠ gb161 ∧ k_ ≠ gb163 ∧ k_ ≠ gb168)) k_ ∧ some k_ ≠ (u7 : Value).ownBlock)) (Kd.R_types (Kd.R_types (Kd.R_types (Kd.R_apart' (Kd.R_apart' (Kd.R_apart' (Kd.R_apart' (HO_169001.out) (Kd.N_typed HO_1.out) (by decide)) (Kd.N_typed HO_25.out.1) (by decide)) (Kd.N_typed HO_31.out) (by decide)) (Kd.N_typed HO_7.out) (by decide)) BK161.out (by decide)) BK163.out (by decide)) BK168.out (by decide)) (fun k_ hk => ⟨⟨hk.1.1.1.1.1.1.1, ⟨hk.1.1.1.1.1.1.2, ⟨hk.1.1.1.1.1.2, ⟨hk.1.1.1.1.2, ⟨hk.1.1.2, ⟨hk.1.2, hk.2⟩⟩⟩⟩⟩⟩, hk.1.1.1.2⟩))))); (case aB => exact (by repeat ((with_reducible first | exact HB.out | apply pw_below_drewN)))); (case aF => exact (fun k_ hk => ⟨(Nat.le_trans (below_size (by repeat ((with_reducible first | exact HB.out | apply pw_below_drewN)))) hk), Kd.fresh' (Kd.N_lt (by (with_reducible repeat (apply Kd.N_drewN)); exact HO_1.out)) k_ hk, Kd.fresh' (N2_lt (by (with_reducible repeat (apply N2_drewN)); exact HO_25.out)) k_ hk, Kd.fresh' (Kd.N_lt (by (with_reducible repeat (apply Kd.N_drewN)); exact HO_31.out)) k_ hk, Kd.freshB (g := gb161) (o := .cells #[.int .u64 ((rd_T39 t151 x27_1).f0), .slice A160_1 ((rd_T39 t151 x27_1).f1).length c160_1] 39 (0, 0)) (by (with_reducible repeat (refine blk_drewN ?_ _)); exact BK161.out) k_ hk, Kd.freshB (g := gb163) (o := .cells #[.int .u64 ((rd_T39 t154 x33_2).f0), .slice A162_1 ((rd_T39 t154 x33_2).f1).length c162_1] 39 (0, 0)) (by (with_reducible repeat (refine blk_drewN ?_ _)); exact BK163.out) k_ hk, Kd.freshB (g := gb168) (o := .cells #[.int .u64 t164, .slice Ao65 x169001_3.length co65] 39 (0, 0)) (by (with_reducible repeat (refine blk_drewN ?_ _)); exact BK168.out) k_ hk⟩)); (case aO => exact (by (with_reducible repeat (apply Kd.N_drewN)); exact Kd.N_mono HO_7.out (fun _ hk => ⟨hk.1, ⟨hk.2.1, ⟨hk.2.2.1, ⟨hk.2.2.2.1, ⟨hk.2.2.2.2.2.1, ⟨hk.2.2.2.2.2.2.1, hk.2.2.2.2.2.2.2⟩⟩⟩⟩⟩⟩))); (case aS => exact (below_size (by repeat ((with_reducible first | exact HB.out | apply pw_below_drewN))))); (case aL => have := LMc61.out; omega); intro v175 w66 ho hb hg hat; rw [← Ny174.out] at ho; replace HO_1 := am (Kd.N_afterv (ok := (fun k_ => (w.heap.size ≤ k_) ∧ some k_ ≠ (.slice (some ad160) t151.length co10 : Value).ownBlock ∧ some k_ ≠ (.slice Ao65 x169001_3.length co65 : Value).ownBlock ∧ k_ ≠ gb161 ∧ k_ ≠ gb163 ∧ k_ ≠ gb168)) (by (with_reducible repeat (apply Kd.N_drewN)); exact Kd.N_mono HO_1.out (fun _ hk => ⟨⟨hk.1, ⟨hk.2.2.1, ⟨hk.2.2.2.1, ⟨hk.2.2.2.2.1, ⟨hk.2.2.2.2.2.1, hk.2.2.2.2.2.2⟩⟩⟩⟩⟩, hk.2.1⟩)) hg hat); replace HO_25 := am (N2_afterv (ok := (fun k_ => (w.heap.size ≤ k_) ∧ some k_ ≠ (.slice (some ad162) t154.length co16 : Value).ownBlock ∧ some k_ ≠ (.slice (some ad162) t154.length co16 : Value).ownBlock ∧ some k_ ≠ (.slice Ao65 x169001_3.length co65 : Value).ownBlock ∧ k_ ≠ gb161 ∧ k_ ≠ gb163 ∧ k_ ≠ gb168)) (by (with_reducible repeat (apply N2_drewN)); exact N2_mono HO_25.out (fun _ hk => ⟨⟨hk.1, ⟨hk.2.1, ⟨hk.2.2.2.1, ⟨hk.2.2.2.2.1, ⟨hk.2.2.2.2.2.1, ⟨hk.2.2.2.2.2.2.1, hk.2.2.2.2.2.2.2⟩⟩⟩⟩⟩⟩, hk.2.2.1⟩)) hg hat); replace HO_31 := am (Kd.N_afterv (ok := (fun k_ => (w.heap.size ≤ k_) ∧ some k_ ≠ (.slice (some ad160) t151.length co10 : Value).ownBlock ∧ some k_ ≠ (.slice Ao65 x169001_3.length co65 : Value).ownBlock ∧ k_ ≠ gb161 ∧ k_ ≠ gb163 ∧ k_ ≠ gb168)) (by (with_reducible repeat (apply Kd.N_drewN)); exact Kd.N_mono HO_31.out (fun _ hk => ⟨⟨hk.1, ⟨hk.2.2.1, ⟨hk.2.2.2.1, ⟨hk.2.2.2.2.1, ⟨hk.2.2.2.2.2.1, hk.2.2.2.2.2.2⟩⟩⟩⟩⟩, hk.2.1⟩)) hg hat); replace BK161 := am (blk_grown (g := gb161) (o := .cells #[.int .u64 ((rd_T39 t151 x27_1).f0), .slice A160_1 ((rd_T39 t151 x27_1).f1).length c160_1] 39 (0, 0)) (by (with_reducible repeat (refine blk_drewN ?_ _)); exact BK161.out) hg (Kd.N_away HO_7.out (fun _ hk => hk.2.2.2.2.2.1))); replace BK163 := am (blk_grown (g := gb163) (o := .cells #[.int .u64 ((rd_T39 t154 x33_2).f0), .slice A162_1 ((rd_T39 t154 x33_2).f1).length c162_1] 39 (0, 0)) (by (with_reducible repeat (refine blk_drewN ?_ _)); exact BK163.out) hg (Kd.N_away HO_7.out (fun _ hk => hk.2.2.2.2.2.2.1))); replace BK168 := am (blk_grown (g := gb168) (o := .cells #[.int .u64 t164, .slice Ao65 x169001_3.length co65] 39 (0, 0)) (by (with_reducible repeat (refine blk_drewN ?_ _)); exact BK168.out) hg (Kd.N_away HO_7.out (fun _ hk => hk.2.2.2.2.2.2.2))); replace HB := am (hb); have HO176 := am (ho); clear HO_7 HO_169001; clear ho hb hg hat))
                        go_roundg k3
                        case measure => have := HK1.out; have := HK2.out; have := HK3.out; omega
                        case rel => exact ⟨(y174), (wrap64 (x33_2 + 1)), (by rfl), H', ⟨by have := HK1.out; have := HK2.out; have := HK3.out; omega⟩, ⟨by exact Kd.N_mono HO_1.out (fun _ hk => ⟨hk.1.1, ⟨hk.2, ⟨hk.1.2.1, hk.1.2.2.2.1⟩⟩⟩)⟩, ⟨by exact Kd.N_mono HO176.out (fun _ hk => ⟨hk.1, ⟨hk.2.1, ⟨hk.2.2.1, ⟨hk.2.2.2.1, hk.2.2.2.2.1⟩⟩⟩⟩)⟩, ⟨by (with_reducible repeat (first | apply N2_alloc | apply N2_drewN | apply N2_drew)); exact N2_mono HO_25.out (fun _ hk => ⟨hk.1.1, ⟨hk.1.2.1, ⟨hk.2, ⟨hk.1.2.2.1, hk.1.2.2.2.2.1⟩⟩⟩⟩)⟩, ⟨by exact Kd.N_mono HO_31.out (fun _ hk => ⟨hk.1.1, ⟨hk.2, ⟨hk.1.2.1, hk.1.2.2.2.1⟩⟩⟩)⟩, ⟨by (with_reducible repeat (first | refine blk_drewN ?_ _ | refine blk_drew ?_ | refine blk_alloc ?_ _)); exact BK161.out⟩, ⟨by exact HB.out⟩⟩
              · rw [if_neg c17] at H
                have c17b0 : decide (x33_2 < (t154.length : Int)) = false := decide_eq_false c17
                clear c17
                by_cases c67 : (x7_2.length : Int) > 16384
                · rw [if_pos c67] at H
                  have c67b0 : decide (16384 < (x7_2.length : Int)) = true := decide_eq_true c67
                  have c67b1 : decide (16384 < x7_2.length) = true := decide_eq_true (by omega)
                  clear c67
                  replace H := Option.bind_eq_some_iff.mp H
                  obtain ⟨t177, A680, H⟩ := H
                  replace H : (if (t177.length : Int) > 4096 then (some (([] : List (S39)), 2)) else (cost_Times.l0 k2 t154 t177 t151 (t151.length : Int) (wrap64 (x27_1 + 1)))) = some (r1, r2) := H
                  have A68 := am A680
                  clear A680
                  by_cases c69 : (t177.length : Int) > 4096
                  · rw [if_pos c69] at H
                    have c69b0 : decide (4096 < (t177.length : Int)) = true := decide_eq_true c69
                    have c69b1 : decide (4096 < t177.length) = true := decide_eq_true (by omega)
                    clear c69
                    simp only [Option.some.injEq, Prod.mk.injEq] at H
                    obtain ⟨rfl, rfl⟩ := H
                    obtain ⟨Ao70, co70, eo70⟩ := Kd.N_slice HO_7.out
                    subst eo70
                    go_wp2_with (((with_reducible refine gate_callee (f := 25) rfl ?_); refine goesL_ (some 85) rfl rfl Try.func25 (by kernel_rfl) rfl #[.slice Ao70 x7_2.length co70] rfl (by (try simp only [List.map_toArray, List.map_cons, List.map_nil]); rfl) ?_; (with_reducible refine (cost_normal.calls k2 _ _ x7_2 t177 _ ?side1 ?side2 A68.out).mono ?_); (case side1 => exact (Kd.N_reads' HO_7.out).2.2); (case side2 => exact (Kd.N_reads' HO_7.out).2.1); rintro e w71 ⟨v178, rfl, ho0, hb⟩; refine ⟨_, rfl, ?_⟩; have HO179 := am (Kd.N_lower (Kd.N_mono (ok' := fun k_ => (w.heap.size ≤ k_) ∧ some k_ ≠ (.slice Ao16 t154.length co16 : Value).ownBlock ∧ some k_ ≠ (.slice Ao70 x7_2.length co70 : Value).ownBlock ∧ some k_ ≠ (.slice (some ad160) t151.length co10 : Value).ownBlock ∧ some k_ ≠ (.slice Ao16 t154.length co16 : Value).ownBlock ∧ k_ ≠ gb161) ho0 (fun k_ hk_ => ⟨(Nat.le_trans (below_size HB.out) hk_), (Kd.fresh' (Kd.N_lt HO_1.out) k_ hk_), (Kd.fresh' (Kd.N_lt HO_7.out) k_ hk_), (Kd.fresh' (N2_lt (by (with_reducible repeat (first | apply N2_alloc | apply N2_drewN | apply N2_drew)); exact HO_25.out)) k_ hk_), (Kd.fresh' (Kd.N_lt HO_31.out) k_ hk_), (Kd.freshB (g := gb161) (o := .cells #[.int .u64 ((rd_T39 t151 x27_1).f0), .slice A160_1 ((rd_T39 t151 x27_1).f1).length c160_1] 39 (0, 0)) (by (with_reducible repeat (first | refine blk_drewN ?_ _ | refine blk_drew ?_ | refine blk_alloc ?_ _)); exact BK161.out) k_ hk_)⟩)) (below_size HB.out)); replace HO_1 := am (Kd.N_elder' HO_1.out (Kd.N_base ho0) hb); replace HO_7 := am (Kd.N_elder' HO_7.out (Kd.N_base ho0) hb); replace HO_25 := am (N2_elder' (by (with_reducible repeat (first | apply N2_alloc | apply N2_drewN | apply N2_drew)); exact HO_25.out) (Kd.N_base ho0) hb); replace HO_31 := am (Kd.N_elder' HO_31.out (Kd.N_base ho0) hb); replace BK161 := am (blk_below (g := gb161) (o := .cells #[.int .u64 ((rd_T39 t151 x27_1).f0), .slice A160_1 ((rd_T39 t151 x27_1).f1).length c160_1] 39 (0, 0)) (by (with_reducible repeat (first | refine blk_drewN ?_ _ | refine blk_drew ?_ | refine blk_alloc ?_ _)); exact BK161.out) hb); replace HB := am (below_step HB.out hb); (try clear hb); (try clear ho0); obtain ⟨Ao72, co72, eo72⟩ := Kd.N_slice HO179.out; subst eo72))
                    go_ret2
                    exact ⟨_, by rfl, by exact Kd.N_nil _ _ _ _ _, by exact HB.out⟩
                  · rw [if_neg c69] at H
                    have c69b0 : decide (4096 < (t177.length : Int)) = false := decide_eq_false c69
                    have c69b1 : decide (4096 < t177.length) = false := decide_eq_false (by omega)
                    clear c69
                    have H' := am H
                    clear H
                    obtain ⟨Ao73, co73, eo73⟩ := Kd.N_slice HO_7.out
                    subst eo73
                    go_wp2_with (((with_reducible refine gate_callee (f := 25) rfl ?_); refine goesL_ (some 85) rfl rfl Try.func25 (by kernel_rfl) rfl #[.slice Ao73 x7_2.length co73] rfl (by (try simp only [List.map_toArray, List.map_cons, List.map_nil]); rfl) ?_; (with_reducible refine (cost_normal.calls k2 _ _ x7_2 t177 _ ?side1 ?side2 A68.out).mono ?_); (case side1 => exact (Kd.N_reads' HO_7.out).2.2); (case side2 => exact (Kd.N_reads' HO_7.out).2.1); rintro e w74 ⟨v178, rfl, ho0, hb⟩; refine ⟨_, rfl, ?_⟩; have HO179 := am (Kd.N_lower (Kd.N_mono (ok' := fun k_ => (w.heap.size ≤ k_) ∧ some k_ ≠ (.slice Ao16 t154.length co16 : Value).ownBlock ∧ some k_ ≠ (.slice Ao73 x7_2.length co73 : Value).ownBlock ∧ some k_ ≠ (.slice (some ad160) t151.length co10 : Value).ownBlock ∧ some k_ ≠ (.slice Ao16 t154.length co16 : Value).ownBlock ∧ k_ ≠ gb161) ho0 (fun k_ hk_ => ⟨(Nat.le_trans (below_size HB.out) hk_), (Kd.fresh' (Kd.N_lt HO_1.out) k_ hk_), (Kd.fresh' (Kd.N_lt HO_7.out) k_ hk_), (Kd.fresh' (N2_lt (by (with_reducible repeat (first | apply N2_alloc | apply N2_drewN | apply N2_drew)); exact HO_25.out)) k_ hk_), (Kd.fresh' (Kd.N_lt HO_31.out) k_ hk_), (Kd.freshB (g := gb161) (o := .cells #[.int .u64 ((rd_T39 t151 x27_1).f0), .slice A160_1 ((rd_T39 t151 x27_1).f1).length c160_1] 39 (0, 0)) (by (with_reducible repeat (first | refine blk_drewN ?_ _ | refine blk_drew ?_ | refine blk_alloc ?_ _)); exact BK161.out) k_ hk_)⟩)) (below_size HB.out)); replace HO_1 := am (Kd.N_elder' HO_1.out (Kd.N_base ho0) hb); replace HO_7 := am (Kd.N_elder' HO_7.out (Kd.N_base ho0) hb); replace HO_25 := am (N2_elder' (by (with_reducible repeat (first | apply N2_alloc | apply N2_drewN | apply N2_drew)); exact HO_25.out) (Kd.N_base ho0) hb); replace HO_31 := am (Kd.N_elder' HO_31.out (Kd.N_base ho0) hb); replace BK161 := am (blk_below (g := gb161) (o := .cells #[.int .u64 ((rd_T39 t151 x27_1).f0), .slice A160_1 ((rd_T39 t151 x27_1).f1).length c160_1] 39 (0, 0)) (by (with_reducible repeat (first | refine blk_drewN ?_ _ | refine blk_drew ?_ | refine blk_alloc ?_ _)); exact BK161.out) hb); replace HB := am (below_step HB.out hb); (try clear hb); (try clear ho0); obtain ⟨Ao75, co75, eo75⟩ := Kd.N_slice HO179.out; subst eo75))
                    go_roundg k2
                    case measure => have := HK1.out; have := HK2.out; omega
                    case rel => exact ⟨(t177), (wrap64 (x27_1 + 1)), (by rfl), H', ⟨by have := HK1.out; have := HK2.out; omega⟩, ⟨by exact Kd.N_mono HO_1.out (fun _ hk => ⟨hk.1.1, ⟨hk.2, hk.1.2.2.1⟩⟩)⟩, ⟨by exact Kd.N_mono HO179.out (fun _ hk => ⟨hk.1, ⟨hk.2.1, hk.2.2.2.1⟩⟩)⟩, ⟨by exact Kd.N_mono HO_25.out.1 (fun _ hk => ⟨hk.1.1, ⟨hk.1.2.1, hk.2⟩⟩)⟩, ⟨by exact HB.out⟩⟩
                · rw [if_neg c67] at H
                  have c67b0 : decide (16384 < (x7_2.length : Int)) = false := decide_eq_false c67
                  have c67b1 : decide (16384 < x7_2.length) = false := decide_eq_false (by omega)
                  clear c67
                  have H' := am H
                  clear H
                  obtain ⟨Ao76, co76, eo76⟩ := Kd.N_slice HO_7.out
                  subst eo76
                  go_wp2
                  go_roundg k2
                  case measure => have := HK1.out; have := HK2.out; omega
                  case rel => exact ⟨(x7_2), (wrap64 (x27_1 + 1)), (by rfl), H', ⟨by have := HK1.out; have := HK2.out; omega⟩, ⟨by exact Kd.N_mono HO_1.out (fun _ hk => ⟨hk.1, ⟨hk.2.1, hk.2.2.1⟩⟩)⟩, ⟨by exact Kd.N_mono HO_7.out (fun _ hk => ⟨hk.1, ⟨hk.2.1, hk.2.2.1⟩⟩)⟩, ⟨by exact Kd.N_mono HO_25.out.1 (fun _ hk => ⟨hk.1, ⟨hk.2.1, hk.2.2.1⟩⟩)⟩, ⟨by exact HB.out⟩⟩
        · rw [if_neg c11] at H
          have c11b0 : decide (x27_1 < (t151.length : Int)) = false := decide_eq_false c11
          clear c11
          replace H := Option.bind_eq_some_iff.mp H
          obtain ⟨t157, A770, H⟩ := H
          replace H : (if (t157.length : Int) > 4096 then (some (([] : List (S39)), 2)) else (some (t157, 0))) = some (r1, r2) := H
          have A77 := am A770
          clear A770
          by_cases c78 : (t157.length : Int) > 4096
          · rw [if_pos c78] at H
            have c78b0 : decide (4096 < (t157.length : Int)) = true := decide_eq_true c78
            have c78b1 : decide (4096 < t157.length) = true := decide_eq_true (by omega)
            clear c78
            simp only [Option.some.injEq, Prod.mk.injEq] at H
            obtain ⟨rfl, rfl⟩ := H
            obtain ⟨Ao79, co79, eo79⟩ := Kd.N_slice HO_7.out
            subst eo79
            go_wp2_with (((with_reducible refine gate_callee (f := 25) rfl ?_); refine goesL_ (some 91) rfl rfl Try.func25 (by kernel_rfl) rfl #[.slice Ao79 x7_1.length co79] rfl (by (try simp only [List.map_toArray, List.map_cons, List.map_nil]); rfl) ?_; (with_reducible refine (cost_normal.calls k1 _ _ x7_1 t157 _ ?side1 ?side2 A77.out).mono ?_); (case side1 => exact (Kd.N_reads' HO_7.out).2.2); (case side2 => exact (Kd.N_reads' HO_7.out).2.1); rintro e w80 ⟨v158, rfl, ho0, hb⟩; refine ⟨_, rfl, ?_⟩; have HO159 := am (Kd.N_lower (Kd.N_mono (ok' := fun k_ => (w.heap.size ≤ k_) ∧ some k_ ≠ (v155 : Value).ownBlock ∧ some k_ ≠ (.slice Ao79 x7_1.length co79 : Value).ownBlock ∧ some k_ ≠ (.slice Ao10 t151.length co10 : Value).ownBlock) ho0 (fun k_ hk_ => ⟨(Nat.le_trans (below_size HB.out) hk_), (Kd.fresh' (Kd.N_lt HO_1.out) k_ hk_), (Kd.fresh' (Kd.N_lt HO_7.out) k_ hk_), (Kd.fresh' (Kd.N_lt HO_25.out) k_ hk_)⟩)) (below_size HB.out)); replace HO_1 := am (Kd.N_elder' HO_1.out (Kd.N_base ho0) hb); replace HO_7 := am (Kd.N_elder' HO_7.out (Kd.N_base ho0) hb); replace HO_25 := am (Kd.N_elder' HO_25.out (Kd.N_base ho0) hb); replace HB := am (below_step HB.out hb); (try clear hb); (try clear ho0); obtain ⟨Ao81, co81, eo81⟩ := Kd.N_slice HO159.out; subst eo81))
            go_ret2
            exact ⟨_, by rfl, by exact Kd.N_nil _ _ _ _ _, by exact HB.out⟩
          · rw [if_neg c78] at H
            have c78b0 : decide (4096 < (t157.length : Int)) = false := decide_eq_false c78
            have c78b1 : decide (4096 < t157.length) = false := decide_eq_false (by omega)
            clear c78
            simp only [Option.some.injEq, Prod.mk.injEq] at H
            obtain ⟨rfl, rfl⟩ := H
            obtain ⟨Ao82, co82, eo82⟩ := Kd.N_slice HO_7.out
            subst eo82
            go_wp2_with (((with_reducible refine gate_callee (f := 25) rfl ?_); refine goesL_ (some 91) rfl rfl Try.func25 (by kernel_rfl) rfl #[.slice Ao82 x7_1.length co82] rfl (by (try simp only [List.map_toArray, List.map_cons, List.map_nil]); rfl) ?_; (with_reducible refine (cost_normal.calls k1 _ _ x7_1 t157 _ ?side1 ?side2 A77.out).mono ?_); (case side1 => exact (Kd.N_reads' HO_7.out).2.2); (case side2 => exact (Kd.N_reads' HO_7.out).2.1); rintro e w83 ⟨v158, rfl, ho0, hb⟩; refine ⟨_, rfl, ?_⟩; have HO159 := am (Kd.N_lower (Kd.N_mono (ok' := fun k_ => (w.heap.size ≤ k_) ∧ some k_ ≠ (v155 : Value).ownBlock ∧ some k_ ≠ (.slice Ao82 x7_1.length co82 : Value).ownBlock ∧ some k_ ≠ (.slice Ao10 t151.length co10 : Value).ownBlock) ho0 (fun k_ hk_ => ⟨(Nat.le_trans (below_size HB.out) hk_), (Kd.fresh' (Kd.N_lt HO_1.out) k_ hk_), (Kd.fresh' (Kd.N_lt HO_7.out) k_ hk_), (Kd.fresh' (Kd.N_lt HO_25.out) k_ hk_)⟩)) (below_size HB.out)); replace HO_1 := am (Kd.N_elder' HO_1.out (Kd.N_base ho0) hb); replace HO_7 := am (Kd.N_elder' HO_7.out (Kd.N_base ho0) hb); replace HO_25 := am (Kd.N_elder' HO_25.out (Kd.N_base ho0) hb); replace HB := am (below_step HB.out hb); (try clear hb); (try clear ho0); obtain ⟨Ao84, co84, eo84⟩ := Kd.N_slice HO159.out; subst eo84))
            go_ret2
            exact ⟨_, by rfl, by exact Kd.N_mono HO159.out (fun _ hk => hk.1), by exact HB.out⟩
  · rw [if_neg c4] at H
    have c4b0 : (t150 == 0) = false := beq_eq_false_iff_ne.mpr c4
    have c4b1 : (t150 != 0) = true := bne_iff_ne.mpr c4
    simp only [Option.some.injEq, Prod.mk.injEq] at H
    obtain ⟨rfl, rfl⟩ := H
    go_enter Try.func14, Try.ntmps14
    go_wp2_with (((with_reducible refine gate_callee (f := 28) rfl ?_); refine goesL_ (some 17) rfl rfl Try.func28 (by kernel_rfl) rfl #[.slice A0 l0.length c0, .slice A1 l1.length c1] rfl (by (try simp only [List.map_toArray, List.map_cons, List.map_nil]); rfl) ?_; (with_reducible refine (cost_both.calls k _ _ l0 _ _ l1 t150 _ ?side1 ?side2 ?side3 ?side4 A3.out).mono ?_); (case side1 => exact HR0.out); (case side2 => exact HC0.out); (case side3 => exact HR1.out); (case side4 => exact HC1.out); rintro e w85 ⟨rfl, hb⟩; refine ⟨_, rfl, ?_⟩; replace HB := am (below_step HB.out hb); (try clear hb)))
    go_ret2
    exact ⟨_, by rfl, by exact Kd.N_nil _ _ _ _ _, by exact HB.out⟩
end Go.Proofs.Ytkkocmmilmbgpaa.S
end

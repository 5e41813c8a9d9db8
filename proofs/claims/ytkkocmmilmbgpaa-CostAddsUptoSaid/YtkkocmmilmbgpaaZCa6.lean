/- Part 6 of a claim of this seat: texts merged by a program of the claim's session (wip/bundle.py). -/
import Derived.Test.YtkkocmmilmbgpaaZCa2
import Derived.Test.YtkkocmmilmbgpaaZCa5
section
namespace Go.Proofs.Ytkkocmmilmbgpaa.S
open Go.RowKit Go.Proofs.YtkkocmmilmbgpaaW.PrintWords Go.Proofs.YtkkocmmilmbgpaaW.PrintLast Go.Proofs.YtkkocmmilmbgpaaW.PrintMore
attribute [local go_sem] max2_int min2_int max_two min_two max_three min_three max_four min_four
set_option linter.unusedVariables false
set_option linter.unusedSimpArgs false
def cost_Add.f (k : Nat) (l0 : List (S39)) (l1 : List (S39)) : Option ((List (S39)) × Int) := (cost_both.f k l0 l1).bind fun t347 => (if t347 = 0 then ((api_Term_29.f k (([l0, l1] : List (List (S39))))).bind fun t351 => ((cost_normal.f k t351).bind fun t354 => (some (t354, 0)))) else (some (([] : List (S39)), t347)))
theorem cost_Add.mono : ∀ a0 a1 k, LeO (cost_Add.f k a0 a1) (cost_Add.f (k + 1) a0 a1) := by
  intro a0 a1 k
  unfold cost_Add.f
  repeat' first
      | (with_reducible exact api_Term_29.mono _ _)
      | (with_reducible exact cost_both.mono _ _ _)
      | (with_reducible exact cost_normal.mono _ _)
      | (with_reducible exact LeO.refl _)
      | (with_reducible exact LeO.none _)
      | (with_reducible refine LeO.ite ?_ ?_)
      | (with_reducible refine LeO.bind ?_ (fun _ => ?_))
      | exact api_Term_29.mono _ _
      | exact cost_both.mono _ _ _
      | exact cost_normal.mono _ _
      | exact LeO.none _
      | refine LeO.ite ?_ ?_
      | refine LeO.bind ?_ (fun _ => ?_)
set_option maxHeartbeats 8000000 in
set_option maxRecDepth 100000 in
theorem cost_Add.calls (k : Nat) (P0_ : Nat → Prop) (A0 : Option Addr) (c0 : Nat) (l0 : List (S39)) (P1_ : Nat → Prop) (A1 : Option Addr) (c1 : Nat) (l1 : List (S39)) (r1 : List (S39)) (r2 : Int) (w : World) (hs0 : Kd.V k39 39 w w.heap.size (fun k_ => P0_ k_) (.slice A0 l0.length c0) l0) (hs1 : Kd.V k39 39 w w.heap.size (fun k_ => P1_ k_) (.slice A1 l1.length c1) l1) (h : cost_Add.f k l0 l1 = some (r1, r2)) :
    Calls Try.prog 12 #[.slice A0 l0.length c0, .slice A1 l1.length c1] w fun e w' => ∃ v0_ : Value, e = .returned (.tuple #[v0_, .int .i64 r2]) ∧ Kd.N k39 39 w' w.heap.size (fun k_ => ((P0_ k_ ∨ P1_ k_) ∨ w.heap.size ≤ k_)) v0_ r1 ∧ Below w.heap.size w w' := by
  have HO0 := am (show Kd.V k39 39 w w.heap.size (fun k_ => ((P0_ k_ ∨ P1_ k_) ∨ w.heap.size ≤ k_)) (.slice A0 l0.length c0) l0 from Kd.V_mono hs0 (fun k_ hk => .inl (.inl hk)))
  have HO1 := am (show Kd.V k39 39 w w.heap.size (fun k_ => ((P0_ k_ ∨ P1_ k_) ∨ w.heap.size ≤ k_)) (.slice A1 l1.length c1) l1 from Kd.V_mono hs1 (fun k_ hk => .inl (.inr hk)))
  have HB := am (Below.refl w.heap.size w)
  have H : ((cost_both.f k l0 l1).bind fun t347 => (if t347 = 0 then ((api_Term_29.f k (([l0, l1] : List (List (S39))))).bind fun t351 => ((cost_normal.f k t351).bind fun t354 => (some (t354, 0)))) else (some (([] : List (S39)), t347)))) = some (r1, r2) := h
  clear h
  replace H := Option.bind_eq_some_iff.mp H
  obtain ⟨t347, A30, H⟩ := H
  replace H : (if t347 = 0 then ((api_Term_29.f k (([l0, l1] : List (List (S39))))).bind fun t351 => ((cost_normal.f k t351).bind fun t354 => (some (t354, 0)))) else (some (([] : List (S39)), t347))) = some (r1, r2) := H
  have A3 := am A30
  clear A30
  by_cases c4 : t347 = 0
  · rw [if_pos c4] at H
    have c4b0 : (t347 == 0) = true := beq_iff_eq.mpr c4
    have c4b1 : (t347 != 0) = false := bne_eq_false_iff_eq.mpr c4
    clear c4
    obtain ⟨y348, hy348⟩ : ∃ y_ : List (List (S39)), y_ = (([l0, l1] : List (List (S39)))) := ⟨_, rfl⟩
    replace H : ((api_Term_29.f k y348).bind fun t351 => ((cost_normal.f k t351).bind fun t354 => (some (t354, 0)))) = some (r1, r2) := by (rw [hy348]; with_reducible exact H)
    have Ny348 := am hy348
    clear hy348
    replace H := Option.bind_eq_some_iff.mp H
    obtain ⟨t351, A50, H⟩ := H
    replace H : ((cost_normal.f k t351).bind fun t354 => (some (t354, 0))) = some (r1, r2) := H
    have A5 := am A50
    clear A50
    replace H := Option.bind_eq_some_iff.mp H
    obtain ⟨t354, A60, H⟩ := H
    replace H : (some (t354, 0)) = some (r1, r2) := H
    have A6 := am A60
    clear A60
    simp only [Option.some.injEq, Prod.mk.injEq] at H
    obtain ⟨rfl, rfl⟩ := H
    go_enter Try.func12, Try.ntmps12
    go_wp2_with (first | ((with_reducible refine gate_callee (f := 28) rfl ?_); refine goesL_ (some 9) rfl rfl Try.func28 (by kernel_rfl) rfl #[.slice A0 l0.length c0, .slice A1 l1.length c1] rfl (by (try simp only [List.map_toArray, List.map_cons, List.map_nil]); rfl) ?_; (with_reducible refine (cost_both.calls k _ _ l0 _ _ l1 t347 _ ?side1 ?side2 ?side3 ?side4 A3.out).mono ?_); (case side1 => exact (Kd.V_reads' HO0.out).2.2); (case side2 => exact (Kd.V_reads' HO0.out).2.1); (case side3 => exact (Kd.V_reads' HO1.out).2.2); (case side4 => exact (Kd.V_reads' HO1.out).2.1); rintro e w7 ⟨rfl, hb⟩; refine ⟨_, rfl, ?_⟩; have n0_ := am (Kd.V_below (by exact HO0.out) hb); have n1_ := am (Kd.V_below (by exact HO1.out) hb); have n2_ := am (below_step (by exact HB.out) hb); clear HO0; clear HO1; clear HB; have HO0 := n0_; have HO1 := n1_; have HB := n2_; clear n0_ n1_ n2_; (try clear hb)) | ((with_reducible refine gate_dst (N := 15) rfl ?_); refine Kd.N_lit (Kd.slice 39 k39) _ 22 ?hg (N' := 15) ?hd (xs := ([l0, l1] : List (List (S39)))) (inner := [.slice A0 l0.length c0, .slice A1 l1.length c1]) (ok := (fun k_ => ((P0_ k_ ∨ P1_ k_) ∨ w.heap.size ≤ k_))) (okp := (fun k_ => ((P0_ k_ ∨ P1_ k_) ∨ w.heap.size ≤ k_))) ?hr ?hp (fun _ hk => hk) ((show ∀ k_, w7.heap.size ≤ k_ → (fun k_ => ((P0_ k_ ∨ P1_ k_) ∨ w.heap.size ≤ k_)) k_ from fun k_ hk => (.inr (Nat.le_trans (below_size (by exact HB.out)) hk))) _ (Nat.le_refl _)) (Below.refl _ _) (Nat.le_refl _) (by simp) ?_; (case hd => rfl); (case hg => rfl); (case hr => (go_simp; done)); (case hp => exact (Reps.one (show Kd.FK (Kd.slice 39 k39) _ _ l0 [.slice A0 l0.length c0] from (Kd.FK_slice_mk (Kd.V_reads' (Kd.V_mono (ok' := (fun k_ => ((P0_ k_ ∨ P1_ k_) ∨ w.heap.size ≤ k_))) (HO0.out) (fun k_ hk => hk))).2.1 (Kd.V_F (Kd.V_mono (ok' := (fun k_ => ((P0_ k_ ∨ P1_ k_) ∨ w.heap.size ≤ k_))) (HO0.out) (fun k_ hk => hk))))) (Reps.one (show Kd.FK (Kd.slice 39 k39) _ _ l1 [.slice A1 l1.length c1] from (Kd.FK_slice_mk (Kd.V_reads' (Kd.V_mono (ok' := (fun k_ => ((P0_ k_ ∨ P1_ k_) ∨ w.heap.size ≤ k_))) (HO1.out) (fun k_ hk => hk))).2.1 (Kd.V_F (Kd.V_mono (ok' := (fun k_ => ((P0_ k_ ∨ P1_ k_) ∨ w.heap.size ≤ k_))) (HO1.out) (fun k_ hk => hk))))) (Reps.none _ _)))); intro v349 w8 ho9 hb hg_ hnew_; clear hg_ hnew_; (rw [← Ny348.out] at ho9); have n0_ := am (Kd.V_elder' (by exact HO0.out) (Kd.N_base ho9) hb); have n1_ := am (Kd.V_elder' (by exact HO1.out) (Kd.N_base ho9) hb); have n2_ := am (Kd.N_lower ho9 (below_size (by exact HB.out))); have n3_ := am (below_step (by exact HB.out) hb); clear HO0; clear HO1; clear HB; have HO0 := n0_; have HO1 := n1_; have HO350 := n2_; have HB := n3_; clear n0_ n1_ n2_ n3_; clear hb ho9; obtain ⟨Ao10, co10, eo10⟩ := Kd.N_slice HO350.out; subst eo10) | ((with_reducible refine gate_callee (f := 29) rfl ?_); refine goesL_ (some 16) rfl rfl Try.func29 (by kernel_rfl) rfl #[.slice Ao10 y348.length co10] rfl (by (try simp only [List.map_toArray, List.map_cons, List.map_nil]); rfl) ?_; (with_reducible refine (api_Term_29.calls k (fun k_ => ((P0_ k_ ∨ P1_ k_) ∨ w.heap.size ≤ k_)) _ _ y348 t351 _ ?side1 A5.out).mono ?_); (case side1 => exact Kd.N_V (HO350.out)); rintro e w11 ⟨v352, rfl, ho0, hb⟩; refine ⟨_, rfl, ?_⟩; have n0_ := am (Kd.V_elder' (by exact HO0.out) (Kd.N_base ho0) hb); have n1_ := am (Kd.V_elder' (by exact HO1.out) (Kd.N_base ho0) hb); have n2_ := am (Kd.N_elder' (by exact HO350.out) (Kd.N_base ho0) hb); have n3_ := am (Kd.N_lower (Kd.N_mono (ok' := fun k_ => ((P0_ k_ ∨ P1_ k_) ∨ w.heap.size ≤ k_)) ho0 (fun k_ hk_ => Or.elim hk_ (fun hs_ => hs_) (fun hn_ => (.inr (Nat.le_trans (below_size (by exact HB.out)) hn_))))) (below_size (by exact HB.out))); have n4_ := am (below_step (by exact HB.out) hb); clear HO0; clear HO1; clear HO350; clear HB; have HO0 := n0_; have HO1 := n1_; have HO350 := n2_; have HO353 := n3_; have HB := n4_; clear n0_ n1_ n2_ n3_ n4_; (try clear hb); (try clear ho0); obtain ⟨Ao12, co12, eo12⟩ := Kd.N_slice HO353.out; subst eo12) | ((with_reducible refine gate_callee (f := 25) rfl ?_); refine goesL_ (some 17) rfl rfl Try.func25 (by kernel_rfl) rfl #[.slice Ao12 t351.length co12] rfl (by (try simp only [List.map_toArray, List.map_cons, List.map_nil]); rfl) ?_; (with_reducible refine (cost_normal.calls k _ _ t351 t354 _ ?side1 ?side2 A6.out).mono ?_); (case side1 => exact (Kd.N_reads' HO353.out).2.2); (case side2 => exact (Kd.N_reads' HO353.out).2.1); rintro e w13 ⟨v355, rfl, ho0, hb⟩; refine ⟨_, rfl, ?_⟩; have n0_ := am (Kd.V_elder' (by exact HO0.out) (Kd.N_base ho0) hb); have n1_ := am (Kd.V_elder' (by exact HO1.out) (Kd.N_base ho0) hb); have n2_ := am (Kd.N_elder' (by exact HO350.out) (Kd.N_base ho0) hb); have n3_ := am (Kd.N_elder' (by exact HO353.out) (Kd.N_base ho0) hb); have n4_ := am (Kd.N_lower (Kd.N_mono (ok' := fun k_ => ((P0_ k_ ∨ P1_ k_) ∨ w.heap.size ≤ k_) ∧ some k_ ≠ (.slice Ao10 y348.length co10 : Value).ownBlock ∧ some k_ ≠ (.slice Ao12 t351.length co12 : Value).ownBlock) ho0 (fun k_ hk_ => ⟨(.inr (Nat.le_trans (below_size (by exact HB.out)) hk_)), (Kd.fresh' (Kd.N_lt (by exact HO350.out)) k_ hk_), (Kd.fresh' (Kd.N_lt (by exact HO353.out)) k_ hk_)⟩)) (below_size (by exact HB.out))); have n5_ := am (below_step (by exact HB.out) hb); clear HO0; clear HO1; clear HO350; clear HO353; clear HB; have HO0 := n0_; have HO1 := n1_; have HO350 := n2_; have HO353 := n3_; have HO356 := n4_; have HB := n5_; clear n0_ n1_ n2_ n3_ n4_ n5_; (try clear hb); (try clear ho0)))
    go_ret2
    exact ⟨_, by rfl, by exact Kd.N_mono HO356.out (fun _ hk => hk.1), by exact HB.out⟩
  · rw [if_neg c4] at H
    have c4b0 : (t347 == 0) = false := beq_eq_false_iff_ne.mpr c4
    have c4b1 : (t347 != 0) = true := bne_iff_ne.mpr c4
    simp only [Option.some.injEq, Prod.mk.injEq] at H
    obtain ⟨rfl, rfl⟩ := H
    go_enter Try.func12, Try.ntmps12
    go_wp2_with (((with_reducible refine gate_callee (f := 28) rfl ?_); refine goesL_ (some 9) rfl rfl Try.func28 (by kernel_rfl) rfl #[.slice A0 l0.length c0, .slice A1 l1.length c1] rfl (by (try simp only [List.map_toArray, List.map_cons, List.map_nil]); rfl) ?_; (with_reducible refine (cost_both.calls k _ _ l0 _ _ l1 t347 _ ?side1 ?side2 ?side3 ?side4 A3.out).mono ?_); (case side1 => exact (Kd.V_reads' HO0.out).2.2); (case side2 => exact (Kd.V_reads' HO0.out).2.1); (case side3 => exact (Kd.V_reads' HO1.out).2.2); (case side4 => exact (Kd.V_reads' HO1.out).2.1); rintro e w14 ⟨rfl, hb⟩; refine ⟨_, rfl, ?_⟩; have n0_ := am (Kd.V_below (by exact HO0.out) hb); have n1_ := am (Kd.V_below (by exact HO1.out) hb); have n2_ := am (below_step (by exact HB.out) hb); clear HO0; clear HO1; clear HB; have HO0 := n0_; have HO1 := n1_; have HB := n2_; clear n0_ n1_ n2_; (try clear hb)))
    go_ret2
    exact ⟨_, by rfl, by exact Kd.N_nil _ _ _ _ _, by exact HB.out⟩
end Go.Proofs.Ytkkocmmilmbgpaa.S
end
section
namespace Go.Proofs.Ytkkocmmilmbgpaa.S
open Go.RowKit Go.Proofs.YtkkocmmilmbgpaaW.PrintWords Go.Proofs.YtkkocmmilmbgpaaW.PrintLast Go.Proofs.YtkkocmmilmbgpaaW.PrintMore
attribute [local go_sem] max2_int min2_int max_two min_two max_three min_three max_four min_four
set_option linter.unusedVariables false
set_option linter.unusedSimpArgs false
mutual
def locksteplaw28_same.l0 : Nat → List (S39) → List (S39) → Int → Option (Bool)
  | 0, _, _, _ => none
  | k + 1, x0, x1, x5 => if x5 < (x0.length : Int) then (if 0 ≤ x5 then (if x5 < (x1.length : Int) then (if ((rd_T39 x0 x5).f0) = ((rd_T39 x1 x5).f0) then (locksteplaw28_same.j1 k x0 x1 x5 ((((rd_T39 x0 x5).f1).length : Int) != (((rd_T39 x1 x5).f1).length : Int))) else (locksteplaw28_same.j1 k x0 x1 x5 true)) else (none)) else (none)) else (some true)
def locksteplaw28_same.j1 : Nat → List (S39) → List (S39) → Int → Bool → Option (Bool)
  | 0, _, _, _, _ => none
  | k + 1, x0, x1, x5, x43 => if x43 = true then (some false) else (locksteplaw28_same.l1 k x0 x1 x5 0)
def locksteplaw28_same.l1 : Nat → List (S39) → List (S39) → Int → Int → Option (Bool)
  | 0, _, _, _, _ => none
  | k + 1, x0, x1, x5, x6 => if 0 ≤ x5 then (if x5 < (x0.length : Int) then (if x6 < (((rd_T39 x0 x5).f1).length : Int) then (if 0 ≤ x6 then (if x5 < (x1.length : Int) then (if x6 < (((rd_T39 x1 x5).f1).length : Int) then (if (rd ((rd_T39 x0 x5).f1) x6) = (rd ((rd_T39 x1 x5).f1) x6) then (locksteplaw28_same.l1 k x0 x1 x5 (wrap64 (x6 + 1))) else (some false)) else (none)) else (none)) else (none)) else (locksteplaw28_same.l0 k x0 x1 (wrap64 (x5 + 1)))) else (none)) else (none)
end
def locksteplaw28_same.f (k : Nat) (l0 : List (S39)) (l1 : List (S39)) : Option (Bool) := if (l0.length : Int) = (l1.length : Int) then (locksteplaw28_same.l0 k l0 l1 0) else (some false)
theorem locksteplaw28_same.mono_l : ∀ k, (∀ y0 y1 y2, LeO (locksteplaw28_same.l0 k y0 y1 y2) (locksteplaw28_same.l0 (k + 1) y0 y1 y2)) ∧ (∀ y0 y1 y2 y3, LeO (locksteplaw28_same.j1 k y0 y1 y2 y3) (locksteplaw28_same.j1 (k + 1) y0 y1 y2 y3)) ∧ (∀ y0 y1 y2 y3, LeO (locksteplaw28_same.l1 k y0 y1 y2 y3) (locksteplaw28_same.l1 (k + 1) y0 y1 y2 y3))
  | 0 => ⟨fun _ _ _ r h => by simp [locksteplaw28_same.l0] at h, fun _ _ _ _ r h => by simp [locksteplaw28_same.j1] at h, fun _ _ _ _ r h => by simp [locksteplaw28_same.l1] at h⟩
  | k + 1 => by
    obtain ⟨ih0, ih1, ih2⟩ := locksteplaw28_same.mono_l k
    refine ⟨?_, ?_, ?_⟩
    · intro y0 y1 y2
      unfold locksteplaw28_same.l0
      repeat' first
      | (with_reducible exact ih0 _ _ _)
      | (with_reducible exact ih1 _ _ _ _)
      | (with_reducible exact ih2 _ _ _ _)
      | (with_reducible exact LeO.refl _)
      | (with_reducible exact LeO.none _)
      | (with_reducible refine LeO.ite ?_ ?_)
      | (with_reducible refine LeO.bind ?_ (fun _ => ?_))
      | exact ih0 _ _ _
      | exact ih1 _ _ _ _
      | exact ih2 _ _ _ _
      | exact LeO.none _
      | refine LeO.ite ?_ ?_
      | refine LeO.bind ?_ (fun _ => ?_)
    · intro y0 y1 y2 y3
      unfold locksteplaw28_same.j1
      repeat' first
      | (with_reducible exact ih0 _ _ _)
      | (with_reducible exact ih1 _ _ _ _)
      | (with_reducible exact ih2 _ _ _ _)
      | (with_reducible exact LeO.refl _)
      | (with_reducible exact LeO.none _)
      | (with_reducible refine LeO.ite ?_ ?_)
      | (with_reducible refine LeO.bind ?_ (fun _ => ?_))
      | exact ih0 _ _ _
      | exact ih1 _ _ _ _
      | exact ih2 _ _ _ _
      | exact LeO.none _
      | refine LeO.ite ?_ ?_
      | refine LeO.bind ?_ (fun _ => ?_)
    · intro y0 y1 y2 y3
      unfold locksteplaw28_same.l1
      repeat' first
      | (with_reducible exact ih0 _ _ _)
      | (with_reducible exact ih1 _ _ _ _)
      | (with_reducible exact ih2 _ _ _ _)
      | (with_reducible exact LeO.refl _)
      | (with_reducible exact LeO.none _)
      | (with_reducible refine LeO.ite ?_ ?_)
      | (with_reducible refine LeO.bind ?_ (fun _ => ?_))
      | exact ih0 _ _ _
      | exact ih1 _ _ _ _
      | exact ih2 _ _ _ _
      | exact LeO.none _
      | refine LeO.ite ?_ ?_
      | refine LeO.bind ?_ (fun _ => ?_)
theorem locksteplaw28_same.mono : ∀ a0 a1 k, LeO (locksteplaw28_same.f k a0 a1) (locksteplaw28_same.f (k + 1) a0 a1) := by
  intro a0 a1 k
  obtain ⟨ih0, ih1, ih2⟩ := locksteplaw28_same.mono_l k
  unfold locksteplaw28_same.f
  repeat' first
      | (with_reducible exact ih0 _ _ _)
      | (with_reducible exact ih1 _ _ _ _)
      | (with_reducible exact ih2 _ _ _ _)
      | (with_reducible exact LeO.refl _)
      | (with_reducible exact LeO.none _)
      | (with_reducible refine LeO.ite ?_ ?_)
      | (with_reducible refine LeO.bind ?_ (fun _ => ?_))
      | exact ih0 _ _ _
      | exact ih1 _ _ _ _
      | exact ih2 _ _ _ _
      | exact LeO.none _
      | refine LeO.ite ?_ ?_
      | refine LeO.bind ?_ (fun _ => ?_)
set_option maxHeartbeats 8000000 in
set_option maxRecDepth 100000 in
theorem locksteplaw28_same.calls (k : Nat) (A0 : Option Addr) (c0 : Nat) (l0 : List (S39)) (A1 : Option Addr) (c1 : Nat) (l1 : List (S39)) (r : Bool) (w : World) (hr0 : Kd.C k39 w A0 l0.length l0) (hc0 : l0.length ≤ c0) (hr1 : Kd.C k39 w A1 l1.length l1) (hc1 : l1.length ≤ c1) (h : locksteplaw28_same.f k l0 l1 = some r) :
    Calls Try.prog 17 #[.slice A0 l0.length c0, .slice A1 l1.length c1] w fun e w' => e = .returned (.bool r) ∧ Drawn0 w w' := by
  have HR0 := am hr0
  have HC0 := am hc0
  clear hr0 hc0
  have HR1 := am hr1
  have HC1 := am hc1
  clear hr1 hc1
  have H : (if (l0.length : Int) = (l1.length : Int) then (locksteplaw28_same.l0 k l0 l1 0) else (some false)) = some r := h
  clear h
  by_cases c3 : (l0.length : Int) = (l1.length : Int)
  · rw [if_pos c3] at H
    have c3b0 : ((l0.length : Int) == (l1.length : Int)) = true := beq_iff_eq.mpr c3
    have c3b1 : ((l0.length : Int) != (l1.length : Int)) = false := bne_eq_false_iff_eq.mpr c3
    have c3b2 : (l0.length == l1.length) = true := by (simp at c3 ⊢; omega)
    clear c3
    have H' := am H
    clear H
    go_enter Try.func17, Try.ntmps17
    go_wp2
    repeat ((with_reducible refine at_region ?_); go_quiet (fail); try go_wp2)
    go_loopg [5] k (fun kq v5 w' => ∃ (x5_1 : Int), v5 = .int .i64 x5_1 ∧ Aside0 (locksteplaw28_same.l0 kq l0 l1 x5_1 = some r) ∧ Aside0 (kq ≤ k) ∧ Drawn0 w w')
    case atStart => exact ⟨(0), (by rfl), H', ⟨Nat.le_refl _⟩, by exact Drawn0.refl _⟩
    case round =>
      clear H'
      try clear c3b0
      try clear c3b1
      try clear c3b2
      obtain ⟨x5_1, rfl, HA, HK1, ⟨m1, rfl⟩⟩ := hrel
      cases gk with
      | zero => exact absurd HA.out (by simp [locksteplaw28_same.l0])
      | succ k1 =>
        have H := HA.out
        clear HA
        simp only [locksteplaw28_same.l0] at H
        by_cases c4 : x5_1 < (l0.length : Int)
        · rw [if_pos c4] at H
          have c4b0 : decide (x5_1 < (l0.length : Int)) = true := decide_eq_true c4
          clear c4
          have HC5 := am H
          clear H
          go_upto_region 6 with (fail)
          repeat ((with_reducible refine at_region ?_); go_quiet (fail); go_upto_region 6 with (fail))
          go_cut [43] (fun v43 wc => ∃ (kq : Nat) (x43_4 : Bool), v43 = .bool x43_4 ∧ Aside0 (locksteplaw28_same.j1 kq l0 l1 x5_1 x43_4 = some r) ∧ Aside0 (kq ≤ k1) ∧ Drawn0 w wc)
          case first =>
            have H := HC5.out
            clear HC5
            replace H := its H
            obtain ⟨c6, H⟩ := H
            have c6b0 : decide (0 ≤ x5_1) = true := decide_eq_true c6
            clear c6
            (skip)
            replace H := its H
            obtain ⟨c7, H⟩ := H
            have c7b0 : decide (x5_1 < (l1.length : Int)) = true := decide_eq_true c7
            clear c7
            by_cases c8 : ((rd_T39 l0 x5_1).f0) = ((rd_T39 l1 x5_1).f0)
            · rw [if_pos c8] at H
              have c8b0 : (((rd_T39 l0 x5_1).f0) == ((rd_T39 l1 x5_1).f0)) = true := beq_iff_eq.mpr c8
              have c8b1 : (((rd_T39 l0 x5_1).f0) != ((rd_T39 l1 x5_1).f0)) = false := bne_eq_false_iff_eq.mpr c8
              clear c8
              have H' := am H
              clear H
              have p380 : 0 ≤ (x5_1 : Int) := of_decide_eq_true (by (with_reducible assumption))
              have q380 : x5_1 < (l0.length : Int) := of_decide_eq_true (by (with_reducible assumption))
              obtain ⟨ad380, A380_1, c380_1, e380, hx380_0, hx380_1, hl380_1, hi380_1⟩ := at_T39 HR0.out x5_1 p380 q380
              cases e380
              have HR380_1 := am hi380_1
              have HC380_1 := am hl380_1
              clear hi380_1 hl380_1
              replace p380 := eq_true p380
              replace q380 := eq_true q380
              have p381 : 0 ≤ (x5_1 : Int) := of_decide_eq_true (by (with_reducible assumption))
              have q381 : x5_1 < (l1.length : Int) := of_decide_eq_true (by (with_reducible assumption))
              obtain ⟨ad381, A381_1, c381_1, e381, hx381_0, hx381_1, hl381_1, hi381_1⟩ := at_T39 HR1.out x5_1 p381 q381
              cases e381
              have HR381_1 := am hi381_1
              have HC381_1 := am hl381_1
              clear hi381_1 hl381_1
              replace p381 := eq_true p381
              replace q381 := eq_true q381
              have p382 : 0 ≤ (x5_1 : Int) := of_decide_eq_true (by (with_reducible assumption))
              have q382 : x5_1 < (l0.length : Int) := of_decide_eq_true (by (with_reducible assumption))
              obtain ⟨ad382, A382_1, c382_1, e382, hx382_0, hx382_1, hl382_1, hi382_1⟩ := at_T39 HR0.out x5_1 p382 q382
              obtain rfl : ad380 = ad382 := (by injection e382)
              have HR382_1 := am hi382_1
              have HC382_1 := am hl382_1
              clear hi382_1 hl382_1
              replace p382 := eq_true p382
              replace q382 := eq_true q382
              have ea_ := Option.some.inj (hx380_1.symm.trans hx382_1)
              injection ea_ with ea_ en_ ec_
              subst ea_
              subst ec_
              clear en_
              have p383 : 0 ≤ (x5_1 : Int) := of_decide_eq_true (by (with_reducible assumption))
              have q383 : x5_1 < (l1.length : Int) := of_decide_eq_true (by (with_reducible assumption))
              obtain ⟨ad383, A383_1, c383_1, e383, hx383_0, hx383_1, hl383_1, hi383_1⟩ := at_T39 HR1.out x5_1 p383 q383
              obtain rfl : ad381 = ad383 := (by injection e383)
              have HR383_1 := am hi383_1
              have HC383_1 := am hl383_1
              clear hi383_1 hl383_1
              replace p383 := eq_true p383
              replace q383 := eq_true q383
              have ea_ := Option.some.inj (hx381_1.symm.trans hx383_1)
              injection ea_ with ea_ en_ ec_
              subst ea_
              subst ec_
              clear en_
              go_wp2
              repeat ((with_reducible refine at_region ?_); go_quiet (fail); try go_wp2)
              go_meet
              case rel => exact ⟨_, (((((rd_T39 l0 x5_1).f1).length : Int) != (((rd_T39 l1 x5_1).f1).length : Int))), (by with_reducible rfl), H', ⟨by have := HK1.out; omega⟩, by repeat (first | exact Drawn0.refl _ | apply Drawn0.step)⟩
            · rw [if_neg c8] at H
              have c8b0 : (((rd_T39 l0 x5_1).f0) == ((rd_T39 l1 x5_1).f0)) = false := beq_eq_false_iff_ne.mpr c8
              have c8b1 : (((rd_T39 l0 x5_1).f0) != ((rd_T39 l1 x5_1).f0)) = true := bne_iff_ne.mpr c8
              have H' := am H
              clear H
              have p380 : 0 ≤ (x5_1 : Int) := of_decide_eq_true (by (with_reducible assumption))
              have q380 : x5_1 < (l0.length : Int) := of_decide_eq_true (by (with_reducible assumption))
              obtain ⟨ad380, A380_1, c380_1, e380, hx380_0, hx380_1, hl380_1, hi380_1⟩ := at_T39 HR0.out x5_1 p380 q380
              cases e380
              have HR380_1 := am hi380_1
              have HC380_1 := am hl380_1
              clear hi380_1 hl380_1
              replace p380 := eq_true p380
              replace q380 := eq_true q380
              have p381 : 0 ≤ (x5_1 : Int) := of_decide_eq_true (by (with_reducible assumption))
              have q381 : x5_1 < (l1.length : Int) := of_decide_eq_true (by (with_reducible assumption))
              obtain ⟨ad381, A381_1, c381_1, e381, hx381_0, hx381_1, hl381_1, hi381_1⟩ := at_T39 HR1.out x5_1 p381 q381
              cases e381
              have HR381_1 := am hi381_1
              have HC381_1 := am hl381_1
              clear hi381_1 hl381_1
              replace p381 := eq_true p381
              replace q381 := eq_true q381
              go_wp2
              repeat ((with_reducible refine at_region ?_); go_quiet (fail); try go_wp2)
              go_meet
              case rel => exact ⟨_, (true), (by with_reducible rfl), H', ⟨by have := HK1.out; omega⟩, by repeat (first | exact Drawn0.refl _ | apply Drawn0.step)⟩
          case rest =>
            clear HC5
            try clear c4b0
            obtain ⟨kq, x43_4, rfl, HA, HJ4, ⟨mc4, rfl⟩⟩ := hcut
            cases kq with
            | zero => exact absurd HA.out (by simp [locksteplaw28_same.j1])
            | succ kj4 =>
              have H := HA.out
              clear HA
              simp only [locksteplaw28_same.j1] at H
              by_cases c9 : x43_4 = true
              · subst c9
                have H1 : (some false) = some r := by rw [if_pos rfl] at H; exact H
                clear H
                have H := H1
                clear H1
                obtain rfl := Option.some.inj H
                go_wp2
                repeat ((with_reducible refine at_region ?_); go_quiet (fail); try go_wp2)
                go_ret
                exact ⟨by rfl, by repeat (first | exact Drawn0.refl _ | apply Drawn0.step)⟩
              · replace c9 := Bool.eq_false_iff.mpr c9
                subst c9
                have H1 : (locksteplaw28_same.l1 kj4 l0 l1 x5_1 0) = some r := by rw [if_neg (show ¬ (false = true) by decide)] at H; exact H
                clear H
                have H := H1
                clear H1
                have H' := am H
                clear H
                go_wp2
                repeat ((with_reducible refine at_region ?_); go_quiet (fail); try go_wp2)
                go_loopg [6] kj4 (fun kq v6 w' => ∃ (x6_3 : Int), v6 = .int .i64 x6_3 ∧ Aside0 (locksteplaw28_same.l1 kq l0 l1 x5_1 x6_3 = some r) ∧ Aside0 (kq ≤ kj4) ∧ Drawn0 w w')
                case atStart => exact ⟨(0), (by rfl), H', ⟨Nat.le_refl _⟩, by repeat (first | exact Drawn0.refl _ | apply Drawn0.step)⟩
                case round =>
                  clear H'
                  obtain ⟨x6_3, rfl, HA, HK3, ⟨m3, rfl⟩⟩ := hrel
                  cases gk with
                  | zero => exact absurd HA.out (by simp [locksteplaw28_same.l1])
                  | succ k3 =>
                    have H := HA.out
                    clear HA
                    simp only [locksteplaw28_same.l1] at H
                    replace H := its H
                    obtain ⟨c10, H⟩ := H
                    have c10b0 : decide (0 ≤ x5_1) = true := decide_eq_true c10
                    clear c10
                    replace H := its H
                    obtain ⟨c11, H⟩ := H
                    have c11b0 : decide (x5_1 < (l0.length : Int)) = true := decide_eq_true c11
                    clear c11
                    by_cases c12 : x6_3 < (((rd_T39 l0 x5_1).f1).length : Int)
                    · rw [if_pos c12] at H
                      have c12b0 : decide (x6_3 < (((rd_T39 l0 x5_1).f1).length : Int)) = true := decide_eq_true c12
                      clear c12
                      replace H := its H
                      obtain ⟨c13, H⟩ := H
                      have c13b0 : decide (0 ≤ x6_3) = true := decide_eq_true c13
                      clear c13
                      replace H := its H
                      obtain ⟨c14, H⟩ := H
                      have c14b0 : decide (x5_1 < (l1.length : Int)) = true := decide_eq_true c14
                      clear c14
                      replace H := its H
                      obtain ⟨c15, H⟩ := H
                      have c15b0 : decide (x6_3 < (((rd_T39 l1 x5_1).f1).length : Int)) = true := decide_eq_true c15
                      clear c15
                      by_cases c16 : (rd ((rd_T39 l0 x5_1).f1) x6_3) = (rd ((rd_T39 l1 x5_1).f1) x6_3)
                      · rw [if_pos c16] at H
                        have c16b0 : ((rd ((rd_T39 l0 x5_1).f1) x6_3) == (rd ((rd_T39 l1 x5_1).f1) x6_3)) = true := beq_iff_eq.mpr c16
                        have c16b1 : ((rd ((rd_T39 l0 x5_1).f1) x6_3) != (rd ((rd_T39 l1 x5_1).f1) x6_3)) = false := bne_eq_false_iff_eq.mpr c16
                        clear c16
                        have H' := am H
                        clear H
                        have p384 : 0 ≤ (x5_1 : Int) := of_decide_eq_true (by (with_reducible assumption))
                        have q384 : x5_1 < (l0.length : Int) := of_decide_eq_true (by (with_reducible assumption))
                        obtain ⟨ad384, A384_1, c384_1, e384, hx384_0, hx384_1, hl384_1, hi384_1⟩ := at_T39 HR0.out x5_1 p384 q384
                        cases e384
                        have HR384_1 := am hi384_1
                        have HC384_1 := am hl384_1
                        clear hi384_1 hl384_1
                        replace p384 := eq_true p384
                        replace q384 := eq_true q384
                        have p385 : 0 ≤ (x5_1 : Int) := of_decide_eq_true (by (with_reducible assumption))
                        have q385 : x5_1 < (l0.length : Int) := of_decide_eq_true (by (with_reducible assumption))
                        obtain ⟨ad385, A385_1, c385_1, e385, hx385_0, hx385_1, hl385_1, hi385_1⟩ := at_T39 HR0.out x5_1 p385 q385
                        obtain rfl : ad384 = ad385 := (by injection e385)
                        have HR385_1 := am hi385_1
                        have HC385_1 := am hl385_1
                        clear hi385_1 hl385_1
                        replace p385 := eq_true p385
                        replace q385 := eq_true q385
                        have ea_ := Option.some.inj (hx384_1.symm.trans hx385_1)
                        injection ea_ with ea_ en_ ec_
                        subst ea_
                        subst ec_
                        clear en_
                        have p386 : 0 ≤ (x6_3 : Int) := of_decide_eq_true (by (with_reducible assumption))
                        have q386 : x6_3 < (((rd_T39 l0 x5_1).f1).length : Int) := of_decide_eq_true (by (with_reducible assumption))
                        obtain ⟨ad386, e386, hx386_0⟩ := Kd.at_int HR385_1.out x6_3 p386 q386
                        cases e386
                        replace p386 := eq_true p386
                        replace q386 := eq_true q386
                        have p387 : 0 ≤ (x5_1 : Int) := of_decide_eq_true (by (with_reducible assumption))
                        have q387 : x5_1 < (l1.length : Int) := of_decide_eq_true (by (with_reducible assumption))
                        obtain ⟨ad387, A387_1, c387_1, e387, hx387_0, hx387_1, hl387_1, hi387_1⟩ := at_T39 HR1.out x5_1 p387 q387
                        cases e387
                        have HR387_1 := am hi387_1
                        have HC387_1 := am hl387_1
                        clear hi387_1 hl387_1
                        replace p387 := eq_true p387
                        replace q387 := eq_true q387
                        have p388 : 0 ≤ (x6_3 : Int) := of_decide_eq_true (by (with_reducible assumption))
                        have q388 : x6_3 < (((rd_T39 l1 x5_1).f1).length : Int) := of_decide_eq_true (by (with_reducible assumption))
                        obtain ⟨ad388, e388, hx388_0⟩ := Kd.at_int HR387_1.out x6_3 p388 q388
                        cases e388
                        replace p388 := eq_true p388
                        replace q388 := eq_true q388
                        go_wp2
                        repeat ((with_reducible refine at_region ?_); go_quiet (fail); try go_wp2)
                        go_roundg k3
                        case measure => have := HK1.out; have := HJ4.out; have := HK3.out; omega
                        case rel => exact ⟨(wrap64 (x6_3 + 1)), (by rfl), H', ⟨by have := HK1.out; have := HJ4.out; have := HK3.out; omega⟩, by repeat (first | exact Drawn0.refl _ | apply Drawn0.step)⟩
                      · rw [if_neg c16] at H
                        have c16b0 : ((rd ((rd_T39 l0 x5_1).f1) x6_3) == (rd ((rd_T39 l1 x5_1).f1) x6_3)) = false := beq_eq_false_iff_ne.mpr c16
                        have c16b1 : ((rd ((rd_T39 l0 x5_1).f1) x6_3) != (rd ((rd_T39 l1 x5_1).f1) x6_3)) = true := bne_iff_ne.mpr c16
                        obtain rfl := Option.some.inj H
                        have p384 : 0 ≤ (x5_1 : Int) := of_decide_eq_true (by (with_reducible assumption))
                        have q384 : x5_1 < (l0.length : Int) := of_decide_eq_true (by (with_reducible assumption))
                        obtain ⟨ad384, A384_1, c384_1, e384, hx384_0, hx384_1, hl384_1, hi384_1⟩ := at_T39 HR0.out x5_1 p384 q384
                        cases e384
                        have HR384_1 := am hi384_1
                        have HC384_1 := am hl384_1
                        clear hi384_1 hl384_1
                        replace p384 := eq_true p384
                        replace q384 := eq_true q384
                        have p385 : 0 ≤ (x5_1 : Int) := of_decide_eq_true (by (with_reducible assumption))
                        have q385 : x5_1 < (l0.length : Int) := of_decide_eq_true (by (with_reducible assumption))
                        obtain ⟨ad385, A385_1, c385_1, e385, hx385_0, hx385_1, hl385_1, hi385_1⟩ := at_T39 HR0.out x5_1 p385 q385
                        obtain rfl : ad384 = ad385 := (by injection e385)
                        have HR385_1 := am hi385_1
                        have HC385_1 := am hl385_1
                        clear hi385_1 hl385_1
                        replace p385 := eq_true p385
                        replace q385 := eq_true q385
                        have ea_ := Option.some.inj (hx384_1.symm.trans hx385_1)
                        injection ea_ with ea_ en_ ec_
                        subst ea_
                        subst ec_
                        clear en_
                        have p386 : 0 ≤ (x6_3 : Int) := of_decide_eq_true (by (with_reducible assumption))
                        have q386 : x6_3 < (((rd_T39 l0 x5_1).f1).length : Int) := of_decide_eq_true (by (with_reducible assumption))
                        obtain ⟨ad386, e386, hx386_0⟩ := Kd.at_int HR385_1.out x6_3 p386 q386
                        cases e386
                        replace p386 := eq_true p386
                        replace q386 := eq_true q386
                        have p387 : 0 ≤ (x5_1 : Int) := of_decide_eq_true (by (with_reducible assumption))
                        have q387 : x5_1 < (l1.length : Int) := of_decide_eq_true (by (with_reducible assumption))
                        obtain ⟨ad387, A387_1, c387_1, e387, hx387_0, hx387_1, hl387_1, hi387_1⟩ := at_T39 HR1.out x5_1 p387 q387
                        cases e387
                        have HR387_1 := am hi387_1
                        have HC387_1 := am hl387_1
                        clear hi387_1 hl387_1
                        replace p387 := eq_true p387
                        replace q387 := eq_true q387
                        have p388 : 0 ≤ (x6_3 : Int) := of_decide_eq_true (by (with_reducible assumption))
                        have q388 : x6_3 < (((rd_T39 l1 x5_1).f1).length : Int) := of_decide_eq_true (by (with_reducible assumption))
                        obtain ⟨ad388, e388, hx388_0⟩ := Kd.at_int HR387_1.out x6_3 p388 q388
                        cases e388
                        replace p388 := eq_true p388
                        replace q388 := eq_true q388
                        go_wp2
                        repeat ((with_reducible refine at_region ?_); go_quiet (fail); try go_wp2)
                        go_ret
                        exact ⟨by rfl, by repeat (first | exact Drawn0.refl _ | apply Drawn0.step)⟩
                    · rw [if_neg c12] at H
                      have c12b0 : decide (x6_3 < (((rd_T39 l0 x5_1).f1).length : Int)) = false := decide_eq_false c12
                      clear c12
                      have H' := am H
                      clear H
                      have p384 : 0 ≤ (x5_1 : Int) := of_decide_eq_true (by (with_reducible assumption))
                      have q384 : x5_1 < (l0.length : Int) := of_decide_eq_true (by (with_reducible assumption))
                      obtain ⟨ad384, A384_1, c384_1, e384, hx384_0, hx384_1, hl384_1, hi384_1⟩ := at_T39 HR0.out x5_1 p384 q384
                      cases e384
                      have HR384_1 := am hi384_1
                      have HC384_1 := am hl384_1
                      clear hi384_1 hl384_1
                      replace p384 := eq_true p384
                      replace q384 := eq_true q384
                      go_wp2
                      repeat ((with_reducible refine at_region ?_); go_quiet (fail); try go_wp2)
                      go_roundg k3
                      case measure => have := HK1.out; have := HJ4.out; have := HK3.out; omega
                      case rel => exact ⟨(wrap64 (x5_1 + 1)), (by rfl), H', ⟨by have := HK1.out; have := HJ4.out; have := HK3.out; omega⟩, by repeat (first | exact Drawn0.refl _ | apply Drawn0.step)⟩
        · rw [if_neg c4] at H
          have c4b0 : decide (x5_1 < (l0.length : Int)) = false := decide_eq_false c4
          clear c4
          obtain rfl := Option.some.inj H
          go_wp2
          repeat ((with_reducible refine at_region ?_); go_quiet (fail); try go_wp2)
          go_ret
          exact ⟨by rfl, by repeat (first | exact Drawn0.refl _ | apply Drawn0.step)⟩
  · rw [if_neg c3] at H
    have c3b0 : ((l0.length : Int) == (l1.length : Int)) = false := beq_eq_false_iff_ne.mpr c3
    have c3b1 : ((l0.length : Int) != (l1.length : Int)) = true := bne_iff_ne.mpr c3
    have c3b2 : (l0.length == l1.length) = false := by (simp at c3 ⊢; omega)
    obtain rfl := Option.some.inj H
    go_enter Try.func17, Try.ntmps17
    go_wp2
    repeat ((with_reducible refine at_region ?_); go_quiet (fail); try go_wp2)
    go_ret
    exact ⟨by rfl, by exact Drawn0.refl _⟩
end Go.Proofs.Ytkkocmmilmbgpaa.S
end
section
namespace Go.Proofs.Ytkkocmmilmbgpaa.S
open Go.RowKit Go.Proofs.YtkkocmmilmbgpaaW.PrintWords
set_option linter.unusedVariables false
set_option linter.unusedSimpArgs false
namespace Nf
open Mg Sym
def badB (e : Int) : Bool := decide (e < 0) || decide (e > 64)
theorem can1 (e : Int) : cost_can_1.f e = some (badB e) := by
  unfold cost_can_1.f badB
  by_cases h : e < 0
  · rw [if_pos h, decide_eq_true h]; rfl
  · rw [if_neg h, decide_eq_false h]; rfl
theorem rdI (P : List Int) (t : Int) (ts : List Int) : rd (P ++ t :: ts) ((P.length : Nat) : Int) = t := by
  unfold rd
  rw [Int.toNat_natCast, List.getD_eq_getElem?_getD, List.getElem?_append_right (Nat.le_refl _), Nat.sub_self]
  rfl
theorem has_l0 (a : List Int) (hl : a.length < 1000000) : ∀ (ts P : List Int), a = P ++ ts → ∀ k, ts.length + 1 ≤ k → ∃ r, slices_IndexFunc_int_int_of_cost_can_1.l0 k a (a.length : Int) (P.length : Int) = some r ∧ decide (r ≥ 0) = ts.any badB
  | [], P, hP, 0, hk => by omega
  | [], P, hP, k + 1, hk => by
    rw [List.append_nil] at hP
    subst hP
    exact ⟨-1, by rw [slices_IndexFunc_int_int_of_cost_can_1.l0, if_neg (by omega)], rfl⟩
  | t :: ts, P, hP, 0, hk => by omega
  | t :: ts, P, hP, k + 1, hk => by
    have hTl : a.length = P.length + (ts.length + 1) := by rw [hP]; simp
    have hr1 : rd a (P.length : Int) = t := by rw [hP]; exact rdI P t ts
    have hP2 : a = (P ++ [t]) ++ ts := by rw [hP]; simp
    have hql : ((P.length + 1 : Nat) : Int) = ((P ++ [t]).length : Int) := by simp
    rw [slices_IndexFunc_int_int_of_cost_can_1.l0, if_pos (by omega), if_pos (by omega), if_pos (by omega), hr1, can1, Option.bind_some, wsucc _ (by omega), hql]
    cases hb : badB t with
    | true => exact ⟨_, if_pos rfl, by rw [List.any_cons, hb]; simp⟩
    | false =>
      rw [if_neg (by decide)]
      obtain ⟨r, h1, h2⟩ := has_l0 a hl ts (P ++ [t]) hP2 k (by simp only [List.length_cons] at hk; omega)
      exact ⟨r, h1, by rw [h2, List.any_cons, hb]; rfl⟩
theorem has_eq (a : List Int) (hl : a.length < 1000000) (k : Nat) (hk : a.length + 1 ≤ k) : slices_ContainsFunc_int_int_of_cost_can_1.f k a = some (a.any badB) := by
  unfold slices_ContainsFunc_int_int_of_cost_can_1.f slices_IndexFunc_int_int_of_cost_can_1.f
  obtain ⟨r, h1, h2⟩ := has_l0 a hl a [] rfl k hk
  rw [show ((([] : List Int).length : Nat) : Int) = 0 from rfl] at h1
  rw [h1, Option.bind_some, h2]
def okB (t : S39) : Bool := decide (t.f1.length ≤ 256) && !(t.f1.any badB)
def canV (l : List S39) : Int := if l.length > 4096 then 2 else if l.all okB then 0 else 1
theorem can_l0 (T : List S39) (hT : T.length < 1000000) : ∀ (ts P : List S39), T = P ++ ts → ∀ k, ts.length + 300 ≤ k → cost_can.l0 k T (T.length : Int) (P.length : Int) = some (if ts.all okB then 0 else 1)
  | [], P, hP, 0, hk => by omega
  | [], P, hP, k + 1, hk => by
    rw [List.append_nil] at hP
    subst hP
    rw [cost_can.l0, if_neg (by omega)]
    rfl
  | t :: ts, P, hP, 0, hk => by omega
  | t :: ts, P, hP, k + 1, hk => by
    have hTl : T.length = P.length + (ts.length + 1) := by rw [hP]; simp
    have hr1 : rd_T39 T (P.length : Int) = t := by rw [hP]; exact rdT P t ts
    have hP2 : T = (P ++ [t]) ++ ts := by rw [hP]; simp
    have hql : ((P.length + 1 : Nat) : Int) = ((P ++ [t]).length : Int) := by simp
    rw [List.length_cons] at hk
    rw [cost_can.l0, if_pos (by omega), if_pos (by omega), if_pos (by omega), hr1, wsucc _ (by omega), hql, List.all_cons]
    by_cases h1 : (t.f1.length : Int) > 256
    · rw [if_pos h1, show okB t = false by unfold okB; rw [decide_eq_false (by omega)]; rfl]
      rfl
    · rw [if_neg h1, has_eq _ (by omega) k (by omega), Option.bind_some]
      cases hb : t.f1.any badB with
      | true => rw [if_pos rfl, show okB t = false by unfold okB; rw [hb]; simp]; rfl
      | false =>
        rw [if_neg (by decide), show okB t = true by unfold okB; rw [hb, decide_eq_true (by omega)]; rfl, can_l0 T hT ts (P ++ [t]) hP2 k (by omega)]
        rfl
theorem can_eq (T : List S39) (k : Nat) (hk : T.length + 300 ≤ k) : cost_can.f k T = some (canV T) := by
  unfold cost_can.f canV
  by_cases h : (T.length : Int) > 4096
  · rw [if_pos h, if_pos (by omega)]
  · rw [if_neg h, if_neg (by omega)]
    exact can_l0 T (by omega) T [] rfl k hk
theorem both_eq (a b : List S39) (k : Nat) (hk : a.length + b.length + 300 ≤ k) : cost_both.f k a b = some (if canV a = 0 then canV b else canV a) := by
  unfold cost_both.f
  rw [can_eq a k (by omega), Option.bind_some]
  by_cases h : canV a = 0
  · rw [if_pos h, if_pos h, can_eq b k (by omega)]; rfl
  · rw [if_neg h, if_neg h]
theorem can_ok {l : List S39} (h : canV l = 0) : l.length ≤ 4096 ∧ ∀ x ∈ l, x.f1.length ≤ 256 ∧ ∀ e ∈ x.f1, 0 ≤ e ∧ e ≤ 64 := by
  unfold canV at h
  by_cases h1 : l.length > 4096
  · rw [if_pos h1] at h; cases h
  · rw [if_neg h1] at h
    by_cases h2 : l.all okB = true
    · refine ⟨by omega, fun x hx => ?_⟩
      have h3 := List.all_eq_true.1 h2 x hx
      unfold okB at h3
      simp only [Bool.and_eq_true, decide_eq_true_eq, Bool.not_eq_true'] at h3
      refine ⟨h3.1, fun e he => ?_⟩
      have h4 := List.any_eq_false.1 h3.2 e he
      unfold badB at h4
      simp only [Bool.or_eq_true, decide_eq_true_eq, not_or] at h4
      omega
    · rw [if_neg h2] at h; cases h
theorem can_of {l : List S39} (h1 : l.length ≤ 4096) (h2 : ∀ x ∈ l, x.f1.length ≤ 256 ∧ ∀ e ∈ x.f1, 0 ≤ e ∧ e ≤ 64) : canV l = 0 := by
  unfold canV
  rw [if_neg (by omega), if_pos]
  refine List.all_eq_true.2 (fun x hx => ?_)
  unfold okB
  rw [decide_eq_true (h2 x hx).1, Bool.true_and, Bool.not_eq_true', List.any_eq_false]
  intro e he
  have := (h2 x hx).2 e he
  unfold badB
  simp only [Bool.or_eq_true, decide_eq_true_eq, not_or]
  omega
def U (x : Int) : Prop := 0 ≤ x ∧ x ≤ 18446744073709551615
theorem ok_of_can {l : List S39} (h : canV l = 0) (hu : ∀ x ∈ l, U x.f0) : ∀ x ∈ l, okA x := fun x hx => ⟨⟨((can_ok h).2 x hx).1, fun e he => by have := ((can_ok h).2 x hx).2 e he; omega⟩, hu x hx⟩
theorem cat_eq (a b : List S39) (h : a.length + b.length < 1000000000) (k : Nat) (hk : 8 ≤ k) : api_Term_29.f k [a, b] = some (a ++ b) := by
  obtain ⟨k, rfl⟩ : ∃ j, k = j + 8 := ⟨k - 8, by omega⟩
  have r0 : rd_L4 [a, b] 0 = a := rfl
  have r1 : rd_L4 [a, b] 1 = b := rfl
  have w0 : wrap64 (0 + (a.length : Int)) = (a.length : Int) := by unfold wrap64; omega
  have w1 : wrap64 ((a.length : Int) + (b.length : Int)) = ((a.length + b.length : Nat) : Int) := by unfold wrap64; omega
  have v0 : wrap64 (0 + 1) = 1 := by unfold wrap64; omega
  have v1 : wrap64 (1 + 1) = 2 := by unfold wrap64; omega
  have hl : (([a, b].length : Nat) : Int) = 2 := rfl
  unfold api_Term_29.f
  rw [api_Term_29.l0, hl, if_pos (by omega), if_pos (by omega), if_pos (by omega), r0, w0, if_neg (by omega), v0]
  rw [api_Term_29.l0, hl, if_pos (by omega), if_pos (by omega), if_pos (by omega), r1, w1, if_neg (by omega), v1]
  rw [api_Term_29.l0, if_neg (by omega), api_Term_45.f, if_pos (by omega), Option.bind_some, hl]
  rw [api_Term_29.l1, hl, if_pos (by omega), if_pos (by omega), if_pos (by omega), r0, if_pos (by simp; omega), v0]
  rw [api_Term_29.l1, hl, if_pos (by omega), if_pos (by omega), if_pos (by omega), r1, if_pos (by simp; omega), v1]
  rw [api_Term_29.l1, if_neg (by omega), List.nil_append]
theorem own_l0 (T : List S39) (hT : T.length < 1000000000) (hf : ∀ x ∈ T, x.f1.length < 1000000000) : ∀ (ts P : List S39), T = P ++ ts → ∀ k, ts.length + 1 ≤ k → locksteplaw28_own.l0 k T P (P.length : Int) = some T
  | [], P, hP, 0, hk => by omega
  | [], P, hP, k + 1, hk => by
    rw [List.append_nil] at hP
    subst hP
    rw [locksteplaw28_own.l0, if_neg (by omega)]
  | t :: ts, P, hP, 0, hk => by omega
  | t :: ts, P, hP, k + 1, hk => by
    have hTl : T.length = P.length + (ts.length + 1) := by rw [hP]; simp
    have hr1 : rd_T39 T (P.length : Int) = t := by rw [hP]; exact rdT P t ts
    have hP2 : T = (P ++ [t]) ++ ts := by rw [hP]; simp
    have hql : ((P.length + 1 : Nat) : Int) = ((P ++ [t]).length : Int) := by simp
    have ht := hf t (by rw [hP]; simp)
    have hw : wrap64 ((t.f1.length : Int) + 1) = ((t.f1.length + 1 : Nat) : Int) := wsucc _ (by omega)
    rw [List.length_cons] at hk
    rw [locksteplaw28_own.l0, if_pos (by omega), if_pos (by omega), hr1, hw, if_pos (by omega), if_pos (by omega), Option.bind_some, if_pos (by simp; omega), if_pos (by omega), wsucc _ (by omega), hql, List.nil_append]
    exact own_l0 T hT hf ts (P ++ [t]) hP2 k (by omega)
theorem own_eq (T : List S39) (hT : T.length < 1000000000) (hf : ∀ x ∈ T, x.f1.length < 1000000000) (k : Nat) (hk : T.length + 1 ≤ k) : locksteplaw28_own.f k T = some T := by
  unfold locksteplaw28_own.f
  rw [wsucc _ (by omega), if_pos (by omega), if_pos (by omega)]
  exact own_l0 T hT hf T [] rfl k hk
theorem same_l1 (T : List S39) (hT : T.length < 1000000000) (i : Nat) (t : S39) (hi : i < T.length) (hr : rd_T39 T (i : Int) = t) (ht : t.f1.length < 1000000000) (K : Nat) (hK : ∀ k, K ≤ k → locksteplaw28_same.l0 k T T (wrap64 ((i : Int) + 1)) = some true) :
    ∀ (d j : Nat), j + d = t.f1.length → ∀ k, K + d + 1 ≤ k → locksteplaw28_same.l1 k T T (i : Int) (j : Int) = some true
  | d, j, h, 0, hk => by omega
  | 0, j, h, k + 1, hk => by
    rw [locksteplaw28_same.l1, if_pos (by omega), if_pos (by omega), hr, if_neg (by omega)]
    exact hK k (by omega)
  | d + 1, j, h, k + 1, hk => by
    rw [locksteplaw28_same.l1, if_pos (by omega), if_pos (by omega), hr, if_pos (by omega), if_pos (by omega), if_pos (by omega), if_pos (by omega), if_pos rfl, wsucc _ (by omega)]
    exact same_l1 T hT i t hi hr ht K hK d (j + 1) (by omega) k (by omega)
theorem same_l0 (T : List S39) (hT : T.length < 1000000000) (hf : ∀ x ∈ T, x.f1.length < 1000000000) : ∀ (ts P : List S39), T = P ++ ts → ∃ K, ∀ k, K ≤ k → locksteplaw28_same.l0 k T T (P.length : Int) = some true
  | [], P, hP => ⟨1, fun k hk => by
    obtain ⟨k, rfl⟩ : ∃ j, k = j + 1 := ⟨k - 1, by omega⟩
    rw [List.append_nil] at hP
    subst hP
    rw [locksteplaw28_same.l0, if_neg (by omega)]⟩
  | t :: ts, P, hP => by
    have hTl : T.length = P.length + (ts.length + 1) := by rw [hP]; simp
    have hr1 : rd_T39 T (P.length : Int) = t := by rw [hP]; exact rdT P t ts
    have hP2 : T = (P ++ [t]) ++ ts := by rw [hP]; simp
    have hql : ((P.length + 1 : Nat) : Int) = ((P ++ [t]).length : Int) := by simp
    have ht := hf t (by rw [hP]; simp)
    obtain ⟨K, hK⟩ := same_l0 T hT hf ts (P ++ [t]) hP2
    refine ⟨K + t.f1.length + 3, fun k hk => ?_⟩
    obtain ⟨k, rfl⟩ : ∃ j, k = j + 2 := ⟨k - 2, by omega⟩
    rw [locksteplaw28_same.l0, if_pos (by omega), if_pos (by omega), if_pos (by omega), if_pos rfl, locksteplaw28_same.j1, if_neg (by simp)]
    exact same_l1 T hT P.length t (by omega) hr1 ht K (fun k hk => by rw [wsucc _ (by omega), hql]; exact hK k hk) t.f1.length 0 (by omega) k (by omega)
theorem same_eq (T : List S39) (hT : T.length < 1000000000) (hf : ∀ x ∈ T, x.f1.length < 1000000000) : ∃ K, ∀ k, K ≤ k → locksteplaw28_same.f k T T = some true := by
  obtain ⟨K, hK⟩ := same_l0 T hT hf T [] rfl
  refine ⟨K, fun k hk => ?_⟩
  unfold locksteplaw28_same.f
  rw [if_pos rfl]
  exact hK k hk
theorem add_eq (a b : List S39) (ha : canV a = 0) (hb : canV b = 0) (ua : ∀ x ∈ a, U x.f0) (ub : ∀ x ∈ b, U x.f0) : ∃ K, ∀ k, K ≤ k → cost_Add.f k a b = some (nf (a ++ b), 0) := by
  have la := (can_ok ha).1
  have lb := (can_ok hb).1
  obtain ⟨K, hK⟩ := normal_eq (a ++ b) (by rw [List.length_append]; omega) (fun x hx => (List.mem_append.1 hx).elim (ok_of_can ha ua x) (ok_of_can hb ub x))
  refine ⟨K + 10000, fun k hk => ?_⟩
  unfold cost_Add.f
  rw [both_eq a b k (by omega), Option.bind_some, if_pos ha, if_pos hb, cat_eq a b (by omega) k (by omega), Option.bind_some, hK k (by omega)]
  rfl
theorem Normal_eq (a : List S39) (ha : canV a = 0) (ua : ∀ x ∈ a, U x.f0) : ∃ K, ∀ k, K ≤ k → cost_Normal.f k a = some (nf a, 0) := by
  have la := (can_ok ha).1
  obtain ⟨K, hK⟩ := normal_eq a (by omega) (ok_of_can ha ua)
  refine ⟨K + 10000, fun k hk => ?_⟩
  unfold cost_Normal.f
  rw [can_eq a k (by omega), Option.bind_some, if_pos ha, hK k (by omega)]
  rfl
end Nf
end Go.Proofs.Ytkkocmmilmbgpaa.S
end
section
namespace Go.Proofs.Ytkkocmmilmbgpaa.S
open Go.RowKit Go.Proofs.YtkkocmmilmbgpaaW.PrintWords Go.Proofs.YtkkocmmilmbgpaaW.PrintLast Go.Proofs.YtkkocmmilmbgpaaW.PrintMore
set_option linter.unusedVariables false
def cpy (d s : List Int) : List Int := s.take (min s.length d.length) ++ d.drop (min s.length d.length)
def N2 {α β : Type} (d : Kd α) (e : Nat) (W : World) (base : Nat) (ok : Nat → Prop) (v : Value) (xs : List α) (d2 : Kd β) (e2 : Nat) (v2 : Value) (xs2 : List β) : Prop := Kd.N d e W base ok v xs ∧ Kd.V d2 e2 W base ok v2 xs2
section
variable {α β : Type} {d : Kd α} {e base : Nat} {ok ok' : Nat → Prop} {W w1 : World} {u v v1 v0 : Value} {xs : List α} {d2 : Kd β} {e2 : Nat} {v2 : Value} {xs2 : List β}
theorem N2_elder' (h : N2 d e W base ok v xs d2 e2 v2 xs2) (hbase : ∀ k, u.ownBlock = some k → W.heap.size ≤ k) (hb : Below W.heap.size W w1) : N2 d e w1 base (fun k => ok k ∧ some k ≠ u.ownBlock) v xs d2 e2 v2 xs2 := ⟨Kd.N_elder' h.1 hbase hb, Kd.V_elder' h.2 hbase hb⟩
theorem N2_below (h : N2 d e W base ok v xs d2 e2 v2 xs2) (hb : Below W.heap.size W w1) : N2 d e w1 base ok v xs d2 e2 v2 xs2 := ⟨Kd.N_below h.1 hb, Kd.V_below h.2 hb⟩
theorem N2_elderB (h : N2 d e W base ok v xs d2 e2 v2 xs2) (a : Nat) (ha : W.heap.size ≤ a) : N2 d e W base (fun k => ok k ∧ k ≠ a) v xs d2 e2 v2 xs2 := ⟨Kd.N_elderB h.1 a ha, Kd.V_elderB h.2 a ha⟩
theorem N2_afterv (h : N2 d e W base (fun k => ok k ∧ some k ≠ v.ownBlock) u xs d2 e2 v2 xs2) (hg : W.grownBy w1 v.ownBlock) (hat : v1.ownBlock = v.ownBlock ∨ ∃ b, v1.ownBlock = some b ∧ W.heap.size ≤ b) :
    N2 d e w1 base (fun k => ok k ∧ some k ≠ v1.ownBlock) u xs d2 e2 v2 xs2 := ⟨Kd.N_afterv h.1 hg hat, Kd.V_afterv h.2 hg hat⟩
theorem N2_mono (h : N2 d e W base ok v xs d2 e2 v2 xs2) (hok : ∀ k, ok k → ok' k) : N2 d e W base ok' v xs d2 e2 v2 xs2 := ⟨Kd.N_mono h.1 hok, Kd.V_mono h.2 hok⟩
theorem N2_far (h : N2 d e W base ok v xs d2 e2 v2 xs2) {p : Addr} (hok : ∀ k, ok k → k ≠ p.block) (u : Value) : N2 d e (W.setCell p u) base ok v xs d2 e2 v2 xs2 := ⟨Kd.N_far h.1 hok u, Kd.V_far h.2 hok u⟩
theorem N2_drew (h : N2 d e W base ok v xs d2 e2 v2 xs2) : N2 d e W.drew base ok v xs d2 e2 v2 xs2 := ⟨Kd.N_drew h.1, Kd.V_drew h.2⟩
theorem N2_drewN (h : N2 d e W base ok v xs d2 e2 v2 xs2) (m : Nat) : N2 d e (W.drewN m) base ok v xs d2 e2 v2 xs2 := ⟨Kd.N_drewN h.1 m, Kd.V_drewN h.2 m⟩
theorem N2_alloc (h : N2 d e W base ok v xs d2 e2 v2 xs2) (o : Obj) : N2 d e (W.alloc o) base ok v xs d2 e2 v2 xs2 := ⟨Kd.N_alloc h.1 o, Kd.V_alloc h.2 o⟩
theorem N2_grown (h : N2 d e W base ok v xs d2 e2 v2 xs2) {row : Option Nat} (hg : W.grownBy w1 row) (hok : ∀ k, ok k → some k ≠ row) : N2 d e w1 base ok v xs d2 e2 v2 xs2 := ⟨Kd.N_grown h.1 hg hok, Kd.V_grown h.2 hg hok⟩
theorem N2_lt (h : N2 d e W base ok v xs d2 e2 v2 xs2) : ∀ k, v.ownBlock = some k → k < W.heap.size := Kd.N_lt h.1
theorem N2_C {A : Option Addr} {n c : Nat} (h : N2 d e W base ok v xs d2 e2 (.slice A n c) xs2) : d2.C W A xs2.length xs2 := by
  obtain ⟨A', c', he, hl, hf⟩ := h.2
  injection he with h1 h2 h3
  subst h1
  exact Kd.F_now hf
theorem blk_grownA {g : Nat} {o : Obj} (h : W.heap[g]? = some o) {row : Option Nat} (hg : W.grownBy w1 row) (hne : some g ≠ row) : w1.heap[g]? = some o := by
  rw [hg.block g (Array.getElem?_eq_some_iff.1 h).1 hne]; exact h
theorem blk_grownR {g t : Nat} {cells : Array Value} (h : W.heap[g]? = some (.cells cells t (0, 0))) (hg : W.grownBy w1 v.ownBlock) (hr : Kd.R d e W base ok v xs) (ht : e ≠ t) : w1.heap[g]? = some (.cells cells t (0, 0)) :=
  blk_grownA h hg (Kd.R_ne hr h ht)
end
theorem copy64 {rest : List Oper} {opsA : Array Oper} {o : Oper} {a : Act} {Q : Exit → Act → World → Prop} {w0 W : World} (base : Nat) (hgd : o.guard = none) (s x : Operand) (ho : o.op = .call { callee := .builtin .copy, args := #[s, x], argTypes := #[37, 37] })
    (v : Value) (xs ys : List Int) (A : Option Addr) (m c : Nat) (ok : Nat → Prop) (hs : a.eval s = v) (hx : a.eval x = .slice A m c)
    (HO : Kd.R (Kd.int .i64) 3 W base ok v xs) (HR : Kd.C (Kd.int .i64) W A m ys) (HB : Below base w0 W) (hbase : base ≤ W.heap.size)
    (h : ∀ w1, Kd.R (Kd.int .i64) 3 w1 base ok v (ys.take (min m xs.length) ++ xs.drop (min m xs.length)) → Below base w0 w1 → W.grownBy w1 v.ownBlock → wpList Try.prog opsA Q rest (a.put o.dst (.int .i64 ((min m xs.length : Nat) : Int))) w1) :
    wpList Try.prog opsA Q (o :: rest) a W :=
  Kd.R_copy (enc := Value.int .i64) (h1 := fun _ => rfl) (0 : Int) base hgd s x 37 37 3 ho Try.underlying37 (by kernel_rfl) v xs ys A m c ok hs hx HO HR HB hbase h
end Go.Proofs.Ytkkocmmilmbgpaa.S
end
section
namespace Go.Proofs.Ytkkocmmilmbgpaa.S
open Go.RowKit Go.Proofs.YtkkocmmilmbgpaaW.PrintWords Go.Proofs.YtkkocmmilmbgpaaW.PrintLast Go.Proofs.YtkkocmmilmbgpaaW.PrintMore
attribute [local go_sem] max2_int min2_int max_two min_two max_three min_three max_four min_four
set_option linter.unusedVariables false
set_option linter.unusedSimpArgs false
def cost_Times_1.f (a0 : Int) : Option (Bool) := some (decide (a0 > 64))
set_option maxHeartbeats 8000000 in
set_option maxRecDepth 100000 in
theorem cost_Times_1.calls (a0 : Int) (r : Bool) (w : World) (h : cost_Times_1.f a0 = some r) :
    Calls Try.prog 32 #[.int .i64 a0] w fun e w' => e = .returned (.bool r) ∧ Drawn0 w w' := by
  have H : (some (decide (a0 > 64))) = some r := h
  clear h
  obtain rfl := Option.some.inj H
  go_enter Try.func32, Try.ntmps32
  go_wp2
  go_ret
  exact ⟨by first | rfl | (simp; done) | (simp [*]; done), by repeat (first | exact Drawn0.refl _ | apply Drawn0.step)⟩
end Go.Proofs.Ytkkocmmilmbgpaa.S
end
section
namespace Go.Proofs.Ytkkocmmilmbgpaa.S
open Go.RowKit Go.Proofs.YtkkocmmilmbgpaaW.PrintWords Go.Proofs.YtkkocmmilmbgpaaW.PrintLast Go.Proofs.YtkkocmmilmbgpaaW.PrintMore
attribute [local go_sem] max2_int min2_int max_two min_two max_three min_three max_four min_four
set_option linter.unusedVariables false
set_option linter.unusedSimpArgs false
def slices_IndexFunc_int_int_of_cost_Times_1.l0 : Nat → List Int → Int → Int → Option (Int)
  | 0, _, _, _ => none
  | k + 1, x0, x7, x8 => if x8 < x7 then (if 0 ≤ x8 then (if x8 < (x0.length : Int) then ((cost_Times_1.f (rd x0 x8)).bind fun t148 => (if t148 = true then (some x8) else (slices_IndexFunc_int_int_of_cost_Times_1.l0 k x0 x7 (wrap64 (x8 + 1))))) else (none)) else (none)) else (some (-1))
def slices_IndexFunc_int_int_of_cost_Times_1.f (k : Nat) (l0 : List Int)  : Option (Int) := slices_IndexFunc_int_int_of_cost_Times_1.l0 k l0 (l0.length : Int) 0
theorem slices_IndexFunc_int_int_of_cost_Times_1.mono_l : ∀ k, (∀ y0 y1 y2, LeO (slices_IndexFunc_int_int_of_cost_Times_1.l0 k y0 y1 y2) (slices_IndexFunc_int_int_of_cost_Times_1.l0 (k + 1) y0 y1 y2))
  | 0 => fun _ _ _ r h => by simp [slices_IndexFunc_int_int_of_cost_Times_1.l0] at h
  | k + 1 => by
    have ih0 := slices_IndexFunc_int_int_of_cost_Times_1.mono_l k
    · intro y0 y1 y2
      unfold slices_IndexFunc_int_int_of_cost_Times_1.l0
      repeat' first
      | (with_reducible exact ih0 _ _ _)
      | (with_reducible exact LeO.refl _)
      | (with_reducible exact LeO.none _)
      | (with_reducible refine LeO.ite ?_ ?_)
      | (with_reducible refine LeO.bind ?_ (fun _ => ?_))
      | exact ih0 _ _ _
      | exact LeO.none _
      | refine LeO.ite ?_ ?_
      | refine LeO.bind ?_ (fun _ => ?_)
theorem slices_IndexFunc_int_int_of_cost_Times_1.mono : ∀ a0 k, LeO (slices_IndexFunc_int_int_of_cost_Times_1.f k a0) (slices_IndexFunc_int_int_of_cost_Times_1.f (k + 1) a0) := by
  intro a0 k
  have ih0 := slices_IndexFunc_int_int_of_cost_Times_1.mono_l k
  unfold slices_IndexFunc_int_int_of_cost_Times_1.f
  repeat' first
      | (with_reducible exact ih0 _ _ _)
      | (with_reducible exact LeO.refl _)
      | (with_reducible exact LeO.none _)
      | (with_reducible refine LeO.ite ?_ ?_)
      | (with_reducible refine LeO.bind ?_ (fun _ => ?_))
      | exact ih0 _ _ _
      | exact LeO.none _
      | refine LeO.ite ?_ ?_
      | refine LeO.bind ?_ (fun _ => ?_)
set_option maxHeartbeats 8000000 in
set_option maxRecDepth 100000 in
theorem slices_IndexFunc_int_int_of_cost_Times_1.calls (k : Nat) (A0 : Option Addr) (c0 : Nat) (l0 : List Int)  (r : Int) (w : World) (hr0 : Kd.C (Kd.int .i64) w A0 l0.length l0) (hc0 : l0.length ≤ c0) (h : slices_IndexFunc_int_int_of_cost_Times_1.f k l0 = some r) :
    Calls Try.prog 46 #[.slice A0 l0.length c0, .func (.func 32) #[] #[]] w fun e w' => e = .returned (.int .i64 r) ∧ Drawn0 w w' := by
  have HR0 := am hr0
  have HC0 := am hc0
  clear hr0 hc0
  have H : (slices_IndexFunc_int_int_of_cost_Times_1.l0 k l0 (l0.length : Int) 0) = some r := h
  clear h
  have H' := am H
  clear H
  go_enter Try.func46, Try.ntmps46
  go_wp2
  go_loopg [8] k (fun kq v8 w' => ∃ (x8_1 : Int), v8 = .int .i64 x8_1 ∧ Aside0 (slices_IndexFunc_int_int_of_cost_Times_1.l0 kq l0 (l0.length : Int) x8_1 = some r) ∧ Aside0 (kq ≤ k) ∧ Drawn0 w w')
  case atStart => exact ⟨(0), (by rfl), H', ⟨Nat.le_refl _⟩, by exact Drawn0.refl _⟩
  case round =>
    clear H'
    obtain ⟨x8_1, rfl, HA, HK1, ⟨m1, rfl⟩⟩ := hrel
    cases gk with
    | zero => exact absurd HA.out (by simp [slices_IndexFunc_int_int_of_cost_Times_1.l0])
    | succ k1 =>
      have H := HA.out
      clear HA
      simp only [slices_IndexFunc_int_int_of_cost_Times_1.l0] at H
      by_cases c3 : x8_1 < (l0.length : Int)
      · rw [if_pos c3] at H
        have c3b0 : decide (x8_1 < (l0.length : Int)) = true := decide_eq_true c3
        clear c3
        by_cases c4 : 0 ≤ x8_1
        · rw [if_pos c4] at H
          have c4b0 : decide (0 ≤ x8_1) = true := decide_eq_true c4
          clear c4
          by_cases c5 : x8_1 < (l0.length : Int)
          · rw [if_pos c5] at H
            have c5b0 : decide (x8_1 < (l0.length : Int)) = true := decide_eq_true c5
            clear c5
            replace H := Option.bind_eq_some_iff.mp H
            obtain ⟨t148, A60, H⟩ := H
            replace H : (if t148 = true then (some x8_1) else (slices_IndexFunc_int_int_of_cost_Times_1.l0 k1 l0 (l0.length : Int) (wrap64 (x8_1 + 1)))) = some r := H
            have A6 := am A60
            clear A60
            by_cases c7 : t148 = true
            · subst c7
              have H1 : (some x8_1) = some r := by rw [if_pos rfl] at H; exact H
              clear H
              have H := H1
              clear H1
              obtain rfl := Option.some.inj H
              have p147 : 0 ≤ (x8_1 : Int) := of_decide_eq_true (by (with_reducible assumption))
              have q147 : x8_1 < (l0.length : Int) := of_decide_eq_true (by (with_reducible assumption))
              obtain ⟨ad147, e147, hx147_0⟩ := Kd.at_int HR0.out x8_1 p147 q147
              cases e147
              replace p147 := eq_true p147
              replace q147 := eq_true q147
              go_wp2_with ((go_at_call 32; (with_reducible refine (cost_Times_1.calls (rd l0 x8_1) true _ A6.out).mono ?_); rintro e w' ⟨rfl, ⟨nd, rfl⟩⟩))
              go_ret
              exact ⟨by rfl, by repeat (first | exact Drawn0.refl _ | apply Drawn0.step)⟩
            · replace c7 := Bool.eq_false_iff.mpr c7
              subst c7
              have H1 : (slices_IndexFunc_int_int_of_cost_Times_1.l0 k1 l0 (l0.length : Int) (wrap64 (x8_1 + 1))) = some r := by rw [if_neg (show ¬ (false = true) by decide)] at H; exact H
              clear H
              have H := H1
              clear H1
              have H' := am H
              clear H
              have p147 : 0 ≤ (x8_1 : Int) := of_decide_eq_true (by (with_reducible assumption))
              have q147 : x8_1 < (l0.length : Int) := of_decide_eq_true (by (with_reducible assumption))
              obtain ⟨ad147, e147, hx147_0⟩ := Kd.at_int HR0.out x8_1 p147 q147
              cases e147
              replace p147 := eq_true p147
              replace q147 := eq_true q147
              go_wp2_with ((go_at_call 32; (with_reducible refine (cost_Times_1.calls (rd l0 x8_1) false _ A6.out).mono ?_); rintro e w' ⟨rfl, ⟨nd, rfl⟩⟩))
              go_roundg k1
              case measure => have := HK1.out; omega
              case rel => exact ⟨(wrap64 (x8_1 + 1)), (by rfl), H', ⟨by have := HK1.out; omega⟩, by repeat (first | exact Drawn0.refl _ | apply Drawn0.step)⟩
          · rw [if_neg c5] at H
            exact absurd H (by simp)
        · rw [if_neg c4] at H
          exact absurd H (by simp)
      · rw [if_neg c3] at H
        have c3b0 : decide (x8_1 < (l0.length : Int)) = false := decide_eq_false c3
        clear c3
        obtain rfl := Option.some.inj H
        go_wp2
        go_ret
        exact ⟨by rfl, by repeat (first | exact Drawn0.refl _ | apply Drawn0.step)⟩
end Go.Proofs.Ytkkocmmilmbgpaa.S
end
section
namespace Go.Proofs.Ytkkocmmilmbgpaa.S
open Go.RowKit Go.Proofs.YtkkocmmilmbgpaaW.PrintWords Go.Proofs.YtkkocmmilmbgpaaW.PrintLast Go.Proofs.YtkkocmmilmbgpaaW.PrintMore
attribute [local go_sem] max2_int min2_int max_two min_two max_three min_three max_four min_four
set_option linter.unusedVariables false
set_option linter.unusedSimpArgs false
def slices_ContainsFunc_int_int_of_cost_Times_1.f (k : Nat) (l0 : List Int)  : Option (Bool) := (slices_IndexFunc_int_int_of_cost_Times_1.f k l0).bind fun t149 => (some (decide (t149 ≥ 0)))
theorem slices_ContainsFunc_int_int_of_cost_Times_1.mono : ∀ a0 k, LeO (slices_ContainsFunc_int_int_of_cost_Times_1.f k a0) (slices_ContainsFunc_int_int_of_cost_Times_1.f (k + 1) a0) := by
  intro a0 k
  unfold slices_ContainsFunc_int_int_of_cost_Times_1.f
  repeat' first
      | (with_reducible exact slices_IndexFunc_int_int_of_cost_Times_1.mono _ _)
      | (with_reducible exact LeO.refl _)
      | (with_reducible exact LeO.none _)
      | (with_reducible refine LeO.ite ?_ ?_)
      | (with_reducible refine LeO.bind ?_ (fun _ => ?_))
      | exact slices_IndexFunc_int_int_of_cost_Times_1.mono _ _
      | exact LeO.none _
      | refine LeO.ite ?_ ?_
      | refine LeO.bind ?_ (fun _ => ?_)
set_option maxHeartbeats 8000000 in
set_option maxRecDepth 100000 in
theorem slices_ContainsFunc_int_int_of_cost_Times_1.calls (k : Nat) (A0 : Option Addr) (c0 : Nat) (l0 : List Int)  (r : Bool) (w : World) (hr0 : Kd.C (Kd.int .i64) w A0 l0.length l0) (hc0 : l0.length ≤ c0) (h : slices_ContainsFunc_int_int_of_cost_Times_1.f k l0 = some r) :
    Calls Try.prog 31 #[.slice A0 l0.length c0, .func (.func 32) #[] #[]] w fun e w' => e = .returned (.bool r) ∧ Drawn0 w w' := by
  have HR0 := Aside0.mk hr0
  have HC0 := Aside0.mk hc0
  clear hr0 hc0
  have H : ((slices_IndexFunc_int_int_of_cost_Times_1.f k l0).bind fun t149 => (some (decide (t149 ≥ 0)))) = some r := h
  clear h
  replace H := Option.bind_eq_some_iff.mp H
  obtain ⟨t149, A30, H⟩ := H
  replace H : (some (decide (t149 ≥ 0))) = some r := H
  have A3 := Aside0.mk A30
  clear A30
  obtain rfl := Option.some.inj H
  go_enter Try.func31, Try.ntmps31
  go_wp2_with (((with_reducible refine gate_callee (f := 46) rfl ?_); refine goesL_ (some 7) rfl rfl Try.func46 (by kernel_rfl) rfl #[.slice A0 l0.length c0, .func (.func 32) #[] #[]] rfl (by (try simp only [List.map_toArray, List.map_cons, List.map_nil]); rfl) ?_; (with_reducible refine (slices_IndexFunc_int_int_of_cost_Times_1.calls k _ _ l0  t149 _ ?side1 ?side2 A3.out).mono ?_); (case side1 => exact HR0.out); (case side2 => exact HC0.out); rintro e w' ⟨rfl, ⟨nd, rfl⟩⟩; refine ⟨_, rfl, ?_⟩))
  go_ret
  exact ⟨by rfl, by repeat (first | exact Drawn0.refl _ | apply Drawn0.step)⟩
end Go.Proofs.Ytkkocmmilmbgpaa.S
end

/- Part 4 of a claim of this seat: texts merged by a program of the claim's session (wip/bundle.py). -/
import Derived.Test.YtkkocmmilmbgpaaZMo0
import Derived.Test.YtkkocmmilmbgpaaZMo1
import Derived.Test.YtkkocmmilmbgpaaZMo3
import Derived.Lib.Mul64
import Derived.Laws.Bits64b
import Derived.Deep.Slices
import Derived.Deep.Strs
import Derived.Lib.SmallJoins
import Derived.OpenShut
import Derived.Carry
import Derived.SizedLaws
import Derived.Test.YtkkocmmilmbgpaaRows
import Derived.Shelf.Vars
import Derived.LaidMore
import Derived.ProofKit
import Derived.Deep.DeepHandedRow
section
namespace Go.Proofs.Ytkkocmmilmbgpaa.X
open Go.RowKit Go.Proofs.YtkkocmmilmbgpaaW.PrintWords Go.Proofs.YtkkocmmilmbgpaaW.PrintLast Go.Proofs.YtkkocmmilmbgpaaW.PrintMore
attribute [local go_sem] max2_int min2_int max_two min_two max_three min_three max_four min_four
set_option linter.unusedVariables false
set_option linter.unusedSimpArgs false
def locksteplaw28_lives.f (k : Nat)  : Option (Bool) := (some (([(⟨3, ([] : List Int)⟩ : S39), (⟨2, (([1] : List Int))⟩ : S39)] : List (S39)) : List (S39))).bind fun y203 => ((cost_Times.f k y203 y203).bind fun bt206 => (if bt206.2 = 0 then (if (bt206.1.length : Int) = 3 then (if 0 < (bt206.1.length : Int) then (if ((rd_T39 bt206.1 0).f0) = 4 then (if 1 < (bt206.1.length : Int) then (if ((rd_T39 bt206.1 1).f0) = 12 then (if 2 < (bt206.1.length : Int) then (if ((rd_T39 bt206.1 2).f0) = 9 then ((cost_Value.f k bt206.1 (([5] : List Int))).bind fun t216 => (if t216 = 169 then ((cost_Bound.f 0 0 0 0 0 0).bind fun t217 => (some (t217 == 0))) else (some false))) else (some false)) else (none)) else (some false)) else (none)) else (some false)) else (none)) else (some false)) else (some false)))
theorem locksteplaw28_lives.mono : ∀ k, LeO (locksteplaw28_lives.f k ) (locksteplaw28_lives.f (k + 1) ) := by
 intro  k
 unfold locksteplaw28_lives.f
 repeat' first
   | (with_reducible exact cost_Times.mono _ _ _)
   | (with_reducible exact cost_Value.mono _ _ _)
   | (with_reducible exact LeO.refl _)
   | (with_reducible exact LeO.none _)
   | (with_reducible refine LeO.ite ?_ ?_)
   | (with_reducible refine LeO.bind ?_ (fun _ => ?_))
   | exact cost_Times.mono _ _ _
   | exact cost_Value.mono _ _ _
   | exact LeO.none _
   | refine LeO.ite ?_ ?_
   | refine LeO.bind ?_ (fun _ => ?_)
set_option maxHeartbeats 8000000 in
set_option maxRecDepth 100000 in
theorem locksteplaw28_lives.calls (k : Nat)  (r : Bool) (w : World) (h : locksteplaw28_lives.f k  = some r) :
  Calls Try.prog 6 #[] w fun e w' => e = .returned (.bool r) ∧ Below w.heap.size w w' := by
 have hu39 := Try.underlying39
 have hu26 := Try.underlying26
 have HB := Aside0.mk (Below.refl w.heap.size w)
 have H : ((some (([(⟨3, ([] : List Int)⟩ : S39), (⟨2, (([1] : List Int))⟩ : S39)] : List (S39)) : List (S39))).bind fun y203 => ((cost_Times.f k y203 y203).bind fun bt206 => (if bt206.2 = 0 then (if (bt206.1.length : Int) = 3 then (if 0 < (bt206.1.length : Int) then (if ((rd_T39 bt206.1 0).f0) = 4 then (if 1 < (bt206.1.length : Int) then (if ((rd_T39 bt206.1 1).f0) = 12 then (if 2 < (bt206.1.length : Int) then (if ((rd_T39 bt206.1 2).f0) = 9 then ((cost_Value.f k bt206.1 (([5] : List Int))).bind fun t216 => (if t216 = 169 then ((cost_Bound.f 0 0 0 0 0 0).bind fun t217 => (some (t217 == 0))) else (some false))) else (some false)) else (none)) else (some false)) else (none)) else (some false)) else (none)) else (some false)) else (some false)))) = some r := h
 clear h
 obtain ⟨y200, hy200⟩ : ∃ y_ : List Int, y_ = (([1] : List Int)) := ⟨_, rfl⟩
 replace H : ((some (([(⟨3, ([] : List Int)⟩ : S39), (⟨2, y200⟩ : S39)] : List (S39)) : List (S39))).bind fun y203 => ((cost_Times.f k y203 y203).bind fun bt206 => (if bt206.2 = 0 then (if (bt206.1.length : Int) = 3 then (if 0 < (bt206.1.length : Int) then (if ((rd_T39 bt206.1 0).f0) = 4 then (if 1 < (bt206.1.length : Int) then (if ((rd_T39 bt206.1 1).f0) = 12 then (if 2 < (bt206.1.length : Int) then (if ((rd_T39 bt206.1 2).f0) = 9 then ((cost_Value.f k bt206.1 (([5] : List Int))).bind fun t216 => (if t216 = 169 then ((cost_Bound.f 0 0 0 0 0 0).bind fun t217 => (some (t217 == 0))) else (some false))) else (some false)) else (none)) else (some false)) else (none)) else (some false)) else (none)) else (some false)) else (some false)))) = some r := by first | (rw [hy200]; with_reducible exact H) | (have H2_ := (Option.bind_some _ _).symm.trans H; rw [hy200]; with_reducible exact H2_) | (have H2_ := (Option.bind_some _ _).symm.trans H; with_reducible exact H2_) | with_reducible exact H | (rw [hy200]; exact H) | exact H
 have Ny200 := Aside0.mk hy200
 clear hy200
 obtain ⟨y203, hy203⟩ : ∃ y_ : List (S39), y_ = (([(⟨3, ([] : List Int)⟩ : S39), (⟨2, y200⟩ : S39)] : List (S39))) := ⟨_, rfl⟩
 replace H : ((cost_Times.f k y203 y203).bind fun bt206 => (if bt206.2 = 0 then (if (bt206.1.length : Int) = 3 then (if 0 < (bt206.1.length : Int) then (if ((rd_T39 bt206.1 0).f0) = 4 then (if 1 < (bt206.1.length : Int) then (if ((rd_T39 bt206.1 1).f0) = 12 then (if 2 < (bt206.1.length : Int) then (if ((rd_T39 bt206.1 2).f0) = 9 then ((cost_Value.f k bt206.1 (([5] : List Int))).bind fun t216 => (if t216 = 169 then ((cost_Bound.f 0 0 0 0 0 0).bind fun t217 => (some (t217 == 0))) else (some false))) else (some false)) else (none)) else (some false)) else (none)) else (some false)) else (none)) else (some false)) else (some false))) = some r := by first | (rw [hy203]; with_reducible exact H) | (have H2_ := (Option.bind_some _ _).symm.trans H; rw [hy203]; with_reducible exact H2_) | (have H2_ := (Option.bind_some _ _).symm.trans H; with_reducible exact H2_) | with_reducible exact H | (rw [hy203]; exact H) | exact H
 have Ny203 := Aside0.mk hy203
 clear hy203
 replace H := Option.bind_eq_some_iff.mp H
 obtain ⟨⟨t206, t209⟩, A10, H⟩ := H
 replace H : (if t209 = 0 then (if (t206.length : Int) = 3 then (if 0 < (t206.length : Int) then (if ((rd_T39 t206 0).f0) = 4 then (if 1 < (t206.length : Int) then (if ((rd_T39 t206 1).f0) = 12 then (if 2 < (t206.length : Int) then (if ((rd_T39 t206 2).f0) = 9 then ((cost_Value.f k t206 (([5] : List Int))).bind fun t216 => (if t216 = 169 then ((cost_Bound.f 0 0 0 0 0 0).bind fun t217 => (some (t217 == 0))) else (some false))) else (some false)) else (none)) else (some false)) else (none)) else (some false)) else (none)) else (some false)) else (some false)) = some r := H
 have A1 := Aside0.mk A10
 clear A10
 by_cases c2 : t209 = 0
 ·
  rw [if_pos c2] at H
  have c2b0 : (t209 == 0) = true := beq_iff_eq.mpr c2
  have c2b1 : (t209 != 0) = false := bne_eq_false_iff_eq.mpr c2
  clear c2
  by_cases c3 : (t206.length : Int) = 3
  ·
   rw [if_pos c3] at H
   have c3b0 : ((t206.length : Int) == 3) = true := beq_iff_eq.mpr c3
   have c3b1 : ((t206.length : Int) != 3) = false := bne_eq_false_iff_eq.mpr c3
   clear c3
   by_cases c4 : 0 < (t206.length : Int)
   ·
    rw [if_pos c4] at H
    have c4b0 : decide (0 < (t206.length : Int)) = true := decide_eq_true c4
    have c4b1 : decide (0 < t206.length) = true := decide_eq_true (by omega)
    clear c4
    by_cases c5 : ((rd_T39 t206 0).f0) = 4
    ·
     rw [if_pos c5] at H
     have c5b0 : (((rd_T39 t206 0).f0) == 4) = true := beq_iff_eq.mpr c5
     have c5b1 : (((rd_T39 t206 0).f0) != 4) = false := bne_eq_false_iff_eq.mpr c5
     clear c5
     by_cases c6 : 1 < (t206.length : Int)
     ·
      rw [if_pos c6] at H
      have c6b0 : decide (1 < (t206.length : Int)) = true := decide_eq_true c6
      have c6b1 : decide (1 < t206.length) = true := decide_eq_true (by omega)
      clear c6
      by_cases c7 : ((rd_T39 t206 1).f0) = 12
      ·
       rw [if_pos c7] at H
       have c7b0 : (((rd_T39 t206 1).f0) == 12) = true := beq_iff_eq.mpr c7
       have c7b1 : (((rd_T39 t206 1).f0) != 12) = false := bne_eq_false_iff_eq.mpr c7
       clear c7
       by_cases c8 : 2 < (t206.length : Int)
       ·
        rw [if_pos c8] at H
        have c8b0 : decide (2 < (t206.length : Int)) = true := decide_eq_true c8
        have c8b1 : decide (2 < t206.length) = true := decide_eq_true (by omega)
        clear c8
        by_cases c9 : ((rd_T39 t206 2).f0) = 9
        ·
         rw [if_pos c9] at H
         have c9b0 : (((rd_T39 t206 2).f0) == 9) = true := beq_iff_eq.mpr c9
         have c9b1 : (((rd_T39 t206 2).f0) != 9) = false := bne_eq_false_iff_eq.mpr c9
         clear c9
         obtain ⟨y213, hy213⟩ : ∃ y_ : List Int, y_ = (([5] : List Int)) := ⟨_, rfl⟩
         replace H : ((cost_Value.f k t206 y213).bind fun t216 => (if t216 = 169 then ((cost_Bound.f 0 0 0 0 0 0).bind fun t217 => (some (t217 == 0))) else (some false))) = some r := by first | (rw [hy213]; with_reducible exact H) | (have H2_ := (Option.bind_some _ _).symm.trans H; rw [hy213]; with_reducible exact H2_) | (have H2_ := (Option.bind_some _ _).symm.trans H; with_reducible exact H2_) | with_reducible exact H | (rw [hy213]; exact H) | exact H
         have Ny213 := Aside0.mk hy213
         clear hy213
         replace H := Option.bind_eq_some_iff.mp H
         obtain ⟨t216, A100, H⟩ := H
         replace H : (if t216 = 169 then ((cost_Bound.f 0 0 0 0 0 0).bind fun t217 => (some (t217 == 0))) else (some false)) = some r := H
         have A10 := Aside0.mk A100
         clear A100
         by_cases c11 : t216 = 169
         ·
          rw [if_pos c11] at H
          have c11b0 : (t216 == 169) = true := beq_iff_eq.mpr c11
          have c11b1 : (t216 != 169) = false := bne_eq_false_iff_eq.mpr c11
          clear c11
          replace H := Option.bind_eq_some_iff.mp H
          obtain ⟨t217, A120, H⟩ := H
          replace H : (some (t217 == 0)) = some r := H
          have A12 := Aside0.mk A120
          clear A120
          obtain rfl := Option.some.inj H
          go_enter Try.func6, Try.ntmps6
          go_wp2_with (first | ((with_reducible refine gate_dst (N := 5) rfl ?_); (try (refine gate_guard (by rfl) ?_; dsimp only)); refine Kd.R_lit (Kd.int .i64) _ 3 ?hg (N := 5) ?hd (xs := ([1] : List Int)) (inner := [.int .i64 1]) (ok := fun _ => True) (okp := fun _ => True) ?hr ?hp (fun _ hk => hk) trivial (Below.refl _ _) (Nat.le_refl _) (by simp) ?_; (case hd => rfl); (case hg => rfl); (case hr => first | (go_simp; done) | (go_simp; rfl)); (case hp => exact (Reps.one (show Kd.M (Kd.int .i64) _ _ _ 1 [.int .i64 1] from rfl) (Reps.none _ _))); intro v201 w13 ho14 hb hg_ hnew_; clear hg_ hnew_; (first | rw [← Ny200.out] at ho14 | (simp only [Int.reduceToNat] at ho14; rw [← Ny200.out] at ho14)); have n0_ := Aside0.mk (Kd.R_lower ho14 (below_size (by repeat (first | (with_reducible first | exact HB.out | apply below_alloc | apply pw_below_drewN | apply below_drew1) | exact HB.out)))); have n1_ := Aside0.mk (below_step (by repeat (first | (with_reducible first | exact HB.out | apply below_alloc | apply pw_below_drewN | apply below_drew1) | exact HB.out)) hb); clear HB; have HO202 := n0_; have HB := n1_; clear n0_ n1_; clear hb ho14; obtain ⟨Ao15, co15, eo15⟩ := Kd.R_slice HO202.out; subst eo15) | ((with_reducible refine gate_dst (N := 7) rfl ?_); (try (refine gate_guard (by rfl) ?_; dsimp only)); refine Kd.N_lit k39 _ 39 ?hg (N' := 7) ?hd (xs := ([(⟨3, ([] : List Int)⟩ : S39), (⟨2, y200⟩ : S39)] : List (S39))) (inner := [.int .u64 3, .slice none 0 0, .int .u64 2, .slice Ao15 y200.length co15]) (ok := (fun _ => True)) (okp := (fun _ => True)) ?hr ?hp (fun _ hk => hk) ((show ∀ k_, w13.heap.size ≤ k_ → (fun _ => True) k_ from fun k_ hk => trivial) _ (Nat.le_refl _)) (Below.refl _ _) (Nat.le_refl _) (by simp) ?_; (case hd => rfl); (case hg => rfl); (case hr => first | (go_simp; done) | (go_simp; rfl)); (case hp => exact (Reps.c2 (show Kd.FK k39 _ _ (⟨3, ([] : List Int)⟩ : S39) [.int .u64 3, .slice none 0 0] from (k39_mkF _ _ (⟨3, ([] : List Int)⟩ : S39) (Nat.le_refl _) (Kd.F_nil _ _ _))) (Reps.c2 (show Kd.FK k39 _ _ (⟨2, y200⟩ : S39) [.int .u64 2, .slice Ao15 y200.length co15] from (k39_mkF _ _ (⟨2, y200⟩ : S39) (Kd.R_reads' (Kd.R_mono (ok' := (fun _ => True)) (HO202.out) (fun k_ hk => trivial))).2.1 (Kd.R_F (Kd.R_mono (ok' := (fun _ => True)) (HO202.out) (fun k_ hk => trivial))))) (Reps.none _ _)))); intro v204 w16 ho17 hb hg_ hnew_; clear hg_ hnew_; (first | rw [← Ny203.out] at ho17 | (simp only [Int.reduceToNat] at ho17; rw [← Ny203.out] at ho17)); have n0_ := Aside0.mk (Kd.N_lower ho17 (below_size (by repeat (first | (with_reducible first | exact HB.out | apply below_alloc | apply pw_below_drewN | apply below_drew1) | exact HB.out)))); have n1_ := Aside0.mk (below_step (by repeat (first | (with_reducible first | exact HB.out | apply below_alloc | apply pw_below_drewN | apply below_drew1) | exact HB.out)) hb); clear HB; clear HO202; have HO205 := n0_; have HB := n1_; clear n0_ n1_; clear hb ho17; obtain ⟨Ao18, co18, eo18⟩ := Kd.N_slice HO205.out; subst eo18) | ((with_reducible refine gate_callee (f := 14) rfl ?_); refine goesL_ (some 11) rfl rfl Try.func14 (by kernel_rfl) rfl #[.slice Ao18 y203.length co18, .slice Ao18 y203.length co18] rfl (by (try simp only [List.map_toArray, List.map_cons, List.map_nil]); first | done | rfl | (simp only [List.length_drop, List.length_take]; rfl)) ?_; (with_reducible refine (cost_Times.calls k _ _ y203 _ _ y203 t206 t209 _ ?side1 ?side2 ?side3 ?side4 A1.out).mono ?_); (case side1 => repeat (first | exact (Kd.N_reads' HO205.out).2.2 | (with_reducible refine Kd.C_alloc ?_ _) | (with_reducible refine Kd.C_drewN ?_ _) | (with_reducible refine Kd.C_drew ?_))); (case side2 => exact (Kd.N_reads' HO205.out).2.1); (case side3 => repeat (first | exact (Kd.N_reads' HO205.out).2.2 | (with_reducible refine Kd.C_alloc ?_ _) | (with_reducible refine Kd.C_drewN ?_ _) | (with_reducible refine Kd.C_drew ?_))); (case side4 => exact (Kd.N_reads' HO205.out).2.1); rintro e w19 ⟨v207, rfl, ho0, hb⟩; refine ⟨_, rfl, ?_⟩; have n0_ := Aside0.mk (Kd.N_elder' (by (with_reducible repeat (first | apply Kd.N_alloc | apply Kd.N_drewN | apply Kd.N_drew)); exact HO205.out) (Kd.N_base ho0) hb); have n1_ := Aside0.mk (Kd.N_lower (Kd.N_mono (ok' := fun k_ => some k_ ≠ (.slice Ao18 y203.length co18 : Value).ownBlock) ho0 (fun k_ hk_ => (Kd.fresh' (Kd.N_lt (by (with_reducible repeat (first | apply Kd.N_alloc | apply Kd.N_drewN | apply Kd.N_drew)); exact HO205.out)) k_ hk_))) (below_size (by repeat (first | (with_reducible first | exact HB.out | apply below_alloc | apply pw_below_drewN | apply below_drew1) | exact HB.out)))); have n2_ := Aside0.mk (below_step (by repeat (first | (with_reducible first | exact HB.out | apply below_alloc | apply pw_below_drewN | apply below_drew1) | exact HB.out)) hb); clear HO205; clear HB; have HO205 := n0_; have HO208 := n1_; have HB := n2_; clear n0_ n1_ n2_; (try clear hb); (try clear hb2); (try clear hk); (try clear hi); (try clear ho0); obtain ⟨Ao20, co20, eo20⟩ := Kd.N_slice HO208.out; subst eo20; have p210 : 0 ≤ (0 : Int) := (by omega); have q210 : 0 < (t206.length : Int) := of_decide_eq_true (by first | (with_reducible assumption) | assumption); obtain ⟨ad210, A210_1, c210_1, e210, hx210_0, hx210_1, hl210_1, hi210_1⟩ := at_T39 (Kd.N_reads' HO208.out).2.2 0 p210 q210; cases e210; obtain ⟨ce210, hce210, hMe210, hcc210⟩ := Kd.N_get HO208.out z39 0 p210 (by first | exact q210 | exact of_decide_eq_true (by first | (with_reducible assumption) | assumption) | (have e_ := (Kd.N_reads' HO208.out).1; omega)); obtain ⟨ua210_1, uc210_1, rfl, ul210_1, ge210_1⟩ := k39_openF hMe210; have hv210_1 := hcc210 1 _ rfl; rw [add_field _ _ 1 (by omega)] at hv210_1; replace hv210_1 := Option.some.inj (hv210_1.symm.trans hx210_1); injection hv210_1 with hva_ hvn_ hvc_; rw [hva_] at ge210_1; rw [hvc_] at ul210_1; have HL210_1 := Aside0.mk (show Kd.V (Kd.int .i64) 3 _ w.heap.size _ _ ((rd_T39 t206 0).f1) from Kd.V_mk ul210_1 ge210_1); clear hva_ hvn_ hvc_ ge210_1 ul210_1; clear hcc210 hce210; have qi210 : (0 < t206.length) = True := eq_true (by omega); (try rw [show ((0 : Int)).toNat = 0 from rfl] at hx210_0); (try rw [show 0 * 2 = 0 from rfl] at hx210_0); (try rw [Addr.add_zero'] at hx210_0); (try rw [show ((0 : Int)).toNat = 0 from rfl] at hx210_1); (try rw [show 0 * 2 = 0 from rfl] at hx210_1); (try rw [Addr.add_zero'] at hx210_1); have HR210_1 := Aside0.mk hi210_1; have HC210_1 := Aside0.mk hl210_1; clear hi210_1 hl210_1; replace p210 := eq_true p210; replace q210 := eq_true q210; have p211 : 0 ≤ (1 : Int) := (by omega); have q211 : 1 < (t206.length : Int) := of_decide_eq_true (by first | (with_reducible assumption) | assumption); obtain ⟨ad211, A211_1, c211_1, e211, hx211_0, hx211_1, hl211_1, hi211_1⟩ := at_T39 (Kd.N_reads' HO208.out).2.2 1 p211 q211; obtain rfl : ad210 = ad211 := (by injection e211); obtain ⟨ce211, hce211, hMe211, hcc211⟩ := Kd.N_get HO208.out z39 1 p211 (by first | exact q211 | exact of_decide_eq_true (by first | (with_reducible assumption) | assumption) | (have e_ := (Kd.N_reads' HO208.out).1; omega)); obtain ⟨ua211_1, uc211_1, rfl, ul211_1, ge211_1⟩ := k39_openF hMe211; have hv211_1 := hcc211 1 _ rfl; rw [add_field _ _ 1 (by omega)] at hv211_1; replace hv211_1 := Option.some.inj (hv211_1.symm.trans hx211_1); injection hv211_1 with hva_ hvn_ hvc_; rw [hva_] at ge211_1; rw [hvc_] at ul211_1; have HL211_1 := Aside0.mk (show Kd.V (Kd.int .i64) 3 _ w.heap.size _ _ ((rd_T39 t206 1).f1) from Kd.V_mk ul211_1 ge211_1); clear hva_ hvn_ hvc_ ge211_1 ul211_1; clear hcc211 hce211; (try simp only [show (1 : Int).toNat = 1 from rfl, Nat.reduceMul, Nat.reduceEqDiff, Go.Addr.add, ↓reduceIte] at hx211_0); (try simp only [show (1 : Int).toNat = 1 from rfl, Nat.reduceMul, Nat.reduceEqDiff, Go.Addr.add, ↓reduceIte] at hx211_1); have qi211 : (1 < t206.length) = True := eq_true (by omega); (try rw [show ((1 : Int)).toNat = 1 from rfl] at hx211_0); (try rw [show 1 * 2 = 2 from rfl] at hx211_0); (try rw [show ((1 : Int)).toNat = 1 from rfl] at hx211_1); (try rw [show 1 * 2 = 2 from rfl] at hx211_1); have HR211_1 := Aside0.mk hi211_1; have HC211_1 := Aside0.mk hl211_1; clear hi211_1 hl211_1; replace p211 := eq_true p211; replace q211 := eq_true q211; have p212 : 0 ≤ (2 : Int) := (by omega); have q212 : 2 < (t206.length : Int) := of_decide_eq_true (by first | (with_reducible assumption) | assumption); obtain ⟨ad212, A212_1, c212_1, e212, hx212_0, hx212_1, hl212_1, hi212_1⟩ := at_T39 (Kd.N_reads' HO208.out).2.2 2 p212 q212; obtain rfl : ad210 = ad212 := (by injection e212); obtain ⟨ce212, hce212, hMe212, hcc212⟩ := Kd.N_get HO208.out z39 2 p212 (by first | exact q212 | exact of_decide_eq_true (by first | (with_reducible assumption) | assumption) | (have e_ := (Kd.N_reads' HO208.out).1; omega)); obtain ⟨ua212_1, uc212_1, rfl, ul212_1, ge212_1⟩ := k39_openF hMe212; have hv212_1 := hcc212 1 _ rfl; rw [add_field _ _ 1 (by omega)] at hv212_1; replace hv212_1 := Option.some.inj (hv212_1.symm.trans hx212_1); injection hv212_1 with hva_ hvn_ hvc_; rw [hva_] at ge212_1; rw [hvc_] at ul212_1; have HL212_1 := Aside0.mk (show Kd.V (Kd.int .i64) 3 _ w.heap.size _ _ ((rd_T39 t206 2).f1) from Kd.V_mk ul212_1 ge212_1); clear hva_ hvn_ hvc_ ge212_1 ul212_1; clear hcc212 hce212; (try simp only [show (2 : Int).toNat = 2 from rfl, Nat.reduceMul, Nat.reduceEqDiff, Go.Addr.add, ↓reduceIte] at hx212_0); (try simp only [show (2 : Int).toNat = 2 from rfl, Nat.reduceMul, Nat.reduceEqDiff, Go.Addr.add, ↓reduceIte] at hx212_1); have qi212 : (2 < t206.length) = True := eq_true (by omega); (try rw [show ((2 : Int)).toNat = 2 from rfl] at hx212_0); (try rw [show 2 * 2 = 4 from rfl] at hx212_0); (try rw [show ((2 : Int)).toNat = 2 from rfl] at hx212_1); (try rw [show 2 * 2 = 4 from rfl] at hx212_1); have HR212_1 := Aside0.mk hi212_1; have HC212_1 := Aside0.mk hl212_1; clear hi212_1 hl212_1; replace p212 := eq_true p212; replace q212 := eq_true q212) | ((with_reducible refine gate_dst (N := 44) rfl ?_); (try (refine gate_guard (by rfl) ?_; dsimp only)); refine Kd.R_lit (Kd.int .u64) _ 24 ?hg (N := 44) ?hd (xs := ([5] : List Int)) (inner := [.int .u64 5]) (ok := fun _ => True) (okp := fun _ => True) ?hr ?hp (fun _ hk => hk) trivial (Below.refl _ _) (Nat.le_refl _) (by simp) ?_; (case hd => rfl); (case hg => rfl); (case hr => first | (go_simp; done) | (go_simp; rfl)); (case hp => exact (Reps.one (show Kd.M (Kd.int .u64) _ _ _ 5 [.int .u64 5] from rfl) (Reps.none _ _))); intro v214 w21 ho22 hb hg_ hnew_; clear hg_ hnew_; (first | rw [← Ny213.out] at ho22 | (simp only [Int.reduceToNat] at ho22; rw [← Ny213.out] at ho22)); have n0_ := Aside0.mk (Kd.N_elder' (by (with_reducible repeat (first | apply Kd.N_alloc | apply Kd.N_drewN | apply Kd.N_drew)); exact HO205.out) (Kd.R_base ho22) hb); have n1_ := Aside0.mk (Kd.N_elder' (by (with_reducible repeat (first | apply Kd.N_alloc | apply Kd.N_drewN | apply Kd.N_drew)); exact HO208.out) (Kd.R_base ho22) hb); have n2_ := Aside0.mk (Kd.V_elder' (by (with_reducible repeat (first | apply Kd.V_alloc | apply Kd.V_drewN | apply Kd.V_drew)); exact HL210_1.out) (Kd.R_base ho22) hb); have n3_ := Aside0.mk (Kd.V_elder' (by (with_reducible repeat (first | apply Kd.V_alloc | apply Kd.V_drewN | apply Kd.V_drew)); exact HL211_1.out) (Kd.R_base ho22) hb); have n4_ := Aside0.mk (Kd.V_elder' (by (with_reducible repeat (first | apply Kd.V_alloc | apply Kd.V_drewN | apply Kd.V_drew)); exact HL212_1.out) (Kd.R_base ho22) hb); have n5_ := Aside0.mk (Kd.R_lower ho22 (below_size (by repeat (first | (with_reducible first | exact HB.out | apply below_alloc | apply pw_below_drewN | apply below_drew1) | exact HB.out)))); have n6_ := Aside0.mk (Kd.C_below (by repeat (first | (with_reducible exact HR210_1.out) | (with_reducible refine Kd.C_alloc ?_ _) | (with_reducible refine Kd.C_drewN ?_ _) | (with_reducible refine Kd.C_drew ?_) | exact HR210_1.out)) hb); have n7_ := Aside0.mk (Kd.C_below (by repeat (first | (with_reducible exact HR211_1.out) | (with_reducible refine Kd.C_alloc ?_ _) | (with_reducible refine Kd.C_drewN ?_ _) | (with_reducible refine Kd.C_drew ?_) | exact HR211_1.out)) hb); have n8_ := Aside0.mk (Kd.C_below (by repeat (first | (with_reducible exact HR212_1.out) | (with_reducible refine Kd.C_alloc ?_ _) | (with_reducible refine Kd.C_drewN ?_ _) | (with_reducible refine Kd.C_drew ?_) | exact HR212_1.out)) hb); have n9_ := Aside0.mk (below_step (by repeat (first | (with_reducible first | exact HB.out | apply below_alloc | apply pw_below_drewN | apply below_drew1) | exact HB.out)) hb); clear HO205; clear HO208; clear HL210_1; clear HL211_1; clear HL212_1; clear HR210_1; clear HR211_1; clear HR212_1; clear HB; have HO205 := n0_; have HO208 := n1_; have HL210_1 := n2_; have HL211_1 := n3_; have HL212_1 := n4_; have HO215 := n5_; have HR210_1 := n6_; have HR211_1 := n7_; have HR212_1 := n8_; have HB := n9_; clear n0_ n1_ n2_ n3_ n4_ n5_ n6_ n7_ n8_ n9_; clear hb ho22; obtain ⟨Ao23, co23, eo23⟩ := Kd.R_slice HO215.out; subst eo23) | (go_at_call 7; (with_reducible refine (cost_Value.calls k _ _ t206 _ _ y213 t216 _ ?side1 ?side2 ?side3 ?side4 A10.out).mono ?_); (case side1 => repeat (first | exact (Kd.N_reads' HO208.out).2.2 | (with_reducible refine Kd.C_alloc ?_ _) | (with_reducible refine Kd.C_drewN ?_ _) | (with_reducible refine Kd.C_drew ?_))); (case side2 => exact (Kd.N_reads' HO208.out).2.1); (case side3 => repeat (first | exact (Kd.R_reads' HO215.out).2.2 | (with_reducible refine Kd.C_alloc ?_ _) | (with_reducible refine Kd.C_drewN ?_ _) | (with_reducible refine Kd.C_drew ?_))); (case side4 => exact (Kd.R_reads' HO215.out).2.1); rintro e w24 ⟨rfl, hb⟩; have n0_ := Aside0.mk (Kd.N_below (by (with_reducible repeat (first | apply Kd.N_alloc | apply Kd.N_drewN | apply Kd.N_drew)); exact HO205.out) hb); have n1_ := Aside0.mk (Kd.N_below (by (with_reducible repeat (first | apply Kd.N_alloc | apply Kd.N_drewN | apply Kd.N_drew)); exact HO208.out) hb); have n2_ := Aside0.mk (Kd.V_below (by (with_reducible repeat (first | apply Kd.V_alloc | apply Kd.V_drewN | apply Kd.V_drew)); exact HL210_1.out) hb); have n3_ := Aside0.mk (Kd.V_below (by (with_reducible repeat (first | apply Kd.V_alloc | apply Kd.V_drewN | apply Kd.V_drew)); exact HL211_1.out) hb); have n4_ := Aside0.mk (Kd.V_below (by (with_reducible repeat (first | apply Kd.V_alloc | apply Kd.V_drewN | apply Kd.V_drew)); exact HL212_1.out) hb); have n5_ := Aside0.mk (Kd.R_below (by (with_reducible repeat (first | apply Kd.R_alloc | apply Kd.R_drewN | apply Kd.R_drew)); exact HO215.out) hb); have n6_ := Aside0.mk (Kd.C_below (by repeat (first | (with_reducible exact HR210_1.out) | (with_reducible refine Kd.C_alloc ?_ _) | (with_reducible refine Kd.C_drewN ?_ _) | (with_reducible refine Kd.C_drew ?_) | exact HR210_1.out)) hb); have n7_ := Aside0.mk (Kd.C_below (by repeat (first | (with_reducible exact HR211_1.out) | (with_reducible refine Kd.C_alloc ?_ _) | (with_reducible refine Kd.C_drewN ?_ _) | (with_reducible refine Kd.C_drew ?_) | exact HR211_1.out)) hb); have n8_ := Aside0.mk (Kd.C_below (by repeat (first | (with_reducible exact HR212_1.out) | (with_reducible refine Kd.C_alloc ?_ _) | (with_reducible refine Kd.C_drewN ?_ _) | (with_reducible refine Kd.C_drew ?_) | exact HR212_1.out)) hb); have n9_ := Aside0.mk (below_step (by repeat (first | (with_reducible first | exact HB.out | apply below_alloc | apply pw_below_drewN | apply below_drew1) | exact HB.out)) hb); clear HO205; clear HO208; clear HL210_1; clear HL211_1; clear HL212_1; clear HO215; clear HR210_1; clear HR211_1; clear HR212_1; clear HB; have HO205 := n0_; have HO208 := n1_; have HL210_1 := n2_; have HL211_1 := n3_; have HL212_1 := n4_; have HO215 := n5_; have HR210_1 := n6_; have HR211_1 := n7_; have HR212_1 := n8_; have HB := n9_; clear n0_ n1_ n2_ n3_ n4_ n5_ n6_ n7_ n8_ n9_; (try clear hb); (try clear hb2); (try clear hk); (try clear hi)) | (go_at_call 8; (with_reducible refine (cost_Bound.calls 0 0 0 0 0 0 t217 _ A12.out).mono ?_); rintro e w25 ⟨rfl, hb⟩; have n0_ := Aside0.mk (Kd.N_below (by (with_reducible repeat (first | apply Kd.N_alloc | apply Kd.N_drewN | apply Kd.N_drew)); exact HO205.out) hb); have n1_ := Aside0.mk (Kd.N_below (by (with_reducible repeat (first | apply Kd.N_alloc | apply Kd.N_drewN | apply Kd.N_drew)); exact HO208.out) hb); have n2_ := Aside0.mk (Kd.V_below (by (with_reducible repeat (first | apply Kd.V_alloc | apply Kd.V_drewN | apply Kd.V_drew)); exact HL210_1.out) hb); have n3_ := Aside0.mk (Kd.V_below (by (with_reducible repeat (first | apply Kd.V_alloc | apply Kd.V_drewN | apply Kd.V_drew)); exact HL211_1.out) hb); have n4_ := Aside0.mk (Kd.V_below (by (with_reducible repeat (first | apply Kd.V_alloc | apply Kd.V_drewN | apply Kd.V_drew)); exact HL212_1.out) hb); have n5_ := Aside0.mk (Kd.R_below (by (with_reducible repeat (first | apply Kd.R_alloc | apply Kd.R_drewN | apply Kd.R_drew)); exact HO215.out) hb); have n6_ := Aside0.mk (Kd.C_below (by repeat (first | (with_reducible exact HR210_1.out) | (with_reducible refine Kd.C_alloc ?_ _) | (with_reducible refine Kd.C_drewN ?_ _) | (with_reducible refine Kd.C_drew ?_) | exact HR210_1.out)) hb); have n7_ := Aside0.mk (Kd.C_below (by repeat (first | (with_reducible exact HR211_1.out) | (with_reducible refine Kd.C_alloc ?_ _) | (with_reducible refine Kd.C_drewN ?_ _) | (with_reducible refine Kd.C_drew ?_) | exact HR211_1.out)) hb); have n8_ := Aside0.mk (Kd.C_below (by repeat (first | (with_reducible exact HR212_1.out) | (with_reducible refine Kd.C_alloc ?_ _) | (with_reducible refine Kd.C_drewN ?_ _) | (with_reducible refine Kd.C_drew ?_) | exact HR212_1.out)) hb); have n9_ := Aside0.mk (below_step (by repeat (first | (with_reducible first | exact HB.out | apply below_alloc | apply pw_below_drewN | apply below_drew1) | exact HB.out)) hb); clear HO205; clear HO208; clear HL210_1; clear HL211_1; clear HL212_1; clear HO215; clear HR210_1; clear HR211_1; clear HR212_1; clear HB; have HO205 := n0_; have HO208 := n1_; have HL210_1 := n2_; have HL211_1 := n3_; have HL212_1 := n4_; have HO215 := n5_; have HR210_1 := n6_; have HR211_1 := n7_; have HR212_1 := n8_; have HB := n9_; clear n0_ n1_ n2_ n3_ n4_ n5_ n6_ n7_ n8_ n9_; (try clear hb); (try clear hb2); (try clear hk); (try clear hi)))
          go_ret
          exact ⟨by first | rfl | (simp [errW_none, errW_some] <;> rfl) | (simp [*, errW_none, errW_some] <;> rfl), by repeat (first | (with_reducible first | exact HB.out | apply below_alloc | apply pw_below_drewN | apply below_drew1) | exact HB.out)⟩
         ·
          rw [if_neg c11] at H
          have c11b0 : (t216 == 169) = false := beq_eq_false_iff_ne.mpr c11
          have c11b1 : (t216 != 169) = true := bne_iff_ne.mpr c11
          obtain rfl := Option.some.inj H
          go_enter Try.func6, Try.ntmps6
          go_wp2_with (first | ((with_reducible refine gate_dst (N := 5) rfl ?_); (try (refine gate_guard (by rfl) ?_; dsimp only)); refine Kd.R_lit (Kd.int .i64) _ 3 ?hg (N := 5) ?hd (xs := ([1] : List Int)) (inner := [.int .i64 1]) (ok := fun _ => True) (okp := fun _ => True) ?hr ?hp (fun _ hk => hk) trivial (Below.refl _ _) (Nat.le_refl _) (by simp) ?_; (case hd => rfl); (case hg => rfl); (case hr => first | (go_simp; done) | (go_simp; rfl)); (case hp => exact (Reps.one (show Kd.M (Kd.int .i64) _ _ _ 1 [.int .i64 1] from rfl) (Reps.none _ _))); intro v201 w26 ho27 hb hg_ hnew_; clear hg_ hnew_; (first | rw [← Ny200.out] at ho27 | (simp only [Int.reduceToNat] at ho27; rw [← Ny200.out] at ho27)); have n0_ := Aside0.mk (Kd.R_lower ho27 (below_size (by repeat (first | (with_reducible first | exact HB.out | apply below_alloc | apply pw_below_drewN | apply below_drew1) | exact HB.out)))); have n1_ := Aside0.mk (below_step (by repeat (first | (with_reducible first | exact HB.out | apply below_alloc | apply pw_below_drewN | apply below_drew1) | exact HB.out)) hb); clear HB; have HO202 := n0_; have HB := n1_; clear n0_ n1_; clear hb ho27; obtain ⟨Ao28, co28, eo28⟩ := Kd.R_slice HO202.out; subst eo28) | ((with_reducible refine gate_dst (N := 7) rfl ?_); (try (refine gate_guard (by rfl) ?_; dsimp only)); refine Kd.N_lit k39 _ 39 ?hg (N' := 7) ?hd (xs := ([(⟨3, ([] : List Int)⟩ : S39), (⟨2, y200⟩ : S39)] : List (S39))) (inner := [.int .u64 3, .slice none 0 0, .int .u64 2, .slice Ao28 y200.length co28]) (ok := (fun _ => True)) (okp := (fun _ => True)) ?hr ?hp (fun _ hk => hk) ((show ∀ k_, w26.heap.size ≤ k_ → (fun _ => True) k_ from fun k_ hk => trivial) _ (Nat.le_refl _)) (Below.refl _ _) (Nat.le_refl _) (by simp) ?_; (case hd => rfl); (case hg => rfl); (case hr => first | (go_simp; done) | (go_simp; rfl)); (case hp => exact (Reps.c2 (show Kd.FK k39 _ _ (⟨3, ([] : List Int)⟩ : S39) [.int .u64 3, .slice none 0 0] from (k39_mkF _ _ (⟨3, ([] : List Int)⟩ : S39) (Nat.le_refl _) (Kd.F_nil _ _ _))) (Reps.c2 (show Kd.FK k39 _ _ (⟨2, y200⟩ : S39) [.int .u64 2, .slice Ao28 y200.length co28] from (k39_mkF _ _ (⟨2, y200⟩ : S39) (Kd.R_reads' (Kd.R_mono (ok' := (fun _ => True)) (HO202.out) (fun k_ hk => trivial))).2.1 (Kd.R_F (Kd.R_mono (ok' := (fun _ => True)) (HO202.out) (fun k_ hk => trivial))))) (Reps.none _ _)))); intro v204 w29 ho30 hb hg_ hnew_; clear hg_ hnew_; (first | rw [← Ny203.out] at ho30 | (simp only [Int.reduceToNat] at ho30; rw [← Ny203.out] at ho30)); have n0_ := Aside0.mk (Kd.N_lower ho30 (below_size (by repeat (first | (with_reducible first | exact HB.out | apply below_alloc | apply pw_below_drewN | apply below_drew1) | exact HB.out)))); have n1_ := Aside0.mk (below_step (by repeat (first | (with_reducible first | exact HB.out | apply below_alloc | apply pw_below_drewN | apply below_drew1) | exact HB.out)) hb); clear HB; clear HO202; have HO205 := n0_; have HB := n1_; clear n0_ n1_; clear hb ho30; obtain ⟨Ao31, co31, eo31⟩ := Kd.N_slice HO205.out; subst eo31) | ((with_reducible refine gate_callee (f := 14) rfl ?_); refine goesL_ (some 11) rfl rfl Try.func14 (by kernel_rfl) rfl #[.slice Ao31 y203.length co31, .slice Ao31 y203.length co31] rfl (by (try simp only [List.map_toArray, List.map_cons, List.map_nil]); first | done | rfl | (simp only [List.length_drop, List.length_take]; rfl)) ?_; (with_reducible refine (cost_Times.calls k _ _ y203 _ _ y203 t206 t209 _ ?side1 ?side2 ?side3 ?side4 A1.out).mono ?_); (case side1 => repeat (first | exact (Kd.N_reads' HO205.out).2.2 | (with_reducible refine Kd.C_alloc ?_ _) | (with_reducible refine Kd.C_drewN ?_ _) | (with_reducible refine Kd.C_drew ?_))); (case side2 => exact (Kd.N_reads' HO205.out).2.1); (case side3 => repeat (first | exact (Kd.N_reads' HO205.out).2.2 | (with_reducible refine Kd.C_alloc ?_ _) | (with_reducible refine Kd.C_drewN ?_ _) | (with_reducible refine Kd.C_drew ?_))); (case side4 => exact (Kd.N_reads' HO205.out).2.1); rintro e w32 ⟨v207, rfl, ho0, hb⟩; refine ⟨_, rfl, ?_⟩; have n0_ := Aside0.mk (Kd.N_elder' (by (with_reducible repeat (first | apply Kd.N_alloc | apply Kd.N_drewN | apply Kd.N_drew)); exact HO205.out) (Kd.N_base ho0) hb); have n1_ := Aside0.mk (Kd.N_lower (Kd.N_mono (ok' := fun k_ => some k_ ≠ (.slice Ao31 y203.length co31 : Value).ownBlock) ho0 (fun k_ hk_ => (Kd.fresh' (Kd.N_lt (by (with_reducible repeat (first | apply Kd.N_alloc | apply Kd.N_drewN | apply Kd.N_drew)); exact HO205.out)) k_ hk_))) (below_size (by repeat (first | (with_reducible first | exact HB.out | apply below_alloc | apply pw_below_drewN | apply below_drew1) | exact HB.out)))); have n2_ := Aside0.mk (below_step (by repeat (first | (with_reducible first | exact HB.out | apply below_alloc | apply pw_below_drewN | apply below_drew1) | exact HB.out)) hb); clear HO205; clear HB; have HO205 := n0_; have HO208 := n1_; have HB := n2_; clear n0_ n1_ n2_; (try clear hb); (try clear hb2); (try clear hk); (try clear hi); (try clear ho0); obtain ⟨Ao33, co33, eo33⟩ := Kd.N_slice HO208.out; subst eo33; have p210 : 0 ≤ (0 : Int) := (by omega); have q210 : 0 < (t206.length : Int) := of_decide_eq_true (by first | (with_reducible assumption) | assumption); obtain ⟨ad210, A210_1, c210_1, e210, hx210_0, hx210_1, hl210_1, hi210_1⟩ := at_T39 (Kd.N_reads' HO208.out).2.2 0 p210 q210; cases e210; obtain ⟨ce210, hce210, hMe210, hcc210⟩ := Kd.N_get HO208.out z39 0 p210 (by first | exact q210 | exact of_decide_eq_true (by first | (with_reducible assumption) | assumption) | (have e_ := (Kd.N_reads' HO208.out).1; omega)); obtain ⟨ua210_1, uc210_1, rfl, ul210_1, ge210_1⟩ := k39_openF hMe210; have hv210_1 := hcc210 1 _ rfl; rw [add_field _ _ 1 (by omega)] at hv210_1; replace hv210_1 := Option.some.inj (hv210_1.symm.trans hx210_1); injection hv210_1 with hva_ hvn_ hvc_; rw [hva_] at ge210_1; rw [hvc_] at ul210_1; have HL210_1 := Aside0.mk (show Kd.V (Kd.int .i64) 3 _ w.heap.size _ _ ((rd_T39 t206 0).f1) from Kd.V_mk ul210_1 ge210_1); clear hva_ hvn_ hvc_ ge210_1 ul210_1; clear hcc210 hce210; have qi210 : (0 < t206.length) = True := eq_true (by omega); (try rw [show ((0 : Int)).toNat = 0 from rfl] at hx210_0); (try rw [show 0 * 2 = 0 from rfl] at hx210_0); (try rw [Addr.add_zero'] at hx210_0); (try rw [show ((0 : Int)).toNat = 0 from rfl] at hx210_1); (try rw [show 0 * 2 = 0 from rfl] at hx210_1); (try rw [Addr.add_zero'] at hx210_1); have HR210_1 := Aside0.mk hi210_1; have HC210_1 := Aside0.mk hl210_1; clear hi210_1 hl210_1; replace p210 := eq_true p210; replace q210 := eq_true q210; have p211 : 0 ≤ (1 : Int) := (by omega); have q211 : 1 < (t206.length : Int) := of_decide_eq_true (by first | (with_reducible assumption) | assumption); obtain ⟨ad211, A211_1, c211_1, e211, hx211_0, hx211_1, hl211_1, hi211_1⟩ := at_T39 (Kd.N_reads' HO208.out).2.2 1 p211 q211; obtain rfl : ad210 = ad211 := (by injection e211); obtain ⟨ce211, hce211, hMe211, hcc211⟩ := Kd.N_get HO208.out z39 1 p211 (by first | exact q211 | exact of_decide_eq_true (by first | (with_reducible assumption) | assumption) | (have e_ := (Kd.N_reads' HO208.out).1; omega)); obtain ⟨ua211_1, uc211_1, rfl, ul211_1, ge211_1⟩ := k39_openF hMe211; have hv211_1 := hcc211 1 _ rfl; rw [add_field _ _ 1 (by omega)] at hv211_1; replace hv211_1 := Option.some.inj (hv211_1.symm.trans hx211_1); injection hv211_1 with hva_ hvn_ hvc_; rw [hva_] at ge211_1; rw [hvc_] at ul211_1; have HL211_1 := Aside0.mk (show Kd.V (Kd.int .i64) 3 _ w.heap.size _ _ ((rd_T39 t206 1).f1) from Kd.V_mk ul211_1 ge211_1); clear hva_ hvn_ hvc_ ge211_1 ul211_1; clear hcc211 hce211; (try simp only [show (1 : Int).toNat = 1 from rfl, Nat.reduceMul, Nat.reduceEqDiff, Go.Addr.add, ↓reduceIte] at hx211_0); (try simp only [show (1 : Int).toNat = 1 from rfl, Nat.reduceMul, Nat.reduceEqDiff, Go.Addr.add, ↓reduceIte] at hx211_1); have qi211 : (1 < t206.length) = True := eq_true (by omega); (try rw [show ((1 : Int)).toNat = 1 from rfl] at hx211_0); (try rw [show 1 * 2 = 2 from rfl] at hx211_0); (try rw [show ((1 : Int)).toNat = 1 from rfl] at hx211_1); (try rw [show 1 * 2 = 2 from rfl] at hx211_1); have HR211_1 := Aside0.mk hi211_1; have HC211_1 := Aside0.mk hl211_1; clear hi211_1 hl211_1; replace p211 := eq_true p211; replace q211 := eq_true q211; have p212 : 0 ≤ (2 : Int) := (by omega); have q212 : 2 < (t206.length : Int) := of_decide_eq_true (by first | (with_reducible assumption) | assumption); obtain ⟨ad212, A212_1, c212_1, e212, hx212_0, hx212_1, hl212_1, hi212_1⟩ := at_T39 (Kd.N_reads' HO208.out).2.2 2 p212 q212; obtain rfl : ad210 = ad212 := (by injection e212); obtain ⟨ce212, hce212, hMe212, hcc212⟩ := Kd.N_get HO208.out z39 2 p212 (by first | exact q212 | exact of_decide_eq_true (by first | (with_reducible assumption) | assumption) | (have e_ := (Kd.N_reads' HO208.out).1; omega)); obtain ⟨ua212_1, uc212_1, rfl, ul212_1, ge212_1⟩ := k39_openF hMe212; have hv212_1 := hcc212 1 _ rfl; rw [add_field _ _ 1 (by omega)] at hv212_1; replace hv212_1 := Option.some.inj (hv212_1.symm.trans hx212_1); injection hv212_1 with hva_ hvn_ hvc_; rw [hva_] at ge212_1; rw [hvc_] at ul212_1; have HL212_1 := Aside0.mk (show Kd.V (Kd.int .i64) 3 _ w.heap.size _ _ ((rd_T39 t206 2).f1) from Kd.V_mk ul212_1 ge212_1); clear hva_ hvn_ hvc_ ge212_1 ul212_1; clear hcc212 hce212; (try simp only [show (2 : Int).toNat = 2 from rfl, Nat.reduceMul, Nat.reduceEqDiff, Go.Addr.add, ↓reduceIte] at hx212_0); (try simp only [show (2 : Int).toNat = 2 from rfl, Nat.reduceMul, Nat.reduceEqDiff, Go.Addr.add, ↓reduceIte] at hx212_1); have qi212 : (2 < t206.length) = True := eq_true (by omega); (try rw [show ((2 : Int)).toNat = 2 from rfl] at hx212_0); (try rw [show 2 * 2 = 4 from rfl] at hx212_0); (try rw [show ((2 : Int)).toNat = 2 from rfl] at hx212_1); (try rw [show 2 * 2 = 4 from rfl] at hx212_1); have HR212_1 := Aside0.mk hi212_1; have HC212_1 := Aside0.mk hl212_1; clear hi212_1 hl212_1; replace p212 := eq_true p212; replace q212 := eq_true q212) | ((with_reducible refine gate_dst (N := 44) rfl ?_); (try (refine gate_guard (by rfl) ?_; dsimp only)); refine Kd.R_lit (Kd.int .u64) _ 24 ?hg (N := 44) ?hd (xs := ([5] : List Int)) (inner := [.int .u64 5]) (ok := fun _ => True) (okp := fun _ => True) ?hr ?hp (fun _ hk => hk) trivial (Below.refl _ _) (Nat.le_refl _) (by simp) ?_; (case hd => rfl); (case hg => rfl); (case hr => first | (go_simp; done) | (go_simp; rfl)); (case hp => exact (Reps.one (show Kd.M (Kd.int .u64) _ _ _ 5 [.int .u64 5] from rfl) (Reps.none _ _))); intro v214 w34 ho35 hb hg_ hnew_; clear hg_ hnew_; (first | rw [← Ny213.out] at ho35 | (simp only [Int.reduceToNat] at ho35; rw [← Ny213.out] at ho35)); have n0_ := Aside0.mk (Kd.N_elder' (by (with_reducible repeat (first | apply Kd.N_alloc | apply Kd.N_drewN | apply Kd.N_drew)); exact HO205.out) (Kd.R_base ho35) hb); have n1_ := Aside0.mk (Kd.N_elder' (by (with_reducible repeat (first | apply Kd.N_alloc | apply Kd.N_drewN | apply Kd.N_drew)); exact HO208.out) (Kd.R_base ho35) hb); have n2_ := Aside0.mk (Kd.V_elder' (by (with_reducible repeat (first | apply Kd.V_alloc | apply Kd.V_drewN | apply Kd.V_drew)); exact HL210_1.out) (Kd.R_base ho35) hb); have n3_ := Aside0.mk (Kd.V_elder' (by (with_reducible repeat (first | apply Kd.V_alloc | apply Kd.V_drewN | apply Kd.V_drew)); exact HL211_1.out) (Kd.R_base ho35) hb); have n4_ := Aside0.mk (Kd.V_elder' (by (with_reducible repeat (first | apply Kd.V_alloc | apply Kd.V_drewN | apply Kd.V_drew)); exact HL212_1.out) (Kd.R_base ho35) hb); have n5_ := Aside0.mk (Kd.R_lower ho35 (below_size (by repeat (first | (with_reducible first | exact HB.out | apply below_alloc | apply pw_below_drewN | apply below_drew1) | exact HB.out)))); have n6_ := Aside0.mk (Kd.C_below (by repeat (first | (with_reducible exact HR210_1.out) | (with_reducible refine Kd.C_alloc ?_ _) | (with_reducible refine Kd.C_drewN ?_ _) | (with_reducible refine Kd.C_drew ?_) | exact HR210_1.out)) hb); have n7_ := Aside0.mk (Kd.C_below (by repeat (first | (with_reducible exact HR211_1.out) | (with_reducible refine Kd.C_alloc ?_ _) | (with_reducible refine Kd.C_drewN ?_ _) | (with_reducible refine Kd.C_drew ?_) | exact HR211_1.out)) hb); have n8_ := Aside0.mk (Kd.C_below (by repeat (first | (with_reducible exact HR212_1.out) | (with_reducible refine Kd.C_alloc ?_ _) | (with_reducible refine Kd.C_drewN ?_ _) | (with_reducible refine Kd.C_drew ?_) | exact HR212_1.out)) hb); have n9_ := Aside0.mk (below_step (by repeat (first | (with_reducible first | exact HB.out | apply below_alloc | apply pw_below_drewN | apply below_drew1) | exact HB.out)) hb); clear HO205; clear HO208; clear HL210_1; clear HL211_1; clear HL212_1; clear HR210_1; clear HR211_1; clear HR212_1; clear HB; have HO205 := n0_; have HO208 := n1_; have HL210_1 := n2_; have HL211_1 := n3_; have HL212_1 := n4_; have HO215 := n5_; have HR210_1 := n6_; have HR211_1 := n7_; have HR212_1 := n8_; have HB := n9_; clear n0_ n1_ n2_ n3_ n4_ n5_ n6_ n7_ n8_ n9_; clear hb ho35; obtain ⟨Ao36, co36, eo36⟩ := Kd.R_slice HO215.out; subst eo36) | (go_at_call 7; (with_reducible refine (cost_Value.calls k _ _ t206 _ _ y213 t216 _ ?side1 ?side2 ?side3 ?side4 A10.out).mono ?_); (case side1 => repeat (first | exact (Kd.N_reads' HO208.out).2.2 | (with_reducible refine Kd.C_alloc ?_ _) | (with_reducible refine Kd.C_drewN ?_ _) | (with_reducible refine Kd.C_drew ?_))); (case side2 => exact (Kd.N_reads' HO208.out).2.1); (case side3 => repeat (first | exact (Kd.R_reads' HO215.out).2.2 | (with_reducible refine Kd.C_alloc ?_ _) | (with_reducible refine Kd.C_drewN ?_ _) | (with_reducible refine Kd.C_drew ?_))); (case side4 => exact (Kd.R_reads' HO215.out).2.1); rintro e w37 ⟨rfl, hb⟩; have n0_ := Aside0.mk (Kd.N_below (by (with_reducible repeat (first | apply Kd.N_alloc | apply Kd.N_drewN | apply Kd.N_drew)); exact HO205.out) hb); have n1_ := Aside0.mk (Kd.N_below (by (with_reducible repeat (first | apply Kd.N_alloc | apply Kd.N_drewN | apply Kd.N_drew)); exact HO208.out) hb); have n2_ := Aside0.mk (Kd.V_below (by (with_reducible repeat (first | apply Kd.V_alloc | apply Kd.V_drewN | apply Kd.V_drew)); exact HL210_1.out) hb); have n3_ := Aside0.mk (Kd.V_below (by (with_reducible repeat (first | apply Kd.V_alloc | apply Kd.V_drewN | apply Kd.V_drew)); exact HL211_1.out) hb); have n4_ := Aside0.mk (Kd.V_below (by (with_reducible repeat (first | apply Kd.V_alloc | apply Kd.V_drewN | apply Kd.V_drew)); exact HL212_1.out) hb); have n5_ := Aside0.mk (Kd.R_below (by (with_reducible repeat (first | apply Kd.R_alloc | apply Kd.R_drewN | apply Kd.R_drew)); exact HO215.out) hb); have n6_ := Aside0.mk (Kd.C_below (by repeat (first | (with_reducible exact HR210_1.out) | (with_reducible refine Kd.C_alloc ?_ _) | (with_reducible refine Kd.C_drewN ?_ _) | (with_reducible refine Kd.C_drew ?_) | exact HR210_1.out)) hb); have n7_ := Aside0.mk (Kd.C_below (by repeat (first | (with_reducible exact HR211_1.out) | (with_reducible refine Kd.C_alloc ?_ _) | (with_reducible refine Kd.C_drewN ?_ _) | (with_reducible refine Kd.C_drew ?_) | exact HR211_1.out)) hb); have n8_ := Aside0.mk (Kd.C_below (by repeat (first | (with_reducible exact HR212_1.out) | (with_reducible refine Kd.C_alloc ?_ _) | (with_reducible refine Kd.C_drewN ?_ _) | (with_reducible refine Kd.C_drew ?_) | exact HR212_1.out)) hb); have n9_ := Aside0.mk (below_step (by repeat (first | (with_reducible first | exact HB.out | apply below_alloc | apply pw_below_drewN | apply below_drew1) | exact HB.out)) hb); clear HO205; clear HO208; clear HL210_1; clear HL211_1; clear HL212_1; clear HO215; clear HR210_1; clear HR211_1; clear HR212_1; clear HB; have HO205 := n0_; have HO208 := n1_; have HL210_1 := n2_; have HL211_1 := n3_; have HL212_1 := n4_; have HO215 := n5_; have HR210_1 := n6_; have HR211_1 := n7_; have HR212_1 := n8_; have HB := n9_; clear n0_ n1_ n2_ n3_ n4_ n5_ n6_ n7_ n8_ n9_; (try clear hb); (try clear hb2); (try clear hk); (try clear hi)))
          go_ret
          exact ⟨by first | rfl | (simp [errW_none, errW_some] <;> rfl) | (simp [*, errW_none, errW_some] <;> rfl), by repeat (first | (with_reducible first | exact HB.out | apply below_alloc | apply pw_below_drewN | apply below_drew1) | exact HB.out)⟩
        ·
         rw [if_neg c9] at H
         have c9b0 : (((rd_T39 t206 2).f0) == 9) = false := beq_eq_false_iff_ne.mpr c9
         have c9b1 : (((rd_T39 t206 2).f0) != 9) = true := bne_iff_ne.mpr c9
         obtain rfl := Option.some.inj H
         go_enter Try.func6, Try.ntmps6
         go_wp2_with (first | ((with_reducible refine gate_dst (N := 5) rfl ?_); (try (refine gate_guard (by rfl) ?_; dsimp only)); refine Kd.R_lit (Kd.int .i64) _ 3 ?hg (N := 5) ?hd (xs := ([1] : List Int)) (inner := [.int .i64 1]) (ok := fun _ => True) (okp := fun _ => True) ?hr ?hp (fun _ hk => hk) trivial (Below.refl _ _) (Nat.le_refl _) (by simp) ?_; (case hd => rfl); (case hg => rfl); (case hr => first | (go_simp; done) | (go_simp; rfl)); (case hp => exact (Reps.one (show Kd.M (Kd.int .i64) _ _ _ 1 [.int .i64 1] from rfl) (Reps.none _ _))); intro v201 w38 ho39 hb hg_ hnew_; clear hg_ hnew_; (first | rw [← Ny200.out] at ho39 | (simp only [Int.reduceToNat] at ho39; rw [← Ny200.out] at ho39)); have n0_ := Aside0.mk (Kd.R_lower ho39 (below_size (by repeat (first | (with_reducible first | exact HB.out | apply below_alloc | apply pw_below_drewN | apply below_drew1) | exact HB.out)))); have n1_ := Aside0.mk (below_step (by repeat (first | (with_reducible first | exact HB.out | apply below_alloc | apply pw_below_drewN | apply below_drew1) | exact HB.out)) hb); clear HB; have HO202 := n0_; have HB := n1_; clear n0_ n1_; clear hb ho39; obtain ⟨Ao40, co40, eo40⟩ := Kd.R_slice HO202.out; subst eo40) | ((with_reducible refine gate_dst (N := 7) rfl ?_); (try (refine gate_guard (by rfl) ?_; dsimp only)); refine Kd.N_lit k39 _ 39 ?hg (N' := 7) ?hd (xs := ([(⟨3, ([] : List Int)⟩ : S39), (⟨2, y200⟩ : S39)] : List (S39))) (inner := [.int .u64 3, .slice none 0 0, .int .u64 2, .slice Ao40 y200.length co40]) (ok := (fun _ => True)) (okp := (fun _ => True)) ?hr ?hp (fun _ hk => hk) ((show ∀ k_, w38.heap.size ≤ k_ → (fun _ => True) k_ from fun k_ hk => trivial) _ (Nat.le_refl _)) (Below.refl _ _) (Nat.le_refl _) (by simp) ?_; (case hd => rfl); (case hg => rfl); (case hr => first | (go_simp; done) | (go_simp; rfl)); (case hp => exact (Reps.c2 (show Kd.FK k39 _ _ (⟨3, ([] : List Int)⟩ : S39) [.int .u64 3, .slice none 0 0] from (k39_mkF _ _ (⟨3, ([] : List Int)⟩ : S39) (Nat.le_refl _) (Kd.F_nil _ _ _))) (Reps.c2 (show Kd.FK k39 _ _ (⟨2, y200⟩ : S39) [.int .u64 2, .slice Ao40 y200.length co40] from (k39_mkF _ _ (⟨2, y200⟩ : S39) (Kd.R_reads' (Kd.R_mono (ok' := (fun _ => True)) (HO202.out) (fun k_ hk => trivial))).2.1 (Kd.R_F (Kd.R_mono (ok' := (fun _ => True)) (HO202.out) (fun k_ hk => trivial))))) (Reps.none _ _)))); intro v204 w41 ho42 hb hg_ hnew_; clear hg_ hnew_; (first | rw [← Ny203.out] at ho42 | (simp only [Int.reduceToNat] at ho42; rw [← Ny203.out] at ho42)); have n0_ := Aside0.mk (Kd.N_lower ho42 (below_size (by repeat (first | (with_reducible first | exact HB.out | apply below_alloc | apply pw_below_drewN | apply below_drew1) | exact HB.out)))); have n1_ := Aside0.mk (below_step (by repeat (first | (with_reducible first | exact HB.out | apply below_alloc | apply pw_below_drewN | apply below_drew1) | exact HB.out)) hb); clear HB; clear HO202; have HO205 := n0_; have HB := n1_; clear n0_ n1_; clear hb ho42; obtain ⟨Ao43, co43, eo43⟩ := Kd.N_slice HO205.out; subst eo43) | ((with_reducible refine gate_callee (f := 14) rfl ?_); refine goesL_ (some 11) rfl rfl Try.func14 (by kernel_rfl) rfl #[.slice Ao43 y203.length co43, .slice Ao43 y203.length co43] rfl (by (try simp only [List.map_toArray, List.map_cons, List.map_nil]); first | done | rfl | (simp only [List.length_drop, List.length_take]; rfl)) ?_; (with_reducible refine (cost_Times.calls k _ _ y203 _ _ y203 t206 t209 _ ?side1 ?side2 ?side3 ?side4 A1.out).mono ?_); (case side1 => repeat (first | exact (Kd.N_reads' HO205.out).2.2 | (with_reducible refine Kd.C_alloc ?_ _) | (with_reducible refine Kd.C_drewN ?_ _) | (with_reducible refine Kd.C_drew ?_))); (case side2 => exact (Kd.N_reads' HO205.out).2.1); (case side3 => repeat (first | exact (Kd.N_reads' HO205.out).2.2 | (with_reducible refine Kd.C_alloc ?_ _) | (with_reducible refine Kd.C_drewN ?_ _) | (with_reducible refine Kd.C_drew ?_))); (case side4 => exact (Kd.N_reads' HO205.out).2.1); rintro e w44 ⟨v207, rfl, ho0, hb⟩; refine ⟨_, rfl, ?_⟩; have n0_ := Aside0.mk (Kd.N_elder' (by (with_reducible repeat (first | apply Kd.N_alloc | apply Kd.N_drewN | apply Kd.N_drew)); exact HO205.out) (Kd.N_base ho0) hb); have n1_ := Aside0.mk (Kd.N_lower (Kd.N_mono (ok' := fun k_ => some k_ ≠ (.slice Ao43 y203.length co43 : Value).ownBlock) ho0 (fun k_ hk_ => (Kd.fresh' (Kd.N_lt (by (with_reducible repeat (first | apply Kd.N_alloc | apply Kd.N_drewN | apply Kd.N_drew)); exact HO205.out)) k_ hk_))) (below_size (by repeat (first | (with_reducible first | exact HB.out | apply below_alloc | apply pw_below_drewN | apply below_drew1) | exact HB.out)))); have n2_ := Aside0.mk (below_step (by repeat (first | (with_reducible first | exact HB.out | apply below_alloc | apply pw_below_drewN | apply below_drew1) | exact HB.out)) hb); clear HO205; clear HB; have HO205 := n0_; have HO208 := n1_; have HB := n2_; clear n0_ n1_ n2_; (try clear hb); (try clear hb2); (try clear hk); (try clear hi); (try clear ho0); obtain ⟨Ao45, co45, eo45⟩ := Kd.N_slice HO208.out; subst eo45; have p210 : 0 ≤ (0 : Int) := (by omega); have q210 : 0 < (t206.length : Int) := of_decide_eq_true (by first | (with_reducible assumption) | assumption); obtain ⟨ad210, A210_1, c210_1, e210, hx210_0, hx210_1, hl210_1, hi210_1⟩ := at_T39 (Kd.N_reads' HO208.out).2.2 0 p210 q210; cases e210; obtain ⟨ce210, hce210, hMe210, hcc210⟩ := Kd.N_get HO208.out z39 0 p210 (by first | exact q210 | exact of_decide_eq_true (by first | (with_reducible assumption) | assumption) | (have e_ := (Kd.N_reads' HO208.out).1; omega)); obtain ⟨ua210_1, uc210_1, rfl, ul210_1, ge210_1⟩ := k39_openF hMe210; have hv210_1 := hcc210 1 _ rfl; rw [add_field _ _ 1 (by omega)] at hv210_1; replace hv210_1 := Option.some.inj (hv210_1.symm.trans hx210_1); injection hv210_1 with hva_ hvn_ hvc_; rw [hva_] at ge210_1; rw [hvc_] at ul210_1; have HL210_1 := Aside0.mk (show Kd.V (Kd.int .i64) 3 _ w.heap.size _ _ ((rd_T39 t206 0).f1) from Kd.V_mk ul210_1 ge210_1); clear hva_ hvn_ hvc_ ge210_1 ul210_1; clear hcc210 hce210; have qi210 : (0 < t206.length) = True := eq_true (by omega); (try rw [show ((0 : Int)).toNat = 0 from rfl] at hx210_0); (try rw [show 0 * 2 = 0 from rfl] at hx210_0); (try rw [Addr.add_zero'] at hx210_0); (try rw [show ((0 : Int)).toNat = 0 from rfl] at hx210_1); (try rw [show 0 * 2 = 0 from rfl] at hx210_1); (try rw [Addr.add_zero'] at hx210_1); have HR210_1 := Aside0.mk hi210_1; have HC210_1 := Aside0.mk hl210_1; clear hi210_1 hl210_1; replace p210 := eq_true p210; replace q210 := eq_true q210; have p211 : 0 ≤ (1 : Int) := (by omega); have q211 : 1 < (t206.length : Int) := of_decide_eq_true (by first | (with_reducible assumption) | assumption); obtain ⟨ad211, A211_1, c211_1, e211, hx211_0, hx211_1, hl211_1, hi211_1⟩ := at_T39 (Kd.N_reads' HO208.out).2.2 1 p211 q211; obtain rfl : ad210 = ad211 := (by injection e211); obtain ⟨ce211, hce211, hMe211, hcc211⟩ := Kd.N_get HO208.out z39 1 p211 (by first | exact q211 | exact of_decide_eq_true (by first | (with_reducible assumption) | assumption) | (have e_ := (Kd.N_reads' HO208.out).1; omega)); obtain ⟨ua211_1, uc211_1, rfl, ul211_1, ge211_1⟩ := k39_openF hMe211; have hv211_1 := hcc211 1 _ rfl; rw [add_field _ _ 1 (by omega)] at hv211_1; replace hv211_1 := Option.some.inj (hv211_1.symm.trans hx211_1); injection hv211_1 with hva_ hvn_ hvc_; rw [hva_] at ge211_1; rw [hvc_] at ul211_1; have HL211_1 := Aside0.mk (show Kd.V (Kd.int .i64) 3 _ w.heap.size _ _ ((rd_T39 t206 1).f1) from Kd.V_mk ul211_1 ge211_1); clear hva_ hvn_ hvc_ ge211_1 ul211_1; clear hcc211 hce211; (try simp only [show (1 : Int).toNat = 1 from rfl, Nat.reduceMul, Nat.reduceEqDiff, Go.Addr.add, ↓reduceIte] at hx211_0); (try simp only [show (1 : Int).toNat = 1 from rfl, Nat.reduceMul, Nat.reduceEqDiff, Go.Addr.add, ↓reduceIte] at hx211_1); have qi211 : (1 < t206.length) = True := eq_true (by omega); (try rw [show ((1 : Int)).toNat = 1 from rfl] at hx211_0); (try rw [show 1 * 2 = 2 from rfl] at hx211_0); (try rw [show ((1 : Int)).toNat = 1 from rfl] at hx211_1); (try rw [show 1 * 2 = 2 from rfl] at hx211_1); have HR211_1 := Aside0.mk hi211_1; have HC211_1 := Aside0.mk hl211_1; clear hi211_1 hl211_1; replace p211 := eq_true p211; replace q211 := eq_true q211; have p212 : 0 ≤ (2 : Int) := (by omega); have q212 : 2 < (t206.length : Int) := of_decide_eq_true (by first | (with_reducible assumption) | assumption); obtain ⟨ad212, A212_1, c212_1, e212, hx212_0, hx212_1, hl212_1, hi212_1⟩ := at_T39 (Kd.N_reads' HO208.out).2.2 2 p212 q212; obtain rfl : ad210 = ad212 := (by injection e212); obtain ⟨ce212, hce212, hMe212, hcc212⟩ := Kd.N_get HO208.out z39 2 p212 (by first | exact q212 | exact of_decide_eq_true (by first | (with_reducible assumption) | assumption) | (have e_ := (Kd.N_reads' HO208.out).1; omega)); obtain ⟨ua212_1, uc212_1, rfl, ul212_1, ge212_1⟩ := k39_openF hMe212; have hv212_1 := hcc212 1 _ rfl; rw [add_field _ _ 1 (by omega)] at hv212_1; replace hv212_1 := Option.some.inj (hv212_1.symm.trans hx212_1); injection hv212_1 with hva_ hvn_ hvc_; rw [hva_] at ge212_1; rw [hvc_] at ul212_1; have HL212_1 := Aside0.mk (show Kd.V (Kd.int .i64) 3 _ w.heap.size _ _ ((rd_T39 t206 2).f1) from Kd.V_mk ul212_1 ge212_1); clear hva_ hvn_ hvc_ ge212_1 ul212_1; clear hcc212 hce212; (try simp only [show (2 : Int).toNat = 2 from rfl, Nat.reduceMul, Nat.reduceEqDiff, Go.Addr.add, ↓reduceIte] at hx212_0); (try simp only [show (2 : Int).toNat = 2 from rfl, Nat.reduceMul, Nat.reduceEqDiff, Go.Addr.add, ↓reduceIte] at hx212_1); have qi212 : (2 < t206.length) = True := eq_true (by omega); (try rw [show ((2 : Int)).toNat = 2 from rfl] at hx212_0); (try rw [show 2 * 2 = 4 from rfl] at hx212_0); (try rw [show ((2 : Int)).toNat = 2 from rfl] at hx212_1); (try rw [show 2 * 2 = 4 from rfl] at hx212_1); have HR212_1 := Aside0.mk hi212_1; have HC212_1 := Aside0.mk hl212_1; clear hi212_1 hl212_1; replace p212 := eq_true p212; replace q212 := eq_true q212))
         go_ret
         exact ⟨by first | rfl | (simp [errW_none, errW_some] <;> rfl) | (simp [*, errW_none, errW_some] <;> rfl), by repeat (first | (with_reducible first | exact HB.out | apply below_alloc | apply pw_below_drewN | apply below_drew1) | exact HB.out)⟩
       ·
        rw [if_neg c8] at H
        exact absurd H (by simp)
      ·
       rw [if_neg c7] at H
       have c7b0 : (((rd_T39 t206 1).f0) == 12) = false := beq_eq_false_iff_ne.mpr c7
       have c7b1 : (((rd_T39 t206 1).f0) != 12) = true := bne_iff_ne.mpr c7
       obtain rfl := Option.some.inj H
       go_enter Try.func6, Try.ntmps6
       go_wp2_with (first | ((with_reducible refine gate_dst (N := 5) rfl ?_); (try (refine gate_guard (by rfl) ?_; dsimp only)); refine Kd.R_lit (Kd.int .i64) _ 3 ?hg (N := 5) ?hd (xs := ([1] : List Int)) (inner := [.int .i64 1]) (ok := fun _ => True) (okp := fun _ => True) ?hr ?hp (fun _ hk => hk) trivial (Below.refl _ _) (Nat.le_refl _) (by simp) ?_; (case hd => rfl); (case hg => rfl); (case hr => first | (go_simp; done) | (go_simp; rfl)); (case hp => exact (Reps.one (show Kd.M (Kd.int .i64) _ _ _ 1 [.int .i64 1] from rfl) (Reps.none _ _))); intro v201 w46 ho47 hb hg_ hnew_; clear hg_ hnew_; (first | rw [← Ny200.out] at ho47 | (simp only [Int.reduceToNat] at ho47; rw [← Ny200.out] at ho47)); have n0_ := Aside0.mk (Kd.R_lower ho47 (below_size (by repeat (first | (with_reducible first | exact HB.out | apply below_alloc | apply pw_below_drewN | apply below_drew1) | exact HB.out)))); have n1_ := Aside0.mk (below_step (by repeat (first | (with_reducible first | exact HB.out | apply below_alloc | apply pw_below_drewN | apply below_drew1) | exact HB.out)) hb); clear HB; have HO202 := n0_; have HB := n1_; clear n0_ n1_; clear hb ho47; obtain ⟨Ao48, co48, eo48⟩ := Kd.R_slice HO202.out; subst eo48) | ((with_reducible refine gate_dst (N := 7) rfl ?_); (try (refine gate_guard (by rfl) ?_; dsimp only)); refine Kd.N_lit k39 _ 39 ?hg (N' := 7) ?hd (xs := ([(⟨3, ([] : List Int)⟩ : S39), (⟨2, y200⟩ : S39)] : List (S39))) (inner := [.int .u64 3, .slice none 0 0, .int .u64 2, .slice Ao48 y200.length co48]) (ok := (fun _ => True)) (okp := (fun _ => True)) ?hr ?hp (fun _ hk => hk) ((show ∀ k_, w46.heap.size ≤ k_ → (fun _ => True) k_ from fun k_ hk => trivial) _ (Nat.le_refl _)) (Below.refl _ _) (Nat.le_refl _) (by simp) ?_; (case hd => rfl); (case hg => rfl); (case hr => first | (go_simp; done) | (go_simp; rfl)); (case hp => exact (Reps.c2 (show Kd.FK k39 _ _ (⟨3, ([] : List Int)⟩ : S39) [.int .u64 3, .slice none 0 0] from (k39_mkF _ _ (⟨3, ([] : List Int)⟩ : S39) (Nat.le_refl _) (Kd.F_nil _ _ _))) (Reps.c2 (show Kd.FK k39 _ _ (⟨2, y200⟩ : S39) [.int .u64 2, .slice Ao48 y200.length co48] from (k39_mkF _ _ (⟨2, y200⟩ : S39) (Kd.R_reads' (Kd.R_mono (ok' := (fun _ => True)) (HO202.out) (fun k_ hk => trivial))).2.1 (Kd.R_F (Kd.R_mono (ok' := (fun _ => True)) (HO202.out) (fun k_ hk => trivial))))) (Reps.none _ _)))); intro v204 w49 ho50 hb hg_ hnew_; clear hg_ hnew_; (first | rw [← Ny203.out] at ho50 | (simp only [Int.reduceToNat] at ho50; rw [← Ny203.out] at ho50)); have n0_ := Aside0.mk (Kd.N_lower ho50 (below_size (by repeat (first | (with_reducible first | exact HB.out | apply below_alloc | apply pw_below_drewN | apply below_drew1) | exact HB.out)))); have n1_ := Aside0.mk (below_step (by repeat (first | (with_reducible first | exact HB.out | apply below_alloc | apply pw_below_drewN | apply below_drew1) | exact HB.out)) hb); clear HB; clear HO202; have HO205 := n0_; have HB := n1_; clear n0_ n1_; clear hb ho50; obtain ⟨Ao51, co51, eo51⟩ := Kd.N_slice HO205.out; subst eo51) | ((with_reducible refine gate_callee (f := 14) rfl ?_); refine goesL_ (some 11) rfl rfl Try.func14 (by kernel_rfl) rfl #[.slice Ao51 y203.length co51, .slice Ao51 y203.length co51] rfl (by (try simp only [List.map_toArray, List.map_cons, List.map_nil]); first | done | rfl | (simp only [List.length_drop, List.length_take]; rfl)) ?_; (with_reducible refine (cost_Times.calls k _ _ y203 _ _ y203 t206 t209 _ ?side1 ?side2 ?side3 ?side4 A1.out).mono ?_); (case side1 => repeat (first | exact (Kd.N_reads' HO205.out).2.2 | (with_reducible refine Kd.C_alloc ?_ _) | (with_reducible refine Kd.C_drewN ?_ _) | (with_reducible refine Kd.C_drew ?_))); (case side2 => exact (Kd.N_reads' HO205.out).2.1); (case side3 => repeat (first | exact (Kd.N_reads' HO205.out).2.2 | (with_reducible refine Kd.C_alloc ?_ _) | (with_reducible refine Kd.C_drewN ?_ _) | (with_reducible refine Kd.C_drew ?_))); (case side4 => exact (Kd.N_reads' HO205.out).2.1); rintro e w52 ⟨v207, rfl, ho0, hb⟩; refine ⟨_, rfl, ?_⟩; have n0_ := Aside0.mk (Kd.N_elder' (by (with_reducible repeat (first | apply Kd.N_alloc | apply Kd.N_drewN | apply Kd.N_drew)); exact HO205.out) (Kd.N_base ho0) hb); have n1_ := Aside0.mk (Kd.N_lower (Kd.N_mono (ok' := fun k_ => some k_ ≠ (.slice Ao51 y203.length co51 : Value).ownBlock) ho0 (fun k_ hk_ => (Kd.fresh' (Kd.N_lt (by (with_reducible repeat (first | apply Kd.N_alloc | apply Kd.N_drewN | apply Kd.N_drew)); exact HO205.out)) k_ hk_))) (below_size (by repeat (first | (with_reducible first | exact HB.out | apply below_alloc | apply pw_below_drewN | apply below_drew1) | exact HB.out)))); have n2_ := Aside0.mk (below_step (by repeat (first | (with_reducible first | exact HB.out | apply below_alloc | apply pw_below_drewN | apply below_drew1) | exact HB.out)) hb); clear HO205; clear HB; have HO205 := n0_; have HO208 := n1_; have HB := n2_; clear n0_ n1_ n2_; (try clear hb); (try clear hb2); (try clear hk); (try clear hi); (try clear ho0); obtain ⟨Ao53, co53, eo53⟩ := Kd.N_slice HO208.out; subst eo53; have p210 : 0 ≤ (0 : Int) := (by omega); have q210 : 0 < (t206.length : Int) := of_decide_eq_true (by first | (with_reducible assumption) | assumption); obtain ⟨ad210, A210_1, c210_1, e210, hx210_0, hx210_1, hl210_1, hi210_1⟩ := at_T39 (Kd.N_reads' HO208.out).2.2 0 p210 q210; cases e210; obtain ⟨ce210, hce210, hMe210, hcc210⟩ := Kd.N_get HO208.out z39 0 p210 (by first | exact q210 | exact of_decide_eq_true (by first | (with_reducible assumption) | assumption) | (have e_ := (Kd.N_reads' HO208.out).1; omega)); obtain ⟨ua210_1, uc210_1, rfl, ul210_1, ge210_1⟩ := k39_openF hMe210; have hv210_1 := hcc210 1 _ rfl; rw [add_field _ _ 1 (by omega)] at hv210_1; replace hv210_1 := Option.some.inj (hv210_1.symm.trans hx210_1); injection hv210_1 with hva_ hvn_ hvc_; rw [hva_] at ge210_1; rw [hvc_] at ul210_1; have HL210_1 := Aside0.mk (show Kd.V (Kd.int .i64) 3 _ w.heap.size _ _ ((rd_T39 t206 0).f1) from Kd.V_mk ul210_1 ge210_1); clear hva_ hvn_ hvc_ ge210_1 ul210_1; clear hcc210 hce210; have qi210 : (0 < t206.length) = True := eq_true (by omega); (try rw [show ((0 : Int)).toNat = 0 from rfl] at hx210_0); (try rw [show 0 * 2 = 0 from rfl] at hx210_0); (try rw [Addr.add_zero'] at hx210_0); (try rw [show ((0 : Int)).toNat = 0 from rfl] at hx210_1); (try rw [show 0 * 2 = 0 from rfl] at hx210_1); (try rw [Addr.add_zero'] at hx210_1); have HR210_1 := Aside0.mk hi210_1; have HC210_1 := Aside0.mk hl210_1; clear hi210_1 hl210_1; replace p210 := eq_true p210; replace q210 := eq_true q210; have p211 : 0 ≤ (1 : Int) := (by omega); have q211 : 1 < (t206.length : Int) := of_decide_eq_true (by first | (with_reducible assumption) | assumption); obtain ⟨ad211, A211_1, c211_1, e211, hx211_0, hx211_1, hl211_1, hi211_1⟩ := at_T39 (Kd.N_reads' HO208.out).2.2 1 p211 q211; obtain rfl : ad210 = ad211 := (by injection e211); obtain ⟨ce211, hce211, hMe211, hcc211⟩ := Kd.N_get HO208.out z39 1 p211 (by first | exact q211 | exact of_decide_eq_true (by first | (with_reducible assumption) | assumption) | (have e_ := (Kd.N_reads' HO208.out).1; omega)); obtain ⟨ua211_1, uc211_1, rfl, ul211_1, ge211_1⟩ := k39_openF hMe211; have hv211_1 := hcc211 1 _ rfl; rw [add_field _ _ 1 (by omega)] at hv211_1; replace hv211_1 := Option.some.inj (hv211_1.symm.trans hx211_1); injection hv211_1 with hva_ hvn_ hvc_; rw [hva_] at ge211_1; rw [hvc_] at ul211_1; have HL211_1 := Aside0.mk (show Kd.V (Kd.int .i64) 3 _ w.heap.size _ _ ((rd_T39 t206 1).f1) from Kd.V_mk ul211_1 ge211_1); clear hva_ hvn_ hvc_ ge211_1 ul211_1; clear hcc211 hce211; (try simp only [show (1 : Int).toNat = 1 from rfl, Nat.reduceMul, Nat.reduceEqDiff, Go.Addr.add, ↓reduceIte] at hx211_0); (try simp only [show (1 : Int).toNat = 1 from rfl, Nat.reduceMul, Nat.reduceEqDiff, Go.Addr.add, ↓reduceIte] at hx211_1); have qi211 : (1 < t206.length) = True := eq_true (by omega); (try rw [show ((1 : Int)).toNat = 1 from rfl] at hx211_0); (try rw [show 1 * 2 = 2 from rfl] at hx211_0); (try rw [show ((1 : Int)).toNat = 1 from rfl] at hx211_1); (try rw [show 1 * 2 = 2 from rfl] at hx211_1); have HR211_1 := Aside0.mk hi211_1; have HC211_1 := Aside0.mk hl211_1; clear hi211_1 hl211_1; replace p211 := eq_true p211; replace q211 := eq_true q211))
       go_ret
       exact ⟨by first | rfl | (simp [errW_none, errW_some] <;> rfl) | (simp [*, errW_none, errW_some] <;> rfl), by repeat (first | (with_reducible first | exact HB.out | apply below_alloc | apply pw_below_drewN | apply below_drew1) | exact HB.out)⟩
     ·
      rw [if_neg c6] at H
      exact absurd H (by simp)
    ·
     rw [if_neg c5] at H
     have c5b0 : (((rd_T39 t206 0).f0) == 4) = false := beq_eq_false_iff_ne.mpr c5
     have c5b1 : (((rd_T39 t206 0).f0) != 4) = true := bne_iff_ne.mpr c5
     obtain rfl := Option.some.inj H
     go_enter Try.func6, Try.ntmps6
     go_wp2_with (first | ((with_reducible refine gate_dst (N := 5) rfl ?_); (try (refine gate_guard (by rfl) ?_; dsimp only)); refine Kd.R_lit (Kd.int .i64) _ 3 ?hg (N := 5) ?hd (xs := ([1] : List Int)) (inner := [.int .i64 1]) (ok := fun _ => True) (okp := fun _ => True) ?hr ?hp (fun _ hk => hk) trivial (Below.refl _ _) (Nat.le_refl _) (by simp) ?_; (case hd => rfl); (case hg => rfl); (case hr => first | (go_simp; done) | (go_simp; rfl)); (case hp => exact (Reps.one (show Kd.M (Kd.int .i64) _ _ _ 1 [.int .i64 1] from rfl) (Reps.none _ _))); intro v201 w54 ho55 hb hg_ hnew_; clear hg_ hnew_; (first | rw [← Ny200.out] at ho55 | (simp only [Int.reduceToNat] at ho55; rw [← Ny200.out] at ho55)); have n0_ := Aside0.mk (Kd.R_lower ho55 (below_size (by repeat (first | (with_reducible first | exact HB.out | apply below_alloc | apply pw_below_drewN | apply below_drew1) | exact HB.out)))); have n1_ := Aside0.mk (below_step (by repeat (first | (with_reducible first | exact HB.out | apply below_alloc | apply pw_below_drewN | apply below_drew1) | exact HB.out)) hb); clear HB; have HO202 := n0_; have HB := n1_; clear n0_ n1_; clear hb ho55; obtain ⟨Ao56, co56, eo56⟩ := Kd.R_slice HO202.out; subst eo56) | ((with_reducible refine gate_dst (N := 7) rfl ?_); (try (refine gate_guard (by rfl) ?_; dsimp only)); refine Kd.N_lit k39 _ 39 ?hg (N' := 7) ?hd (xs := ([(⟨3, ([] : List Int)⟩ : S39), (⟨2, y200⟩ : S39)] : List (S39))) (inner := [.int .u64 3, .slice none 0 0, .int .u64 2, .slice Ao56 y200.length co56]) (ok := (fun _ => True)) (okp := (fun _ => True)) ?hr ?hp (fun _ hk => hk) ((show ∀ k_, w54.heap.size ≤ k_ → (fun _ => True) k_ from fun k_ hk => trivial) _ (Nat.le_refl _)) (Below.refl _ _) (Nat.le_refl _) (by simp) ?_; (case hd => rfl); (case hg => rfl); (case hr => first | (go_simp; done) | (go_simp; rfl)); (case hp => exact (Reps.c2 (show Kd.FK k39 _ _ (⟨3, ([] : List Int)⟩ : S39) [.int .u64 3, .slice none 0 0] from (k39_mkF _ _ (⟨3, ([] : List Int)⟩ : S39) (Nat.le_refl _) (Kd.F_nil _ _ _))) (Reps.c2 (show Kd.FK k39 _ _ (⟨2, y200⟩ : S39) [.int .u64 2, .slice Ao56 y200.length co56] from (k39_mkF _ _ (⟨2, y200⟩ : S39) (Kd.R_reads' (Kd.R_mono (ok' := (fun _ => True)) (HO202.out) (fun k_ hk => trivial))).2.1 (Kd.R_F (Kd.R_mono (ok' := (fun _ => True)) (HO202.out) (fun k_ hk => trivial))))) (Reps.none _ _)))); intro v204 w57 ho58 hb hg_ hnew_; clear hg_ hnew_; (first | rw [← Ny203.out] at ho58 | (simp only [Int.reduceToNat] at ho58; rw [← Ny203.out] at ho58)); have n0_ := Aside0.mk (Kd.N_lower ho58 (below_size (by repeat (first | (with_reducible first | exact HB.out | apply below_alloc | apply pw_below_drewN | apply below_drew1) | exact HB.out)))); have n1_ := Aside0.mk (below_step (by repeat (first | (with_reducible first | exact HB.out | apply below_alloc | apply pw_below_drewN | apply below_drew1) | exact HB.out)) hb); clear HB; clear HO202; have HO205 := n0_; have HB := n1_; clear n0_ n1_; clear hb ho58; obtain ⟨Ao59, co59, eo59⟩ := Kd.N_slice HO205.out; subst eo59) | ((with_reducible refine gate_callee (f := 14) rfl ?_); refine goesL_ (some 11) rfl rfl Try.func14 (by kernel_rfl) rfl #[.slice Ao59 y203.length co59, .slice Ao59 y203.length co59] rfl (by (try simp only [List.map_toArray, List.map_cons, List.map_nil]); first | done | rfl | (simp only [List.length_drop, List.length_take]; rfl)) ?_; (with_reducible refine (cost_Times.calls k _ _ y203 _ _ y203 t206 t209 _ ?side1 ?side2 ?side3 ?side4 A1.out).mono ?_); (case side1 => repeat (first | exact (Kd.N_reads' HO205.out).2.2 | (with_reducible refine Kd.C_alloc ?_ _) | (with_reducible refine Kd.C_drewN ?_ _) | (with_reducible refine Kd.C_drew ?_))); (case side2 => exact (Kd.N_reads' HO205.out).2.1); (case side3 => repeat (first | exact (Kd.N_reads' HO205.out).2.2 | (with_reducible refine Kd.C_alloc ?_ _) | (with_reducible refine Kd.C_drewN ?_ _) | (with_reducible refine Kd.C_drew ?_))); (case side4 => exact (Kd.N_reads' HO205.out).2.1); rintro e w60 ⟨v207, rfl, ho0, hb⟩; refine ⟨_, rfl, ?_⟩; have n0_ := Aside0.mk (Kd.N_elder' (by (with_reducible repeat (first | apply Kd.N_alloc | apply Kd.N_drewN | apply Kd.N_drew)); exact HO205.out) (Kd.N_base ho0) hb); have n1_ := Aside0.mk (Kd.N_lower (Kd.N_mono (ok' := fun k_ => some k_ ≠ (.slice Ao59 y203.length co59 : Value).ownBlock) ho0 (fun k_ hk_ => (Kd.fresh' (Kd.N_lt (by (with_reducible repeat (first | apply Kd.N_alloc | apply Kd.N_drewN | apply Kd.N_drew)); exact HO205.out)) k_ hk_))) (below_size (by repeat (first | (with_reducible first | exact HB.out | apply below_alloc | apply pw_below_drewN | apply below_drew1) | exact HB.out)))); have n2_ := Aside0.mk (below_step (by repeat (first | (with_reducible first | exact HB.out | apply below_alloc | apply pw_below_drewN | apply below_drew1) | exact HB.out)) hb); clear HO205; clear HB; have HO205 := n0_; have HO208 := n1_; have HB := n2_; clear n0_ n1_ n2_; (try clear hb); (try clear hb2); (try clear hk); (try clear hi); (try clear ho0); obtain ⟨Ao61, co61, eo61⟩ := Kd.N_slice HO208.out; subst eo61; have p210 : 0 ≤ (0 : Int) := (by omega); have q210 : 0 < (t206.length : Int) := of_decide_eq_true (by first | (with_reducible assumption) | assumption); obtain ⟨ad210, A210_1, c210_1, e210, hx210_0, hx210_1, hl210_1, hi210_1⟩ := at_T39 (Kd.N_reads' HO208.out).2.2 0 p210 q210; cases e210; obtain ⟨ce210, hce210, hMe210, hcc210⟩ := Kd.N_get HO208.out z39 0 p210 (by first | exact q210 | exact of_decide_eq_true (by first | (with_reducible assumption) | assumption) | (have e_ := (Kd.N_reads' HO208.out).1; omega)); obtain ⟨ua210_1, uc210_1, rfl, ul210_1, ge210_1⟩ := k39_openF hMe210; have hv210_1 := hcc210 1 _ rfl; rw [add_field _ _ 1 (by omega)] at hv210_1; replace hv210_1 := Option.some.inj (hv210_1.symm.trans hx210_1); injection hv210_1 with hva_ hvn_ hvc_; rw [hva_] at ge210_1; rw [hvc_] at ul210_1; have HL210_1 := Aside0.mk (show Kd.V (Kd.int .i64) 3 _ w.heap.size _ _ ((rd_T39 t206 0).f1) from Kd.V_mk ul210_1 ge210_1); clear hva_ hvn_ hvc_ ge210_1 ul210_1; clear hcc210 hce210; have qi210 : (0 < t206.length) = True := eq_true (by omega); (try rw [show ((0 : Int)).toNat = 0 from rfl] at hx210_0); (try rw [show 0 * 2 = 0 from rfl] at hx210_0); (try rw [Addr.add_zero'] at hx210_0); (try rw [show ((0 : Int)).toNat = 0 from rfl] at hx210_1); (try rw [show 0 * 2 = 0 from rfl] at hx210_1); (try rw [Addr.add_zero'] at hx210_1); have HR210_1 := Aside0.mk hi210_1; have HC210_1 := Aside0.mk hl210_1; clear hi210_1 hl210_1; replace p210 := eq_true p210; replace q210 := eq_true q210))
     go_ret
     exact ⟨by first | rfl | (simp [errW_none, errW_some] <;> rfl) | (simp [*, errW_none, errW_some] <;> rfl), by repeat (first | (with_reducible first | exact HB.out | apply below_alloc | apply pw_below_drewN | apply below_drew1) | exact HB.out)⟩
   ·
    rw [if_neg c4] at H
    exact absurd H (by simp)
  ·
   rw [if_neg c3] at H
   have c3b0 : ((t206.length : Int) == 3) = false := beq_eq_false_iff_ne.mpr c3
   have c3b1 : ((t206.length : Int) != 3) = true := bne_iff_ne.mpr c3
   obtain rfl := Option.some.inj H
   go_enter Try.func6, Try.ntmps6
   go_wp2_with (first | ((with_reducible refine gate_dst (N := 5) rfl ?_); (try (refine gate_guard (by rfl) ?_; dsimp only)); refine Kd.R_lit (Kd.int .i64) _ 3 ?hg (N := 5) ?hd (xs := ([1] : List Int)) (inner := [.int .i64 1]) (ok := fun _ => True) (okp := fun _ => True) ?hr ?hp (fun _ hk => hk) trivial (Below.refl _ _) (Nat.le_refl _) (by simp) ?_; (case hd => rfl); (case hg => rfl); (case hr => first | (go_simp; done) | (go_simp; rfl)); (case hp => exact (Reps.one (show Kd.M (Kd.int .i64) _ _ _ 1 [.int .i64 1] from rfl) (Reps.none _ _))); intro v201 w62 ho63 hb hg_ hnew_; clear hg_ hnew_; (first | rw [← Ny200.out] at ho63 | (simp only [Int.reduceToNat] at ho63; rw [← Ny200.out] at ho63)); have n0_ := Aside0.mk (Kd.R_lower ho63 (below_size (by repeat (first | (with_reducible first | exact HB.out | apply below_alloc | apply pw_below_drewN | apply below_drew1) | exact HB.out)))); have n1_ := Aside0.mk (below_step (by repeat (first | (with_reducible first | exact HB.out | apply below_alloc | apply pw_below_drewN | apply below_drew1) | exact HB.out)) hb); clear HB; have HO202 := n0_; have HB := n1_; clear n0_ n1_; clear hb ho63; obtain ⟨Ao64, co64, eo64⟩ := Kd.R_slice HO202.out; subst eo64) | ((with_reducible refine gate_dst (N := 7) rfl ?_); (try (refine gate_guard (by rfl) ?_; dsimp only)); refine Kd.N_lit k39 _ 39 ?hg (N' := 7) ?hd (xs := ([(⟨3, ([] : List Int)⟩ : S39), (⟨2, y200⟩ : S39)] : List (S39))) (inner := [.int .u64 3, .slice none 0 0, .int .u64 2, .slice Ao64 y200.length co64]) (ok := (fun _ => True)) (okp := (fun _ => True)) ?hr ?hp (fun _ hk => hk) ((show ∀ k_, w62.heap.size ≤ k_ → (fun _ => True) k_ from fun k_ hk => trivial) _ (Nat.le_refl _)) (Below.refl _ _) (Nat.le_refl _) (by simp) ?_; (case hd => rfl); (case hg => rfl); (case hr => first | (go_simp; done) | (go_simp; rfl)); (case hp => exact (Reps.c2 (show Kd.FK k39 _ _ (⟨3, ([] : List Int)⟩ : S39) [.int .u64 3, .slice none 0 0] from (k39_mkF _ _ (⟨3, ([] : List Int)⟩ : S39) (Nat.le_refl _) (Kd.F_nil _ _ _))) (Reps.c2 (show Kd.FK k39 _ _ (⟨2, y200⟩ : S39) [.int .u64 2, .slice Ao64 y200.length co64] from (k39_mkF _ _ (⟨2, y200⟩ : S39) (Kd.R_reads' (Kd.R_mono (ok' := (fun _ => True)) (HO202.out) (fun k_ hk => trivial))).2.1 (Kd.R_F (Kd.R_mono (ok' := (fun _ => True)) (HO202.out) (fun k_ hk => trivial))))) (Reps.none _ _)))); intro v204 w65 ho66 hb hg_ hnew_; clear hg_ hnew_; (first | rw [← Ny203.out] at ho66 | (simp only [Int.reduceToNat] at ho66; rw [← Ny203.out] at ho66)); have n0_ := Aside0.mk (Kd.N_lower ho66 (below_size (by repeat (first | (with_reducible first | exact HB.out | apply below_alloc | apply pw_below_drewN | apply below_drew1) | exact HB.out)))); have n1_ := Aside0.mk (below_step (by repeat (first | (with_reducible first | exact HB.out | apply below_alloc | apply pw_below_drewN | apply below_drew1) | exact HB.out)) hb); clear HB; clear HO202; have HO205 := n0_; have HB := n1_; clear n0_ n1_; clear hb ho66; obtain ⟨Ao67, co67, eo67⟩ := Kd.N_slice HO205.out; subst eo67) | ((with_reducible refine gate_callee (f := 14) rfl ?_); refine goesL_ (some 11) rfl rfl Try.func14 (by kernel_rfl) rfl #[.slice Ao67 y203.length co67, .slice Ao67 y203.length co67] rfl (by (try simp only [List.map_toArray, List.map_cons, List.map_nil]); first | done | rfl | (simp only [List.length_drop, List.length_take]; rfl)) ?_; (with_reducible refine (cost_Times.calls k _ _ y203 _ _ y203 t206 t209 _ ?side1 ?side2 ?side3 ?side4 A1.out).mono ?_); (case side1 => repeat (first | exact (Kd.N_reads' HO205.out).2.2 | (with_reducible refine Kd.C_alloc ?_ _) | (with_reducible refine Kd.C_drewN ?_ _) | (with_reducible refine Kd.C_drew ?_))); (case side2 => exact (Kd.N_reads' HO205.out).2.1); (case side3 => repeat (first | exact (Kd.N_reads' HO205.out).2.2 | (with_reducible refine Kd.C_alloc ?_ _) | (with_reducible refine Kd.C_drewN ?_ _) | (with_reducible refine Kd.C_drew ?_))); (case side4 => exact (Kd.N_reads' HO205.out).2.1); rintro e w68 ⟨v207, rfl, ho0, hb⟩; refine ⟨_, rfl, ?_⟩; have n0_ := Aside0.mk (Kd.N_elder' (by (with_reducible repeat (first | apply Kd.N_alloc | apply Kd.N_drewN | apply Kd.N_drew)); exact HO205.out) (Kd.N_base ho0) hb); have n1_ := Aside0.mk (Kd.N_lower (Kd.N_mono (ok' := fun k_ => some k_ ≠ (.slice Ao67 y203.length co67 : Value).ownBlock) ho0 (fun k_ hk_ => (Kd.fresh' (Kd.N_lt (by (with_reducible repeat (first | apply Kd.N_alloc | apply Kd.N_drewN | apply Kd.N_drew)); exact HO205.out)) k_ hk_))) (below_size (by repeat (first | (with_reducible first | exact HB.out | apply below_alloc | apply pw_below_drewN | apply below_drew1) | exact HB.out)))); have n2_ := Aside0.mk (below_step (by repeat (first | (with_reducible first | exact HB.out | apply below_alloc | apply pw_below_drewN | apply below_drew1) | exact HB.out)) hb); clear HO205; clear HB; have HO205 := n0_; have HO208 := n1_; have HB := n2_; clear n0_ n1_ n2_; (try clear hb); (try clear hb2); (try clear hk); (try clear hi); (try clear ho0); obtain ⟨Ao69, co69, eo69⟩ := Kd.N_slice HO208.out; subst eo69))
   go_ret
   exact ⟨by first | rfl | (simp [errW_none, errW_some] <;> rfl) | (simp [*, errW_none, errW_some] <;> rfl), by repeat (first | (with_reducible first | exact HB.out | apply below_alloc | apply pw_below_drewN | apply below_drew1) | exact HB.out)⟩
 ·
  rw [if_neg c2] at H
  have c2b0 : (t209 == 0) = false := beq_eq_false_iff_ne.mpr c2
  have c2b1 : (t209 != 0) = true := bne_iff_ne.mpr c2
  obtain rfl := Option.some.inj H
  go_enter Try.func6, Try.ntmps6
  go_wp2_with (first | ((with_reducible refine gate_dst (N := 5) rfl ?_); (try (refine gate_guard (by rfl) ?_; dsimp only)); refine Kd.R_lit (Kd.int .i64) _ 3 ?hg (N := 5) ?hd (xs := ([1] : List Int)) (inner := [.int .i64 1]) (ok := fun _ => True) (okp := fun _ => True) ?hr ?hp (fun _ hk => hk) trivial (Below.refl _ _) (Nat.le_refl _) (by simp) ?_; (case hd => rfl); (case hg => rfl); (case hr => first | (go_simp; done) | (go_simp; rfl)); (case hp => exact (Reps.one (show Kd.M (Kd.int .i64) _ _ _ 1 [.int .i64 1] from rfl) (Reps.none _ _))); intro v201 w70 ho71 hb hg_ hnew_; clear hg_ hnew_; (first | rw [← Ny200.out] at ho71 | (simp only [Int.reduceToNat] at ho71; rw [← Ny200.out] at ho71)); have n0_ := Aside0.mk (Kd.R_lower ho71 (below_size (by repeat (first | (with_reducible first | exact HB.out | apply below_alloc | apply pw_below_drewN | apply below_drew1) | exact HB.out)))); have n1_ := Aside0.mk (below_step (by repeat (first | (with_reducible first | exact HB.out | apply below_alloc | apply pw_below_drewN | apply below_drew1) | exact HB.out)) hb); clear HB; have HO202 := n0_; have HB := n1_; clear n0_ n1_; clear hb ho71; obtain ⟨Ao72, co72, eo72⟩ := Kd.R_slice HO202.out; subst eo72) | ((with_reducible refine gate_dst (N := 7) rfl ?_); (try (refine gate_guard (by rfl) ?_; dsimp only)); refine Kd.N_lit k39 _ 39 ?hg (N' := 7) ?hd (xs := ([(⟨3, ([] : List Int)⟩ : S39), (⟨2, y200⟩ : S39)] : List (S39))) (inner := [.int .u64 3, .slice none 0 0, .int .u64 2, .slice Ao72 y200.length co72]) (ok := (fun _ => True)) (okp := (fun _ => True)) ?hr ?hp (fun _ hk => hk) ((show ∀ k_, w70.heap.size ≤ k_ → (fun _ => True) k_ from fun k_ hk => trivial) _ (Nat.le_refl _)) (Below.refl _ _) (Nat.le_refl _) (by simp) ?_; (case hd => rfl); (case hg => rfl); (case hr => first | (go_simp; done) | (go_simp; rfl)); (case hp => exact (Reps.c2 (show Kd.FK k39 _ _ (⟨3, ([] : List Int)⟩ : S39) [.int .u64 3, .slice none 0 0] from (k39_mkF _ _ (⟨3, ([] : List Int)⟩ : S39) (Nat.le_refl _) (Kd.F_nil _ _ _))) (Reps.c2 (show Kd.FK k39 _ _ (⟨2, y200⟩ : S39) [.int .u64 2, .slice Ao72 y200.length co72] from (k39_mkF _ _ (⟨2, y200⟩ : S39) (Kd.R_reads' (Kd.R_mono (ok' := (fun _ => True)) (HO202.out) (fun k_ hk => trivial))).2.1 (Kd.R_F (Kd.R_mono (ok' := (fun _ => True)) (HO202.out) (fun k_ hk => trivial))))) (Reps.none _ _)))); intro v204 w73 ho74 hb hg_ hnew_; clear hg_ hnew_; (first | rw [← Ny203.out] at ho74 | (simp only [Int.reduceToNat] at ho74; rw [← Ny203.out] at ho74)); have n0_ := Aside0.mk (Kd.N_lower ho74 (below_size (by repeat (first | (with_reducible first | exact HB.out | apply below_alloc | apply pw_below_drewN | apply below_drew1) | exact HB.out)))); have n1_ := Aside0.mk (below_step (by repeat (first | (with_reducible first | exact HB.out | apply below_alloc | apply pw_below_drewN | apply below_drew1) | exact HB.out)) hb); clear HB; clear HO202; have HO205 := n0_; have HB := n1_; clear n0_ n1_; clear hb ho74; obtain ⟨Ao75, co75, eo75⟩ := Kd.N_slice HO205.out; subst eo75) | ((with_reducible refine gate_callee (f := 14) rfl ?_); refine goesL_ (some 11) rfl rfl Try.func14 (by kernel_rfl) rfl #[.slice Ao75 y203.length co75, .slice Ao75 y203.length co75] rfl (by (try simp only [List.map_toArray, List.map_cons, List.map_nil]); first | done | rfl | (simp only [List.length_drop, List.length_take]; rfl)) ?_; (with_reducible refine (cost_Times.calls k _ _ y203 _ _ y203 t206 t209 _ ?side1 ?side2 ?side3 ?side4 A1.out).mono ?_); (case side1 => repeat (first | exact (Kd.N_reads' HO205.out).2.2 | (with_reducible refine Kd.C_alloc ?_ _) | (with_reducible refine Kd.C_drewN ?_ _) | (with_reducible refine Kd.C_drew ?_))); (case side2 => exact (Kd.N_reads' HO205.out).2.1); (case side3 => repeat (first | exact (Kd.N_reads' HO205.out).2.2 | (with_reducible refine Kd.C_alloc ?_ _) | (with_reducible refine Kd.C_drewN ?_ _) | (with_reducible refine Kd.C_drew ?_))); (case side4 => exact (Kd.N_reads' HO205.out).2.1); rintro e w76 ⟨v207, rfl, ho0, hb⟩; refine ⟨_, rfl, ?_⟩; have n0_ := Aside0.mk (Kd.N_elder' (by (with_reducible repeat (first | apply Kd.N_alloc | apply Kd.N_drewN | apply Kd.N_drew)); exact HO205.out) (Kd.N_base ho0) hb); have n1_ := Aside0.mk (Kd.N_lower (Kd.N_mono (ok' := fun k_ => some k_ ≠ (.slice Ao75 y203.length co75 : Value).ownBlock) ho0 (fun k_ hk_ => (Kd.fresh' (Kd.N_lt (by (with_reducible repeat (first | apply Kd.N_alloc | apply Kd.N_drewN | apply Kd.N_drew)); exact HO205.out)) k_ hk_))) (below_size (by repeat (first | (with_reducible first | exact HB.out | apply below_alloc | apply pw_below_drewN | apply below_drew1) | exact HB.out)))); have n2_ := Aside0.mk (below_step (by repeat (first | (with_reducible first | exact HB.out | apply below_alloc | apply pw_below_drewN | apply below_drew1) | exact HB.out)) hb); clear HO205; clear HB; have HO205 := n0_; have HO208 := n1_; have HB := n2_; clear n0_ n1_ n2_; (try clear hb); (try clear hb2); (try clear hk); (try clear hi); (try clear ho0)))
  go_ret
  exact ⟨by first | rfl | (simp [errW_none, errW_some] <;> rfl) | (simp [*, errW_none, errW_some] <;> rfl), by repeat (first | (with_reducible first | exact HB.out | apply below_alloc | apply pw_below_drewN | apply below_drew1) | exact HB.out)⟩
def locksteplaw28_CostMore.l0 : Nat → List (S39) → List Int → List Int → List Int → Int → Int → Int → Int → Int → Int → Int → Int → Int → Int → Int → Int → Int → Option (Bool)
 | 0, _, _, _, _, _, _, _, _, _, _, _, _, _, _, _, _, _ => none
 | k + 1, x0, x1, x2, x11, x12, x219000, x219001, x219002, x219003, x219004, x219005, x220000, x220001, x220002, x220003, x220004, x220005 => if x12 < (x1.length : Int) then (if 0 ≤ x12 then (if x12 < (x2.length : Int) then (if (rd x2 x12) > (rd x1 x12) then (if x11.length < 17592186044416 then (locksteplaw28_CostMore.l0 k x0 x1 x2 (x11 ++ [rd x2 x12]) (wrap64 (x12 + 1)) x219000 x219001 x219002 x219003 x219004 x219005 x220000 x220001 x220002 x220003 x220004 x220005) else (none)) else (if x11.length < 17592186044416 then (locksteplaw28_CostMore.l0 k x0 x1 x2 (x11 ++ [rd x1 x12]) (wrap64 (x12 + 1)) x219000 x219001 x219002 x219003 x219004 x219005 x220000 x220001 x220002 x220003 x220004 x220005) else (none))) else (if x11.length < 17592186044416 then (locksteplaw28_CostMore.l0 k x0 x1 x2 (x11 ++ [rd x1 x12]) (wrap64 (x12 + 1)) x219000 x219001 x219002 x219003 x219004 x219005 x220000 x220001 x220002 x220003 x220004 x220005) else (none))) else (none)) else ((cost_Value.f k x0 x11).bind fun t233 => ((cost_Value.f k x0 x1).bind fun t234 => (if t233 < t234 then (some false) else ((cost_Bound.f (mx x219000 x220000) (mx x219001 x220001) (mx x219002 x220002) (mx x219003 x220003) (mx x219004 x220004) (mx x219005 x220005)).bind fun t236 => ((cost_Bound.f x219000 x219001 x219002 x219003 x219004 x219005).bind fun t237 => (if t236 ≥ t237 then ((cost_Bound.f (mx x219000 x220000) (mx x219001 x220001) (mx x219002 x220002) (mx x219003 x220003) (mx x219004 x220004) (mx x219005 x220005)).bind fun t238 => ((cost_Bound.f x220000 x220001 x220002 x220003 x220004 x220005).bind fun t239 => (some (decide (t238 ≥ t239))))) else (some false)))))))
def locksteplaw28_CostMore.f (k : Nat) (l0 : List (S39)) (l1 : List Int) (l2 : List Int) (a3_0 : Int) (a3_1 : Int) (a3_2 : Int) (a3_3 : Int) (a3_4 : Int) (a3_5 : Int) (a4_0 : Int) (a4_1 : Int) (a4_2 : Int) (a4_3 : Int) (a4_4 : Int) (a4_5 : Int) : Option (Bool) := (locksteplaw28_lives.f k).bind fun t220 => (if t220 = true then (locksteplaw28_CostMore.l0 k l0 l1 l2 ([] : List Int) 0 a3_0 a3_1 a3_2 a3_3 a3_4 a3_5 a4_0 a4_1 a4_2 a4_3 a4_4 a4_5) else (some false))
def locksteplaw28_CostMore.T14 : Bool × List (List Nat × List Nat) := (true, [([], []), ([0], [0]), ([], []), ([2, 1], [2]), ([1, 3], [1, 3]), ([4, 3], [4]), ([5], [5]), ([6, 5, 5], [5, 6]), ([5], [5]), ([8, 7, 5], [5, 8]), ([7, 9, 5], [5, 7, 9]), ([5, 10], [5, 10]), ([11, 9, 0, 1, 2, 3, 4, 5, 6, 7, 8, 9, 10, 11], [11])])
def locksteplaw28_CostMore.B14 : List Nat := [0, 1, 0, 7, 15, 31, 63, 127, 63, 511, 1023, 2047, 4095]
theorem locksteplaw28_CostMore.tab14 : rtab .any (opsOf Try.f3 14) = locksteplaw28_CostMore.T14 := by kernel_rfl
theorem locksteplaw28_CostMore.bits14 : waitsOk locksteplaw28_CostMore.T14.2 locksteplaw28_CostMore.B14 = true := by kernel_rfl
set_option maxHeartbeats 8000000 in
set_option maxRecDepth 100000 in
theorem locksteplaw28_CostMore.calls (k : Nat) (A0 : Option Addr) (c0 : Nat) (l0 : List (S39)) (A1 : Option Addr) (c1 : Nat) (l1 : List Int) (A2 : Option Addr) (c2 : Nat) (l2 : List Int) (a3_0 : Int) (a3_1 : Int) (a3_2 : Int) (a3_3 : Int) (a3_4 : Int) (a3_5 : Int) (a4_0 : Int) (a4_1 : Int) (a4_2 : Int) (a4_3 : Int) (a4_4 : Int) (a4_5 : Int) (r : Bool) (w : World) (hr0 : Kd.C k39 w A0 l0.length l0) (hc0 : l0.length ≤ c0) (hr1 : Kd.C (Kd.int .u64) w A1 l1.length l1) (hc1 : l1.length ≤ c1) (hr2 : Kd.C (Kd.int .u64) w A2 l2.length l2) (hc2 : l2.length ≤ c2) (h : locksteplaw28_CostMore.f k l0 l1 l2 a3_0 a3_1 a3_2 a3_3 a3_4 a3_5 a4_0 a4_1 a4_2 a4_3 a4_4 a4_5 = some r) (hr : r = true) :
  Calls Try.prog 3 #[.slice A0 l0.length c0, .slice A1 l1.length c1, .slice A2 l2.length c2, .agg #[.int .u64 a3_0, .int .u64 a3_1, .int .u64 a3_2, .int .u64 a3_3, .int .u64 a3_4, .int .u64 a3_5], .agg #[.int .u64 a4_0, .int .u64 a4_1, .int .u64 a4_2, .int .u64 a4_3, .int .u64 a4_4, .int .u64 a4_5]] w fun e w' => e = .returned (.bool r) ∧ Below w.heap.size w w' := by
 have HR := Aside0.mk hr
 clear hr
 have hu26 := Try.underlying26
 have HR0 := Aside0.mk hr0
 have HC0 := Aside0.mk hc0
 clear hr0 hc0
 have HR1 := Aside0.mk hr1
 have HC1 := Aside0.mk hc1
 clear hr1 hc1
 have HR2 := Aside0.mk hr2
 have HC2 := Aside0.mk hc2
 clear hr2 hc2
 have HB := Aside0.mk (Below.refl w.heap.size w)
 have H : ((locksteplaw28_lives.f k).bind fun t220 => (if t220 = true then (locksteplaw28_CostMore.l0 k l0 l1 l2 ([] : List Int) 0 a3_0 a3_1 a3_2 a3_3 a3_4 a3_5 a4_0 a4_1 a4_2 a4_3 a4_4 a4_5) else (some false))) = some r := h
 clear h
 replace H := Option.bind_eq_some_iff.mp H
 obtain ⟨t220, A60, H⟩ := H
 replace H : (if t220 = true then (locksteplaw28_CostMore.l0 k l0 l1 l2 ([] : List Int) 0 a3_0 a3_1 a3_2 a3_3 a3_4 a3_5 a4_0 a4_1 a4_2 a4_3 a4_4 a4_5) else (some false)) = some r := H
 have A6 := Aside0.mk A60
 clear A60
 by_cases c7 : t220 = true
 ·
  subst c7
  have H1 : (locksteplaw28_CostMore.l0 k l0 l1 l2 ([] : List Int) 0 a3_0 a3_1 a3_2 a3_3 a3_4 a3_5 a4_0 a4_1 a4_2 a4_3 a4_4 a4_5) = some r := by rw [if_pos rfl] at H; exact H
  clear H
  have H := H1
  clear H1
  have H' := Aside0.mk H
  clear H
  go_enter Try.func3, Try.ntmps3
  go_wp2_with (first | ((with_reducible refine gate_dst (N := 8) rfl ?_); refine box_event ?hg (N := 8) ?hd (cs := #[.int .u64 a3_0, .int .u64 a3_1, .int .u64 a3_2, .int .u64 a3_3, .int .u64 a3_4, .int .u64 a3_5]) (t := 26) ?hr ?_; (case hd => rfl); (case hg => rfl); (case hr => first | (go_simp; done) | (go_simp; rfl)); intro gb218 hg w8 hbox hb; have n0_ := Aside0.mk (below_step (by repeat (first | (with_reducible first | exact HB.out | apply below_alloc | apply pw_below_drewN | apply below_drew1) | exact HB.out)) hb); have n1_ := Aside0.mk (hbox); have n2_ := Aside0.mk ((by rw [hg]; exact (below_size (by repeat (first | (with_reducible first | exact HB.out | apply below_alloc | apply pw_below_drewN | apply below_drew1) | exact HB.out))) : w.heap.size ≤ gb218)); have n3_ := Aside0.mk ((by rw [hg]; exact (below_size (by repeat (first | (with_reducible first | exact HB.out | apply below_alloc | apply pw_below_drewN | apply below_drew1) | exact HB.out))) : w.heap.size ≤ gb218)); clear HB; have HB := n0_; have BK218 := n1_; have GW218 := n2_; have GE218 := n3_; clear n0_ n1_ n2_ n3_; clear hb hbox hg) | ((with_reducible refine gate_dst (N := 9) rfl ?_); refine box_event ?hg (N := 9) ?hd (cs := #[.int .u64 a4_0, .int .u64 a4_1, .int .u64 a4_2, .int .u64 a4_3, .int .u64 a4_4, .int .u64 a4_5]) (t := 26) ?hr ?_; (case hd => rfl); (case hg => rfl); (case hr => first | (go_simp; done) | (go_simp; rfl)); intro gb219 hg w9 hbox hb; have n0_ := Aside0.mk (blk_below (g := gb218) (o := .cells #[.int .u64 a3_0, .int .u64 a3_1, .int .u64 a3_2, .int .u64 a3_3, .int .u64 a3_4, .int .u64 a3_5] 26 (0, 0)) (by (with_reducible repeat (first | refine blk_drewN ?_ _ | refine blk_drew ?_ | refine blk_alloc ?_ _)); exact BK218.out) hb); have n1_ := Aside0.mk (below_step (by repeat (first | (with_reducible first | exact HB.out | apply below_alloc | apply pw_below_drewN | apply below_drew1 | refine below_set ?_ GE218.out) | exact HB.out)) hb); have n2_ := Aside0.mk (hbox); have n3_ := Aside0.mk ((by rw [hg]; exact (below_size (by repeat (first | (with_reducible first | exact HB.out | apply below_alloc | apply pw_below_drewN | apply below_drew1 | refine below_set ?_ GE218.out) | exact HB.out))) : w.heap.size ≤ gb219)); have n4_ := Aside0.mk ((by rw [hg]; exact (below_size (by repeat (first | (with_reducible first | exact HB.out | apply below_alloc | apply pw_below_drewN | apply below_drew1 | refine below_set ?_ GE218.out) | exact HB.out))) : w.heap.size ≤ gb219)); have n5_ := Aside0.mk ((by rw [hg]; exact Nat.ne_of_lt (blk_lt (g := gb218) (o := .cells #[.int .u64 a3_0, .int .u64 a3_1, .int .u64 a3_2, .int .u64 a3_3, .int .u64 a3_4, .int .u64 a3_5] 26 (0, 0)) (by (with_reducible repeat (first | refine blk_drewN ?_ _ | refine blk_drew ?_ | refine blk_alloc ?_ _)); exact BK218.out)) : gb218 ≠ gb219)); have n6_ := Aside0.mk ((by rw [hg]; exact Nat.ne_of_gt (blk_lt (g := gb218) (o := .cells #[.int .u64 a3_0, .int .u64 a3_1, .int .u64 a3_2, .int .u64 a3_3, .int .u64 a3_4, .int .u64 a3_5] 26 (0, 0)) (by (with_reducible repeat (first | refine blk_drewN ?_ _ | refine blk_drew ?_ | refine blk_alloc ?_ _)); exact BK218.out)) : gb219 ≠ gb218)); clear BK218; clear HB; have BK218 := n0_; have HB := n1_; have BK219 := n2_; have GW219 := n3_; have GE219 := n4_; have NB218_219 := n5_; have NB219_218 := n6_; clear n0_ n1_ n2_ n3_ n4_ n5_ n6_; clear hb hbox hg) | ((with_reducible refine gate_callee (f := 6) rfl ?_); refine goesL_ (some 15) rfl rfl Try.func6 (by kernel_rfl) rfl #[] rfl (by (try simp only [List.map_toArray, List.map_cons, List.map_nil]); first | done | rfl | (simp only [List.length_drop, List.length_take]; rfl)) ?_; (with_reducible refine (locksteplaw28_lives.calls k  true _ A6.out).mono ?_); rintro e w10 ⟨rfl, hb⟩; refine ⟨_, rfl, ?_⟩; have n0_ := Aside0.mk (blk_below (g := gb218) (o := .cells #[.int .u64 a3_0, .int .u64 a3_1, .int .u64 a3_2, .int .u64 a3_3, .int .u64 a3_4, .int .u64 a3_5] 26 (0, 0)) (by (with_reducible repeat (first | refine blk_drewN ?_ _ | refine blk_drew ?_ | refine blk_alloc ?_ _)); exact BK218.out) hb); have n1_ := Aside0.mk (blk_below (g := gb219) (o := .cells #[.int .u64 a4_0, .int .u64 a4_1, .int .u64 a4_2, .int .u64 a4_3, .int .u64 a4_4, .int .u64 a4_5] 26 (0, 0)) (by (with_reducible repeat (first | refine blk_drewN ?_ _ | refine blk_drew ?_ | refine blk_alloc ?_ _)); exact BK219.out) hb); have n2_ := Aside0.mk (below_step (by repeat (first | (with_reducible first | exact HB.out | apply below_alloc | apply pw_below_drewN | apply below_drew1 | refine below_set ?_ GE218.out | refine below_set ?_ GE219.out) | exact HB.out)) hb); clear BK218; clear BK219; clear HB; have BK218 := n0_; have BK219 := n1_; have HB := n2_; clear n0_ n1_ n2_; (try clear hb); (try clear hb2); (try clear hk); (try clear hi)))
  go_loopg [11, 12] k (fun kq v11 v12 w' => ∃ (x11_1 : List Int) (x12_1 : Int), v12 = .int .i64 x12_1 ∧ Aside0 (locksteplaw28_CostMore.l0 kq l0 l1 l2 x11_1 x12_1 a3_0 a3_1 a3_2 a3_3 a3_4 a3_5 a4_0 a4_1 a4_2 a4_3 a4_4 a4_5 = some r) ∧ Aside0 (kq ≤ k) ∧ Aside0 (Kd.R (Kd.int .u64) 24 w' w.heap.size (fun _ => True) v11 x11_1) ∧ Aside0 (w'.heap[gb218]? = some (.cells #[.int .u64 a3_0, .int .u64 a3_1, .int .u64 a3_2, .int .u64 a3_3, .int .u64 a3_4, .int .u64 a3_5] 26 (0, 0))) ∧ Aside0 (w'.heap[gb219]? = some (.cells #[.int .u64 a4_0, .int .u64 a4_1, .int .u64 a4_2, .int .u64 a4_3, .int .u64 a4_4, .int .u64 a4_5] 26 (0, 0))) ∧ Aside0 (Below w.heap.size w w'))
  case atStart => exact ⟨(([] : List Int)), (0), (by first | rfl | (simp; done) | (simp [*]; done)), H', ⟨Nat.le_refl _⟩, ⟨by first | exact Kd.R_nil _ _ _ _ _ | exact Kd.N_nil _ _ _ _ _ | exact Kd.V_nil _ _ _ _ _ | exact Kd.Q_nil _ _ _ _ _ | exact Kd.S_nil _ _ _ _ _⟩, ⟨by (with_reducible repeat (first | refine blk_drewN ?_ _ | refine blk_drew ?_ | refine blk_alloc ?_ _)); exact BK218.out⟩, ⟨by (with_reducible repeat (first | refine blk_drewN ?_ _ | refine blk_drew ?_ | refine blk_alloc ?_ _)); exact BK219.out⟩, ⟨by repeat (first | (with_reducible first | exact HB.out | apply below_alloc | apply pw_below_drewN | apply below_drew1 | refine below_set ?_ GE218.out | refine below_set ?_ GE219.out) | exact HB.out)⟩⟩
  case round =>
   clear H'
   (try clear c1); (try clear c2); (try clear p2); (try clear c3); (try clear c6); (try clear c7)
   obtain ⟨x11_1, x12_1, rfl, HA, HK1, HO_11, BK218, BK219, HB⟩ := hrel
   cases gk with
   | zero => exact absurd HA.out (by simp [locksteplaw28_CostMore.l0])
   | succ k1 =>
    have H := HA.out
    clear HA
    simp only [locksteplaw28_CostMore.l0] at H
    by_cases c11 : x12_1 < (l1.length : Int)
    ·
     rw [if_pos c11] at H
     have c11b0 : decide (x12_1 < (l1.length : Int)) = true := decide_eq_true c11
     clear c11
     by_cases c12 : 0 ≤ x12_1
     ·
      rw [if_pos c12] at H
      have c12b0 : decide (0 ≤ x12_1) = true := decide_eq_true c12
      clear c12
      by_cases c13 : x12_1 < (l2.length : Int)
      ·
       rw [if_pos c13] at H
       have c13b0 : decide (x12_1 < (l2.length : Int)) = true := decide_eq_true c13
       clear c13
       by_cases c14 : (rd l2 x12_1) > (rd l1 x12_1)
       ·
        rw [if_pos c14] at H
        have c14b0 : decide ((rd l1 x12_1) < (rd l2 x12_1)) = true := decide_eq_true c14
        clear c14
        by_cases c15 : x11_1.length < 17592186044416
        ·
         rw [if_pos c15] at H
         have LMc15 := Aside0.mk c15
         clear c15
         obtain ⟨y224, hy224⟩ : ∃ y_ : List Int, y_ = (x11_1 ++ [rd l2 x12_1]) := ⟨_, rfl⟩
         replace H : (locksteplaw28_CostMore.l0 k1 l0 l1 l2 y224 (wrap64 (x12_1 + 1)) a3_0 a3_1 a3_2 a3_3 a3_4 a3_5 a4_0 a4_1 a4_2 a4_3 a4_4 a4_5) = some r := by first | (rw [hy224]; with_reducible exact H) | (have H2_ := (Option.bind_some _ _).symm.trans H; rw [hy224]; with_reducible exact H2_) | (have H2_ := (Option.bind_some _ _).symm.trans H; with_reducible exact H2_) | with_reducible exact H | (rw [hy224]; exact H) | exact H
         have Ny224 := Aside0.mk hy224
         clear hy224
         have H' := Aside0.mk H
         clear H
         have p221 : 0 ≤ (x12_1 : Int) := of_decide_eq_true (by first | (with_reducible assumption) | assumption)
         have q221 : x12_1 < (l1.length : Int) := of_decide_eq_true (by first | (with_reducible assumption) | assumption)
         obtain ⟨ad221, e221, hx221_0⟩ := Kd.at_int HR1.out x12_1 p221 q221
         cases e221
         replace hx221_0 := (HB.out.cell (World.block_lt_of_cell? w _ hx221_0)).trans hx221_0
         replace p221 := eq_true p221
         replace q221 := eq_true q221
         have p222 : 0 ≤ (x12_1 : Int) := of_decide_eq_true (by first | (with_reducible assumption) | assumption)
         have q222 : x12_1 < (l2.length : Int) := of_decide_eq_true (by first | (with_reducible assumption) | assumption)
         obtain ⟨ad222, e222, hx222_0⟩ := Kd.at_int HR2.out x12_1 p222 q222
         cases e222
         replace hx222_0 := (HB.out.cell (World.block_lt_of_cell? w _ hx222_0)).trans hx222_0
         replace p222 := eq_true p222
         replace q222 := eq_true q222
         have p223 : 0 ≤ (x12_1 : Int) := of_decide_eq_true (by first | (with_reducible assumption) | assumption)
         have q223 : x12_1 < (l2.length : Int) := of_decide_eq_true (by first | (with_reducible assumption) | assumption)
         obtain ⟨ad223, e223, hx223_0⟩ := Kd.at_int HR2.out x12_1 p223 q223
         obtain rfl : ad222 = ad223 := (by injection e223)
         replace hx223_0 := (HB.out.cell (World.block_lt_of_cell? w _ hx223_0)).trans hx223_0
         replace p223 := eq_true p223
         replace q223 := eq_true q223
         go_wp2_with (first | ((with_reducible refine gate_builtin (b := .append) (xs := #[.tmp 43, .tmp 45]) rfl ?_); at_builtin; refine Kd.R_append (Kd.int .u64) (w0 := w) w.heap.size rfl (.tmp 43) (.tmp 45) 23 24 (.int .u64 0) 8 rfl Try.underlying23 info24 rfl (by decide) (by omega) u11 x11_1 (rd l2 x12_1) [.int .u64 (rd l2 x12_1)] (fun _ => True) (fun _ => False) rfl rfl ?aP (fun _ hk => hk.elim) ?aF ?aO ?aB ?aS ?aL ?_; (case aP => exact rfl); (case aB => exact (by repeat (first | (with_reducible first | exact HB.out | apply below_alloc | apply pw_below_drewN | apply below_drew1 | refine below_set ?_ GE218.out | refine below_set ?_ GE219.out) | exact HB.out))); (case aF => exact (fun _ _ => trivial)); (case aO => exact (by (with_reducible repeat (first | apply Kd.R_alloc | apply Kd.R_drewN | apply Kd.R_drew)); exact HO_11.out)); (case aS => exact (below_size (by repeat (first | (with_reducible first | exact HB.out | apply below_alloc | apply pw_below_drewN | apply below_drew1 | refine below_set ?_ GE218.out | refine below_set ?_ GE219.out) | exact HB.out)))); (case aL => have := LMc15.out; omega); intro v225 w16 ho hb hg hat; rw [← Ny224.out] at ho; have n0_ := Aside0.mk (blk_grown (g := gb218) (o := .cells #[.int .u64 a3_0, .int .u64 a3_1, .int .u64 a3_2, .int .u64 a3_3, .int .u64 a3_4, .int .u64 a3_5] 26 (0, 0)) (by (with_reducible repeat (first | refine blk_drewN ?_ _ | refine blk_drew ?_ | refine blk_alloc ?_ _)); exact BK218.out) hg (Kd.R_ne HO_11.out BK218.out (by decide))); have n1_ := Aside0.mk (blk_grown (g := gb219) (o := .cells #[.int .u64 a4_0, .int .u64 a4_1, .int .u64 a4_2, .int .u64 a4_3, .int .u64 a4_4, .int .u64 a4_5] 26 (0, 0)) (by (with_reducible repeat (first | refine blk_drewN ?_ _ | refine blk_drew ?_ | refine blk_alloc ?_ _)); exact BK219.out) hg (Kd.R_ne HO_11.out BK219.out (by decide))); have n2_ := Aside0.mk (hb); have n3_ := Aside0.mk (ho); clear BK218; clear BK219; clear HB; clear HO_11; have BK218 := n0_; have BK219 := n1_; have HB := n2_; have HO226 := n3_; clear n0_ n1_ n2_ n3_; clear ho hb hg hat))
         go_roundg k1
         case measure => have := HK1.out; omega
         case rel => exact ⟨(y224), (wrap64 (x12_1 + 1)), (by first | rfl | (simp; done) | (simp [*]; done)), H', ⟨by have := HK1.out; omega⟩, ⟨by (with_reducible repeat (first | apply Kd.R_alloc | apply Kd.R_drewN | apply Kd.R_drew)); exact HO226.out⟩, ⟨by (with_reducible repeat (first | refine blk_drewN ?_ _ | refine blk_drew ?_ | refine blk_alloc ?_ _)); exact BK218.out⟩, ⟨by (with_reducible repeat (first | refine blk_drewN ?_ _ | refine blk_drew ?_ | refine blk_alloc ?_ _)); exact BK219.out⟩, ⟨by repeat (first | (with_reducible first | exact HB.out | apply below_alloc | apply pw_below_drewN | apply below_drew1 | refine below_set ?_ GE218.out | refine below_set ?_ GE219.out) | exact HB.out)⟩⟩
        ·
         rw [if_neg c15] at H
         exact absurd H (by simp)
       ·
        rw [if_neg c14] at H
        have c14b0 : decide ((rd l1 x12_1) < (rd l2 x12_1)) = false := decide_eq_false c14
        clear c14
        by_cases c17 : x11_1.length < 17592186044416
        ·
         rw [if_pos c17] at H
         have LMc17 := Aside0.mk c17
         clear c17
         obtain ⟨y227, hy227⟩ : ∃ y_ : List Int, y_ = (x11_1 ++ [rd l1 x12_1]) := ⟨_, rfl⟩
         replace H : (locksteplaw28_CostMore.l0 k1 l0 l1 l2 y227 (wrap64 (x12_1 + 1)) a3_0 a3_1 a3_2 a3_3 a3_4 a3_5 a4_0 a4_1 a4_2 a4_3 a4_4 a4_5) = some r := by first | (rw [hy227]; with_reducible exact H) | (have H2_ := (Option.bind_some _ _).symm.trans H; rw [hy227]; with_reducible exact H2_) | (have H2_ := (Option.bind_some _ _).symm.trans H; with_reducible exact H2_) | with_reducible exact H | (rw [hy227]; exact H) | exact H
         have Ny227 := Aside0.mk hy227
         clear hy227
         have H' := Aside0.mk H
         clear H
         have p221 : 0 ≤ (x12_1 : Int) := of_decide_eq_true (by first | (with_reducible assumption) | assumption)
         have q221 : x12_1 < (l1.length : Int) := of_decide_eq_true (by first | (with_reducible assumption) | assumption)
         obtain ⟨ad221, e221, hx221_0⟩ := Kd.at_int HR1.out x12_1 p221 q221
         cases e221
         replace hx221_0 := (HB.out.cell (World.block_lt_of_cell? w _ hx221_0)).trans hx221_0
         replace p221 := eq_true p221
         replace q221 := eq_true q221
         have p222 : 0 ≤ (x12_1 : Int) := of_decide_eq_true (by first | (with_reducible assumption) | assumption)
         have q222 : x12_1 < (l2.length : Int) := of_decide_eq_true (by first | (with_reducible assumption) | assumption)
         obtain ⟨ad222, e222, hx222_0⟩ := Kd.at_int HR2.out x12_1 p222 q222
         cases e222
         replace hx222_0 := (HB.out.cell (World.block_lt_of_cell? w _ hx222_0)).trans hx222_0
         replace p222 := eq_true p222
         replace q222 := eq_true q222
         go_wp2_with (first | ((with_reducible refine gate_builtin (b := .append) (xs := #[.tmp 43, .tmp 45]) rfl ?_); at_builtin; refine Kd.R_append (Kd.int .u64) (w0 := w) w.heap.size rfl (.tmp 43) (.tmp 45) 23 24 (.int .u64 0) 8 rfl Try.underlying23 info24 rfl (by decide) (by omega) u11 x11_1 (rd l1 x12_1) [.int .u64 (rd l1 x12_1)] (fun _ => True) (fun _ => False) rfl rfl ?aP (fun _ hk => hk.elim) ?aF ?aO ?aB ?aS ?aL ?_; (case aP => exact rfl); (case aB => exact (by repeat (first | (with_reducible first | exact HB.out | apply below_alloc | apply pw_below_drewN | apply below_drew1 | refine below_set ?_ GE218.out | refine below_set ?_ GE219.out) | exact HB.out))); (case aF => exact (fun _ _ => trivial)); (case aO => exact (by (with_reducible repeat (first | apply Kd.R_alloc | apply Kd.R_drewN | apply Kd.R_drew)); exact HO_11.out)); (case aS => exact (below_size (by repeat (first | (with_reducible first | exact HB.out | apply below_alloc | apply pw_below_drewN | apply below_drew1 | refine below_set ?_ GE218.out | refine below_set ?_ GE219.out) | exact HB.out)))); (case aL => have := LMc17.out; omega); intro v228 w18 ho hb hg hat; rw [← Ny227.out] at ho; have n0_ := Aside0.mk (blk_grown (g := gb218) (o := .cells #[.int .u64 a3_0, .int .u64 a3_1, .int .u64 a3_2, .int .u64 a3_3, .int .u64 a3_4, .int .u64 a3_5] 26 (0, 0)) (by (with_reducible repeat (first | refine blk_drewN ?_ _ | refine blk_drew ?_ | refine blk_alloc ?_ _)); exact BK218.out) hg (Kd.R_ne HO_11.out BK218.out (by decide))); have n1_ := Aside0.mk (blk_grown (g := gb219) (o := .cells #[.int .u64 a4_0, .int .u64 a4_1, .int .u64 a4_2, .int .u64 a4_3, .int .u64 a4_4, .int .u64 a4_5] 26 (0, 0)) (by (with_reducible repeat (first | refine blk_drewN ?_ _ | refine blk_drew ?_ | refine blk_alloc ?_ _)); exact BK219.out) hg (Kd.R_ne HO_11.out BK219.out (by decide))); have n2_ := Aside0.mk (hb); have n3_ := Aside0.mk (ho); clear BK218; clear BK219; clear HB; clear HO_11; have BK218 := n0_; have BK219 := n1_; have HB := n2_; have HO229 := n3_; clear n0_ n1_ n2_ n3_; clear ho hb hg hat))
         go_roundg k1
         case measure => have := HK1.out; omega
         case rel => exact ⟨(y227), (wrap64 (x12_1 + 1)), (by first | rfl | (simp; done) | (simp [*]; done)), H', ⟨by have := HK1.out; omega⟩, ⟨by (with_reducible repeat (first | apply Kd.R_alloc | apply Kd.R_drewN | apply Kd.R_drew)); exact HO229.out⟩, ⟨by (with_reducible repeat (first | refine blk_drewN ?_ _ | refine blk_drew ?_ | refine blk_alloc ?_ _)); exact BK218.out⟩, ⟨by (with_reducible repeat (first | refine blk_drewN ?_ _ | refine blk_drew ?_ | refine blk_alloc ?_ _)); exact BK219.out⟩, ⟨by repeat (first | (with_reducible first | exact HB.out | apply below_alloc | apply pw_below_drewN | apply below_drew1 | refine below_set ?_ GE218.out | refine below_set ?_ GE219.out) | exact HB.out)⟩⟩
        ·
         rw [if_neg c17] at H
         exact absurd H (by simp)
      ·
       rw [if_neg c13] at H
       have c13b0 : decide (x12_1 < (l2.length : Int)) = false := decide_eq_false c13
       clear c13
       by_cases c19 : x11_1.length < 17592186044416
       ·
        rw [if_pos c19] at H
        have LMc19 := Aside0.mk c19
        clear c19
        obtain ⟨y230, hy230⟩ : ∃ y_ : List Int, y_ = (x11_1 ++ [rd l1 x12_1]) := ⟨_, rfl⟩
        replace H : (locksteplaw28_CostMore.l0 k1 l0 l1 l2 y230 (wrap64 (x12_1 + 1)) a3_0 a3_1 a3_2 a3_3 a3_4 a3_5 a4_0 a4_1 a4_2 a4_3 a4_4 a4_5) = some r := by first | (rw [hy230]; with_reducible exact H) | (have H2_ := (Option.bind_some _ _).symm.trans H; rw [hy230]; with_reducible exact H2_) | (have H2_ := (Option.bind_some _ _).symm.trans H; with_reducible exact H2_) | with_reducible exact H | (rw [hy230]; exact H) | exact H
        have Ny230 := Aside0.mk hy230
        clear hy230
        have H' := Aside0.mk H
        clear H
        have p221 : 0 ≤ (x12_1 : Int) := of_decide_eq_true (by first | (with_reducible assumption) | assumption)
        have q221 : x12_1 < (l1.length : Int) := of_decide_eq_true (by first | (with_reducible assumption) | assumption)
        obtain ⟨ad221, e221, hx221_0⟩ := Kd.at_int HR1.out x12_1 p221 q221
        cases e221
        replace hx221_0 := (HB.out.cell (World.block_lt_of_cell? w _ hx221_0)).trans hx221_0
        replace p221 := eq_true p221
        replace q221 := eq_true q221
        go_wp2_with (first | ((with_reducible refine gate_builtin (b := .append) (xs := #[.tmp 43, .tmp 45]) rfl ?_); at_builtin; refine Kd.R_append (Kd.int .u64) (w0 := w) w.heap.size rfl (.tmp 43) (.tmp 45) 23 24 (.int .u64 0) 8 rfl Try.underlying23 info24 rfl (by decide) (by omega) u11 x11_1 (rd l1 x12_1) [.int .u64 (rd l1 x12_1)] (fun _ => True) (fun _ => False) rfl rfl ?aP (fun _ hk => hk.elim) ?aF ?aO ?aB ?aS ?aL ?_; (case aP => exact rfl); (case aB => exact (by repeat (first | (with_reducible first | exact HB.out | apply below_alloc | apply pw_below_drewN | apply below_drew1 | refine below_set ?_ GE218.out | refine below_set ?_ GE219.out) | exact HB.out))); (case aF => exact (fun _ _ => trivial)); (case aO => exact (by (with_reducible repeat (first | apply Kd.R_alloc | apply Kd.R_drewN | apply Kd.R_drew)); exact HO_11.out)); (case aS => exact (below_size (by repeat (first | (with_reducible first | exact HB.out | apply below_alloc | apply pw_below_drewN | apply below_drew1 | refine below_set ?_ GE218.out | refine below_set ?_ GE219.out) | exact HB.out)))); (case aL => have := LMc19.out; omega); intro v231 w20 ho hb hg hat; rw [← Ny230.out] at ho; have n0_ := Aside0.mk (blk_grown (g := gb218) (o := .cells #[.int .u64 a3_0, .int .u64 a3_1, .int .u64 a3_2, .int .u64 a3_3, .int .u64 a3_4, .int .u64 a3_5] 26 (0, 0)) (by (with_reducible repeat (first | refine blk_drewN ?_ _ | refine blk_drew ?_ | refine blk_alloc ?_ _)); exact BK218.out) hg (Kd.R_ne HO_11.out BK218.out (by decide))); have n1_ := Aside0.mk (blk_grown (g := gb219) (o := .cells #[.int .u64 a4_0, .int .u64 a4_1, .int .u64 a4_2, .int .u64 a4_3, .int .u64 a4_4, .int .u64 a4_5] 26 (0, 0)) (by (with_reducible repeat (first | refine blk_drewN ?_ _ | refine blk_drew ?_ | refine blk_alloc ?_ _)); exact BK219.out) hg (Kd.R_ne HO_11.out BK219.out (by decide))); have n2_ := Aside0.mk (hb); have n3_ := Aside0.mk (ho); clear BK218; clear BK219; clear HB; clear HO_11; have BK218 := n0_; have BK219 := n1_; have HB := n2_; have HO232 := n3_; clear n0_ n1_ n2_ n3_; clear ho hb hg hat))
        go_roundg k1
        case measure => have := HK1.out; omega
        case rel => exact ⟨(y230), (wrap64 (x12_1 + 1)), (by first | rfl | (simp; done) | (simp [*]; done)), H', ⟨by have := HK1.out; omega⟩, ⟨by (with_reducible repeat (first | apply Kd.R_alloc | apply Kd.R_drewN | apply Kd.R_drew)); exact HO232.out⟩, ⟨by (with_reducible repeat (first | refine blk_drewN ?_ _ | refine blk_drew ?_ | refine blk_alloc ?_ _)); exact BK218.out⟩, ⟨by (with_reducible repeat (first | refine blk_drewN ?_ _ | refine blk_drew ?_ | refine blk_alloc ?_ _)); exact BK219.out⟩, ⟨by repeat (first | (with_reducible first | exact HB.out | apply below_alloc | apply pw_below_drewN | apply below_drew1 | refine below_set ?_ GE218.out | refine below_set ?_ GE219.out) | exact HB.out)⟩⟩
       ·
        rw [if_neg c19] at H
        exact absurd H (by simp)
     ·
      rw [if_neg c12] at H
      exact absurd H (by simp)
    ·
     rw [if_neg c11] at H
     have c11b0 : decide (x12_1 < (l1.length : Int)) = false := decide_eq_false c11
     clear c11
     replace H := Option.bind_eq_some_iff.mp H
     obtain ⟨t233, A210, H⟩ := H
     replace H : ((cost_Value.f k1 l0 l1).bind fun t234 => (if t233 < t234 then (some false) else ((cost_Bound.f (mx a3_0 a4_0) (mx a3_1 a4_1) (mx a3_2 a4_2) (mx a3_3 a4_3) (mx a3_4 a4_4) (mx a3_5 a4_5)).bind fun t236 => ((cost_Bound.f a3_0 a3_1 a3_2 a3_3 a3_4 a3_5).bind fun t237 => (if t236 ≥ t237 then ((cost_Bound.f (mx a3_0 a4_0) (mx a3_1 a4_1) (mx a3_2 a4_2) (mx a3_3 a4_3) (mx a3_4 a4_4) (mx a3_5 a4_5)).bind fun t238 => ((cost_Bound.f a4_0 a4_1 a4_2 a4_3 a4_4 a4_5).bind fun t239 => (some (decide (t238 ≥ t239))))) else (some false)))))) = some r := H
     have A21 := Aside0.mk A210
     clear A210
     replace H := Option.bind_eq_some_iff.mp H
     obtain ⟨t234, A220, H⟩ := H
     replace H : (if t233 < t234 then (some false) else ((cost_Bound.f (mx a3_0 a4_0) (mx a3_1 a4_1) (mx a3_2 a4_2) (mx a3_3 a4_3) (mx a3_4 a4_4) (mx a3_5 a4_5)).bind fun t236 => ((cost_Bound.f a3_0 a3_1 a3_2 a3_3 a3_4 a3_5).bind fun t237 => (if t236 ≥ t237 then ((cost_Bound.f (mx a3_0 a4_0) (mx a3_1 a4_1) (mx a3_2 a4_2) (mx a3_3 a4_3) (mx a3_4 a4_4) (mx a3_5 a4_5)).bind fun t238 => ((cost_Bound.f a4_0 a4_1 a4_2 a4_3 a4_4 a4_5).bind fun t239 => (some (decide (t238 ≥ t239))))) else (some false))))) = some r := H
     have A22 := Aside0.mk A220
     clear A220
     by_cases c23 : t233 < t234
     ·
      rw [if_pos c23] at H
      have c23b0 : decide (t233 < t234) = true := decide_eq_true c23
      clear c23
      exact absurd (Option.some.inj H) (by rw [HR.out]; simp)
     ·
      rw [if_neg c23] at H
      have c23b0 : decide (t233 < t234) = false := decide_eq_false c23
      clear c23
      obtain ⟨ji24, hji24⟩ : ∃ j_ : Int, (mx a3_0 a4_0) = j_ := ⟨_, rfl⟩
      replace H : ((cost_Bound.f (ji24) (mx a3_1 a4_1) (mx a3_2 a4_2) (mx a3_3 a4_3) (mx a3_4 a4_4) (mx a3_5 a4_5)).bind fun t236 => ((cost_Bound.f a3_0 a3_1 a3_2 a3_3 a3_4 a3_5).bind fun t237 => (if t236 ≥ t237 then ((cost_Bound.f (ji24) (mx a3_1 a4_1) (mx a3_2 a4_2) (mx a3_3 a4_3) (mx a3_4 a4_4) (mx a3_5 a4_5)).bind fun t238 => ((cost_Bound.f a4_0 a4_1 a4_2 a4_3 a4_4 a4_5).bind fun t239 => (some (decide (t238 ≥ t239))))) else (some false)))) = some r := by first | (rw [hji24] at H; exact H) | (simp only [hji24] at H ⊢; exact H)
      (try rw [hji24] at A21)
      (try rw [hji24] at A22)
      have hji24_ : (if a3_0 < a4_0 then a4_0 else a3_0) = ji24 := hji24
      obtain ⟨ji25, hji25⟩ : ∃ j_ : Int, (mx a3_1 a4_1) = j_ := ⟨_, rfl⟩
      replace H : ((cost_Bound.f (ji24) (ji25) (mx a3_2 a4_2) (mx a3_3 a4_3) (mx a3_4 a4_4) (mx a3_5 a4_5)).bind fun t236 => ((cost_Bound.f a3_0 a3_1 a3_2 a3_3 a3_4 a3_5).bind fun t237 => (if t236 ≥ t237 then ((cost_Bound.f (ji24) (ji25) (mx a3_2 a4_2) (mx a3_3 a4_3) (mx a3_4 a4_4) (mx a3_5 a4_5)).bind fun t238 => ((cost_Bound.f a4_0 a4_1 a4_2 a4_3 a4_4 a4_5).bind fun t239 => (some (decide (t238 ≥ t239))))) else (some false)))) = some r := by first | (rw [hji25] at H; exact H) | (simp only [hji25] at H ⊢; exact H)
      (try rw [hji25] at A21)
      (try rw [hji25] at A22)
      have hji25_ : (if a3_1 < a4_1 then a4_1 else a3_1) = ji25 := hji25
      obtain ⟨ji26, hji26⟩ : ∃ j_ : Int, (mx a3_2 a4_2) = j_ := ⟨_, rfl⟩
      replace H : ((cost_Bound.f (ji24) (ji25) (ji26) (mx a3_3 a4_3) (mx a3_4 a4_4) (mx a3_5 a4_5)).bind fun t236 => ((cost_Bound.f a3_0 a3_1 a3_2 a3_3 a3_4 a3_5).bind fun t237 => (if t236 ≥ t237 then ((cost_Bound.f (ji24) (ji25) (ji26) (mx a3_3 a4_3) (mx a3_4 a4_4) (mx a3_5 a4_5)).bind fun t238 => ((cost_Bound.f a4_0 a4_1 a4_2 a4_3 a4_4 a4_5).bind fun t239 => (some (decide (t238 ≥ t239))))) else (some false)))) = some r := by first | (rw [hji26] at H; exact H) | (simp only [hji26] at H ⊢; exact H)
      (try rw [hji26] at A21)
      (try rw [hji26] at A22)
      have hji26_ : (if a3_2 < a4_2 then a4_2 else a3_2) = ji26 := hji26
      obtain ⟨ji27, hji27⟩ : ∃ j_ : Int, (mx a3_3 a4_3) = j_ := ⟨_, rfl⟩
      replace H : ((cost_Bound.f (ji24) (ji25) (ji26) (ji27) (mx a3_4 a4_4) (mx a3_5 a4_5)).bind fun t236 => ((cost_Bound.f a3_0 a3_1 a3_2 a3_3 a3_4 a3_5).bind fun t237 => (if t236 ≥ t237 then ((cost_Bound.f (ji24) (ji25) (ji26) (ji27) (mx a3_4 a4_4) (mx a3_5 a4_5)).bind fun t238 => ((cost_Bound.f a4_0 a4_1 a4_2 a4_3 a4_4 a4_5).bind fun t239 => (some (decide (t238 ≥ t239))))) else (some false)))) = some r := by first | (rw [hji27] at H; exact H) | (simp only [hji27] at H ⊢; exact H)
      (try rw [hji27] at A21)
      (try rw [hji27] at A22)
      have hji27_ : (if a3_3 < a4_3 then a4_3 else a3_3) = ji27 := hji27
      obtain ⟨ji28, hji28⟩ : ∃ j_ : Int, (mx a3_4 a4_4) = j_ := ⟨_, rfl⟩
      replace H : ((cost_Bound.f (ji24) (ji25) (ji26) (ji27) (ji28) (mx a3_5 a4_5)).bind fun t236 => ((cost_Bound.f a3_0 a3_1 a3_2 a3_3 a3_4 a3_5).bind fun t237 => (if t236 ≥ t237 then ((cost_Bound.f (ji24) (ji25) (ji26) (ji27) (ji28) (mx a3_5 a4_5)).bind fun t238 => ((cost_Bound.f a4_0 a4_1 a4_2 a4_3 a4_4 a4_5).bind fun t239 => (some (decide (t238 ≥ t239))))) else (some false)))) = some r := by first | (rw [hji28] at H; exact H) | (simp only [hji28] at H ⊢; exact H)
      (try rw [hji28] at A21)
      (try rw [hji28] at A22)
      have hji28_ : (if a3_4 < a4_4 then a4_4 else a3_4) = ji28 := hji28
      obtain ⟨ji29, hji29⟩ : ∃ j_ : Int, (mx a3_5 a4_5) = j_ := ⟨_, rfl⟩
      replace H : ((cost_Bound.f (ji24) (ji25) (ji26) (ji27) (ji28) (ji29)).bind fun t236 => ((cost_Bound.f a3_0 a3_1 a3_2 a3_3 a3_4 a3_5).bind fun t237 => (if t236 ≥ t237 then ((cost_Bound.f (ji24) (ji25) (ji26) (ji27) (ji28) (ji29)).bind fun t238 => ((cost_Bound.f a4_0 a4_1 a4_2 a4_3 a4_4 a4_5).bind fun t239 => (some (decide (t238 ≥ t239))))) else (some false)))) = some r := by first | (rw [hji29] at H; exact H) | (simp only [hji29] at H ⊢; exact H)
      (try rw [hji29] at A21)
      (try rw [hji29] at A22)
      have hji29_ : (if a3_5 < a4_5 then a4_5 else a3_5) = ji29 := hji29
      replace H := Option.bind_eq_some_iff.mp H
      obtain ⟨t236, A300, H⟩ := H
      replace H : ((cost_Bound.f a3_0 a3_1 a3_2 a3_3 a3_4 a3_5).bind fun t237 => (if t236 ≥ t237 then ((cost_Bound.f (ji24) (ji25) (ji26) (ji27) (ji28) (ji29)).bind fun t238 => ((cost_Bound.f a4_0 a4_1 a4_2 a4_3 a4_4 a4_5).bind fun t239 => (some (decide (t238 ≥ t239))))) else (some false))) = some r := H
      have A30 := Aside0.mk A300
      clear A300
      replace H := Option.bind_eq_some_iff.mp H
      obtain ⟨t237, A310, H⟩ := H
      replace H : (if t236 ≥ t237 then ((cost_Bound.f (ji24) (ji25) (ji26) (ji27) (ji28) (ji29)).bind fun t238 => ((cost_Bound.f a4_0 a4_1 a4_2 a4_3 a4_4 a4_5).bind fun t239 => (some (decide (t238 ≥ t239))))) else (some false)) = some r := H
      have A31 := Aside0.mk A310
      clear A310
      by_cases c32 : t236 ≥ t237
      ·
       rw [if_pos c32] at H
       have c32b0 : decide (t237 ≤ t236) = true := decide_eq_true c32
       clear c32
       replace H := Option.bind_eq_some_iff.mp H
       obtain ⟨t238, A330, H⟩ := H
       replace H : ((cost_Bound.f a4_0 a4_1 a4_2 a4_3 a4_4 a4_5).bind fun t239 => (some (decide (t238 ≥ t239)))) = some r := H
       have A33 := Aside0.mk A330
       clear A330
       replace H := Option.bind_eq_some_iff.mp H
       obtain ⟨t239, A340, H⟩ := H
       replace H : (some (decide (t238 ≥ t239))) = some r := H
       have A34 := Aside0.mk A340
       clear A340
       obtain rfl := Option.some.inj H
       obtain ⟨Ao35, co35, eo35⟩ := Kd.R_slice HO_11.out
       subst eo35
       try go_wp2_with (first | ((with_reducible refine gate_callee (f := 7) rfl ?_); refine goesL_ (some 49) rfl rfl Try.func7 (by kernel_rfl) rfl #[.slice A0 l0.length c0, .slice Ao35 x11_1.length co35] rfl (by (try simp only [List.map_toArray, List.map_cons, List.map_nil]); first | done | rfl | (simp only [List.length_drop, List.length_take]; rfl)) ?_; (with_reducible refine (cost_Value.calls k1 _ _ l0 _ _ x11_1 t233 _ ?side1 ?side2 ?side3 ?side4 A21.out).mono ?_); (case side1 => repeat (first | exact (Kd.C_below HR0.out HB.out) | (with_reducible refine Kd.C_alloc ?_ _) | (with_reducible refine Kd.C_drewN ?_ _) | (with_reducible refine Kd.C_drew ?_))); (case side2 => exact HC0.out); (case side3 => repeat (first | exact (Kd.R_reads' HO_11.out).2.2 | (with_reducible refine Kd.C_alloc ?_ _) | (with_reducible refine Kd.C_drewN ?_ _) | (with_reducible refine Kd.C_drew ?_))); (case side4 => exact (Kd.R_reads' HO_11.out).2.1); rintro e w36 ⟨rfl, hb⟩; refine ⟨_, rfl, ?_⟩; have n0_ := Aside0.mk (Kd.R_below (by (with_reducible repeat (first | apply Kd.R_alloc | apply Kd.R_drewN | apply Kd.R_drew)); exact HO_11.out) hb); have n1_ := Aside0.mk (blk_below (g := gb218) (o := .cells #[.int .u64 a3_0, .int .u64 a3_1, .int .u64 a3_2, .int .u64 a3_3, .int .u64 a3_4, .int .u64 a3_5] 26 (0, 0)) (by (with_reducible repeat (first | refine blk_drewN ?_ _ | refine blk_drew ?_ | refine blk_alloc ?_ _)); exact BK218.out) hb); have n2_ := Aside0.mk (blk_below (g := gb219) (o := .cells #[.int .u64 a4_0, .int .u64 a4_1, .int .u64 a4_2, .int .u64 a4_3, .int .u64 a4_4, .int .u64 a4_5] 26 (0, 0)) (by (with_reducible repeat (first | refine blk_drewN ?_ _ | refine blk_drew ?_ | refine blk_alloc ?_ _)); exact BK219.out) hb); have n3_ := Aside0.mk (below_step (by repeat (first | (with_reducible first | exact HB.out | apply below_alloc | apply pw_below_drewN | apply below_drew1 | refine below_set ?_ GE218.out | refine below_set ?_ GE219.out) | exact HB.out)) hb); clear HO_11; clear BK218; clear BK219; clear HB; have HO_11 := n0_; have BK218 := n1_; have BK219 := n2_; have HB := n3_; clear n0_ n1_ n2_ n3_; (try clear hb); (try clear hb2); (try clear hk); (try clear hi)) | ((with_reducible refine gate_callee (f := 7) rfl ?_); refine goesL_ (some 52) rfl rfl Try.func7 (by kernel_rfl) rfl #[.slice A0 l0.length c0, .slice A1 l1.length c1] rfl (by (try simp only [List.map_toArray, List.map_cons, List.map_nil]); first | done | rfl | (simp only [List.length_drop, List.length_take]; rfl)) ?_; (with_reducible refine (cost_Value.calls k1 _ _ l0 _ _ l1 t234 _ ?side1 ?side2 ?side3 ?side4 A22.out).mono ?_); (case side1 => repeat (first | exact (Kd.C_below HR0.out HB.out) | (with_reducible refine Kd.C_alloc ?_ _) | (with_reducible refine Kd.C_drewN ?_ _) | (with_reducible refine Kd.C_drew ?_))); (case side2 => exact HC0.out); (case side3 => repeat (first | exact (Kd.C_below HR1.out HB.out) | (with_reducible refine Kd.C_alloc ?_ _) | (with_reducible refine Kd.C_drewN ?_ _) | (with_reducible refine Kd.C_drew ?_))); (case side4 => exact HC1.out); rintro e w37 ⟨rfl, hb⟩; refine ⟨_, rfl, ?_⟩; have n0_ := Aside0.mk (Kd.R_below (by (with_reducible repeat (first | apply Kd.R_alloc | apply Kd.R_drewN | apply Kd.R_drew)); exact HO_11.out) hb); have n1_ := Aside0.mk (blk_below (g := gb218) (o := .cells #[.int .u64 a3_0, .int .u64 a3_1, .int .u64 a3_2, .int .u64 a3_3, .int .u64 a3_4, .int .u64 a3_5] 26 (0, 0)) (by (with_reducible repeat (first | refine blk_drewN ?_ _ | refine blk_drew ?_ | refine blk_alloc ?_ _)); exact BK218.out) hb); have n2_ := Aside0.mk (blk_below (g := gb219) (o := .cells #[.int .u64 a4_0, .int .u64 a4_1, .int .u64 a4_2, .int .u64 a4_3, .int .u64 a4_4, .int .u64 a4_5] 26 (0, 0)) (by (with_reducible repeat (first | refine blk_drewN ?_ _ | refine blk_drew ?_ | refine blk_alloc ?_ _)); exact BK219.out) hb); have n3_ := Aside0.mk (below_step (by repeat (first | (with_reducible first | exact HB.out | apply below_alloc | apply pw_below_drewN | apply below_drew1 | refine below_set ?_ GE218.out | refine below_set ?_ GE219.out) | exact HB.out)) hb); clear HO_11; clear BK218; clear BK219; clear HB; have HO_11 := n0_; have BK218 := n1_; have BK219 := n2_; have HB := n3_; clear n0_ n1_ n2_ n3_; (try clear hb); (try clear hb2); (try clear hk); (try clear hi); have hnb38 := eq_false NB218_219.out; have hnc38 := eq_false NB219_218.out; have hcz39_0 : w37.cell? ⟨gb218, 0, none⟩ = some (.int .u64 a3_0) := (blk_cell BK218.out 0).trans rfl; have hcz39_1 : w37.cell? ⟨gb218, 1, none⟩ = some (.int .u64 a3_1) := (blk_cell BK218.out 1).trans rfl; have hcz39_2 : w37.cell? ⟨gb218, 2, none⟩ = some (.int .u64 a3_2) := (blk_cell BK218.out 2).trans rfl; have hcz39_3 : w37.cell? ⟨gb218, 3, none⟩ = some (.int .u64 a3_3) := (blk_cell BK218.out 3).trans rfl; have hcz39_4 : w37.cell? ⟨gb218, 4, none⟩ = some (.int .u64 a3_4) := (blk_cell BK218.out 4).trans rfl; have hcz39_5 : w37.cell? ⟨gb218, 5, none⟩ = some (.int .u64 a3_5) := (blk_cell BK218.out 5).trans rfl; have hfz39_0 := blk_frozen BK218.out 0; have hfz39_1 := blk_frozen BK218.out 1; have hfz39_2 := blk_frozen BK218.out 2; have hfz39_3 := blk_frozen BK218.out 3; have hfz39_4 := blk_frozen BK218.out 4; have hfz39_5 := blk_frozen BK218.out 5; have hcz40_0 : w37.cell? ⟨gb219, 0, none⟩ = some (.int .u64 a4_0) := (blk_cell BK219.out 0).trans rfl; have hcz40_1 : w37.cell? ⟨gb219, 1, none⟩ = some (.int .u64 a4_1) := (blk_cell BK219.out 1).trans rfl; have hcz40_2 : w37.cell? ⟨gb219, 2, none⟩ = some (.int .u64 a4_2) := (blk_cell BK219.out 2).trans rfl; have hcz40_3 : w37.cell? ⟨gb219, 3, none⟩ = some (.int .u64 a4_3) := (blk_cell BK219.out 3).trans rfl; have hcz40_4 : w37.cell? ⟨gb219, 4, none⟩ = some (.int .u64 a4_4) := (blk_cell BK219.out 4).trans rfl; have hcz40_5 : w37.cell? ⟨gb219, 5, none⟩ = some (.int .u64 a4_5) := (blk_cell BK219.out 5).trans rfl; have hfz40_0 := blk_frozen BK219.out 0; have hfz40_1 := blk_frozen BK219.out 1; have hfz40_2 := blk_frozen BK219.out 2; have hfz40_3 := blk_frozen BK219.out 3; have hfz40_4 := blk_frozen BK219.out 4; have hfz40_5 := blk_frozen BK219.out 5) | ((with_reducible refine gate_dst (N := 14) rfl ?_); refine box_event ?hg (N := 14) ?hd (cs := #[.int .u64 0, .int .u64 0, .int .u64 0, .int .u64 0, .int .u64 0, .int .u64 0]) (t := 26) ?hr ?_; (case hd => rfl); (case hg => rfl); (case hr => first | (go_simp; done) | (go_simp; rfl)); intro gb235 hg w41 hbox hb; have n0_ := Aside0.mk (Kd.R_below (by (with_reducible repeat (first | apply Kd.R_alloc | apply Kd.R_drewN | apply Kd.R_drew)); exact HO_11.out) hb); have n1_ := Aside0.mk (blk_below (g := gb218) (o := .cells #[.int .u64 a3_0, .int .u64 a3_1, .int .u64 a3_2, .int .u64 a3_3, .int .u64 a3_4, .int .u64 a3_5] 26 (0, 0)) (by (with_reducible repeat (first | refine blk_drewN ?_ _ | refine blk_drew ?_ | refine blk_alloc ?_ _)); exact BK218.out) hb); have n2_ := Aside0.mk (blk_below (g := gb219) (o := .cells #[.int .u64 a4_0, .int .u64 a4_1, .int .u64 a4_2, .int .u64 a4_3, .int .u64 a4_4, .int .u64 a4_5] 26 (0, 0)) (by (with_reducible repeat (first | refine blk_drewN ?_ _ | refine blk_drew ?_ | refine blk_alloc ?_ _)); exact BK219.out) hb); have n3_ := Aside0.mk (below_step (by repeat (first | (with_reducible first | exact HB.out | apply below_alloc | apply pw_below_drewN | apply below_drew1 | refine below_set ?_ GE218.out | refine below_set ?_ GE219.out) | exact HB.out)) hb); have n4_ := Aside0.mk (hbox); have n5_ := Aside0.mk ((by rw [hg]; exact (below_size (by repeat (first | (with_reducible first | exact HB.out | apply below_alloc | apply pw_below_drewN | apply below_drew1 | refine below_set ?_ GE218.out | refine below_set ?_ GE219.out) | exact HB.out))) : w.heap.size ≤ gb235)); have n6_ := Aside0.mk ((by rw [hg]; exact (below_size (by repeat (first | (with_reducible first | exact HB.out | apply below_alloc | apply pw_below_drewN | apply below_drew1 | refine below_set ?_ GE218.out | refine below_set ?_ GE219.out) | exact HB.out))) : w.heap.size ≤ gb235)); have n7_ := Aside0.mk ((by rw [hg]; exact Nat.ne_of_lt (blk_lt (g := gb218) (o := .cells #[.int .u64 a3_0, .int .u64 a3_1, .int .u64 a3_2, .int .u64 a3_3, .int .u64 a3_4, .int .u64 a3_5] 26 (0, 0)) (by (with_reducible repeat (first | refine blk_drewN ?_ _ | refine blk_drew ?_ | refine blk_alloc ?_ _)); exact BK218.out)) : gb218 ≠ gb235)); have n8_ := Aside0.mk ((by rw [hg]; exact Nat.ne_of_gt (blk_lt (g := gb218) (o := .cells #[.int .u64 a3_0, .int .u64 a3_1, .int .u64 a3_2, .int .u64 a3_3, .int .u64 a3_4, .int .u64 a3_5] 26 (0, 0)) (by (with_reducible repeat (first | refine blk_drewN ?_ _ | refine blk_drew ?_ | refine blk_alloc ?_ _)); exact BK218.out)) : gb235 ≠ gb218)); have n9_ := Aside0.mk ((by rw [hg]; exact Nat.ne_of_lt (blk_lt (g := gb219) (o := .cells #[.int .u64 a4_0, .int .u64 a4_1, .int .u64 a4_2, .int .u64 a4_3, .int .u64 a4_4, .int .u64 a4_5] 26 (0, 0)) (by (with_reducible repeat (first | refine blk_drewN ?_ _ | refine blk_drew ?_ | refine blk_alloc ?_ _)); exact BK219.out)) : gb219 ≠ gb235)); have n10_ := Aside0.mk ((by rw [hg]; exact Nat.ne_of_gt (blk_lt (g := gb219) (o := .cells #[.int .u64 a4_0, .int .u64 a4_1, .int .u64 a4_2, .int .u64 a4_3, .int .u64 a4_4, .int .u64 a4_5] 26 (0, 0)) (by (with_reducible repeat (first | refine blk_drewN ?_ _ | refine blk_drew ?_ | refine blk_alloc ?_ _)); exact BK219.out)) : gb235 ≠ gb219)); clear HO_11; clear BK218; clear BK219; clear HB; have HO_11 := n0_; have BK218 := n1_; have BK219 := n2_; have HB := n3_; have BK235 := n4_; have GW235 := n5_; have GE235 := n6_; have NB218_235 := n7_; have NB235_218 := n8_; have NB219_235 := n9_; have NB235_219 := n10_; clear n0_ n1_ n2_ n3_ n4_ n5_ n6_ n7_ n8_ n9_ n10_; clear hb hbox hg; have hnb42 := eq_false NB235_218.out; have hnc42 := eq_false NB218_235.out; have hnb43 := eq_false NB235_219.out; have hnc43 := eq_false NB219_235.out; have hcz44_0 : w41.cell? ⟨gb235, 0, none⟩ = some (.int .u64 0) := (blk_cell BK235.out 0).trans rfl; have hcz44_1 : w41.cell? ⟨gb235, 1, none⟩ = some (.int .u64 0) := (blk_cell BK235.out 1).trans rfl; have hcz44_2 : w41.cell? ⟨gb235, 2, none⟩ = some (.int .u64 0) := (blk_cell BK235.out 2).trans rfl; have hcz44_3 : w41.cell? ⟨gb235, 3, none⟩ = some (.int .u64 0) := (blk_cell BK235.out 3).trans rfl; have hcz44_4 : w41.cell? ⟨gb235, 4, none⟩ = some (.int .u64 0) := (blk_cell BK235.out 4).trans rfl; have hcz44_5 : w41.cell? ⟨gb235, 5, none⟩ = some (.int .u64 0) := (blk_cell BK235.out 5).trans rfl; have hfz44_0 := blk_frozen BK235.out 0; have hfz44_1 := blk_frozen BK235.out 1; have hfz44_2 := blk_frozen BK235.out 2; have hfz44_3 := blk_frozen BK235.out 3; have hfz44_4 := blk_frozen BK235.out 4; have hfz44_5 := blk_frozen BK235.out 5))
       have n0_ : Aside0 (Kd.R (Kd.int .u64) 24 ((((((w41.setCell ⟨gb235, 0, none⟩ (.int .u64 ji24)).setCell ⟨gb235, 1, none⟩ (.int .u64 ji25)).setCell ⟨gb235, 2, none⟩ (.int .u64 ji26)).setCell ⟨gb235, 3, none⟩ (.int .u64 ji27)).setCell ⟨gb235, 4, none⟩ (.int .u64 ji28)).setCell ⟨gb235, 5, none⟩ (.int .u64 ji29)) w.heap.size (fun _ => True) (.slice Ao35 x11_1.length co35) x11_1) := ⟨by (with_reducible repeat (first | apply Kd.R_alloc | apply Kd.R_drewN | apply Kd.R_drew)); exact Kd.R_mono (Kd.R_far (p := ⟨gb235, 5, none⟩) (Kd.R_far (p := ⟨gb235, 4, none⟩) (Kd.R_far (p := ⟨gb235, 3, none⟩) (Kd.R_far (p := ⟨gb235, 2, none⟩) (Kd.R_far (p := ⟨gb235, 1, none⟩) (Kd.R_far (p := ⟨gb235, 0, none⟩) (Kd.R_types HO_11.out BK235.out (by decide)) (fun _ hk => hk.2) (.int .u64 ji24)) (fun _ hk => hk.2) (.int .u64 ji25)) (fun _ hk => hk.2) (.int .u64 ji26)) (fun _ hk => hk.2) (.int .u64 ji27)) (fun _ hk => hk.2) (.int .u64 ji28)) (fun _ hk => hk.2) (.int .u64 ji29)) (fun _ hk => trivial)⟩
       have n1_ : Aside0 (((((((w41.setCell ⟨gb235, 0, none⟩ (.int .u64 ji24)).setCell ⟨gb235, 1, none⟩ (.int .u64 ji25)).setCell ⟨gb235, 2, none⟩ (.int .u64 ji26)).setCell ⟨gb235, 3, none⟩ (.int .u64 ji27)).setCell ⟨gb235, 4, none⟩ (.int .u64 ji28)).setCell ⟨gb235, 5, none⟩ (.int .u64 ji29)).heap[gb218]? = some (.cells #[.int .u64 a3_0, .int .u64 a3_1, .int .u64 a3_2, .int .u64 a3_3, .int .u64 a3_4, .int .u64 a3_5] 26 (0, 0))) := ⟨by (with_reducible repeat (first | refine blk_drewN ?_ _ | refine blk_drew ?_ | refine blk_alloc ?_ _)); refine blk_far ?_ NB218_235.out _; (with_reducible repeat (first | refine blk_drewN ?_ _ | refine blk_drew ?_ | refine blk_alloc ?_ _)); refine blk_far ?_ NB218_235.out _; (with_reducible repeat (first | refine blk_drewN ?_ _ | refine blk_drew ?_ | refine blk_alloc ?_ _)); refine blk_far ?_ NB218_235.out _; (with_reducible repeat (first | refine blk_drewN ?_ _ | refine blk_drew ?_ | refine blk_alloc ?_ _)); refine blk_far ?_ NB218_235.out _; (with_reducible repeat (first | refine blk_drewN ?_ _ | refine blk_drew ?_ | refine blk_alloc ?_ _)); refine blk_far ?_ NB218_235.out _; (with_reducible repeat (first | refine blk_drewN ?_ _ | refine blk_drew ?_ | refine blk_alloc ?_ _)); refine blk_far ?_ NB218_235.out _; (with_reducible repeat (first | refine blk_drewN ?_ _ | refine blk_drew ?_ | refine blk_alloc ?_ _)); exact BK218.out⟩
       have n2_ : Aside0 (((((((w41.setCell ⟨gb235, 0, none⟩ (.int .u64 ji24)).setCell ⟨gb235, 1, none⟩ (.int .u64 ji25)).setCell ⟨gb235, 2, none⟩ (.int .u64 ji26)).setCell ⟨gb235, 3, none⟩ (.int .u64 ji27)).setCell ⟨gb235, 4, none⟩ (.int .u64 ji28)).setCell ⟨gb235, 5, none⟩ (.int .u64 ji29)).heap[gb219]? = some (.cells #[.int .u64 a4_0, .int .u64 a4_1, .int .u64 a4_2, .int .u64 a4_3, .int .u64 a4_4, .int .u64 a4_5] 26 (0, 0))) := ⟨by (with_reducible repeat (first | refine blk_drewN ?_ _ | refine blk_drew ?_ | refine blk_alloc ?_ _)); refine blk_far ?_ NB219_235.out _; (with_reducible repeat (first | refine blk_drewN ?_ _ | refine blk_drew ?_ | refine blk_alloc ?_ _)); refine blk_far ?_ NB219_235.out _; (with_reducible repeat (first | refine blk_drewN ?_ _ | refine blk_drew ?_ | refine blk_alloc ?_ _)); refine blk_far ?_ NB219_235.out _; (with_reducible repeat (first | refine blk_drewN ?_ _ | refine blk_drew ?_ | refine blk_alloc ?_ _)); refine blk_far ?_ NB219_235.out _; (with_reducible repeat (first | refine blk_drewN ?_ _ | refine blk_drew ?_ | refine blk_alloc ?_ _)); refine blk_far ?_ NB219_235.out _; (with_reducible repeat (first | refine blk_drewN ?_ _ | refine blk_drew ?_ | refine blk_alloc ?_ _)); refine blk_far ?_ NB219_235.out _; (with_reducible repeat (first | refine blk_drewN ?_ _ | refine blk_drew ?_ | refine blk_alloc ?_ _)); exact BK219.out⟩
       have n3_ : Aside0 (((((((w41.setCell ⟨gb235, 0, none⟩ (.int .u64 ji24)).setCell ⟨gb235, 1, none⟩ (.int .u64 ji25)).setCell ⟨gb235, 2, none⟩ (.int .u64 ji26)).setCell ⟨gb235, 3, none⟩ (.int .u64 ji27)).setCell ⟨gb235, 4, none⟩ (.int .u64 ji28)).setCell ⟨gb235, 5, none⟩ (.int .u64 ji29)).heap[gb235]? = some (.cells #[.int .u64 ji24, .int .u64 ji25, .int .u64 ji26, .int .u64 ji27, .int .u64 ji28, .int .u64 ji29] 26 (0, 0))) := ⟨by (with_reducible repeat (first | refine blk_drewN ?_ _ | refine blk_drew ?_ | refine blk_alloc ?_ _)); refine blk_put (cs := #[.int .u64 ji24, .int .u64 ji25, .int .u64 ji26, .int .u64 ji27, .int .u64 ji28, .int .u64 0]) ?_ 5 _ rfl; (with_reducible repeat (first | refine blk_drewN ?_ _ | refine blk_drew ?_ | refine blk_alloc ?_ _)); refine blk_put (cs := #[.int .u64 ji24, .int .u64 ji25, .int .u64 ji26, .int .u64 ji27, .int .u64 0, .int .u64 0]) ?_ 4 _ rfl; (with_reducible repeat (first | refine blk_drewN ?_ _ | refine blk_drew ?_ | refine blk_alloc ?_ _)); refine blk_put (cs := #[.int .u64 ji24, .int .u64 ji25, .int .u64 ji26, .int .u64 0, .int .u64 0, .int .u64 0]) ?_ 3 _ rfl; (with_reducible repeat (first | refine blk_drewN ?_ _ | refine blk_drew ?_ | refine blk_alloc ?_ _)); refine blk_put (cs := #[.int .u64 ji24, .int .u64 ji25, .int .u64 0, .int .u64 0, .int .u64 0, .int .u64 0]) ?_ 2 _ rfl; (with_reducible repeat (first | refine blk_drewN ?_ _ | refine blk_drew ?_ | refine blk_alloc ?_ _)); refine blk_put (cs := #[.int .u64 ji24, .int .u64 0, .int .u64 0, .int .u64 0, .int .u64 0, .int .u64 0]) ?_ 1 _ rfl; (with_reducible repeat (first | refine blk_drewN ?_ _ | refine blk_drew ?_ | refine blk_alloc ?_ _)); refine blk_put (cs := #[.int .u64 0, .int .u64 0, .int .u64 0, .int .u64 0, .int .u64 0, .int .u64 0]) ?_ 0 _ rfl; (with_reducible repeat (first | refine blk_drewN ?_ _ | refine blk_drew ?_ | refine blk_alloc ?_ _)); exact BK235.out⟩
       have n4_ : Aside0 (Below w.heap.size w ((((((w41.setCell ⟨gb235, 0, none⟩ (.int .u64 ji24)).setCell ⟨gb235, 1, none⟩ (.int .u64 ji25)).setCell ⟨gb235, 2, none⟩ (.int .u64 ji26)).setCell ⟨gb235, 3, none⟩ (.int .u64 ji27)).setCell ⟨gb235, 4, none⟩ (.int .u64 ji28)).setCell ⟨gb235, 5, none⟩ (.int .u64 ji29))) := ⟨by repeat (first | (with_reducible first | exact HB.out | apply below_alloc | apply pw_below_drewN | apply below_drew1 | refine below_set ?_ GE218.out | refine below_set ?_ GE219.out | refine below_set ?_ GE235.out) | exact HB.out)⟩
       (try clear HO_11)
       (try clear BK218)
       (try clear BK219)
       (try clear BK235)
       (try clear HB)
       generalize ((((((w41.setCell ⟨gb235, 0, none⟩ (.int .u64 ji24)).setCell ⟨gb235, 1, none⟩ (.int .u64 ji25)).setCell ⟨gb235, 2, none⟩ (.int .u64 ji26)).setCell ⟨gb235, 3, none⟩ (.int .u64 ji27)).setCell ⟨gb235, 4, none⟩ (.int .u64 ji28)).setCell ⟨gb235, 5, none⟩ (.int .u64 ji29)) = w45 at n0_ n1_ n2_ n3_ n4_ ⊢
       have HO_11 := n0_
       have BK218 := n1_
       have BK219 := n2_
       have BK235 := n3_
       have HB := n4_
       clear n0_ n1_ n2_ n3_ n4_
       have n0_ := Aside0.mk (Kd.R_drew HO_11.out)
       have n1_ := Aside0.mk (blk_drew BK218.out)
       have n2_ := Aside0.mk (blk_drew BK219.out)
       have n3_ := Aside0.mk (blk_drew BK235.out)
       have n4_ := Aside0.mk (below_drew1 HB.out)
       clear HO_11
       clear BK218
       clear BK219
       clear BK235
       clear HB
       have HO_11 := n0_
       have BK218 := n1_
       have BK219 := n2_
       have BK235 := n3_
       have HB := n4_
       clear n0_ n1_ n2_ n3_ n4_
       refine start_ (n := 13) (S := fun w' => w'.cell? ⟨gb235, 0, none⟩ = some (.int .u64 ji24) ∧ w'.cell? ⟨gb235, 1, none⟩ = some (.int .u64 ji25) ∧ w'.cell? ⟨gb235, 2, none⟩ = some (.int .u64 ji26) ∧ w'.cell? ⟨gb235, 3, none⟩ = some (.int .u64 ji27) ∧ w'.cell? ⟨gb235, 4, none⟩ = some (.int .u64 ji28) ∧ w'.cell? ⟨gb235, 5, none⟩ = some (.int .u64 ji29) ∧ w'.cell? ⟨gb218, 0, none⟩ = some (.int .u64 a3_0) ∧ w'.cell? ⟨gb218, 1, none⟩ = some (.int .u64 a3_1) ∧ w'.cell? ⟨gb218, 2, none⟩ = some (.int .u64 a3_2) ∧ w'.cell? ⟨gb218, 3, none⟩ = some (.int .u64 a3_3) ∧ w'.cell? ⟨gb218, 4, none⟩ = some (.int .u64 a3_4) ∧ w'.cell? ⟨gb218, 5, none⟩ = some (.int .u64 a3_5) ∧ w'.cell? ⟨gb219, 0, none⟩ = some (.int .u64 a4_0) ∧ w'.cell? ⟨gb219, 1, none⟩ = some (.int .u64 a4_1) ∧ w'.cell? ⟨gb219, 2, none⟩ = some (.int .u64 a4_2) ∧ w'.cell? ⟨gb219, 3, none⟩ = some (.int .u64 a4_3) ∧ w'.cell? ⟨gb219, 4, none⟩ = some (.int .u64 a4_4) ∧ w'.cell? ⟨gb219, 5, none⟩ = some (.int .u64 a4_5)) (ds := []) #[false, false, false, false, false, false, false, false, false, false, false, false, false] (by kernel_rfl) rfl rfl ⟨(blk_cell BK235.out 0).trans rfl, (blk_cell BK235.out 1).trans rfl, (blk_cell BK235.out 2).trans rfl, (blk_cell BK235.out 3).trans rfl, (blk_cell BK235.out 4).trans rfl, (blk_cell BK235.out 5).trans rfl, (blk_cell BK218.out 0).trans rfl, (blk_cell BK218.out 1).trans rfl, (blk_cell BK218.out 2).trans rfl, (blk_cell BK218.out 3).trans rfl, (blk_cell BK218.out 4).trans rfl, (blk_cell BK218.out 5).trans rfl, (blk_cell BK219.out 0).trans rfl, (blk_cell BK219.out 1).trans rfl, (blk_cell BK219.out 2).trans rfl, (blk_cell BK219.out 3).trans rfl, (blk_cell BK219.out 4).trans rfl, (blk_cell BK219.out 5).trans rfl⟩ (fun hHeld => ?_); refine with_tabW locksteplaw28_CostMore.tab14 locksteplaw28_CostMore.bits14 (fun HT_ HW_ => ?_)
       generalize w45.drew = w46 at HO_11 BK218 BK219 BK235 HB hHeld ⊢
       refine take_ (i := 0) (N := some 85) (v := ?_) (a' := ?_) #[true, false, false, false, false, false, false, false, false, false, false, false, false] rfl rfl (take_ofW HT_.out HW_.out (by kernel_rfl)) (fun _ _ _ h => h) (Or.inl ⟨by rfl, ?_⟩) hHeld ?_ ?_
       rotate_left
       ·
        rintro w' ⟨s0, s1, s2, s3, s4, s5, s6, s7, s8, s9, s10, s11, s12, s13, s14, s15, s16, s17⟩
        go_simp
        with_reducible rfl
       rotate_left
       ·
        simp only [Act.put, List.setIfInBounds_toArray, List.set_cons_zero, List.set_cons_succ, i64_w, i32_w]
        rfl
       refine take_ (i := 2) (N := some 87) (v := ?_) (a' := ?_) #[true, false, true, false, false, false, false, false, false, false, false, false, false] rfl rfl (take_ofW HT_.out HW_.out (by kernel_rfl)) (fun _ _ _ h => h) (Or.inl ⟨by rfl, ?_⟩) hHeld ?_ ?_
       rotate_left
       ·
        rintro w' ⟨s0, s1, s2, s3, s4, s5, s6, s7, s8, s9, s10, s11, s12, s13, s14, s15, s16, s17⟩
        go_simp
        with_reducible rfl
       rotate_left
       ·
        simp only [Act.put, List.setIfInBounds_toArray, List.set_cons_zero, List.set_cons_succ, i64_w, i32_w]
        rfl
       refine one_ (i := 1) (N := some 86) #[true, true, true, false, false, false, false, false, false, false, false, false, false] rfl rfl (one_of HT_.out (by kernel_rfl)) (by decide) (fun K hK => ?_)
       refine goes_ Try.func8 (by kernel_rfl) rfl #[.agg #[.int .u64 ji24, .int .u64 ji25, .int .u64 ji26, .int .u64 ji27, .int .u64 ji28, .int .u64 ji29]] (by rfl) rfl rfl (by (try simp only [List.map_toArray, List.map_cons, List.map_nil]); first | done | (simp only [hji24, hji25, hji26, hji27, hji28, hji29]; rfl) | rfl | (simp only [List.length_drop, List.length_take]; rfl)) ?_
       with_reducible refine (cost_Bound.calls ji24 ji25 ji26 ji27 ji28 ji29 t236 _ A30.out).mono ?_
       rintro e w47 ⟨rfl, hb⟩
       refine ⟨_, rfl, ?_⟩
       have n0_ := Aside0.mk (Kd.R_below (by (with_reducible repeat (first | apply Kd.R_alloc | apply Kd.R_drewN | apply Kd.R_drew)); exact HO_11.out) hb)
       have n1_ := Aside0.mk (blk_below (g := gb218) (o := .cells #[.int .u64 a3_0, .int .u64 a3_1, .int .u64 a3_2, .int .u64 a3_3, .int .u64 a3_4, .int .u64 a3_5] 26 (0, 0)) (by (with_reducible repeat (first | refine blk_drewN ?_ _ | refine blk_drew ?_ | refine blk_alloc ?_ _)); exact BK218.out) hb)
       have n2_ := Aside0.mk (blk_below (g := gb219) (o := .cells #[.int .u64 a4_0, .int .u64 a4_1, .int .u64 a4_2, .int .u64 a4_3, .int .u64 a4_4, .int .u64 a4_5] 26 (0, 0)) (by (with_reducible repeat (first | refine blk_drewN ?_ _ | refine blk_drew ?_ | refine blk_alloc ?_ _)); exact BK219.out) hb)
       have n3_ := Aside0.mk (blk_below (g := gb235) (o := .cells #[.int .u64 ji24, .int .u64 ji25, .int .u64 ji26, .int .u64 ji27, .int .u64 ji28, .int .u64 ji29] 26 (0, 0)) (by (with_reducible repeat (first | refine blk_drewN ?_ _ | refine blk_drew ?_ | refine blk_alloc ?_ _)); exact BK235.out) hb)
       have n4_ := Aside0.mk (below_step (by repeat (first | (with_reducible first | exact HB.out | apply below_alloc | apply pw_below_drewN | apply below_drew1 | refine below_set ?_ GE218.out | refine below_set ?_ GE219.out | refine below_set ?_ GE235.out) | exact HB.out)) hb)
       clear HO_11
       clear BK218
       clear BK219
       clear BK235
       clear HB
       have HO_11 := n0_
       have BK218 := n1_
       have BK219 := n2_
       have BK235 := n3_
       have HB := n4_
       clear n0_ n1_ n2_ n3_ n4_
       (try clear hb)
       (try clear hb2)
       (try clear hk)
       (try clear hi)
       refine hK.out _ _ ⟨(blk_cell BK235.out 0).trans rfl, (blk_cell BK235.out 1).trans rfl, (blk_cell BK235.out 2).trans rfl, (blk_cell BK235.out 3).trans rfl, (blk_cell BK235.out 4).trans rfl, (blk_cell BK235.out 5).trans rfl, (blk_cell BK218.out 0).trans rfl, (blk_cell BK218.out 1).trans rfl, (blk_cell BK218.out 2).trans rfl, (blk_cell BK218.out 3).trans rfl, (blk_cell BK218.out 4).trans rfl, (blk_cell BK218.out 5).trans rfl, (blk_cell BK219.out 0).trans rfl, (blk_cell BK219.out 1).trans rfl, (blk_cell BK219.out 2).trans rfl, (blk_cell BK219.out 3).trans rfl, (blk_cell BK219.out 4).trans rfl, (blk_cell BK219.out 5).trans rfl⟩ (fun hHeld => ?_)
       clear hK K
       refine norm_ (a' := ?_) ?_ ?_
       rotate_left
       ·
        show Act.put _ (some 86) _ = _
        simp only [Act.put, List.setIfInBounds_toArray, List.set_cons_zero, List.set_cons_succ, i64_w, i32_w]
        rfl
       refine one_ (i := 3) (N := some 88) #[true, true, true, true, false, false, false, false, false, false, false, false, false] rfl rfl (one_of HT_.out (by kernel_rfl)) (by decide) (fun K hK => ?_)
       refine goes_ Try.func8 (by kernel_rfl) rfl #[.agg #[.int .u64 a3_0, .int .u64 a3_1, .int .u64 a3_2, .int .u64 a3_3, .int .u64 a3_4, .int .u64 a3_5]] (by rfl) rfl rfl (by (try simp only [List.map_toArray, List.map_cons, List.map_nil]); first | done | rfl | (simp only [List.length_drop, List.length_take]; rfl)) ?_
       with_reducible refine (cost_Bound.calls a3_0 a3_1 a3_2 a3_3 a3_4 a3_5 t237 _ A31.out).mono ?_
       rintro e w48 ⟨rfl, hb⟩
       refine ⟨_, rfl, ?_⟩
       have n0_ := Aside0.mk (Kd.R_below (by (with_reducible repeat (first | apply Kd.R_alloc | apply Kd.R_drewN | apply Kd.R_drew)); exact HO_11.out) hb)
       have n1_ := Aside0.mk (blk_below (g := gb218) (o := .cells #[.int .u64 a3_0, .int .u64 a3_1, .int .u64 a3_2, .int .u64 a3_3, .int .u64 a3_4, .int .u64 a3_5] 26 (0, 0)) (by (with_reducible repeat (first | refine blk_drewN ?_ _ | refine blk_drew ?_ | refine blk_alloc ?_ _)); exact BK218.out) hb)
       have n2_ := Aside0.mk (blk_below (g := gb219) (o := .cells #[.int .u64 a4_0, .int .u64 a4_1, .int .u64 a4_2, .int .u64 a4_3, .int .u64 a4_4, .int .u64 a4_5] 26 (0, 0)) (by (with_reducible repeat (first | refine blk_drewN ?_ _ | refine blk_drew ?_ | refine blk_alloc ?_ _)); exact BK219.out) hb)
       have n3_ := Aside0.mk (blk_below (g := gb235) (o := .cells #[.int .u64 ji24, .int .u64 ji25, .int .u64 ji26, .int .u64 ji27, .int .u64 ji28, .int .u64 ji29] 26 (0, 0)) (by (with_reducible repeat (first | refine blk_drewN ?_ _ | refine blk_drew ?_ | refine blk_alloc ?_ _)); exact BK235.out) hb)
       have n4_ := Aside0.mk (below_step (by repeat (first | (with_reducible first | exact HB.out | apply below_alloc | apply pw_below_drewN | apply below_drew1 | refine below_set ?_ GE218.out | refine below_set ?_ GE219.out | refine below_set ?_ GE235.out) | exact HB.out)) hb)
       clear HO_11
       clear BK218
       clear BK219
       clear BK235
       clear HB
       have HO_11 := n0_
       have BK218 := n1_
       have BK219 := n2_
       have BK235 := n3_
       have HB := n4_
       clear n0_ n1_ n2_ n3_ n4_
       (try clear hb)
       (try clear hb2)
       (try clear hk)
       (try clear hi)
       refine hK.out _ _ ⟨(blk_cell BK235.out 0).trans rfl, (blk_cell BK235.out 1).trans rfl, (blk_cell BK235.out 2).trans rfl, (blk_cell BK235.out 3).trans rfl, (blk_cell BK235.out 4).trans rfl, (blk_cell BK235.out 5).trans rfl, (blk_cell BK218.out 0).trans rfl, (blk_cell BK218.out 1).trans rfl, (blk_cell BK218.out 2).trans rfl, (blk_cell BK218.out 3).trans rfl, (blk_cell BK218.out 4).trans rfl, (blk_cell BK218.out 5).trans rfl, (blk_cell BK219.out 0).trans rfl, (blk_cell BK219.out 1).trans rfl, (blk_cell BK219.out 2).trans rfl, (blk_cell BK219.out 3).trans rfl, (blk_cell BK219.out 4).trans rfl, (blk_cell BK219.out 5).trans rfl⟩ (fun hHeld => ?_)
       clear hK K
       refine norm_ (a' := ?_) ?_ ?_
       rotate_left
       ·
        show Act.put _ (some 88) _ = _
        simp only [Act.put, List.setIfInBounds_toArray, List.set_cons_zero, List.set_cons_succ, i64_w, i32_w]
        rfl
       refine pure_ (i := 4) (N := some 89) (v := ?_) (a' := ?_) #[true, true, true, true, true, false, false, false, false, false, false, false, false] rfl rfl (any_of HT_.out (by kernel_rfl)) (fun _ _ _ h => h) (Or.inl ⟨by rfl, ?_⟩) ?_ ?_
       rotate_left
       ·
        intro w'
        go_simp
        with_reducible rfl
       rotate_left
       ·
        simp only [Act.put, List.setIfInBounds_toArray, List.set_cons_zero, List.set_cons_succ, i64_w, i32_w]
        rfl
       refine pure_ (i := 5) (N := some 90) (v := ?_) (a' := ?_) #[true, true, true, true, true, true, false, false, false, false, false, false, false] rfl rfl (any_of HT_.out (by kernel_rfl)) (fun _ _ _ h => h) (Or.inl ⟨by rfl, ?_⟩) ?_ ?_
       rotate_left
       ·
        intro w'
        go_simp
        with_reducible rfl
       rotate_left
       ·
        simp only [Act.put, List.setIfInBounds_toArray, List.set_cons_zero, List.set_cons_succ, i64_w, i32_w]
        rfl
       refine take_ (i := 6) (N := some 91) (v := ?_) (a' := ?_) #[true, true, true, true, true, true, true, false, false, false, false, false, false] rfl rfl (take_ofW HT_.out HW_.out (by kernel_rfl)) (fun _ _ _ h => h) (Or.inl ⟨by rfl, ?_⟩) hHeld ?_ ?_
       rotate_left
       ·
        rintro w' ⟨s0, s1, s2, s3, s4, s5, s6, s7, s8, s9, s10, s11, s12, s13, s14, s15, s16, s17⟩
        go_simp
        with_reducible rfl
       rotate_left
       ·
        simp only [Act.put, List.setIfInBounds_toArray, List.set_cons_zero, List.set_cons_succ, i64_w, i32_w]
        rfl
       refine take_ (i := 8) (N := some 93) (v := ?_) (a' := ?_) #[true, true, true, true, true, true, true, false, true, false, false, false, false] rfl rfl (take_ofW HT_.out HW_.out (by kernel_rfl)) (fun _ _ _ h => h) (Or.inl ⟨by rfl, ?_⟩) hHeld ?_ ?_
       rotate_left
       ·
        rintro w' ⟨s0, s1, s2, s3, s4, s5, s6, s7, s8, s9, s10, s11, s12, s13, s14, s15, s16, s17⟩
        go_simp
        with_reducible rfl
       rotate_left
       ·
        simp only [Act.put, List.setIfInBounds_toArray, List.set_cons_zero, List.set_cons_succ, i64_w, i32_w]
        rfl
       refine one_ (i := 7) (N := some 92) #[true, true, true, true, true, true, true, true, true, false, false, false, false] rfl rfl (one_of HT_.out (by kernel_rfl)) (by decide) (fun K hK => ?_)
       refine goes_ Try.func8 (by kernel_rfl) rfl #[.agg #[.int .u64 ji24, .int .u64 ji25, .int .u64 ji26, .int .u64 ji27, .int .u64 ji28, .int .u64 ji29]] (by rfl) rfl rfl (by (try simp only [List.map_toArray, List.map_cons, List.map_nil]); first | done | (simp only [hji24, hji25, hji26, hji27, hji28, hji29]; rfl) | rfl | (simp only [List.length_drop, List.length_take]; rfl)) ?_
       with_reducible refine (cost_Bound.calls ji24 ji25 ji26 ji27 ji28 ji29 t238 _ A33.out).mono ?_
       rintro e w49 ⟨rfl, hb⟩
       refine ⟨_, rfl, ?_⟩
       have n0_ := Aside0.mk (Kd.R_below (by (with_reducible repeat (first | apply Kd.R_alloc | apply Kd.R_drewN | apply Kd.R_drew)); exact HO_11.out) hb)
       have n1_ := Aside0.mk (blk_below (g := gb218) (o := .cells #[.int .u64 a3_0, .int .u64 a3_1, .int .u64 a3_2, .int .u64 a3_3, .int .u64 a3_4, .int .u64 a3_5] 26 (0, 0)) (by (with_reducible repeat (first | refine blk_drewN ?_ _ | refine blk_drew ?_ | refine blk_alloc ?_ _)); exact BK218.out) hb)
       have n2_ := Aside0.mk (blk_below (g := gb219) (o := .cells #[.int .u64 a4_0, .int .u64 a4_1, .int .u64 a4_2, .int .u64 a4_3, .int .u64 a4_4, .int .u64 a4_5] 26 (0, 0)) (by (with_reducible repeat (first | refine blk_drewN ?_ _ | refine blk_drew ?_ | refine blk_alloc ?_ _)); exact BK219.out) hb)
       have n3_ := Aside0.mk (blk_below (g := gb235) (o := .cells #[.int .u64 ji24, .int .u64 ji25, .int .u64 ji26, .int .u64 ji27, .int .u64 ji28, .int .u64 ji29] 26 (0, 0)) (by (with_reducible repeat (first | refine blk_drewN ?_ _ | refine blk_drew ?_ | refine blk_alloc ?_ _)); exact BK235.out) hb)
       have n4_ := Aside0.mk (below_step (by repeat (first | (with_reducible first | exact HB.out | apply below_alloc | apply pw_below_drewN | apply below_drew1 | refine below_set ?_ GE218.out | refine below_set ?_ GE219.out | refine below_set ?_ GE235.out) | exact HB.out)) hb)
       clear HO_11
       clear BK218
       clear BK219
       clear BK235
       clear HB
       have HO_11 := n0_
       have BK218 := n1_
       have BK219 := n2_
       have BK235 := n3_
       have HB := n4_
       clear n0_ n1_ n2_ n3_ n4_
       (try clear hb)
       (try clear hb2)
       (try clear hk)
       (try clear hi)
       refine hK.out _ _ ⟨(blk_cell BK235.out 0).trans rfl, (blk_cell BK235.out 1).trans rfl, (blk_cell BK235.out 2).trans rfl, (blk_cell BK235.out 3).trans rfl, (blk_cell BK235.out 4).trans rfl, (blk_cell BK235.out 5).trans rfl, (blk_cell BK218.out 0).trans rfl, (blk_cell BK218.out 1).trans rfl, (blk_cell BK218.out 2).trans rfl, (blk_cell BK218.out 3).trans rfl, (blk_cell BK218.out 4).trans rfl, (blk_cell BK218.out 5).trans rfl, (blk_cell BK219.out 0).trans rfl, (blk_cell BK219.out 1).trans rfl, (blk_cell BK219.out 2).trans rfl, (blk_cell BK219.out 3).trans rfl, (blk_cell BK219.out 4).trans rfl, (blk_cell BK219.out 5).trans rfl⟩ (fun hHeld => ?_)
       clear hK K
       refine norm_ (a' := ?_) ?_ ?_
       rotate_left
       ·
        show Act.put _ (some 92) _ = _
        simp only [Act.put, List.setIfInBounds_toArray, List.set_cons_zero, List.set_cons_succ, i64_w, i32_w]
        rfl
       refine one_ (i := 9) (N := some 94) #[true, true, true, true, true, true, true, true, true, true, false, false, false] rfl rfl (one_of HT_.out (by kernel_rfl)) (by decide) (fun K hK => ?_)
       refine goes_ Try.func8 (by kernel_rfl) rfl #[.agg #[.int .u64 a4_0, .int .u64 a4_1, .int .u64 a4_2, .int .u64 a4_3, .int .u64 a4_4, .int .u64 a4_5]] (by rfl) rfl rfl (by (try simp only [List.map_toArray, List.map_cons, List.map_nil]); first | done | rfl | (simp only [List.length_drop, List.length_take]; rfl)) ?_
       with_reducible refine (cost_Bound.calls a4_0 a4_1 a4_2 a4_3 a4_4 a4_5 t239 _ A34.out).mono ?_
       rintro e w50 ⟨rfl, hb⟩
       refine ⟨_, rfl, ?_⟩
       have n0_ := Aside0.mk (Kd.R_below (by (with_reducible repeat (first | apply Kd.R_alloc | apply Kd.R_drewN | apply Kd.R_drew)); exact HO_11.out) hb)
       have n1_ := Aside0.mk (blk_below (g := gb218) (o := .cells #[.int .u64 a3_0, .int .u64 a3_1, .int .u64 a3_2, .int .u64 a3_3, .int .u64 a3_4, .int .u64 a3_5] 26 (0, 0)) (by (with_reducible repeat (first | refine blk_drewN ?_ _ | refine blk_drew ?_ | refine blk_alloc ?_ _)); exact BK218.out) hb)
       have n2_ := Aside0.mk (blk_below (g := gb219) (o := .cells #[.int .u64 a4_0, .int .u64 a4_1, .int .u64 a4_2, .int .u64 a4_3, .int .u64 a4_4, .int .u64 a4_5] 26 (0, 0)) (by (with_reducible repeat (first | refine blk_drewN ?_ _ | refine blk_drew ?_ | refine blk_alloc ?_ _)); exact BK219.out) hb)
       have n3_ := Aside0.mk (blk_below (g := gb235) (o := .cells #[.int .u64 ji24, .int .u64 ji25, .int .u64 ji26, .int .u64 ji27, .int .u64 ji28, .int .u64 ji29] 26 (0, 0)) (by (with_reducible repeat (first | refine blk_drewN ?_ _ | refine blk_drew ?_ | refine blk_alloc ?_ _)); exact BK235.out) hb)
       have n4_ := Aside0.mk (below_step (by repeat (first | (with_reducible first | exact HB.out | apply below_alloc | apply pw_below_drewN | apply below_drew1 | refine below_set ?_ GE218.out | refine below_set ?_ GE219.out | refine below_set ?_ GE235.out) | exact HB.out)) hb)
       clear HO_11
       clear BK218
       clear BK219
       clear BK235
       clear HB
       have HO_11 := n0_
       have BK218 := n1_
       have BK219 := n2_
       have BK235 := n3_
       have HB := n4_
       clear n0_ n1_ n2_ n3_ n4_
       (try clear hb)
       (try clear hb2)
       (try clear hk)
       (try clear hi)
       refine hK.out _ _ ⟨(blk_cell BK235.out 0).trans rfl, (blk_cell BK235.out 1).trans rfl, (blk_cell BK235.out 2).trans rfl, (blk_cell BK235.out 3).trans rfl, (blk_cell BK235.out 4).trans rfl, (blk_cell BK235.out 5).trans rfl, (blk_cell BK218.out 0).trans rfl, (blk_cell BK218.out 1).trans rfl, (blk_cell BK218.out 2).trans rfl, (blk_cell BK218.out 3).trans rfl, (blk_cell BK218.out 4).trans rfl, (blk_cell BK218.out 5).trans rfl, (blk_cell BK219.out 0).trans rfl, (blk_cell BK219.out 1).trans rfl, (blk_cell BK219.out 2).trans rfl, (blk_cell BK219.out 3).trans rfl, (blk_cell BK219.out 4).trans rfl, (blk_cell BK219.out 5).trans rfl⟩ (fun hHeld => ?_)
       clear hK K
       refine norm_ (a' := ?_) ?_ ?_
       rotate_left
       ·
        show Act.put _ (some 94) _ = _
        simp only [Act.put, List.setIfInBounds_toArray, List.set_cons_zero, List.set_cons_succ, i64_w, i32_w]
        rfl
       refine pure_ (i := 10) (N := some 95) (v := ?_) (a' := ?_) #[true, true, true, true, true, true, true, true, true, true, true, false, false] rfl rfl (any_of HT_.out (by kernel_rfl)) (fun _ _ _ h => h) (Or.inl ⟨by rfl, ?_⟩) ?_ ?_
       rotate_left
       ·
        intro w'
        go_simp
        with_reducible rfl
       rotate_left
       ·
        simp only [Act.put, List.setIfInBounds_toArray, List.set_cons_zero, List.set_cons_succ, i64_w, i32_w]
        rfl
       refine pure_ (i := 11) (N := some 96) (v := ?_) (a' := ?_) #[true, true, true, true, true, true, true, true, true, true, true, true, false] rfl rfl (any_of HT_.out (by kernel_rfl)) (fun _ _ _ h => h) (Or.inl ⟨by rfl, ?_⟩) ?_ ?_
       rotate_left
       ·
        intro w'
        go_simp
        with_reducible rfl
       rotate_left
       ·
        simp only [Act.put, List.setIfInBounds_toArray, List.set_cons_zero, List.set_cons_succ, i64_w, i32_w]
        rfl
       refine pure_ (i := 12) (N := some 10) (v := ?_) (a' := ?_) #[true, true, true, true, true, true, true, true, true, true, true, true, true] rfl rfl (any_of HT_.out (by kernel_rfl)) (fun _ _ _ h => h) (Or.inl ⟨by rfl, ?_⟩) ?_ ?_
       rotate_left
       ·
        intro w'
        go_simp
        with_reducible rfl
       rotate_left
       ·
        simp only [Act.put, List.setIfInBounds_toArray, List.set_cons_zero, List.set_cons_succ, i64_w, i32_w]
        rfl
       refine done_ (done_of HT_.out (by kernel_rfl)) ?_
       try go_wp2
       go_ret
       exact ⟨by first | rfl | (simp [errW_none, errW_some] <;> rfl) | (simp only [← hji24, ← hji25, ← hji26, ← hji27, ← hji28, ← hji29]; first | rfl | (simp [errW_none, errW_some] <;> rfl)) | (simp [*, errW_none, errW_some] <;> rfl), by repeat (first | (with_reducible first | exact HB.out | apply below_alloc | apply pw_below_drewN | apply below_drew1 | refine below_set ?_ GE218.out | refine below_set ?_ GE219.out | refine below_set ?_ GE235.out) | exact HB.out)⟩
      ·
       rw [if_neg c32] at H
       have c32b0 : decide (t237 ≤ t236) = false := decide_eq_false c32
       clear c32
       exact absurd (Option.some.inj H) (by rw [HR.out]; simp)
 ·
  replace c7 := Bool.eq_false_iff.mpr c7
  subst c7
  have H1 : (some false) = some r := by rw [if_neg (show ¬ (false = true) by decide)] at H; exact H
  clear H
  have H := H1
  clear H1
  exact absurd (Option.some.inj H) (by rw [HR.out]; simp)
end Go.Proofs.Ytkkocmmilmbgpaa.X
end
section
namespace Go.Proofs.Ytkkocmmilmbgpaa.X
set_option linter.unusedVariables false
set_option linter.unusedSimpArgs false
open Go.RowKit Go.Proofs.YtkkocmmilmbgpaaW.PrintWords Go.Proofs.YtkkocmmilmbgpaaW.PrintLast Go.Proofs.YtkkocmmilmbgpaaW.PrintMore
namespace Num
theorem maskN (a : Nat) (ha : a < 18446744073709551616) : bits .and .u64 (a : Int) 4294967295 = ((a % 4294967296 : Nat) : Int) := by
  have h := bits_and_u64_nat a 4294967295 ha (by omega)
  have e : a &&& 4294967295 = a % 4294967296 := Nat.and_two_pow_sub_one_eq_mod a 32
  rw [e] at h
  exact h
theorem divN (a : Nat) : (a : Int) / 4294967296 = ((a / 4294967296 : Nat) : Int) := by omega
theorem mulN (a b : Nat) : (a : Int) * (b : Int) = ((a * b : Nat) : Int) := (Int.natCast_mul a b).symm
theorem addN (a b : Nat) : (a : Int) + (b : Int) = ((a + b : Nat) : Int) := (Int.natCast_add a b).symm
theorem wrapN (a : Nat) (ha : a < 18446744073709551616) : IntKind.u64.wrap (a : Int) = (a : Int) := by rw [IntKind.wrap_u64]; omega
theorem wrapM (a : Nat) : IntKind.u64.wrap (a : Int) = ((a % 18446744073709551616 : Nat) : Int) := by rw [IntKind.wrap_u64]; omega
end Num
open Num
theorem bits_Mul64.eq (x y : Nat) (hx : x < 18446744073709551616) (hy : y < 18446744073709551616) :
    bits_Mul64.f x y = some (((x * y / 18446744073709551616 : Nat) : Int), ((x * y % 18446744073709551616 : Nat) : Int)) := by
  obtain ⟨bd, bt, bw, hhi⟩ := Lib.mul64_hi x y hx hy
  have ba := Lib.half_mul_le (a := x / 4294967296) (b := y / 4294967296) (by omega) (by omega)
  have bb := Lib.half_mul_le (a := x / 4294967296) (b := y % 4294967296) (by omega) (by omega)
  have bc := Lib.half_mul_le (a := x % 4294967296) (b := y / 4294967296) (by omega) (by omega)
  have ba' : x / 4294967296 * (y / 4294967296) < 18446744073709551616 := by omega
  have bb' : x / 4294967296 * (y % 4294967296) < 18446744073709551616 := by omega
  have bc' : x % 4294967296 * (y / 4294967296) < 18446744073709551616 := by omega
  have bh1 : x / 4294967296 * (y / 4294967296) + (x / 4294967296 * (y % 4294967296) + x % 4294967296 * (y % 4294967296) / 4294967296) / 4294967296 < 18446744073709551616 := by omega
  have bh : x / 4294967296 * (y / 4294967296) + (x / 4294967296 * (y % 4294967296) + x % 4294967296 * (y % 4294967296) / 4294967296) / 4294967296 + ((x / 4294967296 * (y % 4294967296) + x % 4294967296 * (y % 4294967296) / 4294967296) % 4294967296 + x % 4294967296 * (y / 4294967296)) / 4294967296 < 18446744073709551616 := by omega
  unfold bits_Mul64.f
  simp only [maskN x hx, maskN y hy, divN, mulN, addN, wrapN _ bd, wrapN _ bb', wrapN _ bt, maskN _ bt, wrapN _ bc', wrapN _ bw, wrapN _ ba', wrapN _ bh1, wrapN _ bh, wrapM (x * y)]
  rw [hhi]
end Go.Proofs.Ytkkocmmilmbgpaa.X
end
section
namespace Go.Proofs.Ytkkocmmilmbgpaa.X
open Go.RowKit Go.Proofs.YtkkocmmilmbgpaaW.PrintWords
set_option linter.unusedVariables false
set_option linter.unusedSimpArgs false
namespace Cost
def U (x : Int) : Prop := 0 ≤ x ∧ x ≤ 18446744073709551615
theorem times_eq (a b : Nat) (ha : a ≤ (18446744073709551615 : Nat)) (hb : b ≤ (18446744073709551615 : Nat)) : cost_times.f (a : Int) (b : Int) = some ((min (a * b) (18446744073709551615 : Nat) : Nat) : Int) := by
  unfold cost_times.f
  rw [bits_Mul64.eq a b (by omega) (by omega)]
  generalize a * b = n
  simp only [Option.bind_some]
  by_cases h : n / 18446744073709551616 = 0
  · rw [h, if_neg (by simp)]
    congr 1
    have h1 : n < 18446744073709551616 := by omega
    rw [Nat.mod_eq_of_lt h1, Nat.min_eq_left (by omega)]
  · rw [if_pos (by omega), Nat.min_eq_right (by omega)]
    rfl
theorem plus_eq (a b : Nat) (ha : a ≤ (18446744073709551615 : Nat)) (hb : b ≤ (18446744073709551615 : Nat)) : cost_plus.f (a : Int) (b : Int) = some ((min (a + b) (18446744073709551615 : Nat) : Nat) : Int) := by
  unfold cost_plus.f bits_Add64.f
  rw [if_pos (by omega)]
  simp only [Option.bind_some]
  by_cases h : a + b ≤ (18446744073709551615 : Nat)
  · rw [if_neg (by omega), Nat.min_eq_left h]
    congr 1
    omega
  · rw [if_pos (by omega), Nat.min_eq_right (by omega)]
    rfl
def pw (n : Nat) : Nat → Nat → Nat
  | 0, c => c
  | t + 1, c => pw n t (min (c * n) (18446744073709551615 : Nat))
theorem pw_le (n : Nat) : ∀ t c, c ≤ (18446744073709551615 : Nat) → pw n t c ≤ (18446744073709551615 : Nat)
  | 0, c, h => h
  | t + 1, c, h => pw_le n t _ (Nat.min_le_right _ _)
theorem pw_fix (n : Nat) : ∀ t c, min (c * n) (18446744073709551615 : Nat) = c → pw n t c = c
  | 0, c, h => rfl
  | t + 1, c, h => by rw [pw, h]; exact pw_fix n t c h
theorem pw_mono {n n' : Nat} (hn : n ≤ n') : ∀ t {c c' : Nat}, c ≤ c' → pw n t c ≤ pw n' t c'
  | 0, _, _, h => h
  | t + 1, c, c', h => by
    have h1 := Nat.mul_le_mul h hn
    exact pw_mono hn t (by omega)
theorem powered_zero (k : Nat) (t : Int) (h : t ≤ 0) (c n : Int) : cost_powered.l0 (k + 1) c n t = some c := by
  rw [cost_powered.l0, if_neg (by omega)]
theorem powered_eq (n : Nat) (hn : n ≤ (18446744073709551615 : Nat)) : ∀ (j c : Nat) (t : Int) (k : Nat), c ≤ (18446744073709551615 : Nat) → (c = 0 ∨ (18446744073709551615 : Nat) ≤ c * 2 ^ j) → t < 9223372036854775808 → j + 3 ≤ k → cost_powered.l0 k c n t = some ((pw n t.toNat c : Nat) : Int)
  | j, c, t, 0, _, _, _, hk => by omega
  | j, c, t, k + 1, hc, hj, ht, hk => by
    by_cases h0 : t ≤ 0
    · rw [powered_zero k t h0, show t.toNat = 0 by omega]; rfl
    · rw [cost_powered.l0, if_pos (by omega), times_eq c n hc hn]
      simp only [Option.bind_some]
      have hw : wrap64 (t - 1) = t - 1 := by unfold wrap64; omega
      obtain ⟨u, hu⟩ : ∃ u : Nat, t.toNat = u + 1 := ⟨t.toNat - 1, by omega⟩
      by_cases hf : min (c * n) (18446744073709551615 : Nat) = c
      · rw [if_pos (by omega), pw_fix n _ c hf]
      · rw [if_neg (by omega), hw, hu, pw]
        have hu' : (t - 1).toNat = u := by omega
        rw [← hu']
        have hc0 : c ≠ 0 := fun h => hf (by subst h; simp)
        have hn1 : n ≠ 1 := fun h => hf (by subst h; rw [Nat.mul_one]; exact Nat.min_eq_left hc)
        have hj' : (18446744073709551615 : Nat) ≤ c * 2 ^ j := by omega
        by_cases hn0 : n = 0
        · subst hn0
          obtain ⟨k2, rfl⟩ : ∃ k2, k = k2 + 2 := ⟨k - 2, by omega⟩
          have hz : min (c * 0) (18446744073709551615 : Nat) = 0 := by simp
          rw [hz, pw_fix 0 _ 0 (by simp)]
          rw [cost_powered.l0]
          by_cases h1 : t - 1 > 0
          · rw [if_pos h1, times_eq 0 0 (by omega) (by omega)]
            simp
          · rw [if_neg h1]
        · cases j with
          | zero =>
            refine absurd ?_ hf
            have : c = (18446744073709551615 : Nat) := by rw [Nat.pow_zero, Nat.mul_one] at hj'; omega
            subst this
            have := Nat.mul_le_mul_left (18446744073709551615 : Nat) (show 1 ≤ n by omega)
            omega
          | succ j =>
            refine powered_eq n hn j _ (t - 1) k (Nat.min_le_right _ _) (.inr ?_) (by omega) (by omega)
            have h2 : c * 2 ≤ c * n := Nat.mul_le_mul_left c (by omega)
            have h3 : c * 2 ^ (j + 1) = c * 2 * 2 ^ j := by rw [Nat.pow_succ, Nat.mul_assoc, Nat.mul_comm 2]
            by_cases hm : c * n ≤ (18446744073709551615 : Nat)
            · rw [Nat.min_eq_left hm]
              exact Nat.le_trans (h3 ▸ hj') (Nat.mul_le_mul_right _ h2)
            · rw [Nat.min_eq_right (by omega)]
              exact Nat.le_mul_of_pos_right (18446744073709551615 : Nat) (Nat.pow_pos (by decide))
theorem powered_f (c n : Int) (hc : U c) (hn : U n) (t : Int) (ht : t < 9223372036854775808) (k : Nat) (hk : 67 ≤ k) : cost_powered.f k c n t = some ((pw n.toNat t.toNat c.toNat : Nat) : Int) := by
  obtain ⟨c, rfl⟩ := Int.eq_ofNat_of_zero_le hc.1
  obtain ⟨n, rfl⟩ := Int.eq_ofNat_of_zero_le hn.1
  refine powered_eq n (by have := hn.2; omega) 64 c t k (by have := hc.2; omega) ?_ ht (by omega)
  by_cases h : c = 0
  · exact .inl h
  · exact .inr (by rw [show (2 : Nat) ^ 64 = 18446744073709551616 by decide]; have := Nat.mul_le_mul_right 18446744073709551616 (show 1 ≤ c by omega); omega)
def tv (lims : List Int) : Nat → List Int → Nat → Nat
  | _, [], c => c
  | j, e :: es, c => tv lims (j + 1) es (pw (rd lims (j : Int)).toNat e.toNat c)
theorem tv_mono {a b : List Int} (h : ∀ j : Nat, (rd a (j : Int)).toNat ≤ (rd b (j : Int)).toNat) : ∀ es j {c c' : Nat}, c ≤ c' → tv a j es c ≤ tv b j es c'
  | [], _, _, _, hc => hc
  | e :: es, j, _, _, hc => tv_mono h es (j + 1) (pw_mono (h j) _ hc)
def vv (lims : List Int) : List S39 → Nat → Nat
  | [], acc => acc
  | x :: xs, acc => vv lims xs (min (acc + tv lims 0 x.f1 x.f0.toNat) (18446744073709551615 : Nat))
theorem vv_mono {a b : List Int} (h : ∀ j : Nat, (rd a (j : Int)).toNat ≤ (rd b (j : Int)).toNat) : ∀ xs {c c' : Nat}, c ≤ c' → vv a xs c ≤ vv b xs c'
  | [], _, _, hc => hc
  | x :: xs, c, c', hc => by
    have h1 := tv_mono h x.f1 0 (Nat.le_refl x.f0.toNat)
    exact vv_mono h xs (by omega)
def okT (x : S39) : Prop := U x.f0 ∧ x.f1.length * 8 ≤ 140737488351232 ∧ ∀ e ∈ x.f1, e < 9223372036854775808
def rounds : List S39 → Nat
  | [] => 68
  | x :: xs => x.f1.length + 2 + rounds xs
theorem rounds_ge : ∀ xs, 68 ≤ rounds xs
  | [] => Nat.le_refl _
  | x :: xs => by have := rounds_ge xs; rw [rounds]; omega
theorem rd_U {l : List Int} (h : ∀ x ∈ l, U x) (j : Nat) : U (rd l (j : Int)) := by
  unfold rd
  rw [show ((j : Int)).toNat = j by omega, List.getD_eq_getElem?_getD]
  cases hx : l[j]? with
  | none => exact ⟨by simp, by simp⟩
  | some x => exact h x (List.mem_of_getElem? hx)
theorem inner_eq (lims : List Int) (hl : ∀ x ∈ lims, U x) (acc : Nat) (hacc : acc ≤ (18446744073709551615 : Nat)) (L : List S39) (n i : Int) (ts : List Int) (hts : ts.length < 9223372036854775807) (he : ∀ e ∈ ts, e < 9223372036854775808) :
    ∀ (es : List Int) (j c k : Nat), c ≤ (18446744073709551615 : Nat) → ts.drop j = es → 67 + es.length + 1 ≤ k →
      cost_Value.l1 k lims acc c L n i ts ts.length j = cost_Value.l0 (k - es.length - 1) lims ((min (acc + tv lims j es c) (18446744073709551615 : Nat) : Nat) : Int) L n (wrap64 (i + 1)) := by
  intro es
  induction es with
  | nil =>
    intro j c k hc hd hk
    obtain ⟨k, rfl⟩ : ∃ k', k = k' + 1 := ⟨k - 1, by omega⟩
    have hj : ts.length ≤ j := List.drop_eq_nil_iff.1 hd
    rw [cost_Value.l1, if_neg (by omega), plus_eq acc c hacc hc]
    simp only [Option.bind_some, tv, List.length_nil, Nat.sub_zero, Nat.add_sub_cancel]
  | cons e es ih =>
    intro j c k hc hd hk
    obtain ⟨k, rfl⟩ : ∃ k', k = k' + 1 := ⟨k - 1, by omega⟩
    have hj : j < ts.length := by
      rcases Nat.lt_or_ge j ts.length with h | h
      · exact h
      · rw [List.drop_eq_nil_of_le h] at hd; cases hd
    have e1 : (j : Int) < (ts.length : Int) := by omega
    have e2 : (0 : Int) ≤ (j : Int) := by omega
    have hw : wrap64 ((j : Int) + 1) = ((j + 1 : Nat) : Int) := by unfold wrap64; omega
    have hcU : U (c : Int) := ⟨by omega, by omega⟩
    simp only [List.length_cons] at hk
    have k67 : 67 ≤ k := by omega
    have kes : 67 + es.length + 1 ≤ k := by omega
    have h1 := List.drop_eq_getElem_cons hj
    rw [hd] at h1
    injection h1 with h1 h2
    have hr : rd ts (j : Int) = e := by unfold rd; rw [h1]; simp [List.getD_eq_getElem?_getD, List.getElem?_eq_getElem hj]
    have hr0 : (if (j : Int) < (lims.length : Int) then rd lims (j : Int) else 0) = rd lims (j : Int) := by
      split
      · rfl
      · unfold rd; rw [List.getD_eq_getElem?_getD, List.getElem?_eq_none (by omega)]; rfl
    have hU := rd_U hl j
    have hp := powered_f (c : Int) (rd lims (j : Int)) hcU hU e (he e (by rw [h1]; exact List.getElem_mem hj)) k k67
    rw [Int.toNat_natCast] at hp
    have hn := ih (j + 1) (pw (rd lims (j : Int)).toNat e.toNat c) k (pw_le _ _ _ hc) h2.symm kes
    rw [cost_Value.l1, if_pos e1, if_pos e2, if_pos e1, hr, hw]
    have hg : ∀ x : Int, x = rd lims (j : Int) → ((cost_powered.f k c x e).bind fun t => cost_Value.l1 k lims acc t L n i ts ts.length ((j + 1 : Nat) : Int)) =
        cost_Value.l0 (k + 1 - (e :: es).length - 1) lims ((min (acc + tv lims j (e :: es) c) (18446744073709551615 : Nat) : Nat) : Int) L n (wrap64 (i + 1)) := by
      rintro x rfl
      rw [hp, Option.bind_some, hn, tv]
      rw [show k + 1 - (e :: es).length - 1 = k - es.length - 1 by rw [List.length_cons]; clear hn hp hU; omega]
    split
    · exact hg _ rfl
    · rename_i hx
      rw [if_neg hx] at hr0
      exact hg _ hr0
theorem outer_eq (lims : List Int) (hl : ∀ x ∈ lims, U x) (L : List S39) (hL : L.length < 9223372036854775807) (hok : ∀ x ∈ L, okT x) :
    ∀ (xs : List S39) (i acc k : Nat), acc ≤ (18446744073709551615 : Nat) → L.drop i = xs → rounds xs ≤ k → cost_Value.l0 k lims acc L L.length i = some ((vv lims xs acc : Nat) : Int) := by
  intro xs
  induction xs with
  | nil =>
    intro i acc k ha hd hk
    have hk := Nat.le_trans (rounds_ge _) hk
    obtain ⟨k, rfl⟩ : ∃ k', k = k' + 1 := ⟨k - 1, by omega⟩
    have hj : L.length ≤ i := List.drop_eq_nil_iff.1 hd
    rw [cost_Value.l0, if_neg (by omega)]; rfl
  | cons x xs ih =>
    intro i acc k ha hd hk
    have hk0 := Nat.le_trans (rounds_ge _) hk
    obtain ⟨k, rfl⟩ : ∃ k', k = k' + 1 := ⟨k - 1, by omega⟩
    have hj : i < L.length := by
      rcases Nat.lt_or_ge i L.length with h | h
      · exact h
      · rw [List.drop_eq_nil_of_le h] at hd; cases hd
    have h1 := List.drop_eq_getElem_cons hj
    rw [hd] at h1
    injection h1 with h1 h2
    have hr : rd_T39 L (i : Int) = x := by unfold rd_T39; rw [h1]; simp [List.getD_eq_getElem?_getD, List.getElem?_eq_getElem hj]
    have hx : okT x := hok x (by rw [h1]; exact List.getElem_mem hj)
    have hge := rounds_ge xs
    rw [rounds] at hk
    have hw : wrap64 ((i : Int) + 1) = ((i + 1 : Nat) : Int) := by unfold wrap64; omega
    rw [cost_Value.l0, if_pos (by omega), if_pos (by omega), if_pos (by omega), hr]
    have hf : x.f0 = ((x.f0.toNat : Nat) : Int) := by have := hx.1.1; omega
    have hi := inner_eq lims hl acc ha L L.length i x.f1 (by have := hx.2.1; omega) hx.2.2 x.f1 0 x.f0.toNat k (by have := hx.1.2; omega) rfl (by omega)
    rw [← hf] at hi
    rw [show ((0 : Nat) : Int) = 0 from rfl] at hi
    rw [hi, hw, vv]
    exact ih (i + 1) _ _ (Nat.min_le_right _ _) h2.symm (by omega)
theorem value_eq (lims : List Int) (hl : ∀ x ∈ lims, U x) (L : List S39) (hL : L.length < 9223372036854775807) (hok : ∀ x ∈ L, okT x) (k : Nat) (hk : rounds L ≤ k) :
    cost_Value.f k L lims = some ((vv lims L 0 : Nat) : Int) := outer_eq lims hl L hL hok L 0 0 k (by decide) rfl hk
def bd (a b c d e f : Nat) : Nat :=
  min (min (min (d + 1) (18446744073709551615 : Nat) * min (min (min (b * min (e + 1) (18446744073709551615 : Nat)) (18446744073709551615 : Nat) * min (c + 1) (18446744073709551615 : Nat)) (18446744073709551615 : Nat) + min (4 * a) (18446744073709551615 : Nat)) (18446744073709551615 : Nat)) (18446744073709551615 : Nat) + min (f * min (a + 1) (18446744073709551615 : Nat)) (18446744073709551615 : Nat)) (18446744073709551615 : Nat)
theorem bound_eq (a b c d e f : Nat) (ha : a ≤ (18446744073709551615 : Nat)) (hb : b ≤ (18446744073709551615 : Nat)) (hc : c ≤ (18446744073709551615 : Nat)) (hd : d ≤ (18446744073709551615 : Nat)) (he : e ≤ (18446744073709551615 : Nat)) (hf : f ≤ (18446744073709551615 : Nat)) : cost_Bound.f a b c d e f = some ((bd a b c d e f : Nat) : Int) := by
  have h1 : ∀ x : Nat, x ≤ (18446744073709551615 : Nat) → cost_plus.f (x : Int) 1 = some ((min (x + 1) (18446744073709551615 : Nat) : Nat) : Int) := fun x hx => plus_eq x 1 hx (by decide)
  have h4 : cost_times.f 4 (a : Int) = some ((min (4 * a) (18446744073709551615 : Nat) : Nat) : Int) := times_eq 4 a (by decide) ha
  unfold cost_Bound.f
  rw [h1 e he, Option.bind_some, times_eq b _ hb (Nat.min_le_right _ _), Option.bind_some, h1 c hc, Option.bind_some, times_eq _ _ (Nat.min_le_right _ _) (Nat.min_le_right _ _), Option.bind_some, h4, Option.bind_some,
    plus_eq _ _ (Nat.min_le_right _ _) (Nat.min_le_right _ _), Option.bind_some, h1 d hd, Option.bind_some, times_eq _ _ (Nat.min_le_right _ _) (Nat.min_le_right _ _), Option.bind_some, h1 a ha, Option.bind_some,
    times_eq f _ hf (Nat.min_le_right _ _), Option.bind_some, plus_eq _ _ (Nat.min_le_right _ _) (Nat.min_le_right _ _), Option.bind_some]
  rfl
theorem sat_mono {x y : Nat} (h : x ≤ y) : min x (18446744073709551615 : Nat) ≤ min y (18446744073709551615 : Nat) := by omega
theorem bd_mono {a b c d e f a' b' c' d' e' f' : Nat} (ha : a ≤ a') (hb : b ≤ b') (hc : c ≤ c') (hd : d ≤ d') (he : e ≤ e') (hf : f ≤ f') : bd a b c d e f ≤ bd a' b' c' d' e' f' := by
  unfold bd
  refine sat_mono (Nat.add_le_add (sat_mono (Nat.mul_le_mul (sat_mono (by omega)) (sat_mono (Nat.add_le_add (sat_mono (Nat.mul_le_mul (sat_mono (Nat.mul_le_mul hb (sat_mono (by omega)))) (sat_mono (by omega)))) (sat_mono (by omega)))))) (sat_mono (Nat.mul_le_mul hf (sat_mono (by omega)))))
structure Load where
  (f0 f1 f2 f3 f4 f5 : Int)
def okL (a : Load) : Prop := U a.f0 ∧ U a.f1 ∧ U a.f2 ∧ U a.f3 ∧ U a.f4 ∧ U a.f5
end Cost
end Go.Proofs.Ytkkocmmilmbgpaa.X
end
section
namespace Go.Proofs.Ytkkocmmilmbgpaa.X
open Go.RowKit Go.Proofs.YtkkocmmilmbgpaaW.PrintWords
set_option linter.unusedVariables false
set_option linter.unusedSimpArgs false
namespace Cost
theorem mx_nat (a b : Nat) : mx (a : Int) (b : Int) = ((max a b : Nat) : Int) := by unfold mx; split <;> omega
set_option maxRecDepth 100000 in
theorem lives0 : locksteplaw28_lives.f 100 = some true := by decide +kernel
theorem lives (d : Nat) : locksteplaw28_lives.f (100 + d) = some true := by
  induction d with
  | zero => exact lives0
  | succ d ih => exact locksteplaw28_lives.mono _ _ ih
theorem rd_append {x : List Int} {v : Int} (j : Nat) : rd (x ++ [v]) (j : Int) = if j < x.length then rd x (j : Int) else if j = x.length then v else 0 := by
  unfold rd
  rw [Int.toNat_natCast, List.getD_eq_getElem?_getD, List.getD_eq_getElem?_getD]
  split
  · rename_i h; rw [List.getElem?_append_left h]
  · rename_i h
    rw [List.getElem?_append_right (by omega)]
    split
    · rename_i h2; subst h2; simp
    · rw [List.getElem?_eq_none (by simp; omega)]; rfl
theorem more_end (L : List S39) (hL : L.length < 9223372036854775807) (hok : ∀ x ∈ L, okT x) (lims more x : List Int) (hlU : ∀ z ∈ lims, U z) (hxU : ∀ z ∈ x, U z) (hx : x.length = lims.length)
    (hr : ∀ j : Nat, j < lims.length → rd lims (j : Int) ≤ rd x (j : Int)) (a0 a1 a2 a3 a4 a5 b0 b1 b2 b3 b4 b5 : Nat)
    (ha : a0 ≤ (18446744073709551615 : Nat) ∧ a1 ≤ (18446744073709551615 : Nat) ∧ a2 ≤ (18446744073709551615 : Nat) ∧ a3 ≤ (18446744073709551615 : Nat) ∧ a4 ≤ (18446744073709551615 : Nat) ∧ a5 ≤ (18446744073709551615 : Nat)) (hb : b0 ≤ (18446744073709551615 : Nat) ∧ b1 ≤ (18446744073709551615 : Nat) ∧ b2 ≤ (18446744073709551615 : Nat) ∧ b3 ≤ (18446744073709551615 : Nat) ∧ b4 ≤ (18446744073709551615 : Nat) ∧ b5 ≤ (18446744073709551615 : Nat)) (k : Nat) (hk : rounds L + 1 ≤ k) :
    locksteplaw28_CostMore.l0 k L lims more x (lims.length : Int) a0 a1 a2 a3 a4 a5 b0 b1 b2 b3 b4 b5 = some true := by
  obtain ⟨k, rfl⟩ : ∃ k', k = k' + 1 := ⟨k - 1, by omega⟩
  have hm : ∀ j : Nat, (rd lims (j : Int)).toNat ≤ (rd x (j : Int)).toNat := fun j => by
    rcases Nat.lt_or_ge j lims.length with h | h
    · have := hr j h; omega
    · have : rd lims (j : Int) = 0 := by unfold rd; rw [List.getD_eq_getElem?_getD, List.getElem?_eq_none (by omega)]; rfl
      rw [this]; exact Nat.zero_le _
  have hv := vv_mono hm L (Nat.le_refl 0)
  have e1 := value_eq lims hlU L hL hok k (by omega)
  have e2 := value_eq x hxU L hL hok k (by omega)
  obtain ⟨ha0, ha1, ha2, ha3, ha4, ha5⟩ := ha
  obtain ⟨hb0, hb1, hb2, hb3, hb4, hb5⟩ := hb
  have mL : ∀ {p q : Nat}, p ≤ (18446744073709551615 : Nat) → q ≤ (18446744073709551615 : Nat) → max p q ≤ (18446744073709551615 : Nat) := fun h1 h2 => by omega
  rw [locksteplaw28_CostMore.l0, if_neg (by omega), e2, Option.bind_some, e1, Option.bind_some, if_neg (by omega)]
  simp only [mx_nat]
  rw [bound_eq _ _ _ _ _ _ (mL ha0 hb0) (mL ha1 hb1) (mL ha2 hb2) (mL ha3 hb3) (mL ha4 hb4) (mL ha5 hb5), Option.bind_some, bound_eq _ _ _ _ _ _ ha0 ha1 ha2 ha3 ha4 ha5, Option.bind_some,
    bound_eq _ _ _ _ _ _ hb0 hb1 hb2 hb3 hb4 hb5, Option.bind_some, Option.bind_some]
  have m1 := bd_mono (Nat.le_max_left a0 b0) (Nat.le_max_left a1 b1) (Nat.le_max_left a2 b2) (Nat.le_max_left a3 b3) (Nat.le_max_left a4 b4) (Nat.le_max_left a5 b5)
  have m2 := bd_mono (Nat.le_max_right a0 b0) (Nat.le_max_right a1 b1) (Nat.le_max_right a2 b2) (Nat.le_max_right a3 b3) (Nat.le_max_right a4 b4) (Nat.le_max_right a5 b5)
  rw [if_pos (by exact Int.ofNat_le.2 m1), decide_eq_true (by exact Int.ofNat_le.2 m2)]
theorem more_loop (L : List S39) (hL : L.length < 9223372036854775807) (hok : ∀ x ∈ L, okT x) (lims more : List Int) (hlU : ∀ z ∈ lims, U z) (hmU : ∀ z ∈ more, U z) (hlen : lims.length < 17592186044416)
    (a0 a1 a2 a3 a4 a5 b0 b1 b2 b3 b4 b5 : Nat)
    (ha : a0 ≤ (18446744073709551615 : Nat) ∧ a1 ≤ (18446744073709551615 : Nat) ∧ a2 ≤ (18446744073709551615 : Nat) ∧ a3 ≤ (18446744073709551615 : Nat) ∧ a4 ≤ (18446744073709551615 : Nat) ∧ a5 ≤ (18446744073709551615 : Nat)) (hb : b0 ≤ (18446744073709551615 : Nat) ∧ b1 ≤ (18446744073709551615 : Nat) ∧ b2 ≤ (18446744073709551615 : Nat) ∧ b3 ≤ (18446744073709551615 : Nat) ∧ b4 ≤ (18446744073709551615 : Nat) ∧ b5 ≤ (18446744073709551615 : Nat)) :
    ∀ (n : Nat) (x : List Int) (k : Nat), x.length + n = lims.length → (∀ z ∈ x, U z) → (∀ j : Nat, j < x.length → rd lims (j : Int) ≤ rd x (j : Int)) → rounds L + 1 + n ≤ k →
      locksteplaw28_CostMore.l0 k L lims more x (x.length : Int) a0 a1 a2 a3 a4 a5 b0 b1 b2 b3 b4 b5 = some true := by
  intro n
  induction n with
  | zero =>
    intro x k h1 h2 h3 h4
    rw [show x.length = lims.length by omega] at h3 ⊢
    exact more_end L hL hok lims more x hlU h2 (by omega) h3 a0 a1 a2 a3 a4 a5 b0 b1 b2 b3 b4 b5 ha hb k (by omega)
  | succ n ih =>
    intro x k h1 h2 h3 h4
    obtain ⟨k, rfl⟩ : ∃ k', k = k' + 1 := ⟨k - 1, by omega⟩
    have e1 : (x.length : Int) < (lims.length : Int) := by omega
    have e2 : (0 : Int) ≤ (x.length : Int) := by omega
    have e3 : x.length < 17592186044416 := by omega
    have hw : wrap64 ((x.length : Int) + 1) = ((x.length + 1 : Nat) : Int) := by unfold wrap64; omega
    have hk' : rounds L + 1 + n ≤ k := by clear ha hb hlen e3; omega
    have hxn : x.length + 1 + n = lims.length := by clear ha hb hlen e3; omega
    clear ha hb hlen
    have go : ∀ v : Int, U v → rd lims (x.length : Int) ≤ v →
        locksteplaw28_CostMore.l0 k L lims more (x ++ [v]) (wrap64 ((x.length : Int) + 1)) a0 a1 a2 a3 a4 a5 b0 b1 b2 b3 b4 b5 = some true := by
      intro v hv hle
      have hl : (x ++ [v]).length = x.length + 1 := by simp
      have := ih (x ++ [v]) k (by rw [hl]; exact hxn) (fun z hz => by rcases List.mem_append.1 hz with h | h; exact h2 z h; rw [List.mem_singleton.1 h]; exact hv)
        (fun j hj => by
          rw [rd_append]
          split
          · rename_i h; exact h3 j h
          · rename_i h
            have hj2 : j = x.length := by rw [hl] at hj; clear h3 hw e3 e1 ih; omega
            rw [if_pos hj2, hj2]; exact hle) hk'
      rw [hl] at this
      rw [hw]
      exact this
    rw [locksteplaw28_CostMore.l0, if_pos e1, if_pos e2, if_pos e3, if_pos e3]
    split
    · rename_i h
      split
      · rename_i h5
        exact go _ (rd_U hmU x.length) (Int.le_of_lt h5)
      · exact go _ (rd_U hlU x.length) (Int.le_refl _)
    · exact go _ (rd_U hlU x.length) (Int.le_refl _)
theorem CostMore_true (L : List S39) (lims more : List Int) (a b : Load) (hL : L.length < 9223372036854775807) (hok : ∀ x ∈ L, okT x) (hlU : ∀ z ∈ lims, U z) (hmU : ∀ z ∈ more, U z) (hlen : lims.length < 17592186044416)
    (ha : okL a) (hb : okL b) : locksteplaw28_CostMore.f (100 + (rounds L + 1 + lims.length)) L lims more a.f0 a.f1 a.f2 a.f3 a.f4 a.f5 b.f0 b.f1 b.f2 b.f3 b.f4 b.f5 = some true := by
  have c : ∀ {x : Int}, U x → ((x.toNat : Nat) : Int) = x ∧ x.toNat ≤ (18446744073709551615 : Nat) := fun h => ⟨by have := h.1; omega, by have := h.2; omega⟩
  obtain ⟨p0, p1, p2, p3, p4, p5⟩ := ha
  obtain ⟨q0, q1, q2, q3, q4, q5⟩ := hb
  unfold locksteplaw28_CostMore.f
  rw [lives, Option.bind_some, if_pos rfl]
  have := more_loop L hL hok lims more hlU hmU hlen _ _ _ _ _ _ _ _ _ _ _ _ ⟨(c p0).2, (c p1).2, (c p2).2, (c p3).2, (c p4).2, (c p5).2⟩ ⟨(c q0).2, (c q1).2, (c q2).2, (c q3).2, (c q4).2, (c q5).2⟩
    lims.length [] (100 + (rounds L + 1 + lims.length)) (by simp) (fun z hz => by cases hz) (fun j hj => by simp at hj) (by omega)
  rw [(c p0).1, (c p1).1, (c p2).1, (c p3).1, (c p4).1, (c p5).1, (c q0).1, (c q1).1, (c q2).1, (c q3).1, (c q4).1, (c q5).1] at this
  exact this
end Cost
end Go.Proofs.Ytkkocmmilmbgpaa.X
end
section
namespace Go.Proofs.YtkkocmmilmbgpaaW.PrintWords
open Go Go.RowKit Go.ChangeShapes Go.WideShapes Go.Deep
set_option linter.unusedVariables false
set_option linter.unusedSimpArgs false
def Opens {α : Type} (P : Program) (d : Kd α) (t : TypeId) (g : α → Prop) : Prop :=
  ∀ {H : Type} (enc : TypeId × Value → H) (W : World) (base : Nat) (spare : Nat → Bool) (held : Bool) (fuel : Nat) (cs : List Value) (x : DataW H × List MemPlace),
    DataW.trod enc P W base spare held fuel t cs = some x → ∃ a, d.K W a cs ∧ g a
def inKind (k : IntKind) (n : Int) : Prop := k.min ≤ n ∧ n ≤ k.max
section
variable {P : Program} {α β : Type}
theorem opens_int {t : TypeId} {k : IntKind} (ht : P.underlying t = some (.int k)) : Opens P (Kd.int k) t (inKind k) := by
  intro H enc W base spare held fuel cs x h
  obtain ⟨n, rfl, _, hw⟩ := DataW.trod_int ht h
  refine ⟨n, rfl, ?_⟩
  simpa [Lit.wf, inKind] using hw
theorem Opens.imp {d : Kd α} {t : TypeId} {g g' : α → Prop} (h : Opens P d t g) (hg : ∀ a, g a → g' a) : Opens P d t g' := by
  intro H enc W base spare held fuel cs x hx
  obtain ⟨a, h1, h2⟩ := h enc W base spare held fuel cs x hx
  exact ⟨a, h1, hg a h2⟩
theorem elems_of {γ : Type} {n : Nat} {p : Nat → γ → Prop} (h : ∀ i, i < n → ∃ a, p i a) : ∃ xs : List γ, xs.length = n ∧ ∀ i a, xs[i]? = some a → p i a := by
  induction n with
  | zero => exact ⟨[], rfl, fun i a h => by simp at h⟩
  | succ n ih =>
    obtain ⟨xs, hl, hx⟩ := ih (fun i hi => h i (by omega))
    obtain ⟨a, ha⟩ := h n (by omega)
    refine ⟨xs ++ [a], by simp [hl], fun i b hb => ?_⟩
    by_cases hi : i < xs.length
    · rw [List.getElem?_append_left hi] at hb
      exact hx i b hb
    · rw [List.getElem?_append_right (by omega)] at hb
      have : i = n := by
        have := (List.getElem?_eq_some_iff.1 hb).1
        simp at this
        omega
      subst this
      rw [hl, Nat.sub_self] at hb
      injection hb with hb
      exact hb ▸ ha
end
end Go.Proofs.YtkkocmmilmbgpaaW.PrintWords
end
section
namespace Go.Proofs.YtkkocmmilmbgpaaW.PrintWords
open Go Go.RowKit Go.ChangeShapes Go.WideShapes Go.Deep
set_option linter.unusedVariables false
set_option linter.unusedSimpArgs false
def OpensS {α : Type} (P : Program) (d : Kd α) (t : TypeId) (g : α → Prop) : Prop :=
  ∀ {H : Type} (enc : TypeId × Value → H) (W : World) (base : Nat) (spare : Nat → Bool) (held : Bool) (fuel : Nat) (cs : List Value) (x : DataW H × List MemPlace),
    DataW.trod enc P W base spare held fuel t cs = some x → (∀ n ∈ x.1.weights P t, n ≤ reachBytes) → ∃ a, d.K W a cs ∧ g a
section
variable {P : Program} {α β : Type}
theorem opensS_of {d : Kd α} {t : TypeId} {g : α → Prop} (h : Opens P d t g) : OpensS P d t g := by
  intro H enc W base spare held fuel cs x hx _
  exact h enc W base spare held fuel cs x hx
theorem weights_mem_all {H : Type} {e : TypeId} : ∀ {l : List (DataW H)} {d : DataW H}, d ∈ l → ∀ n ∈ d.weights P e, n ∈ DataW.weightsAll P e l
  | [], _, h, _, _ => by simp at h
  | a :: l, d, h, n, hn => by
    simp only [DataW.weightsAll, List.mem_append]
    rcases List.mem_cons.1 h with rfl | h
    · exact .inl hn
    · exact .inr (weights_mem_all h n hn)
theorem opensS_slice {d : Kd α} {t e : TypeId} {g : α → Prop} (ht : P.underlying t = some (.slice e)) (hs : P.cellsOf e = d.sz) (h : OpensS P d e g) :
    OpensS P (Kd.slice e d) t (fun xs => xs.length * P.bytesOf e ≤ reachBytes ∧ ∀ x ∈ xs, g x) := by
  intro H enc W base spare held fuel cs x hx hw
  rcases open_slice ht hx with ⟨rfl, rfl⟩ | ⟨a, len, cap, m, n, D, Pl, rfl, hb, hl, hm, hmm, rfl, hel⟩
  · exact ⟨[], ⟨none, 0, rfl, Nat.le_refl _, ⟨rfl, by simp, fun h => absurd h (by simp)⟩⟩, by simp, fun x hx => by simp at hx⟩
  · simp only [DataW.weights, ht] at hw
    have hw0 := hw _ List.mem_cons_self
    obtain ⟨xs, hlen, hxs⟩ := elems_of (n := len) (p := fun i y => ∃ cs', W.cells? base (a.add (i * P.cellsOf e)) (P.cellsOf e) = some cs' ∧ d.K W y cs' ∧ g y) (fun i hi => by
      obtain ⟨cs', h1, h2⟩ := hel i (by rw [hmm]; split <;> omega)
      obtain ⟨y, h3, h4⟩ := h enc W base spare held n cs' _ h2 (fun k hk => hw k (List.mem_cons_of_mem _ (List.mem_append_left _ (weights_mem_all (List.mem_map.2 ⟨i, List.mem_range.2 hi, rfl⟩) k hk))))
      exact ⟨y, cs', h1, h3, h4⟩)
    refine ⟨xs, ⟨some a, cap, by rw [hlen], by rw [hlen]; exact hl, ⟨rfl, by rw [hlen]; simp only [maxLen] at hm; omega, fun hp => ⟨a, rfl, fun j p hj => ?_⟩⟩⟩, ?_, fun x hx => ?_⟩
    · obtain ⟨cs', h1, h2, _⟩ := hxs j p hj
      refine ⟨cs', d.K_len h2, h2, fun i u hu => ?_⟩
      obtain ⟨_, hcl, hcc⟩ := World.cells?_some h1
      have hi : i < cs'.length := (List.getElem?_eq_some_iff.1 hu).1
      have h5 := hcc i (by rw [← hcl]; exact hi)
      rw [hu, Addr.add_add, hs] at h5
      exact h5
    · rw [hlen]
      exact Nat.le_trans (Nat.mul_le_mul_right _ (by simp)) hw0
    · obtain ⟨i, hi⟩ := List.getElem?_of_mem hx
      obtain ⟨_, _, _, h4⟩ := hxs i x hi
      exact h4
theorem open_arg_sliceS {d : Kd α} {t e : TypeId} {g : α → Prop} (ht : P.underlying t = some (.slice e)) (hs : P.cellsOf e = d.sz) (h : OpensS P d e g) {H : Type} {enc : TypeId × Value → H} {W : World} {base b0 : Nat} {spare : Nat → Bool} {held : Bool} {r : Reach} {v : Value} {D : DataW H} {p : List MemPlace}
    {ts : List TypeId} {ds : List (DataW H)} {j : Nat} (hsz : (DataW.weightsEach P ts ds).all (· ≤ reachBytes) = true) (htj : ts[j]? = some t) (hdj : ds[j]? = some D)
    (hv : Value.okWide P W r b0 t v) (hd : DataW.Trod enc P W base spare held t v D p) : ∃ A c xs, v = .slice A xs.length c ∧ xs.length ≤ c ∧ d.C W A xs.length xs ∧ xs.length * P.bytesOf e ≤ reachBytes ∧ ∀ x ∈ xs, g x := by
  obtain ⟨A, n, c, rfl⟩ := okWide_slice ht hv
  obtain ⟨fuel, hf⟩ := hd
  obtain ⟨xs, ⟨A', c', he, hl, hC⟩, hg⟩ := opensS_slice ht hs h enc W base spare held fuel _ _ hf (fun n hn => by
    have := List.all_eq_true.1 hsz _ (DataW.weights_mem_each htj hdj n hn)
    simpa using this)
  have he' : Value.slice A n c = .slice A' xs.length c' := by simpa [Value.cells] using he
  injection he' with h1 h2 h3
  subst h1 h2 h3
  exact ⟨A, c, xs, rfl, hl, hC, hg⟩
end
end Go.Proofs.YtkkocmmilmbgpaaW.PrintWords
end
section
namespace Go.Proofs.Ytkkocmmilmbgpaa.X
set_option linter.unusedVariables false
set_option linter.unusedSimpArgs false
open Go.RowKit Go.Lib Go.ChangeShapes Go.WideShapes Go.ChangeAt Go.Joins Go.Proofs.YtkkocmmilmbgpaaW.PrintWords Go Go.Deep Cost
set_option maxRecDepth 100000
theorem own : ownKnob Try.prog.godebug = none := by kernel_rfl
theorem laidOut : laidOutB Try.prog = true := by kernel_rfl
theorem i64_of {n : Int} (h : inKind .i64 n) : n < 9223372036854775808 := by
  unfold inKind at h
  simp only [IntKind.min, IntKind.max, IntKind.signed, IntKind.bits, if_true] at h
  omega
theorem u64_of {n : Int} (h : inKind .u64 n) : U n := by
  unfold inKind at h
  simp only [IntKind.min, IntKind.max, IntKind.signed, IntKind.bits, Bool.false_eq_true, if_false] at h
  exact ⟨by omega, by omega⟩
theorem opensS_two {P : Program} {α β : Type} {a : Kd α} {b : Kd β} {t : TypeId} {f0 f1 : Field} {g0 : α → Prop} {g1 : β → Prop} (ht : P.underlying t = some (.struct #[f0, f1]))
    (ho : f0.offset = 0 ∧ f1.offset = a.sz) (hc : P.cellsOf t = a.sz + b.sz) (h0 : P.cellsOf f0.type = a.sz) (h1 : P.cellsOf f1.type = b.sz)
    (k0 : OpensS P a f0.type g0) (k1 : OpensS P b f1.type g1) : OpensS P (Kd.pair a b) t (fun x => g0 x.1 ∧ g1 x.2) := by
  intro H enc W base spare held fuel cs x hx hw
  obtain ⟨y0, y1, n, he, hl, e0, e1⟩ := trod_struct2 ht hx
  rw [ho.1, h0, List.drop_zero] at e0
  rw [ho.2, h1] at e1
  subst he
  simp only [DataW.weights, ht, DataW.weightsEach, List.map_cons, List.map_nil, List.append_nil, List.mem_append] at hw
  obtain ⟨p0, q0, r0⟩ := k0 enc W base spare held n _ _ e0 (fun k hk => hw k (.inl hk))
  obtain ⟨p1, q1, r1⟩ := k1 enc W base spare held n _ _ e1 (fun k hk => hw k (.inr hk))
  refine ⟨(p0, p1), ⟨_, _, ?_, q0, q1⟩, r0, r1⟩
  rw [hc] at hl
  rw [List.take_of_length_le (l := cs.drop a.sz) (by rw [List.length_drop]; omega), List.take_append_drop]
theorem opensS_iso {P : Program} {α β : Type} {d : Kd α} {t : TypeId} {g : α → Prop} (h : OpensS P d t g) (f : β → α) (b : α → β) (hf : ∀ a, f (b a) = a) (g' : β → Prop) (hg : ∀ x, g (f x) → g' x) : OpensS P (Kd.iso d f) t g' := by
  intro H enc W base spare held fuel cs x hx hw
  obtain ⟨a, h1, h2⟩ := h enc W base spare held fuel cs x hx hw
  exact ⟨b a, by show d.K W (f (b a)) cs; rw [hf]; exact h1, hg _ (by rw [hf]; exact h2)⟩
theorem opens_term : OpensS Try.prog k39 39 okT :=
  opensS_iso (opensS_two Try.underlying39 ⟨rfl, rfl⟩ (by kernel_rfl) (by kernel_rfl) (by kernel_rfl) (opensS_of (opens_int Try.underlying24)) (opensS_slice Try.underlying37 (by kernel_rfl) (opensS_of (opens_int Try.underlying3))))
    (fun x : S39 => (x.f0, x.f1)) (fun p => ⟨p.1, p.2⟩) (fun _ => rfl) okT (fun x h => ⟨u64_of h.1, by
      have h1 : x.f1.length * Try.prog.bytesOf 3 ≤ reachBytes := h.2.1
      rw [show Try.prog.bytesOf 3 = 8 by kernel_rfl] at h1
      exact h1, fun e he => i64_of (h.2.2 e he)⟩)
section
variable {H : Type} {enc : TypeId × Value → H} {W : World} {base b0 : Nat} {spare : Nat → Bool} {held : Bool} {r : Reach} {v : Value} {D : DataW H} {p : List MemPlace}
theorem open_terms {ts : List TypeId} {ds : List (DataW H)} {j : Nat} (hsz : (DataW.weightsEach Try.prog ts ds).all (· ≤ reachBytes) = true) (htj : ts[j]? = some 22) (hdj : ds[j]? = some D)
    (hv : Value.okWide Try.prog W r b0 22 v) (hd : DataW.Trod enc Try.prog W base spare held 22 v D p) : ∃ A c xs, v = .slice A xs.length c ∧ xs.length ≤ c ∧ k39.C W A xs.length xs ∧
      (xs.length < 9223372036854775807 ∧ ∀ x ∈ xs, okT x) := by
  obtain ⟨A, c, xs, h1, h2, h3, h4, h5⟩ := open_arg_sliceS Try.underlying22 (by kernel_rfl) opens_term hsz htj hdj hv hd
  rw [show Try.prog.bytesOf 39 = 32 by kernel_rfl] at h4
  have h6 : xs.length * 32 ≤ 140737488351232 := h4
  exact ⟨A, c, xs, h1, h2, h3, by omega, h5⟩
theorem open_u64s {ts : List TypeId} {ds : List (DataW H)} {j : Nat} (hsz : (DataW.weightsEach Try.prog ts ds).all (· ≤ reachBytes) = true) (htj : ts[j]? = some 23) (hdj : ds[j]? = some D)
    (hv : Value.okWide Try.prog W r b0 23 v) (hd : DataW.Trod enc Try.prog W base spare held 23 v D p) : ∃ A c xs, v = .slice A xs.length c ∧ xs.length ≤ c ∧ (Kd.int .u64).C W A xs.length xs ∧
      (xs.length < 17592186044416 ∧ ∀ x ∈ xs, U x) := by
  obtain ⟨A, c, xs, h1, h2, h3, h4, h5⟩ := open_arg_sliceS Try.underlying23 (by kernel_rfl) (opensS_of (Opens.imp (opens_int Try.underlying24) (fun _ h => u64_of h))) hsz htj hdj hv hd
  rw [show Try.prog.bytesOf 24 = 8 by kernel_rfl] at h4
  have h6 : xs.length * 8 ≤ 140737488351232 := h4
  exact ⟨A, c, xs, h1, h2, h3, by omega, h5⟩
theorem open_load (hv : Value.okWide Try.prog W r b0 26 v) (hd : DataW.Trod enc Try.prog W base spare held 26 v D p) : ∃ x : Load, v = .agg #[.int .u64 x.f0, .int .u64 x.f1, .int .u64 x.f2, .int .u64 x.f3, .int .u64 x.f4, .int .u64 x.f5] ∧ okL x := by
  obtain ⟨cs, rfl, hsz⟩ := okWide_struct Try.underlying26 hv
  rw [show Try.prog.cellsOf 26 = 6 by kernel_rfl] at hsz
  obtain ⟨fuel, hf⟩ := hd
  obtain ⟨xs, n, _, _, _, hl, hel⟩ := DataW.trod_struct Try.underlying26 hf
  have get : ∀ (i : Nat) (f : Field), i < 6 → f.type = 24 → f.offset = i → (DataW.trod enc Try.prog W base spare held n f.type (((Value.agg cs).cells.toList.drop f.offset).take (Try.prog.cellsOf f.type)) = xs[i]?) → ∃ z : Int, cs.toList[i]? = some (.int .u64 z) ∧ U z := by
    intro i f hi h24 ho h
    have hx : ∃ y, xs[i]? = some y := by
      have : i < xs.length := by rw [hl]; exact hi
      exact ⟨xs[i], List.getElem?_eq_getElem this⟩
    obtain ⟨y, hy⟩ := hx
    rw [h24, ho, hy, show Try.prog.cellsOf 24 = 1 by kernel_rfl] at h
    obtain ⟨z, hz, hg⟩ := opens_int Try.underlying24 enc W base spare held n _ _ h
    have hz' : (cs.toList.drop i).take 1 = [.int .u64 z] := hz
    refine ⟨z, ?_, u64_of hg⟩
    have := congrArg (fun l => l[0]?) hz'
    simpa [List.getElem?_take, List.getElem?_drop] using this
  obtain ⟨z0, e0, u0⟩ := get 0 _ (by decide) rfl rfl (hel 0 _ rfl)
  obtain ⟨z1, e1, u1⟩ := get 1 _ (by decide) rfl rfl (hel 1 _ rfl)
  obtain ⟨z2, e2, u2⟩ := get 2 _ (by decide) rfl rfl (hel 2 _ rfl)
  obtain ⟨z3, e3, u3⟩ := get 3 _ (by decide) rfl rfl (hel 3 _ rfl)
  obtain ⟨z4, e4, u4⟩ := get 4 _ (by decide) rfl rfl (hel 4 _ rfl)
  obtain ⟨z5, e5, u5⟩ := get 5 _ (by decide) rfl rfl (hel 5 _ rfl)
  refine ⟨⟨z0, z1, z2, z3, z4, z5⟩, ?_, u0, u1, u2, u3, u4, u5⟩
  congr 1
  rw [← Array.toArray_toList (xs := cs)]
  congr 1
  have hlen : cs.toList.length = 6 := by simpa using hsz
  generalize cs.toList = l at e0 e1 e2 e3 e4 e5 hlen
  match l, hlen with
  | [a, b, c, d, e, f], _ => simp_all
end
noncomputable def laidWorld (os : Os) : World := World.doorLaid Try.prog 200 os
theorem laid_met (os : Os) (args : Array Value) : laidMetH Try.prog [] ((laidWorld os).forCall (fun _ _ => 0) ⟨#[], args, []⟩).memory :=
  laidMet_of_run' 8 (by kernel_rfl) (by kernel_rfl)
end Go.Proofs.Ytkkocmmilmbgpaa.X
end

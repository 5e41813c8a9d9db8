/- Part 3 of a claim of this seat: texts merged by a program of the claim's session (wip/bundle.py). -/
import Derived.Test.YtkkocmmilmbgpaaZCa2
import Derived.BigRegion
section
namespace Go.Proofs.Ytkkocmmilmbgpaa.S
open Go.RowKit Go.Proofs.YtkkocmmilmbgpaaW.PrintWords Go.Proofs.YtkkocmmilmbgpaaW.PrintLast Go.Proofs.YtkkocmmilmbgpaaW.PrintMore
attribute [local go_sem] max2_int min2_int max_two min_two max_three min_three max_four min_four
set_option linter.unusedVariables false
set_option linter.unusedSimpArgs false
mutual
def api_Term_of_cost_normal_1_52.l0 : Nat → List (S39) → Int → Int → Int → Option ((List (S39)))
  | 0, _, _, _, _ => none
  | k + 1, x0, x1, x10, x11 => if x10 < x11 then (if 0 ≤ (wrap64 ((IntKind.u64.wrap (wrap64 (x10 + x11))) / 2)) then (if (wrap64 ((IntKind.u64.wrap (wrap64 (x10 + x11))) / 2)) < (x0.length : Int) then (if 0 ≤ x1 then (if x1 < (x0.length : Int) then ((cost_normal_1.f k ((rd_T39 x0 (wrap64 ((IntKind.u64.wrap (wrap64 (x10 + x11))) / 2))).f0) ((rd_T39 x0 (wrap64 ((IntKind.u64.wrap (wrap64 (x10 + x11))) / 2))).f1) ((rd_T39 x0 x1).f0) ((rd_T39 x0 x1).f1)).bind fun t130 => (if t130 < 0 then (api_Term_of_cost_normal_1_52.l0 k x0 x1 (wrap64 ((wrap64 ((IntKind.u64.wrap (wrap64 (x10 + x11))) / 2)) + 1)) x11) else (api_Term_of_cost_normal_1_52.l0 k x0 x1 x10 (wrap64 ((IntKind.u64.wrap (wrap64 (x10 + x11))) / 2))))) else (none)) else (none)) else (none)) else (none)) else (api_Term_of_cost_normal_1_52.l1 k x0 x10 x1)
def api_Term_of_cost_normal_1_52.l1 : Nat → List (S39) → Int → Int → Option ((List (S39)))
  | 0, _, _, _ => none
  | k + 1, x0, x10, x13 => if x13 < (wrap64 (x10 - 1)) then ((api_Term_of_cost_normal_1_54.f x0 x13 (wrap64 (x13 + 1)) 1).bind fun t131 => (api_Term_of_cost_normal_1_52.l1 k t131 x10 (wrap64 (x13 + 1)))) else (some x0)
def api_Term_of_cost_normal_1_52.l2 : Nat → List (S39) → Int → Int → Int → Option ((List (S39)))
  | 0, _, _, _, _ => none
  | k + 1, x0, x2, x14, x15 => if x14 < x15 then (if 0 ≤ x2 then (if x2 < (x0.length : Int) then (if 0 ≤ (wrap64 ((IntKind.u64.wrap (wrap64 (x14 + x15))) / 2)) then (if (wrap64 ((IntKind.u64.wrap (wrap64 (x14 + x15))) / 2)) < (x0.length : Int) then ((cost_normal_1.f k ((rd_T39 x0 x2).f0) ((rd_T39 x0 x2).f1) ((rd_T39 x0 (wrap64 ((IntKind.u64.wrap (wrap64 (x14 + x15))) / 2))).f0) ((rd_T39 x0 (wrap64 ((IntKind.u64.wrap (wrap64 (x14 + x15))) / 2))).f1)).bind fun t134 => (if t134 < 0 then (api_Term_of_cost_normal_1_52.l2 k x0 x2 x14 (wrap64 ((IntKind.u64.wrap (wrap64 (x14 + x15))) / 2))) else (api_Term_of_cost_normal_1_52.l2 k x0 x2 (wrap64 ((wrap64 ((IntKind.u64.wrap (wrap64 (x14 + x15))) / 2)) + 1)) x15))) else (none)) else (none)) else (none)) else (none)) else (api_Term_of_cost_normal_1_52.l3 k x0 x14 x2)
def api_Term_of_cost_normal_1_52.l3 : Nat → List (S39) → Int → Int → Option ((List (S39)))
  | 0, _, _, _ => none
  | k + 1, x0, x14, x17 => if x17 > x14 then ((api_Term_of_cost_normal_1_54.f x0 x17 (wrap64 (x17 - 1)) 1).bind fun t135 => (api_Term_of_cost_normal_1_52.l3 k t135 x14 (wrap64 (x17 - 1)))) else (some x0)
def api_Term_of_cost_normal_1_52.j4 : Nat → List (S39) → Int → Int → Int → Int → Int → Int → Int → Option ((List (S39)))
  | 0, _, _, _, _, _, _, _, _ => none
  | k + 1, x0, x1, x2, x3, x18, x19, x20, x21 => api_Term_of_cost_normal_1_52.l4 k x0 x1 x2 x3 x18 x19 x20 x21 (wrap64 (x19 - 1))
def api_Term_of_cost_normal_1_52.l4 : Nat → List (S39) → Int → Int → Int → Int → Int → Int → Int → Int → Option ((List (S39)))
  | 0, _, _, _, _, _, _, _, _, _ => none
  | k + 1, x0, x1, x2, x3, x18, x19, x20, x21, x22 => if x20 < x21 then (if 0 ≤ (wrap64 (x22 - (wrap64 ((IntKind.u64.wrap (wrap64 (x20 + x21))) / 2)))) then (if (wrap64 (x22 - (wrap64 ((IntKind.u64.wrap (wrap64 (x20 + x21))) / 2)))) < (x0.length : Int) then (if 0 ≤ (wrap64 ((IntKind.u64.wrap (wrap64 (x20 + x21))) / 2)) then (if (wrap64 ((IntKind.u64.wrap (wrap64 (x20 + x21))) / 2)) < (x0.length : Int) then ((cost_normal_1.f k ((rd_T39 x0 (wrap64 (x22 - (wrap64 ((IntKind.u64.wrap (wrap64 (x20 + x21))) / 2))))).f0) ((rd_T39 x0 (wrap64 (x22 - (wrap64 ((IntKind.u64.wrap (wrap64 (x20 + x21))) / 2))))).f1) ((rd_T39 x0 (wrap64 ((IntKind.u64.wrap (wrap64 (x20 + x21))) / 2))).f0) ((rd_T39 x0 (wrap64 ((IntKind.u64.wrap (wrap64 (x20 + x21))) / 2))).f1)).bind fun t138 => (if t138 < 0 then (api_Term_of_cost_normal_1_52.l4 k x0 x1 x2 x3 x18 x19 x20 (wrap64 ((IntKind.u64.wrap (wrap64 (x20 + x21))) / 2)) x22) else (api_Term_of_cost_normal_1_52.l4 k x0 x1 x2 x3 x18 x19 (wrap64 ((wrap64 ((IntKind.u64.wrap (wrap64 (x20 + x21))) / 2)) + 1)) x21 x22))) else (none)) else (none)) else (none)) else (none)) else (if x20 < x2 then (api_Term_of_cost_normal_1_52.j6 k x0 x1 x2 x3 x18 x20 (wrap64 (x19 - x20)) (decide (x2 < (wrap64 (x19 - x20))))) else (api_Term_of_cost_normal_1_52.j6 k x0 x1 x2 x3 x18 x20 (wrap64 (x19 - x20)) false))
def api_Term_of_cost_normal_1_52.j6 : Nat → List (S39) → Int → Int → Int → Int → Int → Int → Bool → Option ((List (S39)))
  | 0, _, _, _, _, _, _, _, _ => none
  | k + 1, x0, x1, x2, x3, x18, x20, x24, x185 => if x185 = true then ((api_Term_of_cost_normal_1_53.f k x0 x20 x2 x24).bind fun t139 => (api_Term_of_cost_normal_1_52.j7 k t139 x1 x3 x18 x20 x24)) else (api_Term_of_cost_normal_1_52.j7 k x0 x1 x3 x18 x20 x24)
def api_Term_of_cost_normal_1_52.j7 : Nat → List (S39) → Int → Int → Int → Int → Int → Option ((List (S39)))
  | 0, _, _, _, _, _, _ => none
  | k + 1, x0, x1, x3, x18, x20, x24 => if x1 < x20 then (api_Term_of_cost_normal_1_52.j8 k x0 x1 x3 x18 x20 x24 (decide (x20 < x18))) else (api_Term_of_cost_normal_1_52.j8 k x0 x1 x3 x18 x20 x24 false)
def api_Term_of_cost_normal_1_52.j8 : Nat → List (S39) → Int → Int → Int → Int → Int → Bool → Option ((List (S39)))
  | 0, _, _, _, _, _, _, _ => none
  | k + 1, x0, x1, x3, x18, x20, x24, x199 => if x199 = true then ((api_Term_of_cost_normal_1_52.f k x0 x1 x20 x18).bind fun t140 => (if x18 < x24 then (if x24 < x3 then ((api_Term_of_cost_normal_1_52.f k t140 x18 x24 x3).bind fun t141 => (some t141)) else (some t140)) else (some t140))) else (if x18 < x24 then (if x24 < x3 then ((api_Term_of_cost_normal_1_52.f k x0 x18 x24 x3).bind fun t142 => (some t142)) else (some x0)) else (some x0))
def api_Term_of_cost_normal_1_52.f : Nat → List (S39) → Int → Int → Int → Option ((List (S39)))
  | 0, _, _, _, _ => none
  | k + 1, l0, a1, a2, a3 => if (wrap64 (a2 - a1)) = 1 then (api_Term_of_cost_normal_1_52.l0 k l0 a1 a2 a3) else (if (wrap64 (a3 - a2)) = 1 then (api_Term_of_cost_normal_1_52.l2 k l0 a2 a1 a2) else (if a2 > (wrap64 ((IntKind.u64.wrap (wrap64 (a1 + a3))) / 2)) then (api_Term_of_cost_normal_1_52.j4 k l0 a1 a2 a3 (wrap64 ((IntKind.u64.wrap (wrap64 (a1 + a3))) / 2)) (wrap64 ((wrap64 ((IntKind.u64.wrap (wrap64 (a1 + a3))) / 2)) + a2)) (wrap64 ((wrap64 ((wrap64 ((IntKind.u64.wrap (wrap64 (a1 + a3))) / 2)) + a2)) - a3)) (wrap64 ((IntKind.u64.wrap (wrap64 (a1 + a3))) / 2))) else (api_Term_of_cost_normal_1_52.j4 k l0 a1 a2 a3 (wrap64 ((IntKind.u64.wrap (wrap64 (a1 + a3))) / 2)) (wrap64 ((wrap64 ((IntKind.u64.wrap (wrap64 (a1 + a3))) / 2)) + a2)) a1 a2)))
end
theorem api_Term_of_cost_normal_1_52.mono_l : ∀ k, (∀ y0 y1 y2 y3, LeO (api_Term_of_cost_normal_1_52.f k y0 y1 y2 y3) (api_Term_of_cost_normal_1_52.f (k + 1) y0 y1 y2 y3)) ∧ (∀ y0 y1 y2 y3, LeO (api_Term_of_cost_normal_1_52.l0 k y0 y1 y2 y3) (api_Term_of_cost_normal_1_52.l0 (k + 1) y0 y1 y2 y3)) ∧ (∀ y0 y1 y2, LeO (api_Term_of_cost_normal_1_52.l1 k y0 y1 y2) (api_Term_of_cost_normal_1_52.l1 (k + 1) y0 y1 y2)) ∧ (∀ y0 y1 y2 y3, LeO (api_Term_of_cost_normal_1_52.l2 k y0 y1 y2 y3) (api_Term_of_cost_normal_1_52.l2 (k + 1) y0 y1 y2 y3)) ∧ (∀ y0 y1 y2, LeO (api_Term_of_cost_normal_1_52.l3 k y0 y1 y2) (api_Term_of_cost_normal_1_52.l3 (k + 1) y0 y1 y2)) ∧ (∀ y0 y1 y2 y3 y4 y5 y6 y7, LeO (api_Term_of_cost_normal_1_52.j4 k y0 y1 y2 y3 y4 y5 y6 y7) (api_Term_of_cost_normal_1_52.j4 (k + 1) y0 y1 y2 y3 y4 y5 y6 y7)) ∧ (∀ y0 y1 y2 y3 y4 y5 y6 y7 y8, LeO (api_Term_of_cost_normal_1_52.l4 k y0 y1 y2 y3 y4 y5 y6 y7 y8) (api_Term_of_cost_normal_1_52.l4 (k + 1) y0 y1 y2 y3 y4 y5 y6 y7 y8)) ∧ (∀ y0 y1 y2 y3 y4 y5 y6 y7, LeO (api_Term_of_cost_normal_1_52.j6 k y0 y1 y2 y3 y4 y5 y6 y7) (api_Term_of_cost_normal_1_52.j6 (k + 1) y0 y1 y2 y3 y4 y5 y6 y7)) ∧ (∀ y0 y1 y2 y3 y4 y5, LeO (api_Term_of_cost_normal_1_52.j7 k y0 y1 y2 y3 y4 y5) (api_Term_of_cost_normal_1_52.j7 (k + 1) y0 y1 y2 y3 y4 y5)) ∧ (∀ y0 y1 y2 y3 y4 y5 y6, LeO (api_Term_of_cost_normal_1_52.j8 k y0 y1 y2 y3 y4 y5 y6) (api_Term_of_cost_normal_1_52.j8 (k + 1) y0 y1 y2 y3 y4 y5 y6))
  | 0 => ⟨fun _ _ _ _ r h => by simp [api_Term_of_cost_normal_1_52.f] at h, fun _ _ _ _ r h => by simp [api_Term_of_cost_normal_1_52.l0] at h, fun _ _ _ r h => by simp [api_Term_of_cost_normal_1_52.l1] at h, fun _ _ _ _ r h => by simp [api_Term_of_cost_normal_1_52.l2] at h, fun _ _ _ r h => by simp [api_Term_of_cost_normal_1_52.l3] at h, fun _ _ _ _ _ _ _ _ r h => by simp [api_Term_of_cost_normal_1_52.j4] at h, fun _ _ _ _ _ _ _ _ _ r h => by simp [api_Term_of_cost_normal_1_52.l4] at h, fun _ _ _ _ _ _ _ _ r h => by simp [api_Term_of_cost_normal_1_52.j6] at h, fun _ _ _ _ _ _ r h => by simp [api_Term_of_cost_normal_1_52.j7] at h, fun _ _ _ _ _ _ _ r h => by simp [api_Term_of_cost_normal_1_52.j8] at h⟩
  | k + 1 => by
    obtain ⟨ih0, ih1, ih2, ih3, ih4, ih5, ih6, ih7, ih8, ih9⟩ := api_Term_of_cost_normal_1_52.mono_l k
    refine ⟨?_, ?_, ?_, ?_, ?_, ?_, ?_, ?_, ?_, ?_⟩
    · intro y0 y1 y2 y3
      unfold api_Term_of_cost_normal_1_52.f
      repeat' first
      | (with_reducible exact ih0 _ _ _ _)
      | (with_reducible exact ih1 _ _ _ _)
      | (with_reducible exact ih2 _ _ _)
      | (with_reducible exact ih3 _ _ _ _)
      | (with_reducible exact ih4 _ _ _)
      | (with_reducible exact ih5 _ _ _ _ _ _ _ _)
      | (with_reducible exact ih6 _ _ _ _ _ _ _ _ _)
      | (with_reducible exact ih7 _ _ _ _ _ _ _ _)
      | (with_reducible exact ih8 _ _ _ _ _ _)
      | (with_reducible exact ih9 _ _ _ _ _ _ _)
      | (with_reducible exact api_Term_of_cost_normal_1_53.mono _ _ _ _ _)
      | (with_reducible exact cost_normal_1.mono _ _ _ _ _)
      | (with_reducible exact LeO.refl _)
      | (with_reducible exact LeO.none _)
      | (with_reducible refine LeO.ite ?_ ?_)
      | (with_reducible refine LeO.bind ?_ (fun _ => ?_))
      | exact ih0 _ _ _ _
      | exact ih1 _ _ _ _
      | exact ih2 _ _ _
      | exact ih3 _ _ _ _
      | exact ih4 _ _ _
      | exact ih5 _ _ _ _ _ _ _ _
      | exact ih6 _ _ _ _ _ _ _ _ _
      | exact ih7 _ _ _ _ _ _ _ _
      | exact ih8 _ _ _ _ _ _
      | exact ih9 _ _ _ _ _ _ _
      | exact api_Term_of_cost_normal_1_53.mono _ _ _ _ _
      | exact cost_normal_1.mono _ _ _ _ _
      | exact LeO.none _
      | refine LeO.ite ?_ ?_
      | refine LeO.bind ?_ (fun _ => ?_)
    · intro y0 y1 y2 y3
      unfold api_Term_of_cost_normal_1_52.l0
      repeat' first
      | (with_reducible exact ih0 _ _ _ _)
      | (with_reducible exact ih1 _ _ _ _)
      | (with_reducible exact ih2 _ _ _)
      | (with_reducible exact ih3 _ _ _ _)
      | (with_reducible exact ih4 _ _ _)
      | (with_reducible exact ih5 _ _ _ _ _ _ _ _)
      | (with_reducible exact ih6 _ _ _ _ _ _ _ _ _)
      | (with_reducible exact ih7 _ _ _ _ _ _ _ _)
      | (with_reducible exact ih8 _ _ _ _ _ _)
      | (with_reducible exact ih9 _ _ _ _ _ _ _)
      | (with_reducible exact api_Term_of_cost_normal_1_53.mono _ _ _ _ _)
      | (with_reducible exact cost_normal_1.mono _ _ _ _ _)
      | (with_reducible exact LeO.refl _)
      | (with_reducible exact LeO.none _)
      | (with_reducible refine LeO.ite ?_ ?_)
      | (with_reducible refine LeO.bind ?_ (fun _ => ?_))
      | exact ih0 _ _ _ _
      | exact ih1 _ _ _ _
      | exact ih2 _ _ _
      | exact ih3 _ _ _ _
      | exact ih4 _ _ _
      | exact ih5 _ _ _ _ _ _ _ _
      | exact ih6 _ _ _ _ _ _ _ _ _
      | exact ih7 _ _ _ _ _ _ _ _
      | exact ih8 _ _ _ _ _ _
      | exact ih9 _ _ _ _ _ _ _
      | exact api_Term_of_cost_normal_1_53.mono _ _ _ _ _
      | exact cost_normal_1.mono _ _ _ _ _
      | exact LeO.none _
      | refine LeO.ite ?_ ?_
      | refine LeO.bind ?_ (fun _ => ?_)
    · intro y0 y1 y2
      unfold api_Term_of_cost_normal_1_52.l1
      repeat' first
      | (with_reducible exact ih0 _ _ _ _)
      | (with_reducible exact ih1 _ _ _ _)
      | (with_reducible exact ih2 _ _ _)
      | (with_reducible exact ih3 _ _ _ _)
      | (with_reducible exact ih4 _ _ _)
      | (with_reducible exact ih5 _ _ _ _ _ _ _ _)
      | (with_reducible exact ih6 _ _ _ _ _ _ _ _ _)
      | (with_reducible exact ih7 _ _ _ _ _ _ _ _)
      | (with_reducible exact ih8 _ _ _ _ _ _)
      | (with_reducible exact ih9 _ _ _ _ _ _ _)
      | (with_reducible exact api_Term_of_cost_normal_1_53.mono _ _ _ _ _)
      | (with_reducible exact cost_normal_1.mono _ _ _ _ _)
      | (with_reducible exact LeO.refl _)
      | (with_reducible exact LeO.none _)
      | (with_reducible refine LeO.ite ?_ ?_)
      | (with_reducible refine LeO.bind ?_ (fun _ => ?_))
      | exact ih0 _ _ _ _
      | exact ih1 _ _ _ _
      | exact ih2 _ _ _
      | exact ih3 _ _ _ _
      | exact ih4 _ _ _
      | exact ih5 _ _ _ _ _ _ _ _
      | exact ih6 _ _ _ _ _ _ _ _ _
      | exact ih7 _ _ _ _ _ _ _ _
      | exact ih8 _ _ _ _ _ _
      | exact ih9 _ _ _ _ _ _ _
      | exact api_Term_of_cost_normal_1_53.mono _ _ _ _ _
      | exact cost_normal_1.mono _ _ _ _ _
      | exact LeO.none _
      | refine LeO.ite ?_ ?_
      | refine LeO.bind ?_ (fun _ => ?_)
    · intro y0 y1 y2 y3
      unfold api_Term_of_cost_normal_1_52.l2
      repeat' first
      | (with_reducible exact ih0 _ _ _ _)
      | (with_reducible exact ih1 _ _ _ _)
      | (with_reducible exact ih2 _ _ _)
      | (with_reducible exact ih3 _ _ _ _)
      | (with_reducible exact ih4 _ _ _)
      | (with_reducible exact ih5 _ _ _ _ _ _ _ _)
      | (with_reducible exact ih6 _ _ _ _ _ _ _ _ _)
      | (with_reducible exact ih7 _ _ _ _ _ _ _ _)
      | (with_reducible exact ih8 _ _ _ _ _ _)
      | (with_reducible exact ih9 _ _ _ _ _ _ _)
      | (with_reducible exact api_Term_of_cost_normal_1_53.mono _ _ _ _ _)
      | (with_reducible exact cost_normal_1.mono _ _ _ _ _)
      | (with_reducible exact LeO.refl _)
      | (with_reducible exact LeO.none _)
      | (with_reducible refine LeO.ite ?_ ?_)
      | (with_reducible refine LeO.bind ?_ (fun _ => ?_))
      | exact ih0 _ _ _ _
      | exact ih1 _ _ _ _
      | exact ih2 _ _ _
      | exact ih3 _ _ _ _
      | exact ih4 _ _ _
      | exact ih5 _ _ _ _ _ _ _ _
      | exact ih6 _ _ _ _ _ _ _ _ _
      | exact ih7 _ _ _ _ _ _ _ _
      | exact ih8 _ _ _ _ _ _
      | exact ih9 _ _ _ _ _ _ _
      | exact api_Term_of_cost_normal_1_53.mono _ _ _ _ _
      | exact cost_normal_1.mono _ _ _ _ _
      | exact LeO.none _
      | refine LeO.ite ?_ ?_
      | refine LeO.bind ?_ (fun _ => ?_)
    · intro y0 y1 y2
      unfold api_Term_of_cost_normal_1_52.l3
      repeat' first
      | (with_reducible exact ih0 _ _ _ _)
      | (with_reducible exact ih1 _ _ _ _)
      | (with_reducible exact ih2 _ _ _)
      | (with_reducible exact ih3 _ _ _ _)
      | (with_reducible exact ih4 _ _ _)
      | (with_reducible exact ih5 _ _ _ _ _ _ _ _)
      | (with_reducible exact ih6 _ _ _ _ _ _ _ _ _)
      | (with_reducible exact ih7 _ _ _ _ _ _ _ _)
      | (with_reducible exact ih8 _ _ _ _ _ _)
      | (with_reducible exact ih9 _ _ _ _ _ _ _)
      | (with_reducible exact api_Term_of_cost_normal_1_53.mono _ _ _ _ _)
      | (with_reducible exact cost_normal_1.mono _ _ _ _ _)
      | (with_reducible exact LeO.refl _)
      | (with_reducible exact LeO.none _)
      | (with_reducible refine LeO.ite ?_ ?_)
      | (with_reducible refine LeO.bind ?_ (fun _ => ?_))
      | exact ih0 _ _ _ _
      | exact ih1 _ _ _ _
      | exact ih2 _ _ _
      | exact ih3 _ _ _ _
      | exact ih4 _ _ _
      | exact ih5 _ _ _ _ _ _ _ _
      | exact ih6 _ _ _ _ _ _ _ _ _
      | exact ih7 _ _ _ _ _ _ _ _
      | exact ih8 _ _ _ _ _ _
      | exact ih9 _ _ _ _ _ _ _
      | exact api_Term_of_cost_normal_1_53.mono _ _ _ _ _
      | exact cost_normal_1.mono _ _ _ _ _
      | exact LeO.none _
      | refine LeO.ite ?_ ?_
      | refine LeO.bind ?_ (fun _ => ?_)
    · intro y0 y1 y2 y3 y4 y5 y6 y7
      unfold api_Term_of_cost_normal_1_52.j4
      repeat' first
      | (with_reducible exact ih0 _ _ _ _)
      | (with_reducible exact ih1 _ _ _ _)
      | (with_reducible exact ih2 _ _ _)
      | (with_reducible exact ih3 _ _ _ _)
      | (with_reducible exact ih4 _ _ _)
      | (with_reducible exact ih5 _ _ _ _ _ _ _ _)
      | (with_reducible exact ih6 _ _ _ _ _ _ _ _ _)
      | (with_reducible exact ih7 _ _ _ _ _ _ _ _)
      | (with_reducible exact ih8 _ _ _ _ _ _)
      | (with_reducible exact ih9 _ _ _ _ _ _ _)
      | (with_reducible exact api_Term_of_cost_normal_1_53.mono _ _ _ _ _)
      | (with_reducible exact cost_normal_1.mono _ _ _ _ _)
      | (with_reducible exact LeO.refl _)
      | (with_reducible exact LeO.none _)
      | (with_reducible refine LeO.ite ?_ ?_)
      | (with_reducible refine LeO.bind ?_ (fun _ => ?_))
      | exact ih0 _ _ _ _
      | exact ih1 _ _ _ _
      | exact ih2 _ _ _
      | exact ih3 _ _ _ _
      | exact ih4 _ _ _
      | exact ih5 _ _ _ _ _ _ _ _
      | exact ih6 _ _ _ _ _ _ _ _ _
      | exact ih7 _ _ _ _ _ _ _ _
      | exact ih8 _ _ _ _ _ _
      | exact ih9 _ _ _ _ _ _ _
      | exact api_Term_of_cost_normal_1_53.mono _ _ _ _ _
      | exact cost_normal_1.mono _ _ _ _ _
      | exact LeO.none _
      | refine LeO.ite ?_ ?_
      | refine LeO.bind ?_ (fun _ => ?_)
    · intro y0 y1 y2 y3 y4 y5 y6 y7 y8
      unfold api_Term_of_cost_normal_1_52.l4
      repeat' first
      | (with_reducible exact ih0 _ _ _ _)
      | (with_reducible exact ih1 _ _ _ _)
      | (with_reducible exact ih2 _ _ _)
      | (with_reducible exact ih3 _ _ _ _)
      | (with_reducible exact ih4 _ _ _)
      | (with_reducible exact ih5 _ _ _ _ _ _ _ _)
      | (with_reducible exact ih6 _ _ _ _ _ _ _ _ _)
      | (with_reducible exact ih7 _ _ _ _ _ _ _ _)
      | (with_reducible exact ih8 _ _ _ _ _ _)
      | (with_reducible exact ih9 _ _ _ _ _ _ _)
      | (with_reducible exact api_Term_of_cost_normal_1_53.mono _ _ _ _ _)
      | (with_reducible exact cost_normal_1.mono _ _ _ _ _)
      | (with_reducible exact LeO.refl _)
      | (with_reducible exact LeO.none _)
      | (with_reducible refine LeO.ite ?_ ?_)
      | (with_reducible refine LeO.bind ?_ (fun _ => ?_))
      | exact ih0 _ _ _ _
      | exact ih1 _ _ _ _
      | exact ih2 _ _ _
      | exact ih3 _ _ _ _
      | exact ih4 _ _ _
      | exact ih5 _ _ _ _ _ _ _ _
      | exact ih6 _ _ _ _ _ _ _ _ _
      | exact ih7 _ _ _ _ _ _ _ _
      | exact ih8 _ _ _ _ _ _
      | exact ih9 _ _ _ _ _ _ _
      | exact api_Term_of_cost_normal_1_53.mono _ _ _ _ _
      | exact cost_normal_1.mono _ _ _ _ _
      | exact LeO.none _
      | refine LeO.ite ?_ ?_
      | refine LeO.bind ?_ (fun _ => ?_)
    · intro y0 y1 y2 y3 y4 y5 y6 y7
      unfold api_Term_of_cost_normal_1_52.j6
      repeat' first
      | (with_reducible exact ih0 _ _ _ _)
      | (with_reducible exact ih1 _ _ _ _)
      | (with_reducible exact ih2 _ _ _)
      | (with_reducible exact ih3 _ _ _ _)
      | (with_reducible exact ih4 _ _ _)
      | (with_reducible exact ih5 _ _ _ _ _ _ _ _)
      | (with_reducible exact ih6 _ _ _ _ _ _ _ _ _)
      | (with_reducible exact ih7 _ _ _ _ _ _ _ _)
      | (with_reducible exact ih8 _ _ _ _ _ _)
      | (with_reducible exact ih9 _ _ _ _ _ _ _)
      | (with_reducible exact api_Term_of_cost_normal_1_53.mono _ _ _ _ _)
      | (with_reducible exact cost_normal_1.mono _ _ _ _ _)
      | (with_reducible exact LeO.refl _)
      | (with_reducible exact LeO.none _)
      | (with_reducible refine LeO.ite ?_ ?_)
      | (with_reducible refine LeO.bind ?_ (fun _ => ?_))
      | exact ih0 _ _ _ _
      | exact ih1 _ _ _ _
      | exact ih2 _ _ _
      | exact ih3 _ _ _ _
      | exact ih4 _ _ _
      | exact ih5 _ _ _ _ _ _ _ _
      | exact ih6 _ _ _ _ _ _ _ _ _
      | exact ih7 _ _ _ _ _ _ _ _
      | exact ih8 _ _ _ _ _ _
      | exact ih9 _ _ _ _ _ _ _
      | exact api_Term_of_cost_normal_1_53.mono _ _ _ _ _
      | exact cost_normal_1.mono _ _ _ _ _
      | exact LeO.none _
      | refine LeO.ite ?_ ?_
      | refine LeO.bind ?_ (fun _ => ?_)
    · intro y0 y1 y2 y3 y4 y5
      unfold api_Term_of_cost_normal_1_52.j7
      repeat' first
      | (with_reducible exact ih0 _ _ _ _)
      | (with_reducible exact ih1 _ _ _ _)
      | (with_reducible exact ih2 _ _ _)
      | (with_reducible exact ih3 _ _ _ _)
      | (with_reducible exact ih4 _ _ _)
      | (with_reducible exact ih5 _ _ _ _ _ _ _ _)
      | (with_reducible exact ih6 _ _ _ _ _ _ _ _ _)
      | (with_reducible exact ih7 _ _ _ _ _ _ _ _)
      | (with_reducible exact ih8 _ _ _ _ _ _)
      | (with_reducible exact ih9 _ _ _ _ _ _ _)
      | (with_reducible exact api_Term_of_cost_normal_1_53.mono _ _ _ _ _)
      | (with_reducible exact cost_normal_1.mono _ _ _ _ _)
      | (with_reducible exact LeO.refl _)
      | (with_reducible exact LeO.none _)
      | (with_reducible refine LeO.ite ?_ ?_)
      | (with_reducible refine LeO.bind ?_ (fun _ => ?_))
      | exact ih0 _ _ _ _
      | exact ih1 _ _ _ _
      | exact ih2 _ _ _
      | exact ih3 _ _ _ _
      | exact ih4 _ _ _
      | exact ih5 _ _ _ _ _ _ _ _
      | exact ih6 _ _ _ _ _ _ _ _ _
      | exact ih7 _ _ _ _ _ _ _ _
      | exact ih8 _ _ _ _ _ _
      | exact ih9 _ _ _ _ _ _ _
      | exact api_Term_of_cost_normal_1_53.mono _ _ _ _ _
      | exact cost_normal_1.mono _ _ _ _ _
      | exact LeO.none _
      | refine LeO.ite ?_ ?_
      | refine LeO.bind ?_ (fun _ => ?_)
    · intro y0 y1 y2 y3 y4 y5 y6
      unfold api_Term_of_cost_normal_1_52.j8
      repeat' first
      | (with_reducible exact ih0 _ _ _ _)
      | (with_reducible exact ih1 _ _ _ _)
      | (with_reducible exact ih2 _ _ _)
      | (with_reducible exact ih3 _ _ _ _)
      | (with_reducible exact ih4 _ _ _)
      | (with_reducible exact ih5 _ _ _ _ _ _ _ _)
      | (with_reducible exact ih6 _ _ _ _ _ _ _ _ _)
      | (with_reducible exact ih7 _ _ _ _ _ _ _ _)
      | (with_reducible exact ih8 _ _ _ _ _ _)
      | (with_reducible exact ih9 _ _ _ _ _ _ _)
      | (with_reducible exact api_Term_of_cost_normal_1_53.mono _ _ _ _ _)
      | (with_reducible exact cost_normal_1.mono _ _ _ _ _)
      | (with_reducible exact LeO.refl _)
      | (with_reducible exact LeO.none _)
      | (with_reducible refine LeO.ite ?_ ?_)
      | (with_reducible refine LeO.bind ?_ (fun _ => ?_))
      | exact ih0 _ _ _ _
      | exact ih1 _ _ _ _
      | exact ih2 _ _ _
      | exact ih3 _ _ _ _
      | exact ih4 _ _ _
      | exact ih5 _ _ _ _ _ _ _ _
      | exact ih6 _ _ _ _ _ _ _ _ _
      | exact ih7 _ _ _ _ _ _ _ _
      | exact ih8 _ _ _ _ _ _
      | exact ih9 _ _ _ _ _ _ _
      | exact api_Term_of_cost_normal_1_53.mono _ _ _ _ _
      | exact cost_normal_1.mono _ _ _ _ _
      | exact LeO.none _
      | refine LeO.ite ?_ ?_
      | refine LeO.bind ?_ (fun _ => ?_)
theorem api_Term_of_cost_normal_1_52.mono : ∀ a0 a1 a2 a3 k, LeO (api_Term_of_cost_normal_1_52.f k a0 a1 a2 a3) (api_Term_of_cost_normal_1_52.f (k + 1) a0 a1 a2 a3) := by
  intro a0 a1 a2 a3 k
  obtain ⟨ih0, ih1, ih2, ih3, ih4, ih5, ih6, ih7, ih8, ih9⟩ := api_Term_of_cost_normal_1_52.mono_l k
  exact ih0 a0 a1 a2 a3
def api_Term_of_cost_normal_1_52.T5 : Bool × List (List Nat × List Nat) := (true, [([], []), ([], []), ([], []), ([1, 2], [1, 2]), ([3], [3]), ([], []), ([], []), ([5, 6], [5, 6]), ([7], [7]), ([0, 4, 8], [0, 4, 8]), ([9], [9])])
def api_Term_of_cost_normal_1_52.B5 : List Nat := [0, 0, 0, 6, 14, 0, 0, 96, 224, 511, 1023]
theorem api_Term_of_cost_normal_1_52.tab5 : rtab .any (opsOf Try.f52 5) = api_Term_of_cost_normal_1_52.T5 := by kernel_rfl
theorem api_Term_of_cost_normal_1_52.bits5 : waitsOk api_Term_of_cost_normal_1_52.T5.2 api_Term_of_cost_normal_1_52.B5 = true := by kernel_rfl
def api_Term_of_cost_normal_1_52.T17 : Bool × List (List Nat × List Nat) := (true, [([], []), ([], []), ([], []), ([1, 2], [1, 2]), ([3], [3]), ([], []), ([], []), ([5, 6], [5, 6]), ([7], [7]), ([0, 4, 8], [0, 4, 8]), ([9], [9]), ([10], [10])])
def api_Term_of_cost_normal_1_52.B17 : List Nat := [0, 0, 0, 6, 14, 0, 0, 96, 224, 511, 1023, 2047]
theorem api_Term_of_cost_normal_1_52.tab17 : rtab .any (opsOf Try.f52 17) = api_Term_of_cost_normal_1_52.T17 := by kernel_rfl
theorem api_Term_of_cost_normal_1_52.bits17 : waitsOk api_Term_of_cost_normal_1_52.T17.2 api_Term_of_cost_normal_1_52.B17 = true := by kernel_rfl
def api_Term_of_cost_normal_1_52.T35 : Bool × List (List Nat × List Nat) := (true, [([], []), ([], []), ([], []), ([], []), ([2, 3], [2, 3]), ([1, 4], [1, 4]), ([5], [5]), ([], []), ([], []), ([7, 8], [7, 8]), ([9], [9]), ([0, 6, 10], [0, 6, 10]), ([11], [11]), ([12], [12])])
def api_Term_of_cost_normal_1_52.B35 : List Nat := [0, 0, 0, 0, 12, 30, 62, 0, 0, 384, 896, 2047, 4095, 8191]
theorem api_Term_of_cost_normal_1_52.tab35 : rtab .any (opsOf Try.f52 35) = api_Term_of_cost_normal_1_52.T35 := by kernel_rfl
theorem api_Term_of_cost_normal_1_52.bits35 : waitsOk api_Term_of_cost_normal_1_52.T35.2 api_Term_of_cost_normal_1_52.B35 = true := by kernel_rfl
set_option maxHeartbeats 8000000 in
set_option maxRecDepth 100000 in
theorem api_Term_of_cost_normal_1_52.case1 (W0_ : World) (okE_ : Nat → Prop) (k : Nat) (P0_ : Nat → Prop) (u9000_ : Value) (l0 : List (S39)) (a1 : Int) (a2 : Int) (a3 : Int)  (r : List (S39)) (w0 w : World) (hW_ : Keeps W0_ w okE_) (hZ_ : W0_.heap.size ≤ w.heap.size) (hD_ : ∀ k_, okE_ k_ → k_ < W0_.heap.size → ¬ P0_ k_) (HO0 : Aside0 (Kd.R (kG W0_ okE_) 39 w w0.heap.size (fun k_ => (P0_ k_ ∨ w.heap.size ≤ k_)) u9000_ l0)) (HK : Aside0 (Kept w w (fun k_ => P0_ k_))) (HW0 : Aside0 (w0.heap.size ≤ w.heap.size)) (HB : Aside0 (Below w0.heap.size w0 w)) (H : (if (wrap64 (a2 - a1)) = 1 then (api_Term_of_cost_normal_1_52.l0 k l0 a1 a2 a3) else (if (wrap64 (a3 - a2)) = 1 then (api_Term_of_cost_normal_1_52.l2 k l0 a2 a1 a2) else (if a2 > (wrap64 ((IntKind.u64.wrap (wrap64 (a1 + a3))) / 2)) then (api_Term_of_cost_normal_1_52.j4 k l0 a1 a2 a3 (wrap64 ((IntKind.u64.wrap (wrap64 (a1 + a3))) / 2)) (wrap64 ((wrap64 ((IntKind.u64.wrap (wrap64 (a1 + a3))) / 2)) + a2)) (wrap64 ((wrap64 ((wrap64 ((IntKind.u64.wrap (wrap64 (a1 + a3))) / 2)) + a2)) - a3)) (wrap64 ((IntKind.u64.wrap (wrap64 (a1 + a3))) / 2))) else (api_Term_of_cost_normal_1_52.j4 k l0 a1 a2 a3 (wrap64 ((IntKind.u64.wrap (wrap64 (a1 + a3))) / 2)) (wrap64 ((wrap64 ((IntKind.u64.wrap (wrap64 (a1 + a3))) / 2)) + a2)) a1 a2)))) = some r) (c6 : (wrap64 (a2 - a1)) = 1) :
    Calls Try.prog 52 #[u9000_, .int .i64 a1, .int .i64 a2, .int .i64 a3, .func (.func 41) #[] #[]] w fun e w' => e = .returned (.tuple #[]) ∧ Kd.R (kG W0_ okE_) 39 w' w0.heap.size (fun k_ => (P0_ k_ ∨ w.heap.size ≤ k_)) u9000_ r ∧ Below w0.heap.size w0 w' ∧ Kept w w' (fun k_ => P0_ k_) := by
    have hu39 := Try.underlying39
    rw [if_pos c6] at H
    have c6b0 : ((wrap64 (a2 - a1)) == 1) = true := beq_iff_eq.mpr c6
    have c6b1 : ((wrap64 (a2 - a1)) != 1) = false := bne_eq_false_iff_eq.mpr c6
    clear c6
    have H' := am H
    clear H
    go_enter Try.func52, Try.ntmps52
    go_wp2
    go_loopg [10, 11] k (fun kq v10 v11 w' => ∃ (x10_1 : Int) (x11_1 : Int), v10 = .int .i64 x10_1 ∧ v11 = .int .i64 x11_1 ∧ Aside0 (api_Term_of_cost_normal_1_52.l0 kq l0 a1 x10_1 x11_1 = some r) ∧ Aside0 (kq ≤ k) ∧ Aside0 (Kd.R (kG W0_ okE_) 39 w' w0.heap.size (fun k_ => (P0_ k_ ∨ w.heap.size ≤ k_)) u9000_ l0) ∧ Aside0 (Kept w w' (fun k_ => P0_ k_)) ∧ Aside0 (Below w0.heap.size w0 w'))
    case atStart => exact ⟨(a2), (a3), (by rfl), (by rfl), H', ⟨Nat.le_refl _⟩, ⟨by exact HO0.out⟩, ⟨by exact HK.out⟩, ⟨by exact HB.out⟩⟩
    case round =>
      clear H'
      try clear c6b0
      try clear c6b1
      obtain ⟨x10_1, x11_1, rfl, rfl, HA, HK1, HO_0, HK, HB⟩ := hrel
      cases gk with
      | zero => exact absurd HA.out (by simp [api_Term_of_cost_normal_1_52.l0])
      | succ k1 =>
        have H := HA.out
        clear HA
        simp only [api_Term_of_cost_normal_1_52.l0] at H
        by_cases c7 : x10_1 < x11_1
        · rw [if_pos c7] at H
          have c7b0 : decide (x10_1 < x11_1) = true := decide_eq_true c7
          clear c7
          obtain ⟨ji8, hji8⟩ : ∃ j_ : Int, (wrap64 ((IntKind.u64.wrap (wrap64 (x10_1 + x11_1))) / 2)) = j_ := ⟨_, rfl⟩
          replace H : (if 0 ≤ (ji8) then (if (ji8) < (l0.length : Int) then (if 0 ≤ a1 then (if a1 < (l0.length : Int) then ((cost_normal_1.f k1 ((rd_T39 l0 (ji8)).f0) ((rd_T39 l0 (ji8)).f1) ((rd_T39 l0 a1).f0) ((rd_T39 l0 a1).f1)).bind fun t130 => (if t130 < 0 then (api_Term_of_cost_normal_1_52.l0 k1 l0 a1 (wrap64 ((ji8) + 1)) x11_1) else (api_Term_of_cost_normal_1_52.l0 k1 l0 a1 x10_1 ji8))) else (none)) else (none)) else (none)) else (none)) = some r := by (rw [hji8] at H; exact H)
          have hji8w : (IntKind.i64.wrap ((IntKind.u64.wrap (wrap64 (x10_1 + x11_1))) / 2)) = ji8 := (i64_w _).trans hji8
          replace H := its H
          obtain ⟨c9, H⟩ := H
          have c9b0 : decide (0 ≤ (ji8)) = true := decide_eq_true c9
          clear c9
          replace H := its H
          obtain ⟨c10, H⟩ := H
          have c10b0 : decide ((ji8) < (l0.length : Int)) = true := decide_eq_true c10
          clear c10
          replace H := its H
          obtain ⟨c11, H⟩ := H
          have c11b0 : decide (0 ≤ a1) = true := decide_eq_true c11
          clear c11
          replace H := its H
          obtain ⟨c12, H⟩ := H
          have c12b0 : decide (a1 < (l0.length : Int)) = true := decide_eq_true c12
          clear c12
          replace H := Option.bind_eq_some_iff.mp H
          obtain ⟨t130, A130, H⟩ := H
          replace H : (if t130 < 0 then (api_Term_of_cost_normal_1_52.l0 k1 l0 a1 (wrap64 ((ji8) + 1)) x11_1) else (api_Term_of_cost_normal_1_52.l0 k1 l0 a1 x10_1 ji8)) = some r := H
          have A13 := am A130
          clear A130
          by_cases c14 : t130 < 0
          · rw [if_pos c14] at H
            have c14b0 : decide (t130 < 0) = true := decide_eq_true c14
            clear c14
            have H' := am H
            clear H
            try go_wp2
            have n0_ := am (Kd.R_drew HO_0.out)
            have n1_ := am (Kept.drew HK.out)
            have n2_ := am (below_drew1 HB.out)
            clear HO_0
            clear HK
            clear HB
            have HO_0 := n0_
            have HK := n1_
            have HB := n2_
            clear n0_ n1_ n2_
            obtain ⟨Ao16, co16, eo16⟩ := Kd.R_slice HO_0.out
            (subst eo16)
            have p128 : 0 ≤ ((ji8) : Int) := of_decide_eq_true (by (with_reducible assumption))
            have q128 : (ji8) < (l0.length : Int) := of_decide_eq_true (by (with_reducible assumption))
            obtain ⟨ad128, A128_1, c128_1, e128, hx128_0, hx128_1, hl128_1, hi128_1⟩ := at_G (hW_.trans hZ_ HK.out hD_) (Kd.R_reads' HO_0.out).2.2 (ji8) p128 q128
            cases e128
            have HL128_1 := am (nilLike HO_0.out)
            have HR128_1 := am hi128_1
            have HC128_1 := am hl128_1
            clear hi128_1 hl128_1
            replace p128 := eq_true p128
            replace q128 := eq_true q128
            have p129 : 0 ≤ (a1 : Int) := of_decide_eq_true (by (with_reducible assumption))
            have q129 : a1 < (l0.length : Int) := of_decide_eq_true (by (with_reducible assumption))
            obtain ⟨ad129, A129_1, c129_1, e129, hx129_0, hx129_1, hl129_1, hi129_1⟩ := at_G (hW_.trans hZ_ HK.out hD_) (Kd.R_reads' HO_0.out).2.2 a1 p129 q129
            obtain rfl : ad128 = ad129 := (by injection e129)
            have HL129_1 := am (nilLike HO_0.out)
            have HR129_1 := am hi129_1
            have HC129_1 := am hl129_1
            clear hi129_1 hl129_1
            replace p129 := eq_true p129
            replace q129 := eq_true q129
            refine start_ (n := 11) (S := fun w' => w'.cell? (ad128.add (((ji8)).toNat * 2)) = some (.int .u64 ((rd_T39 l0 (ji8)).f0)) ∧ w'.cell? ⟨(ad128.add (((ji8)).toNat * 2)).block, (ad128.add (((ji8)).toNat * 2)).off + 1, none⟩ = some (.slice A128_1 ((rd_T39 l0 (ji8)).f1).length c128_1) ∧ w'.cell? (ad128.add ((a1).toNat * 2)) = some (.int .u64 ((rd_T39 l0 a1).f0)) ∧ w'.cell? ⟨(ad128.add ((a1).toNat * 2)).block, (ad128.add ((a1).toNat * 2)).off + 1, none⟩ = some (.slice A129_1 ((rd_T39 l0 a1).f1).length c129_1)) (ds := []) #[false, false, false, false, false, false, false, false, false, false, false] (by kernel_rfl) rfl rfl ⟨hx128_0, hx128_1, hx129_0, hx129_1⟩ (fun hHeld => ?_); refine with_tabW api_Term_of_cost_normal_1_52.tab5 api_Term_of_cost_normal_1_52.bits5 (fun HT_ HW_ => ?_)
            generalize wr.drew = w15 at HO_0 HK HB HL128_1 HL129_1 HR128_1 HR129_1 hx128_0 hx128_1 hx129_0 hx129_1 hHeld ⊢
            refine pu HT_ (v := ?_) (a' := ?_) 0 40 rfl rfl (by kernel_rfl) (fun _ _ _ h => h) (Or.inl ⟨by rfl, ?_⟩) ?_ ?_
            rotate_left
            · intro w'
              go_simp
              with_reducible rfl
            rotate_left
            · simp only [Act.put, sa, sb, sc, i64_w, i32_w]
              rfl
            refine pu HT_ (v := ?_) (a' := ?_) 1 41 rfl rfl (by kernel_rfl) (fun _ _ _ h => h) (Or.inl ⟨by rfl, ?_⟩) ?_ ?_
            rotate_left
            · intro w'
              go_simp
              with_reducible rfl
            rotate_left
            · simp only [Act.put, sa, sb, sc, i64_w, i32_w]
              rfl
            refine pu HT_ (v := ?_) (a' := ?_) 2 42 rfl rfl (by kernel_rfl) (fun _ _ _ h => h) (Or.inl ⟨by rfl, ?_⟩) ?_ ?_
            rotate_left
            · intro w'
              go_simp
              with_reducible rfl
            rotate_left
            · simp only [Act.put, sa, sb, sc, i64_w, i32_w]
              rfl
            refine pu HT_ (v := ?_) (a' := ?_) 3 43 rfl rfl (by kernel_rfl) (fun _ _ _ h => h) (Or.inl ⟨by rfl, ?_⟩) ?_ ?_
            rotate_left
            · intro w'
              go_simp
              with_reducible rfl
            rotate_left
            · simp only [Act.put, sa, sb, sc, i64_w, i32_w]
              rfl
            refine pu HT_ (v := ?_) (a' := ?_) 5 45 rfl rfl (by kernel_rfl) (fun _ _ _ h => h) (Or.inl ⟨by rfl, ?_⟩) ?_ ?_
            rotate_left
            · intro w'
              go_simp
              with_reducible rfl
            rotate_left
            · simp only [Act.put, sa, sb, sc, i64_w, i32_w]
              rfl
            refine pu HT_ (v := ?_) (a' := ?_) 6 46 rfl rfl (by kernel_rfl) (fun _ _ _ h => h) (Or.inl ⟨by rfl, ?_⟩) ?_ ?_
            rotate_left
            · intro w'
              go_simp
              with_reducible rfl
            rotate_left
            · simp only [Act.put, sa, sb, sc, i64_w, i32_w]
              rfl
            refine pu HT_ (v := ?_) (a' := ?_) 7 47 rfl rfl (by kernel_rfl) (fun _ _ _ h => h) (Or.inl ⟨by rfl, ?_⟩) ?_ ?_
            rotate_left
            · intro w'
              go_simp
              with_reducible rfl
            rotate_left
            · simp only [Act.put, sa, sb, sc, i64_w, i32_w]
              rfl
            refine take_ (i := 4) (N := some 44) (v := ?_) (a' := ?_) #[true, true, true, true, true, true, true, true, false, false, false] rfl rfl (take_ofW HT_.out HW_.out (by kernel_rfl)) (fun _ _ _ h => h) (Or.inl ⟨by rfl, ?_⟩) hHeld ?_ ?_
            rotate_left
            · rintro w' ⟨s0, s1, s2, s3⟩
              go_simp
              with_reducible rfl
            rotate_left
            · simp only [Act.put, sa, sb, sc, i64_w, i32_w]
              rfl
            refine take_ (i := 8) (N := some 48) (v := ?_) (a' := ?_) #[true, true, true, true, true, true, true, true, true, false, false] rfl rfl (take_ofW HT_.out HW_.out (by kernel_rfl)) (fun _ _ _ h => h) (Or.inl ⟨by rfl, ?_⟩) hHeld ?_ ?_
            rotate_left
            · rintro w' ⟨s0, s1, s2, s3⟩
              go_simp
              with_reducible rfl
            rotate_left
            · simp only [Act.put, sa, sb, sc, i64_w, i32_w]
              rfl
            refine one_ (i := 9) (N := some 49) #[true, true, true, true, true, true, true, true, true, true, false] rfl rfl (one_of HT_.out (by kernel_rfl)) (by decide) (fun K hK => ?_)
            refine goesT_ Try.func41 (by kernel_rfl) rfl #[.agg #[.int .u64 ((rd_T39 l0 (ji8)).f0), .slice A128_1 ((rd_T39 l0 (ji8)).f1).length c128_1], .agg #[.int .u64 ((rd_T39 l0 a1).f0), .slice A129_1 ((rd_T39 l0 a1).f1).length c129_1]] (by rfl) rfl rfl (by rfl) (by (try simp only [List.map_toArray, List.map_cons, List.map_nil]); rfl) ?_
            with_reducible refine (cost_normal_1.calls k1 ((rd_T39 l0 (ji8)).f0) _ _ ((rd_T39 l0 (ji8)).f1) ((rd_T39 l0 a1).f0) _ _ ((rd_T39 l0 a1).f1) t130 _ ?side1 ?side2 ?side3 ?side4 A13.out).mono ?_
            (case side1 => exact HR128_1.out)
            (case side2 => exact HC128_1.out)
            (case side3 => exact HR129_1.out)
            (case side4 => exact HC129_1.out)
            rintro e w17 ⟨rfl, hb⟩
            have HS0_ := (hb.cell (World.block_lt_of_cell? _ _ (hHeld.1))).trans (hHeld.1)
            have HS1_ := (hb.cell (World.block_lt_of_cell? _ _ (hHeld.2.1))).trans (hHeld.2.1)
            have HS2_ := (hb.cell (World.block_lt_of_cell? _ _ (hHeld.2.2.1))).trans (hHeld.2.2.1)
            have HS3_ := (hb.cell (World.block_lt_of_cell? _ _ (hHeld.2.2.2))).trans (hHeld.2.2.2)
            refine ⟨_, rfl, ?_⟩
            have n0_ := am (Kd.R_below HO_0.out hb)
            have n1_ := am (Kd.R_below HL128_1.out hb)
            have n2_ := am (Kd.R_below HL129_1.out hb)
            have n3_ := am (Kd.C_below HR128_1.out hb)
            have n4_ := am (Kd.C_below HR129_1.out hb)
            have n5_ := am (Kept.below (S := (fun k_ => P0_ k_)) HK.out hb)
            have n6_ := am (below_step HB.out hb)
            clear HO_0
            clear HL128_1
            clear HL129_1
            clear HR128_1
            clear HR129_1
            clear HK
            clear HB
            have HO_0 := n0_
            have HL128_1 := n1_
            have HL129_1 := n2_
            have HR128_1 := n3_
            have HR129_1 := n4_
            have HK := n5_
            have HB := n6_
            clear n0_ n1_ n2_ n3_ n4_ n5_ n6_
            (try clear hb)
            refine hK.out _ _ ⟨HS0_, HS1_, HS2_, HS3_⟩ (fun hHeld => ?_)
            clear hK K
            refine norm_ (a' := ?_) ?_ ?_
            rotate_left
            · show Act.put _ (some 49) _ = _
              simp only [Act.put, sa, sb, sc, i64_w, i32_w]
              rfl
            refine pu HT_ (v := ?_) (a' := ?_) 10 50 rfl rfl (by kernel_rfl) (fun _ _ _ h => h) (Or.inl ⟨by rfl, ?_⟩) ?_ ?_
            rotate_left
            · intro w'
              go_simp
              with_reducible rfl
            rotate_left
            · simp only [Act.put, sa, sb, sc, i64_w, i32_w]
              rfl
            refine done_ (done_of HT_.out (by kernel_rfl)) ?_
            try go_wp2
            go_roundg k1
            case measure => have := HK1.out; omega
            case rel => exact ⟨(wrap64 ((ji8) + 1)), (x11_1), (by rfl), (by rfl), H', ⟨by have := HK1.out; omega⟩, ⟨by exact HO_0.out⟩, ⟨by exact HK.out⟩, ⟨by exact HB.out⟩⟩
          · rw [if_neg c14] at H
            have c14b0 : decide (t130 < 0) = false := decide_eq_false c14
            clear c14
            have H' := am H
            clear H
            try go_wp2
            have n0_ := am (Kd.R_drew HO_0.out)
            have n1_ := am (Kept.drew HK.out)
            have n2_ := am (below_drew1 HB.out)
            clear HO_0
            clear HK
            clear HB
            have HO_0 := n0_
            have HK := n1_
            have HB := n2_
            clear n0_ n1_ n2_
            obtain ⟨Ao19, co19, eo19⟩ := Kd.R_slice HO_0.out
            (subst eo19)
            have p128 : 0 ≤ ((ji8) : Int) := of_decide_eq_true (by (with_reducible assumption))
            have q128 : (ji8) < (l0.length : Int) := of_decide_eq_true (by (with_reducible assumption))
            obtain ⟨ad128, A128_1, c128_1, e128, hx128_0, hx128_1, hl128_1, hi128_1⟩ := at_G (hW_.trans hZ_ HK.out hD_) (Kd.R_reads' HO_0.out).2.2 (ji8) p128 q128
            cases e128
            have HL128_1 := am (nilLike HO_0.out)
            have HR128_1 := am hi128_1
            have HC128_1 := am hl128_1
            clear hi128_1 hl128_1
            replace p128 := eq_true p128
            replace q128 := eq_true q128
            have p129 : 0 ≤ (a1 : Int) := of_decide_eq_true (by (with_reducible assumption))
            have q129 : a1 < (l0.length : Int) := of_decide_eq_true (by (with_reducible assumption))
            obtain ⟨ad129, A129_1, c129_1, e129, hx129_0, hx129_1, hl129_1, hi129_1⟩ := at_G (hW_.trans hZ_ HK.out hD_) (Kd.R_reads' HO_0.out).2.2 a1 p129 q129
            obtain rfl : ad128 = ad129 := (by injection e129)
            have HL129_1 := am (nilLike HO_0.out)
            have HR129_1 := am hi129_1
            have HC129_1 := am hl129_1
            clear hi129_1 hl129_1
            replace p129 := eq_true p129
            replace q129 := eq_true q129
            refine start_ (n := 11) (S := fun w' => w'.cell? (ad128.add (((ji8)).toNat * 2)) = some (.int .u64 ((rd_T39 l0 (ji8)).f0)) ∧ w'.cell? ⟨(ad128.add (((ji8)).toNat * 2)).block, (ad128.add (((ji8)).toNat * 2)).off + 1, none⟩ = some (.slice A128_1 ((rd_T39 l0 (ji8)).f1).length c128_1) ∧ w'.cell? (ad128.add ((a1).toNat * 2)) = some (.int .u64 ((rd_T39 l0 a1).f0)) ∧ w'.cell? ⟨(ad128.add ((a1).toNat * 2)).block, (ad128.add ((a1).toNat * 2)).off + 1, none⟩ = some (.slice A129_1 ((rd_T39 l0 a1).f1).length c129_1)) (ds := []) #[false, false, false, false, false, false, false, false, false, false, false] (by kernel_rfl) rfl rfl ⟨hx128_0, hx128_1, hx129_0, hx129_1⟩ (fun hHeld => ?_); refine with_tabW api_Term_of_cost_normal_1_52.tab5 api_Term_of_cost_normal_1_52.bits5 (fun HT_ HW_ => ?_)
            generalize wr.drew = w18 at HO_0 HK HB HL128_1 HL129_1 HR128_1 HR129_1 hx128_0 hx128_1 hx129_0 hx129_1 hHeld ⊢
            refine pu HT_ (v := ?_) (a' := ?_) 0 40 rfl rfl (by kernel_rfl) (fun _ _ _ h => h) (Or.inl ⟨by rfl, ?_⟩) ?_ ?_
            rotate_left
            · intro w'
              go_simp
              with_reducible rfl
            rotate_left
            · simp only [Act.put, sa, sb, sc, i64_w, i32_w]
              rfl
            refine pu HT_ (v := ?_) (a' := ?_) 1 41 rfl rfl (by kernel_rfl) (fun _ _ _ h => h) (Or.inl ⟨by rfl, ?_⟩) ?_ ?_
            rotate_left
            · intro w'
              go_simp
              with_reducible rfl
            rotate_left
            · simp only [Act.put, sa, sb, sc, i64_w, i32_w]
              rfl
            refine pu HT_ (v := ?_) (a' := ?_) 2 42 rfl rfl (by kernel_rfl) (fun _ _ _ h => h) (Or.inl ⟨by rfl, ?_⟩) ?_ ?_
            rotate_left
            · intro w'
              go_simp
              with_reducible rfl
            rotate_left
            · simp only [Act.put, sa, sb, sc, i64_w, i32_w]
              rfl
            refine pu HT_ (v := ?_) (a' := ?_) 3 43 rfl rfl (by kernel_rfl) (fun _ _ _ h => h) (Or.inl ⟨by rfl, ?_⟩) ?_ ?_
            rotate_left
            · intro w'
              go_simp
              with_reducible rfl
            rotate_left
            · simp only [Act.put, sa, sb, sc, i64_w, i32_w]
              rfl
            refine pu HT_ (v := ?_) (a' := ?_) 5 45 rfl rfl (by kernel_rfl) (fun _ _ _ h => h) (Or.inl ⟨by rfl, ?_⟩) ?_ ?_
            rotate_left
            · intro w'
              go_simp
              with_reducible rfl
            rotate_left
            · simp only [Act.put, sa, sb, sc, i64_w, i32_w]
              rfl
            refine pu HT_ (v := ?_) (a' := ?_) 6 46 rfl rfl (by kernel_rfl) (fun _ _ _ h => h) (Or.inl ⟨by rfl, ?_⟩) ?_ ?_
            rotate_left
            · intro w'
              go_simp
              with_reducible rfl
            rotate_left
            · simp only [Act.put, sa, sb, sc, i64_w, i32_w]
              rfl
            refine pu HT_ (v := ?_) (a' := ?_) 7 47 rfl rfl (by kernel_rfl) (fun _ _ _ h => h) (Or.inl ⟨by rfl, ?_⟩) ?_ ?_
            rotate_left
            · intro w'
              go_simp
              with_reducible rfl
            rotate_left
            · simp only [Act.put, sa, sb, sc, i64_w, i32_w]
              rfl
            refine take_ (i := 4) (N := some 44) (v := ?_) (a' := ?_) #[true, true, true, true, true, true, true, true, false, false, false] rfl rfl (take_ofW HT_.out HW_.out (by kernel_rfl)) (fun _ _ _ h => h) (Or.inl ⟨by rfl, ?_⟩) hHeld ?_ ?_
            rotate_left
            · rintro w' ⟨s0, s1, s2, s3⟩
              go_simp
              with_reducible rfl
            rotate_left
            · simp only [Act.put, sa, sb, sc, i64_w, i32_w]
              rfl
            refine take_ (i := 8) (N := some 48) (v := ?_) (a' := ?_) #[true, true, true, true, true, true, true, true, true, false, false] rfl rfl (take_ofW HT_.out HW_.out (by kernel_rfl)) (fun _ _ _ h => h) (Or.inl ⟨by rfl, ?_⟩) hHeld ?_ ?_
            rotate_left
            · rintro w' ⟨s0, s1, s2, s3⟩
              go_simp
              with_reducible rfl
            rotate_left
            · simp only [Act.put, sa, sb, sc, i64_w, i32_w]
              rfl
            refine one_ (i := 9) (N := some 49) #[true, true, true, true, true, true, true, true, true, true, false] rfl rfl (one_of HT_.out (by kernel_rfl)) (by decide) (fun K hK => ?_)
            refine goesT_ Try.func41 (by kernel_rfl) rfl #[.agg #[.int .u64 ((rd_T39 l0 (ji8)).f0), .slice A128_1 ((rd_T39 l0 (ji8)).f1).length c128_1], .agg #[.int .u64 ((rd_T39 l0 a1).f0), .slice A129_1 ((rd_T39 l0 a1).f1).length c129_1]] (by rfl) rfl rfl (by rfl) (by (try simp only [List.map_toArray, List.map_cons, List.map_nil]); rfl) ?_
            with_reducible refine (cost_normal_1.calls k1 ((rd_T39 l0 (ji8)).f0) _ _ ((rd_T39 l0 (ji8)).f1) ((rd_T39 l0 a1).f0) _ _ ((rd_T39 l0 a1).f1) t130 _ ?side1 ?side2 ?side3 ?side4 A13.out).mono ?_
            (case side1 => exact HR128_1.out)
            (case side2 => exact HC128_1.out)
            (case side3 => exact HR129_1.out)
            (case side4 => exact HC129_1.out)
            rintro e w20 ⟨rfl, hb⟩
            have HS0_ := (hb.cell (World.block_lt_of_cell? _ _ (hHeld.1))).trans (hHeld.1)
            have HS1_ := (hb.cell (World.block_lt_of_cell? _ _ (hHeld.2.1))).trans (hHeld.2.1)
            have HS2_ := (hb.cell (World.block_lt_of_cell? _ _ (hHeld.2.2.1))).trans (hHeld.2.2.1)
            have HS3_ := (hb.cell (World.block_lt_of_cell? _ _ (hHeld.2.2.2))).trans (hHeld.2.2.2)
            refine ⟨_, rfl, ?_⟩
            have n0_ := am (Kd.R_below HO_0.out hb)
            have n1_ := am (Kd.R_below HL128_1.out hb)
            have n2_ := am (Kd.R_below HL129_1.out hb)
            have n3_ := am (Kd.C_below HR128_1.out hb)
            have n4_ := am (Kd.C_below HR129_1.out hb)
            have n5_ := am (Kept.below (S := (fun k_ => P0_ k_)) HK.out hb)
            have n6_ := am (below_step HB.out hb)
            clear HO_0
            clear HL128_1
            clear HL129_1
            clear HR128_1
            clear HR129_1
            clear HK
            clear HB
            have HO_0 := n0_
            have HL128_1 := n1_
            have HL129_1 := n2_
            have HR128_1 := n3_
            have HR129_1 := n4_
            have HK := n5_
            have HB := n6_
            clear n0_ n1_ n2_ n3_ n4_ n5_ n6_
            (try clear hb)
            refine hK.out _ _ ⟨HS0_, HS1_, HS2_, HS3_⟩ (fun hHeld => ?_)
            clear hK K
            refine norm_ (a' := ?_) ?_ ?_
            rotate_left
            · show Act.put _ (some 49) _ = _
              simp only [Act.put, sa, sb, sc, i64_w, i32_w]
              rfl
            refine pu HT_ (v := ?_) (a' := ?_) 10 50 rfl rfl (by kernel_rfl) (fun _ _ _ h => h) (Or.inl ⟨by rfl, ?_⟩) ?_ ?_
            rotate_left
            · intro w'
              go_simp
              with_reducible rfl
            rotate_left
            · simp only [Act.put, sa, sb, sc, i64_w, i32_w]
              rfl
            refine done_ (done_of HT_.out (by kernel_rfl)) ?_
            try go_wp2
            go_roundg k1
            case measure => have := HK1.out; omega
            case rel => exact ⟨(x10_1), (ji8), (by rfl), (by rfl), H', ⟨by have := HK1.out; omega⟩, ⟨by exact HO_0.out⟩, ⟨by exact HK.out⟩, ⟨by exact HB.out⟩⟩
        · rw [if_neg c7] at H
          have c7b0 : decide (x10_1 < x11_1) = false := decide_eq_false c7
          clear c7
          have H' := am H
          clear H
          go_wp2
          go_loopg [13] k1 (fun kq v13 w' => ∃ (x0_2 : List (S39)) (x13_2 : Int), v13 = .int .i64 x13_2 ∧ Aside0 (api_Term_of_cost_normal_1_52.l1 kq x0_2 x10_1 x13_2 = some r) ∧ Aside0 (kq ≤ k1) ∧ Aside0 (Kd.R (kG W0_ okE_) 39 w' w0.heap.size (fun k_ => (P0_ k_ ∨ w.heap.size ≤ k_)) u9000_ x0_2) ∧ Aside0 (Kept w w' (fun k_ => P0_ k_)) ∧ Aside0 (Below w0.heap.size w0 w'))
          case atStart => exact ⟨(l0), (a1), (by rfl), H', ⟨Nat.le_refl _⟩, ⟨by exact HO_0.out⟩, ⟨by exact HK.out⟩, ⟨by exact HB.out⟩⟩
          case round =>
            clear H'
            try clear c7b0
            obtain ⟨x0_2, x13_2, rfl, HA, HK2, HO_0, HK, HB⟩ := hrel
            cases gk with
            | zero => exact absurd HA.out (by simp [api_Term_of_cost_normal_1_52.l1])
            | succ k2 =>
              have H := HA.out
              clear HA
              simp only [api_Term_of_cost_normal_1_52.l1] at H
              by_cases c21 : x13_2 < (wrap64 (x10_1 - 1))
              · rw [if_pos c21] at H
                have c21b0 : decide (x13_2 < (wrap64 (x10_1 - 1))) = true := decide_eq_true c21
                clear c21
                replace H := Option.bind_eq_some_iff.mp H
                obtain ⟨t131, A220, H⟩ := H
                replace H : (api_Term_of_cost_normal_1_52.l1 k2 t131 x10_1 (wrap64 (x13_2 + 1))) = some r := H
                have A22 := am A220
                clear A220
                have H' := am H
                clear H
                obtain ⟨Ao23, co23, eo23⟩ := Kd.R_slice HO_0.out
                subst eo23
                have hA := A22.out
                unfold api_Term_of_cost_normal_1_54.f at hA
                have hmx : x0_2.length ≤ 9223372036854775807 := by
                  obtain ⟨A_, c_, e_, hl_, hc_⟩ := Kd.R_reads HO_0.out
                  exact hc_.2.1
                by_cases hb_ : 0 ≤ x13_2 ∧ 0 ≤ wrap64 (x13_2 + 1) ∧ (0 : Int) ≤ 1 ∧ x13_2 + 1 ≤ x0_2.length ∧ wrap64 (x13_2 + 1) + 1 ≤ x0_2.length
                rotate_left
                · unfold Mg.ex at hA
                  rw [if_neg hb_] at hA
                  cases hA
                obtain ⟨b1, b2, b3, b4, b5⟩ := hb_
                have e1 : wrap64 (x13_2 + 1) = (x13_2 + 1) := by unfold wrap64; omega
                rw [e1] at hA b2 b5
                obtain ⟨y_, hy_⟩ : ∃ y_, (x13_2 + 1) = y_ := ⟨_, rfl⟩
                rw [hy_] at hA b2 b5 e1
                have ey : wrap64 (x13_2 + 1) = y_ := by rw [hy_]; exact e1
                have ew : IntKind.i64.wrap (x13_2 + 1) = y_ := by rw [IntWalk.i64_left]; exact ey
                have ew1 : IntKind.i64.wrap y_ = y_ := by rw [IntWalk.i64_left]; exact e1
                rw [ex_one x0_2 x13_2 y_ b1 (by omega) b2 (by omega)] at hA
                have ht_ := am (Option.some.inj hA)
                obtain ⟨go1, co1, eo1, gb1, gl1, cl1, HG1⟩ := Kd.R_form HO_0.out (by omega)
                cases eo1
                obtain ⟨A1_, c1_, A2_, c2_, hx10, hx11, hx20, hx21, W1_, hW1_, hr2, hg2⟩ := G_swap HO_0.out x13_2 y_ b1 (by omega) b2 (by omega)
                rw [ht_.out] at hr2
                replace hr2 := am hr2
                replace hg2 := am hg2
                have hK2 := am (Kept.of_grown hg2.out HK.out (fun k hk => HO_0.out.1 k (by rw [← hk]; rfl)))
                have hB2 := am (HB.out.grown hg2.out HB.out.size (fun k hk => by injection hk with hk; omega))
                have cc1_ : (0 ≤ x13_2) = True := eq_true b1
                have cc2_ : (x13_2 < (x0_2.length : Int)) = True := eq_true (by omega)
                have cc3_ : (0 ≤ y_) = True := eq_true b2
                have cc4_ : (y_ < (x0_2.length : Int)) = True := eq_true (by omega)
                have n1 : x13_2.toNat * 2 ≠ y_.toNat * 2 := by omega
                have n2 : x13_2.toNat * 2 + 1 ≠ y_.toNat * 2 := by omega
                have n3 : x13_2.toNat * 2 ≠ y_.toNat * 2 + 1 := by omega
                have n4 : y_.toNat * 2 ≠ x13_2.toNat * 2 := by omega
                have n5 : y_.toNat * 2 ≠ x13_2.toNat * 2 + 1 := by omega
                have n6 : y_.toNat * 2 + 1 ≠ x13_2.toNat * 2 := by omega
                have n7 : x13_2.toNat ≠ y_.toNat := by omega
                have n8 : y_.toNat ≠ x13_2.toNat := by omega
                clear hA HO_0 HK HB b3 b5 hmx
                go_wp2
                have f0 := blk_frozen HG1 (x13_2.toNat * 2)
                have f1 := blk_frozen HG1 (x13_2.toNat * 2 + 1)
                have f2 := blk_frozen HG1 (y_.toNat * 2)
                have f3 := blk_frozen HG1 (y_.toNat * 2 + 1)
                have hy10 : wr.drew.cell? ⟨go1, x13_2.toNat * 2, none⟩ = some (.int .u64 ((rd_T39 x0_2 x13_2).f0)) := hx10
                have hy11 : wr.drew.cell? ⟨go1, x13_2.toNat * 2 + 1, none⟩ = some (.slice A1_ ((rd_T39 x0_2 x13_2).f1).length c1_) := hx11
                have hy20 : wr.drew.cell? ⟨go1, y_.toNat * 2, none⟩ = some (.int .u64 ((rd_T39 x0_2 y_).f0)) := hx20
                have hy21 : wr.drew.cell? ⟨go1, y_.toNat * 2 + 1, none⟩ = some (.slice A2_ ((rd_T39 x0_2 y_).f1).length c2_) := hx21
                have g0 : wr.drew.frozen? ⟨go1, x13_2.toNat * 2, none⟩ = false := f0
                have g1 : wr.drew.frozen? ⟨go1, x13_2.toNat * 2 + 1, none⟩ = false := f1
                have g2 : wr.drew.frozen? ⟨go1, y_.toNat * 2, none⟩ = false := f2
                have g3 : wr.drew.frozen? ⟨go1, y_.toNat * 2 + 1, none⟩ = false := f3
                go_region
                rw [hW1_.out]
                clear f0 f1 f2 f3 hy10 hy11 hy20 hy21 g0 g1 g2 g3 hx10 hx11 hx20 hx21 hW1_ HG1 n1 n2 n3 n4 n5 n6 n7 n8 cc1_ cc2_ cc3_ cc4_ ht_
                have HO_0 := hr2
                have HK := hK2
                have HB := hB2
                clear hr2 hg2 hK2 hB2
                go_wp2
                go_roundg k2
                case measure => have := HK1.out; have := HK2.out; omega
                case rel => exact ⟨(t131), (wrap64 (x13_2 + 1)), (by (simp [*]; done)), H', ⟨by have := HK1.out; have := HK2.out; omega⟩, ⟨by (with_reducible repeat (apply Kd.R_drew)); exact HO_0.out⟩, ⟨by repeat ((with_reducible first | exact HK.out | apply Kept.drew))⟩, ⟨by repeat ((with_reducible first | exact HB.out | apply below_drew1))⟩⟩
              · rw [if_neg c21] at H
                have c21b0 : decide (x13_2 < (wrap64 (x10_1 - 1))) = false := decide_eq_false c21
                clear c21
                obtain rfl := Option.some.inj H
                go_wp2
                (refine bodyPost_ret (results_none rfl _ _ _) rfl ?_)
                exact ⟨by rfl, by exact HO_0.out, by exact HB.out, by exact HK.out⟩
set_option maxHeartbeats 8000000 in
set_option maxRecDepth 100000 in
theorem api_Term_of_cost_normal_1_52.case2 (W0_ : World) (okE_ : Nat → Prop) (k : Nat) (P0_ : Nat → Prop) (u9000_ : Value) (l0 : List (S39)) (a1 : Int) (a2 : Int) (a3 : Int)  (r : List (S39)) (w0 w : World) (hW_ : Keeps W0_ w okE_) (hZ_ : W0_.heap.size ≤ w.heap.size) (hD_ : ∀ k_, okE_ k_ → k_ < W0_.heap.size → ¬ P0_ k_) (HO0 : Aside0 (Kd.R (kG W0_ okE_) 39 w w0.heap.size (fun k_ => (P0_ k_ ∨ w.heap.size ≤ k_)) u9000_ l0)) (HK : Aside0 (Kept w w (fun k_ => P0_ k_))) (HW0 : Aside0 (w0.heap.size ≤ w.heap.size)) (HB : Aside0 (Below w0.heap.size w0 w)) (H : (if (wrap64 (a2 - a1)) = 1 then (api_Term_of_cost_normal_1_52.l0 k l0 a1 a2 a3) else (if (wrap64 (a3 - a2)) = 1 then (api_Term_of_cost_normal_1_52.l2 k l0 a2 a1 a2) else (if a2 > (wrap64 ((IntKind.u64.wrap (wrap64 (a1 + a3))) / 2)) then (api_Term_of_cost_normal_1_52.j4 k l0 a1 a2 a3 (wrap64 ((IntKind.u64.wrap (wrap64 (a1 + a3))) / 2)) (wrap64 ((wrap64 ((IntKind.u64.wrap (wrap64 (a1 + a3))) / 2)) + a2)) (wrap64 ((wrap64 ((wrap64 ((IntKind.u64.wrap (wrap64 (a1 + a3))) / 2)) + a2)) - a3)) (wrap64 ((IntKind.u64.wrap (wrap64 (a1 + a3))) / 2))) else (api_Term_of_cost_normal_1_52.j4 k l0 a1 a2 a3 (wrap64 ((IntKind.u64.wrap (wrap64 (a1 + a3))) / 2)) (wrap64 ((wrap64 ((IntKind.u64.wrap (wrap64 (a1 + a3))) / 2)) + a2)) a1 a2)))) = some r) (c6 : ¬ ((wrap64 (a2 - a1)) = 1)) (c25 : (wrap64 (a3 - a2)) = 1) :
    Calls Try.prog 52 #[u9000_, .int .i64 a1, .int .i64 a2, .int .i64 a3, .func (.func 41) #[] #[]] w fun e w' => e = .returned (.tuple #[]) ∧ Kd.R (kG W0_ okE_) 39 w' w0.heap.size (fun k_ => (P0_ k_ ∨ w.heap.size ≤ k_)) u9000_ r ∧ Below w0.heap.size w0 w' ∧ Kept w w' (fun k_ => P0_ k_) := by
      have hu39 := Try.underlying39
      rw [if_neg c6] at H
      have c6b0 : ((wrap64 (a2 - a1)) == 1) = false := beq_eq_false_iff_ne.mpr c6
      have c6b1 : ((wrap64 (a2 - a1)) != 1) = true := bne_iff_ne.mpr c6
      rw [if_pos c25] at H
      have c25b0 : ((wrap64 (a3 - a2)) == 1) = true := beq_iff_eq.mpr c25
      have c25b1 : ((wrap64 (a3 - a2)) != 1) = false := bne_eq_false_iff_eq.mpr c25
      clear c25
      have H' := am H
      clear H
      go_enter Try.func52, Try.ntmps52
      go_wp2
      go_loopg [14, 15] k (fun kq v14 v15 w' => ∃ (x14_1 : Int) (x15_1 : Int), v14 = .int .i64 x14_1 ∧ v15 = .int .i64 x15_1 ∧ Aside0 (api_Term_of_cost_normal_1_52.l2 kq l0 a2 x14_1 x15_1 = some r) ∧ Aside0 (kq ≤ k) ∧ Aside0 (Kd.R (kG W0_ okE_) 39 w' w0.heap.size (fun k_ => (P0_ k_ ∨ w.heap.size ≤ k_)) u9000_ l0) ∧ Aside0 (Kept w w' (fun k_ => P0_ k_)) ∧ Aside0 (Below w0.heap.size w0 w'))
      case atStart => exact ⟨(a1), (a2), (by rfl), (by rfl), H', ⟨Nat.le_refl _⟩, ⟨by exact HO0.out⟩, ⟨by exact HK.out⟩, ⟨by exact HB.out⟩⟩
      case round =>
        clear H'
        try clear c6
        try clear c6b0
        try clear c6b1
        try clear c25b0
        try clear c25b1
        obtain ⟨x14_1, x15_1, rfl, rfl, HA, HK1, HO_0, HK, HB⟩ := hrel
        cases gk with
        | zero => exact absurd HA.out (by simp [api_Term_of_cost_normal_1_52.l2])
        | succ k1 =>
          have H := HA.out
          clear HA
          simp only [api_Term_of_cost_normal_1_52.l2] at H
          by_cases c26 : x14_1 < x15_1
          · rw [if_pos c26] at H
            have c26b0 : decide (x14_1 < x15_1) = true := decide_eq_true c26
            clear c26
            replace H := its H
            obtain ⟨c27, H⟩ := H
            have c27b0 : decide (0 ≤ a2) = true := decide_eq_true c27
            clear c27
            replace H := its H
            obtain ⟨c28, H⟩ := H
            have c28b0 : decide (a2 < (l0.length : Int)) = true := decide_eq_true c28
            clear c28
            obtain ⟨ji29, hji29⟩ : ∃ j_ : Int, (wrap64 ((IntKind.u64.wrap (wrap64 (x14_1 + x15_1))) / 2)) = j_ := ⟨_, rfl⟩
            replace H : (if 0 ≤ (ji29) then (if (ji29) < (l0.length : Int) then ((cost_normal_1.f k1 ((rd_T39 l0 a2).f0) ((rd_T39 l0 a2).f1) ((rd_T39 l0 (ji29)).f0) ((rd_T39 l0 (ji29)).f1)).bind fun t134 => (if t134 < 0 then (api_Term_of_cost_normal_1_52.l2 k1 l0 a2 x14_1 ji29) else (api_Term_of_cost_normal_1_52.l2 k1 l0 a2 (wrap64 ((ji29) + 1)) x15_1))) else (none)) else (none)) = some r := by (rw [hji29] at H; exact H)
            have hji29w : (IntKind.i64.wrap ((IntKind.u64.wrap (wrap64 (x14_1 + x15_1))) / 2)) = ji29 := (i64_w _).trans hji29
            replace H := its H
            obtain ⟨c30, H⟩ := H
            have c30b0 : decide (0 ≤ (ji29)) = true := decide_eq_true c30
            clear c30
            replace H := its H
            obtain ⟨c31, H⟩ := H
            have c31b0 : decide ((ji29) < (l0.length : Int)) = true := decide_eq_true c31
            clear c31
            replace H := Option.bind_eq_some_iff.mp H
            obtain ⟨t134, A320, H⟩ := H
            replace H : (if t134 < 0 then (api_Term_of_cost_normal_1_52.l2 k1 l0 a2 x14_1 ji29) else (api_Term_of_cost_normal_1_52.l2 k1 l0 a2 (wrap64 ((ji29) + 1)) x15_1)) = some r := H
            have A32 := am A320
            clear A320
            by_cases c33 : t134 < 0
            · rw [if_pos c33] at H
              have c33b0 : decide (t134 < 0) = true := decide_eq_true c33
              clear c33
              have H' := am H
              clear H
              try go_wp2
              have n0_ := am (Kd.R_drew HO_0.out)
              have n1_ := am (Kept.drew HK.out)
              have n2_ := am (below_drew1 HB.out)
              clear HO_0
              clear HK
              clear HB
              have HO_0 := n0_
              have HK := n1_
              have HB := n2_
              clear n0_ n1_ n2_
              obtain ⟨Ao35, co35, eo35⟩ := Kd.R_slice HO_0.out
              (subst eo35)
              have p132 : 0 ≤ (a2 : Int) := of_decide_eq_true (by (with_reducible assumption))
              have q132 : a2 < (l0.length : Int) := of_decide_eq_true (by (with_reducible assumption))
              obtain ⟨ad132, A132_1, c132_1, e132, hx132_0, hx132_1, hl132_1, hi132_1⟩ := at_G (hW_.trans hZ_ HK.out hD_) (Kd.R_reads' HO_0.out).2.2 a2 p132 q132
              cases e132
              have HL132_1 := am (nilLike HO_0.out)
              have HR132_1 := am hi132_1
              have HC132_1 := am hl132_1
              clear hi132_1 hl132_1
              replace p132 := eq_true p132
              replace q132 := eq_true q132
              have p133 : 0 ≤ ((ji29) : Int) := of_decide_eq_true (by (with_reducible assumption))
              have q133 : (ji29) < (l0.length : Int) := of_decide_eq_true (by (with_reducible assumption))
              obtain ⟨ad133, A133_1, c133_1, e133, hx133_0, hx133_1, hl133_1, hi133_1⟩ := at_G (hW_.trans hZ_ HK.out hD_) (Kd.R_reads' HO_0.out).2.2 (ji29) p133 q133
              obtain rfl : ad132 = ad133 := (by injection e133)
              have HL133_1 := am (nilLike HO_0.out)
              have HR133_1 := am hi133_1
              have HC133_1 := am hl133_1
              clear hi133_1 hl133_1
              replace p133 := eq_true p133
              replace q133 := eq_true q133
              refine start_ (n := 12) (S := fun w' => w'.cell? (ad132.add ((a2).toNat * 2)) = some (.int .u64 ((rd_T39 l0 a2).f0)) ∧ w'.cell? ⟨(ad132.add ((a2).toNat * 2)).block, (ad132.add ((a2).toNat * 2)).off + 1, none⟩ = some (.slice A132_1 ((rd_T39 l0 a2).f1).length c132_1) ∧ w'.cell? (ad132.add (((ji29)).toNat * 2)) = some (.int .u64 ((rd_T39 l0 (ji29)).f0)) ∧ w'.cell? ⟨(ad132.add (((ji29)).toNat * 2)).block, (ad132.add (((ji29)).toNat * 2)).off + 1, none⟩ = some (.slice A133_1 ((rd_T39 l0 (ji29)).f1).length c133_1)) (ds := []) #[false, false, false, false, false, false, false, false, false, false, false, false] (by kernel_rfl) rfl rfl ⟨hx132_0, hx132_1, hx133_0, hx133_1⟩ (fun hHeld => ?_); refine with_tabW api_Term_of_cost_normal_1_52.tab17 api_Term_of_cost_normal_1_52.bits17 (fun HT_ HW_ => ?_)
              generalize wr.drew = w34 at HO_0 HK HB HL132_1 HL133_1 HR132_1 HR133_1 hx132_0 hx132_1 hx133_0 hx133_1 hHeld ⊢
              refine pu HT_ (v := ?_) (a' := ?_) 0 92 rfl rfl (by kernel_rfl) (fun _ _ _ h => h) (Or.inl ⟨by rfl, ?_⟩) ?_ ?_
              rotate_left
              · intro w'
                go_simp
                with_reducible rfl
              rotate_left
              · simp only [Act.put, sa, sb, sc, i64_w, i32_w]
                rfl
              refine pu HT_ (v := ?_) (a' := ?_) 1 93 rfl rfl (by kernel_rfl) (fun _ _ _ h => h) (Or.inl ⟨by rfl, ?_⟩) ?_ ?_
              rotate_left
              · intro w'
                go_simp
                with_reducible rfl
              rotate_left
              · simp only [Act.put, sa, sb, sc, i64_w, i32_w]
                rfl
              refine pu HT_ (v := ?_) (a' := ?_) 2 94 rfl rfl (by kernel_rfl) (fun _ _ _ h => h) (Or.inl ⟨by rfl, ?_⟩) ?_ ?_
              rotate_left
              · intro w'
                go_simp
                with_reducible rfl
              rotate_left
              · simp only [Act.put, sa, sb, sc, i64_w, i32_w]
                rfl
              refine pu HT_ (v := ?_) (a' := ?_) 3 95 rfl rfl (by kernel_rfl) (fun _ _ _ h => h) (Or.inl ⟨by rfl, ?_⟩) ?_ ?_
              rotate_left
              · intro w'
                go_simp
                with_reducible rfl
              rotate_left
              · simp only [Act.put, sa, sb, sc, i64_w, i32_w]
                rfl
              refine pu HT_ (v := ?_) (a' := ?_) 5 97 rfl rfl (by kernel_rfl) (fun _ _ _ h => h) (Or.inl ⟨by rfl, ?_⟩) ?_ ?_
              rotate_left
              · intro w'
                go_simp
                with_reducible rfl
              rotate_left
              · simp only [Act.put, sa, sb, sc, i64_w, i32_w]
                rfl
              refine pu HT_ (v := ?_) (a' := ?_) 6 98 rfl rfl (by kernel_rfl) (fun _ _ _ h => h) (Or.inl ⟨by rfl, ?_⟩) ?_ ?_
              rotate_left
              · intro w'
                go_simp
                with_reducible rfl
              rotate_left
              · simp only [Act.put, sa, sb, sc, i64_w, i32_w]
                rfl
              refine pu HT_ (v := ?_) (a' := ?_) 7 99 rfl rfl (by kernel_rfl) (fun _ _ _ h => h) (Or.inl ⟨by rfl, ?_⟩) ?_ ?_
              rotate_left
              · intro w'
                go_simp
                with_reducible rfl
              rotate_left
              · simp only [Act.put, sa, sb, sc, i64_w, i32_w]
                rfl
              refine take_ (i := 4) (N := some 96) (v := ?_) (a' := ?_) #[true, true, true, true, true, true, true, true, false, false, false, false] rfl rfl (take_ofW HT_.out HW_.out (by kernel_rfl)) (fun _ _ _ h => h) (Or.inl ⟨by rfl, ?_⟩) hHeld ?_ ?_
              rotate_left
              · rintro w' ⟨s0, s1, s2, s3⟩
                go_simp
                with_reducible rfl
              rotate_left
              · simp only [Act.put, sa, sb, sc, i64_w, i32_w]
                rfl
              refine take_ (i := 8) (N := some 100) (v := ?_) (a' := ?_) #[true, true, true, true, true, true, true, true, true, false, false, false] rfl rfl (take_ofW HT_.out HW_.out (by kernel_rfl)) (fun _ _ _ h => h) (Or.inl ⟨by rfl, ?_⟩) hHeld ?_ ?_
              rotate_left
              · rintro w' ⟨s0, s1, s2, s3⟩
                go_simp
                with_reducible rfl
              rotate_left
              · simp only [Act.put, sa, sb, sc, i64_w, i32_w]
                rfl
              refine one_ (i := 9) (N := some 101) #[true, true, true, true, true, true, true, true, true, true, false, false] rfl rfl (one_of HT_.out (by kernel_rfl)) (by decide) (fun K hK => ?_)
              refine goesT_ Try.func41 (by kernel_rfl) rfl #[.agg #[.int .u64 ((rd_T39 l0 a2).f0), .slice A132_1 ((rd_T39 l0 a2).f1).length c132_1], .agg #[.int .u64 ((rd_T39 l0 (ji29)).f0), .slice A133_1 ((rd_T39 l0 (ji29)).f1).length c133_1]] (by rfl) rfl rfl (by rfl) (by (try simp only [List.map_toArray, List.map_cons, List.map_nil]); rfl) ?_
              with_reducible refine (cost_normal_1.calls k1 ((rd_T39 l0 a2).f0) _ _ ((rd_T39 l0 a2).f1) ((rd_T39 l0 (ji29)).f0) _ _ ((rd_T39 l0 (ji29)).f1) t134 _ ?side1 ?side2 ?side3 ?side4 A32.out).mono ?_
              (case side1 => exact HR132_1.out)
              (case side2 => exact HC132_1.out)
              (case side3 => exact HR133_1.out)
              (case side4 => exact HC133_1.out)
              rintro e w36 ⟨rfl, hb⟩
              have HS0_ := (hb.cell (World.block_lt_of_cell? _ _ (hHeld.1))).trans (hHeld.1)
              have HS1_ := (hb.cell (World.block_lt_of_cell? _ _ (hHeld.2.1))).trans (hHeld.2.1)
              have HS2_ := (hb.cell (World.block_lt_of_cell? _ _ (hHeld.2.2.1))).trans (hHeld.2.2.1)
              have HS3_ := (hb.cell (World.block_lt_of_cell? _ _ (hHeld.2.2.2))).trans (hHeld.2.2.2)
              refine ⟨_, rfl, ?_⟩
              have n0_ := am (Kd.R_below HO_0.out hb)
              have n1_ := am (Kd.R_below HL132_1.out hb)
              have n2_ := am (Kd.R_below HL133_1.out hb)
              have n3_ := am (Kd.C_below HR132_1.out hb)
              have n4_ := am (Kd.C_below HR133_1.out hb)
              have n5_ := am (Kept.below (S := (fun k_ => P0_ k_)) HK.out hb)
              have n6_ := am (below_step HB.out hb)
              clear HO_0
              clear HL132_1
              clear HL133_1
              clear HR132_1
              clear HR133_1
              clear HK
              clear HB
              have HO_0 := n0_
              have HL132_1 := n1_
              have HL133_1 := n2_
              have HR132_1 := n3_
              have HR133_1 := n4_
              have HK := n5_
              have HB := n6_
              clear n0_ n1_ n2_ n3_ n4_ n5_ n6_
              (try clear hb)
              refine hK.out _ _ ⟨HS0_, HS1_, HS2_, HS3_⟩ (fun hHeld => ?_)
              clear hK K
              refine norm_ (a' := ?_) ?_ ?_
              rotate_left
              · show Act.put _ (some 101) _ = _
                simp only [Act.put, sa, sb, sc, i64_w, i32_w]
                rfl
              refine pu HT_ (v := ?_) (a' := ?_) 10 102 rfl rfl (by kernel_rfl) (fun _ _ _ h => h) (Or.inl ⟨by rfl, ?_⟩) ?_ ?_
              rotate_left
              · intro w'
                go_simp
                with_reducible rfl
              rotate_left
              · simp only [Act.put, sa, sb, sc, i64_w, i32_w]
                rfl
              refine pu HT_ (v := ?_) (a' := ?_) 11 103 rfl rfl (by kernel_rfl) (fun _ _ _ h => h) (Or.inl ⟨by rfl, ?_⟩) ?_ ?_
              rotate_left
              · intro w'
                go_simp
                with_reducible rfl
              rotate_left
              · simp only [Act.put, sa, sb, sc, i64_w, i32_w]
                rfl
              refine done_ (done_of HT_.out (by kernel_rfl)) ?_
              try go_wp2
              go_roundg k1
              case measure => have := HK1.out; omega
              case rel => exact ⟨(x14_1), (ji29), (by rfl), (by rfl), H', ⟨by have := HK1.out; omega⟩, ⟨by exact HO_0.out⟩, ⟨by exact HK.out⟩, ⟨by exact HB.out⟩⟩
            · rw [if_neg c33] at H
              have c33b0 : decide (t134 < 0) = false := decide_eq_false c33
              clear c33
              have H' := am H
              clear H
              try go_wp2
              have n0_ := am (Kd.R_drew HO_0.out)
              have n1_ := am (Kept.drew HK.out)
              have n2_ := am (below_drew1 HB.out)
              clear HO_0
              clear HK
              clear HB
              have HO_0 := n0_
              have HK := n1_
              have HB := n2_
              clear n0_ n1_ n2_
              obtain ⟨Ao38, co38, eo38⟩ := Kd.R_slice HO_0.out
              (subst eo38)
              have p132 : 0 ≤ (a2 : Int) := of_decide_eq_true (by (with_reducible assumption))
              have q132 : a2 < (l0.length : Int) := of_decide_eq_true (by (with_reducible assumption))
              obtain ⟨ad132, A132_1, c132_1, e132, hx132_0, hx132_1, hl132_1, hi132_1⟩ := at_G (hW_.trans hZ_ HK.out hD_) (Kd.R_reads' HO_0.out).2.2 a2 p132 q132
              cases e132
              have HL132_1 := am (nilLike HO_0.out)
              have HR132_1 := am hi132_1
              have HC132_1 := am hl132_1
              clear hi132_1 hl132_1
              replace p132 := eq_true p132
              replace q132 := eq_true q132
              have p133 : 0 ≤ ((ji29) : Int) := of_decide_eq_true (by (with_reducible assumption))
              have q133 : (ji29) < (l0.length : Int) := of_decide_eq_true (by (with_reducible assumption))
              obtain ⟨ad133, A133_1, c133_1, e133, hx133_0, hx133_1, hl133_1, hi133_1⟩ := at_G (hW_.trans hZ_ HK.out hD_) (Kd.R_reads' HO_0.out).2.2 (ji29) p133 q133
              obtain rfl : ad132 = ad133 := (by injection e133)
              have HL133_1 := am (nilLike HO_0.out)
              have HR133_1 := am hi133_1
              have HC133_1 := am hl133_1
              clear hi133_1 hl133_1
              replace p133 := eq_true p133
              replace q133 := eq_true q133
              refine start_ (n := 12) (S := fun w' => w'.cell? (ad132.add ((a2).toNat * 2)) = some (.int .u64 ((rd_T39 l0 a2).f0)) ∧ w'.cell? ⟨(ad132.add ((a2).toNat * 2)).block, (ad132.add ((a2).toNat * 2)).off + 1, none⟩ = some (.slice A132_1 ((rd_T39 l0 a2).f1).length c132_1) ∧ w'.cell? (ad132.add (((ji29)).toNat * 2)) = some (.int .u64 ((rd_T39 l0 (ji29)).f0)) ∧ w'.cell? ⟨(ad132.add (((ji29)).toNat * 2)).block, (ad132.add (((ji29)).toNat * 2)).off + 1, none⟩ = some (.slice A133_1 ((rd_T39 l0 (ji29)).f1).length c133_1)) (ds := []) #[false, false, false, false, false, false, false, false, false, false, false, false] (by kernel_rfl) rfl rfl ⟨hx132_0, hx132_1, hx133_0, hx133_1⟩ (fun hHeld => ?_); refine with_tabW api_Term_of_cost_normal_1_52.tab17 api_Term_of_cost_normal_1_52.bits17 (fun HT_ HW_ => ?_)
              generalize wr.drew = w37 at HO_0 HK HB HL132_1 HL133_1 HR132_1 HR133_1 hx132_0 hx132_1 hx133_0 hx133_1 hHeld ⊢
              refine pu HT_ (v := ?_) (a' := ?_) 0 92 rfl rfl (by kernel_rfl) (fun _ _ _ h => h) (Or.inl ⟨by rfl, ?_⟩) ?_ ?_
              rotate_left
              · intro w'
                go_simp
                with_reducible rfl
              rotate_left
              · simp only [Act.put, sa, sb, sc, i64_w, i32_w]
                rfl
              refine pu HT_ (v := ?_) (a' := ?_) 1 93 rfl rfl (by kernel_rfl) (fun _ _ _ h => h) (Or.inl ⟨by rfl, ?_⟩) ?_ ?_
              rotate_left
              · intro w'
                go_simp
                with_reducible rfl
              rotate_left
              · simp only [Act.put, sa, sb, sc, i64_w, i32_w]
                rfl
              refine pu HT_ (v := ?_) (a' := ?_) 2 94 rfl rfl (by kernel_rfl) (fun _ _ _ h => h) (Or.inl ⟨by rfl, ?_⟩) ?_ ?_
              rotate_left
              · intro w'
                go_simp
                with_reducible rfl
              rotate_left
              · simp only [Act.put, sa, sb, sc, i64_w, i32_w]
                rfl
              refine pu HT_ (v := ?_) (a' := ?_) 3 95 rfl rfl (by kernel_rfl) (fun _ _ _ h => h) (Or.inl ⟨by rfl, ?_⟩) ?_ ?_
              rotate_left
              · intro w'
                go_simp
                with_reducible rfl
              rotate_left
              · simp only [Act.put, sa, sb, sc, i64_w, i32_w]
                rfl
              refine pu HT_ (v := ?_) (a' := ?_) 5 97 rfl rfl (by kernel_rfl) (fun _ _ _ h => h) (Or.inl ⟨by rfl, ?_⟩) ?_ ?_
              rotate_left
              · intro w'
                go_simp
                with_reducible rfl
              rotate_left
              · simp only [Act.put, sa, sb, sc, i64_w, i32_w]
                rfl
              refine pu HT_ (v := ?_) (a' := ?_) 6 98 rfl rfl (by kernel_rfl) (fun _ _ _ h => h) (Or.inl ⟨by rfl, ?_⟩) ?_ ?_
              rotate_left
              · intro w'
                go_simp
                with_reducible rfl
              rotate_left
              · simp only [Act.put, sa, sb, sc, i64_w, i32_w]
                rfl
              refine pu HT_ (v := ?_) (a' := ?_) 7 99 rfl rfl (by kernel_rfl) (fun _ _ _ h => h) (Or.inl ⟨by rfl, ?_⟩) ?_ ?_
              rotate_left
              · intro w'
                go_simp
                with_reducible rfl
              rotate_left
              · simp only [Act.put, sa, sb, sc, i64_w, i32_w]
                rfl
              refine take_ (i := 4) (N := some 96) (v := ?_) (a' := ?_) #[true, true, true, true, true, true, true, true, false, false, false, false] rfl rfl (take_ofW HT_.out HW_.out (by kernel_rfl)) (fun _ _ _ h => h) (Or.inl ⟨by rfl, ?_⟩) hHeld ?_ ?_
              rotate_left
              · rintro w' ⟨s0, s1, s2, s3⟩
                go_simp
                with_reducible rfl
              rotate_left
              · simp only [Act.put, sa, sb, sc, i64_w, i32_w]
                rfl
              refine take_ (i := 8) (N := some 100) (v := ?_) (a' := ?_) #[true, true, true, true, true, true, true, true, true, false, false, false] rfl rfl (take_ofW HT_.out HW_.out (by kernel_rfl)) (fun _ _ _ h => h) (Or.inl ⟨by rfl, ?_⟩) hHeld ?_ ?_
              rotate_left
              · rintro w' ⟨s0, s1, s2, s3⟩
                go_simp
                with_reducible rfl
              rotate_left
              · simp only [Act.put, sa, sb, sc, i64_w, i32_w]
                rfl
              refine one_ (i := 9) (N := some 101) #[true, true, true, true, true, true, true, true, true, true, false, false] rfl rfl (one_of HT_.out (by kernel_rfl)) (by decide) (fun K hK => ?_)
              refine goesT_ Try.func41 (by kernel_rfl) rfl #[.agg #[.int .u64 ((rd_T39 l0 a2).f0), .slice A132_1 ((rd_T39 l0 a2).f1).length c132_1], .agg #[.int .u64 ((rd_T39 l0 (ji29)).f0), .slice A133_1 ((rd_T39 l0 (ji29)).f1).length c133_1]] (by rfl) rfl rfl (by rfl) (by (try simp only [List.map_toArray, List.map_cons, List.map_nil]); rfl) ?_
              with_reducible refine (cost_normal_1.calls k1 ((rd_T39 l0 a2).f0) _ _ ((rd_T39 l0 a2).f1) ((rd_T39 l0 (ji29)).f0) _ _ ((rd_T39 l0 (ji29)).f1) t134 _ ?side1 ?side2 ?side3 ?side4 A32.out).mono ?_
              (case side1 => exact HR132_1.out)
              (case side2 => exact HC132_1.out)
              (case side3 => exact HR133_1.out)
              (case side4 => exact HC133_1.out)
              rintro e w39 ⟨rfl, hb⟩
              have HS0_ := (hb.cell (World.block_lt_of_cell? _ _ (hHeld.1))).trans (hHeld.1)
              have HS1_ := (hb.cell (World.block_lt_of_cell? _ _ (hHeld.2.1))).trans (hHeld.2.1)
              have HS2_ := (hb.cell (World.block_lt_of_cell? _ _ (hHeld.2.2.1))).trans (hHeld.2.2.1)
              have HS3_ := (hb.cell (World.block_lt_of_cell? _ _ (hHeld.2.2.2))).trans (hHeld.2.2.2)
              refine ⟨_, rfl, ?_⟩
              have n0_ := am (Kd.R_below HO_0.out hb)
              have n1_ := am (Kd.R_below HL132_1.out hb)
              have n2_ := am (Kd.R_below HL133_1.out hb)
              have n3_ := am (Kd.C_below HR132_1.out hb)
              have n4_ := am (Kd.C_below HR133_1.out hb)
              have n5_ := am (Kept.below (S := (fun k_ => P0_ k_)) HK.out hb)
              have n6_ := am (below_step HB.out hb)
              clear HO_0
              clear HL132_1
              clear HL133_1
              clear HR132_1
              clear HR133_1
              clear HK
              clear HB
              have HO_0 := n0_
              have HL132_1 := n1_
              have HL133_1 := n2_
              have HR132_1 := n3_
              have HR133_1 := n4_
              have HK := n5_
              have HB := n6_
              clear n0_ n1_ n2_ n3_ n4_ n5_ n6_
              (try clear hb)
              refine hK.out _ _ ⟨HS0_, HS1_, HS2_, HS3_⟩ (fun hHeld => ?_)
              clear hK K
              refine norm_ (a' := ?_) ?_ ?_
              rotate_left
              · show Act.put _ (some 101) _ = _
                simp only [Act.put, sa, sb, sc, i64_w, i32_w]
                rfl
              refine pu HT_ (v := ?_) (a' := ?_) 10 102 rfl rfl (by kernel_rfl) (fun _ _ _ h => h) (Or.inl ⟨by rfl, ?_⟩) ?_ ?_
              rotate_left
              · intro w'
                go_simp
                with_reducible rfl
              rotate_left
              · simp only [Act.put, sa, sb, sc, i64_w, i32_w]
                rfl
              refine pu HT_ (v := ?_) (a' := ?_) 11 103 rfl rfl (by kernel_rfl) (fun _ _ _ h => h) (Or.inl ⟨by rfl, ?_⟩) ?_ ?_
              rotate_left
              · intro w'
                go_simp
                with_reducible rfl
              rotate_left
              · simp only [Act.put, sa, sb, sc, i64_w, i32_w]
                rfl
              refine done_ (done_of HT_.out (by kernel_rfl)) ?_
              try go_wp2
              go_roundg k1
              case measure => have := HK1.out; omega
              case rel => exact ⟨(wrap64 ((ji29) + 1)), (x15_1), (by rfl), (by rfl), H', ⟨by have := HK1.out; omega⟩, ⟨by exact HO_0.out⟩, ⟨by exact HK.out⟩, ⟨by exact HB.out⟩⟩
          · rw [if_neg c26] at H
            have c26b0 : decide (x14_1 < x15_1) = false := decide_eq_false c26
            clear c26
            have H' := am H
            clear H
            go_wp2
            go_loopg [17] k1 (fun kq v17 w' => ∃ (x0_2 : List (S39)) (x17_2 : Int), v17 = .int .i64 x17_2 ∧ Aside0 (api_Term_of_cost_normal_1_52.l3 kq x0_2 x14_1 x17_2 = some r) ∧ Aside0 (kq ≤ k1) ∧ Aside0 (Kd.R (kG W0_ okE_) 39 w' w0.heap.size (fun k_ => (P0_ k_ ∨ w.heap.size ≤ k_)) u9000_ x0_2) ∧ Aside0 (Kept w w' (fun k_ => P0_ k_)) ∧ Aside0 (Below w0.heap.size w0 w'))
            case atStart => exact ⟨(l0), (a2), (by rfl), H', ⟨Nat.le_refl _⟩, ⟨by exact HO_0.out⟩, ⟨by exact HK.out⟩, ⟨by exact HB.out⟩⟩
            case round =>
              clear H'
              try clear c26b0
              obtain ⟨x0_2, x17_2, rfl, HA, HK2, HO_0, HK, HB⟩ := hrel
              cases gk with
              | zero => exact absurd HA.out (by simp [api_Term_of_cost_normal_1_52.l3])
              | succ k2 =>
                have H := HA.out
                clear HA
                simp only [api_Term_of_cost_normal_1_52.l3] at H
                by_cases c40 : x17_2 > x14_1
                · rw [if_pos c40] at H
                  have c40b0 : decide (x14_1 < x17_2) = true := decide_eq_true c40
                  clear c40
                  replace H := Option.bind_eq_some_iff.mp H
                  obtain ⟨t135, A410, H⟩ := H
                  replace H : (api_Term_of_cost_normal_1_52.l3 k2 t135 x14_1 (wrap64 (x17_2 - 1))) = some r := H
                  have A41 := am A410
                  clear A410
                  have H' := am H
                  clear H
                  obtain ⟨Ao42, co42, eo42⟩ := Kd.R_slice HO_0.out
                  subst eo42
                  have hA := A41.out
                  unfold api_Term_of_cost_normal_1_54.f at hA
                  have hmx : x0_2.length ≤ 9223372036854775807 := by
                    obtain ⟨A_, c_, e_, hl_, hc_⟩ := Kd.R_reads HO_0.out
                    exact hc_.2.1
                  by_cases hb_ : 0 ≤ x17_2 ∧ 0 ≤ wrap64 (x17_2 - 1) ∧ (0 : Int) ≤ 1 ∧ x17_2 + 1 ≤ x0_2.length ∧ wrap64 (x17_2 - 1) + 1 ≤ x0_2.length
                  rotate_left
                  · unfold Mg.ex at hA
                    rw [if_neg hb_] at hA
                    cases hA
                  obtain ⟨b1, b2, b3, b4, b5⟩ := hb_
                  have e1 : wrap64 (x17_2 - 1) = (x17_2 - 1) := by unfold wrap64; omega
                  rw [e1] at hA b2 b5
                  obtain ⟨y_, hy_⟩ : ∃ y_, (x17_2 - 1) = y_ := ⟨_, rfl⟩
                  rw [hy_] at hA b2 b5 e1
                  have ey : wrap64 (x17_2 - 1) = y_ := by rw [hy_]; exact e1
                  have ew : IntKind.i64.wrap (x17_2 - 1) = y_ := by rw [IntWalk.i64_left]; exact ey
                  have ew1 : IntKind.i64.wrap y_ = y_ := by rw [IntWalk.i64_left]; exact e1
                  rw [ex_one x0_2 x17_2 y_ b1 (by omega) b2 (by omega)] at hA
                  have ht_ := am (Option.some.inj hA)
                  obtain ⟨go1, co1, eo1, gb1, gl1, cl1, HG1⟩ := Kd.R_form HO_0.out (by omega)
                  cases eo1
                  obtain ⟨A1_, c1_, A2_, c2_, hx10, hx11, hx20, hx21, W1_, hW1_, hr2, hg2⟩ := G_swap HO_0.out x17_2 y_ b1 (by omega) b2 (by omega)
                  rw [ht_.out] at hr2
                  replace hr2 := am hr2
                  replace hg2 := am hg2
                  have hK2 := am (Kept.of_grown hg2.out HK.out (fun k hk => HO_0.out.1 k (by rw [← hk]; rfl)))
                  have hB2 := am (HB.out.grown hg2.out HB.out.size (fun k hk => by injection hk with hk; omega))
                  have cc1_ : (0 ≤ x17_2) = True := eq_true b1
                  have cc2_ : (x17_2 < (x0_2.length : Int)) = True := eq_true (by omega)
                  have cc3_ : (0 ≤ y_) = True := eq_true b2
                  have cc4_ : (y_ < (x0_2.length : Int)) = True := eq_true (by omega)
                  have n1 : x17_2.toNat * 2 ≠ y_.toNat * 2 := by omega
                  have n2 : x17_2.toNat * 2 + 1 ≠ y_.toNat * 2 := by omega
                  have n3 : x17_2.toNat * 2 ≠ y_.toNat * 2 + 1 := by omega
                  have n4 : y_.toNat * 2 ≠ x17_2.toNat * 2 := by omega
                  have n5 : y_.toNat * 2 ≠ x17_2.toNat * 2 + 1 := by omega
                  have n6 : y_.toNat * 2 + 1 ≠ x17_2.toNat * 2 := by omega
                  have n7 : x17_2.toNat ≠ y_.toNat := by omega
                  have n8 : y_.toNat ≠ x17_2.toNat := by omega
                  clear hA HO_0 HK HB b3 b5 hmx
                  go_wp2
                  have f0 := blk_frozen HG1 (x17_2.toNat * 2)
                  have f1 := blk_frozen HG1 (x17_2.toNat * 2 + 1)
                  have f2 := blk_frozen HG1 (y_.toNat * 2)
                  have f3 := blk_frozen HG1 (y_.toNat * 2 + 1)
                  have hy10 : wr.drew.cell? ⟨go1, x17_2.toNat * 2, none⟩ = some (.int .u64 ((rd_T39 x0_2 x17_2).f0)) := hx10
                  have hy11 : wr.drew.cell? ⟨go1, x17_2.toNat * 2 + 1, none⟩ = some (.slice A1_ ((rd_T39 x0_2 x17_2).f1).length c1_) := hx11
                  have hy20 : wr.drew.cell? ⟨go1, y_.toNat * 2, none⟩ = some (.int .u64 ((rd_T39 x0_2 y_).f0)) := hx20
                  have hy21 : wr.drew.cell? ⟨go1, y_.toNat * 2 + 1, none⟩ = some (.slice A2_ ((rd_T39 x0_2 y_).f1).length c2_) := hx21
                  have g0 : wr.drew.frozen? ⟨go1, x17_2.toNat * 2, none⟩ = false := f0
                  have g1 : wr.drew.frozen? ⟨go1, x17_2.toNat * 2 + 1, none⟩ = false := f1
                  have g2 : wr.drew.frozen? ⟨go1, y_.toNat * 2, none⟩ = false := f2
                  have g3 : wr.drew.frozen? ⟨go1, y_.toNat * 2 + 1, none⟩ = false := f3
                  go_region
                  rw [hW1_.out]
                  clear f0 f1 f2 f3 hy10 hy11 hy20 hy21 g0 g1 g2 g3 hx10 hx11 hx20 hx21 hW1_ HG1 n1 n2 n3 n4 n5 n6 n7 n8 cc1_ cc2_ cc3_ cc4_ ht_
                  have HO_0 := hr2
                  have HK := hK2
                  have HB := hB2
                  clear hr2 hg2 hK2 hB2
                  go_wp2
                  go_roundg k2
                  case measure => have := HK1.out; have := HK2.out; omega
                  case rel => exact ⟨(t135), (wrap64 (x17_2 - 1)), (by (simp [*]; done)), H', ⟨by have := HK1.out; have := HK2.out; omega⟩, ⟨by (with_reducible repeat (apply Kd.R_drew)); exact HO_0.out⟩, ⟨by repeat ((with_reducible first | exact HK.out | apply Kept.drew))⟩, ⟨by repeat ((with_reducible first | exact HB.out | apply below_drew1))⟩⟩
                · rw [if_neg c40] at H
                  have c40b0 : decide (x14_1 < x17_2) = false := decide_eq_false c40
                  clear c40
                  obtain rfl := Option.some.inj H
                  go_wp2
                  (refine bodyPost_ret (results_none rfl _ _ _) rfl ?_)
                  exact ⟨by rfl, by exact HO_0.out, by exact HB.out, by exact HK.out⟩
set_option maxHeartbeats 8000000 in
set_option maxRecDepth 100000 in
theorem api_Term_of_cost_normal_1_52.case3 (W0_ : World) (okE_ : Nat → Prop) (k : Nat) (ih : ∀ m, m < k + 1 → ∀ (P0_ : Nat → Prop) (u9000_ : Value) (l0 : List (S39)) (a1 : Int) (a2 : Int) (a3 : Int)  (r : List (S39)) (w0 w : World) (hB : Below w0.heap.size w0 w) (ho0 : Kd.R (kG W0_ okE_) 39 w w0.heap.size P0_ u9000_ l0) (hW_ : Keeps W0_ w okE_) (hZ_ : W0_.heap.size ≤ w.heap.size) (hD_ : ∀ k_, okE_ k_ → k_ < W0_.heap.size → ¬ P0_ k_) (h : api_Term_of_cost_normal_1_52.f m l0 a1 a2 a3 = some r),    Calls Try.prog 52 #[u9000_, .int .i64 a1, .int .i64 a2, .int .i64 a3, .func (.func 41) #[] #[]] w fun e w' => e = .returned (.tuple #[]) ∧ Kd.R (kG W0_ okE_) 39 w' w0.heap.size (fun k_ => (P0_ k_ ∨ w.heap.size ≤ k_)) u9000_ r ∧ Below w0.heap.size w0 w' ∧ Kept w w' (fun k_ => P0_ k_)) (P0_ : Nat → Prop) (u9000_ : Value) (l0 : List (S39)) (a1 : Int) (a2 : Int) (a3 : Int)  (r : List (S39)) (w0 w : World) (hW_ : Keeps W0_ w okE_) (hZ_ : W0_.heap.size ≤ w.heap.size) (hD_ : ∀ k_, okE_ k_ → k_ < W0_.heap.size → ¬ P0_ k_) (HO0 : Aside0 (Kd.R (kG W0_ okE_) 39 w w0.heap.size (fun k_ => (P0_ k_ ∨ w.heap.size ≤ k_)) u9000_ l0)) (HK : Aside0 (Kept w w (fun k_ => P0_ k_))) (HW0 : Aside0 (w0.heap.size ≤ w.heap.size)) (HB : Aside0 (Below w0.heap.size w0 w)) (H : (if (wrap64 (a2 - a1)) = 1 then (api_Term_of_cost_normal_1_52.l0 k l0 a1 a2 a3) else (if (wrap64 (a3 - a2)) = 1 then (api_Term_of_cost_normal_1_52.l2 k l0 a2 a1 a2) else (if a2 > (wrap64 ((IntKind.u64.wrap (wrap64 (a1 + a3))) / 2)) then (api_Term_of_cost_normal_1_52.j4 k l0 a1 a2 a3 (wrap64 ((IntKind.u64.wrap (wrap64 (a1 + a3))) / 2)) (wrap64 ((wrap64 ((IntKind.u64.wrap (wrap64 (a1 + a3))) / 2)) + a2)) (wrap64 ((wrap64 ((wrap64 ((IntKind.u64.wrap (wrap64 (a1 + a3))) / 2)) + a2)) - a3)) (wrap64 ((IntKind.u64.wrap (wrap64 (a1 + a3))) / 2))) else (api_Term_of_cost_normal_1_52.j4 k l0 a1 a2 a3 (wrap64 ((IntKind.u64.wrap (wrap64 (a1 + a3))) / 2)) (wrap64 ((wrap64 ((IntKind.u64.wrap (wrap64 (a1 + a3))) / 2)) + a2)) a1 a2)))) = some r) (c6 : ¬ ((wrap64 (a2 - a1)) = 1)) (c25 : ¬ ((wrap64 (a3 - a2)) = 1)) :
    Calls Try.prog 52 #[u9000_, .int .i64 a1, .int .i64 a2, .int .i64 a3, .func (.func 41) #[] #[]] w fun e w' => e = .returned (.tuple #[]) ∧ Kd.R (kG W0_ okE_) 39 w' w0.heap.size (fun k_ => (P0_ k_ ∨ w.heap.size ≤ k_)) u9000_ r ∧ Below w0.heap.size w0 w' ∧ Kept w w' (fun k_ => P0_ k_) := by
      have hu39 := Try.underlying39
      rw [if_neg c6] at H
      have c6b0 : ((wrap64 (a2 - a1)) == 1) = false := beq_eq_false_iff_ne.mpr c6
      have c6b1 : ((wrap64 (a2 - a1)) != 1) = true := bne_iff_ne.mpr c6
      rw [if_neg c25] at H
      have c25b0 : ((wrap64 (a3 - a2)) == 1) = false := beq_eq_false_iff_ne.mpr c25
      have c25b1 : ((wrap64 (a3 - a2)) != 1) = true := bne_iff_ne.mpr c25
      have HC44 := am H
      clear H
      go_enter Try.func52, Try.ntmps52
      go_upto_if 140 with (fail)
      go_cut [20, 21] (fun v20 v21 wc => ∃ (kq : Nat) (x20_43 : Int) (x21_43 : Int), v20 = .int .i64 x20_43 ∧ v21 = .int .i64 x21_43 ∧ Aside0 (api_Term_of_cost_normal_1_52.j4 kq l0 a1 a2 a3 (wrap64 ((IntKind.u64.wrap (wrap64 (a1 + a3))) / 2)) (wrap64 ((wrap64 ((IntKind.u64.wrap (wrap64 (a1 + a3))) / 2)) + a2)) x20_43 x21_43 = some r) ∧ Aside0 (kq ≤ k) ∧ Aside0 (Kd.R (kG W0_ okE_) 39 wc w0.heap.size (fun k_ => (P0_ k_ ∨ w.heap.size ≤ k_)) u9000_ l0) ∧ Aside0 (Kept w wc (fun k_ => P0_ k_)) ∧ Aside0 (Below w0.heap.size w0 wc))
      case first => as_aux_lemma =>
        have H := HC44.out
        clear HC44
        by_cases c45 : a2 > (wrap64 ((IntKind.u64.wrap (wrap64 (a1 + a3))) / 2))
        · rw [if_pos c45] at H
          have c45b0 : decide ((wrap64 ((IntKind.u64.wrap (wrap64 (a1 + a3))) / 2)) < a2) = true := decide_eq_true c45
          clear c45
          (rw [c45b0])
          have H' := am H
          clear H
          go_wp2
          go_meet
          case rel => exact ⟨_, (wrap64 ((wrap64 ((wrap64 ((IntKind.u64.wrap (wrap64 (a1 + a3))) / 2)) + a2)) - a3)), (wrap64 ((IntKind.u64.wrap (wrap64 (a1 + a3))) / 2)), (by rfl), (by rfl), H', ⟨by omega⟩, ⟨by exact HO0.out⟩, ⟨by exact HK.out⟩, ⟨by exact HB.out⟩⟩
        · rw [if_neg c45] at H
          have c45b0 : decide ((wrap64 ((IntKind.u64.wrap (wrap64 (a1 + a3))) / 2)) < a2) = false := decide_eq_false c45
          clear c45
          (rw [c45b0])
          have H' := am H
          clear H
          go_wp2
          go_meet
          case rel => exact ⟨_, (a1), (a2), (by rfl), (by rfl), H', ⟨by omega⟩, ⟨by exact HO0.out⟩, ⟨by exact HK.out⟩, ⟨by exact HB.out⟩⟩
      case rest => as_aux_lemma =>
        clear HC44
        try clear c6
        try clear c6b0
        try clear c6b1
        try clear c25
        try clear c25b0
        try clear c25b1
        obtain ⟨kq, x20_43, x21_43, rfl, rfl, HA, HJ43, HO_0, HK, HB⟩ := hcut
        cases kq with
        | zero => exact absurd HA.out (by simp [api_Term_of_cost_normal_1_52.j4])
        | succ kj43 =>
          have H := HA.out
          clear HA
          simp only [api_Term_of_cost_normal_1_52.j4] at H
          have H' := am H
          clear H
          go_wp2
          go_loopg [20, 21] kj43 (fun kq v20 v21 w' => ∃ (x20_2 : Int) (x21_2 : Int), v20 = .int .i64 x20_2 ∧ v21 = .int .i64 x21_2 ∧ Aside0 (api_Term_of_cost_normal_1_52.l4 kq l0 a1 a2 a3 (wrap64 ((IntKind.u64.wrap (wrap64 (a1 + a3))) / 2)) (wrap64 ((wrap64 ((IntKind.u64.wrap (wrap64 (a1 + a3))) / 2)) + a2)) x20_2 x21_2 (wrap64 ((wrap64 ((wrap64 ((IntKind.u64.wrap (wrap64 (a1 + a3))) / 2)) + a2)) - 1)) = some r) ∧ Aside0 (kq ≤ kj43) ∧ Aside0 (Kd.R (kG W0_ okE_) 39 w' w0.heap.size (fun k_ => (P0_ k_ ∨ w.heap.size ≤ k_)) u9000_ l0) ∧ Aside0 (Kept w w' (fun k_ => P0_ k_)) ∧ Aside0 (Below w0.heap.size w0 w'))
          case atStart => exact ⟨(x20_43), (x21_43), (by rfl), (by rfl), H', ⟨Nat.le_refl _⟩, ⟨by exact HO_0.out⟩, ⟨by exact HK.out⟩, ⟨by exact HB.out⟩⟩
          case round =>
            clear H'
            obtain ⟨x20_2, x21_2, rfl, rfl, HA, HK2, HO_0, HK, HB⟩ := hrel
            cases gk with
            | zero => exact absurd HA.out (by simp [api_Term_of_cost_normal_1_52.l4])
            | succ k2 =>
              have H := HA.out
              clear HA
              simp only [api_Term_of_cost_normal_1_52.l4] at H
              by_cases c46 : x20_2 < x21_2
              · rw [if_pos c46] at H
                have c46b0 : decide (x20_2 < x21_2) = true := decide_eq_true c46
                clear c46
                obtain ⟨ji47, hji47⟩ : ∃ j_ : Int, (wrap64 ((wrap64 ((wrap64 ((wrap64 ((IntKind.u64.wrap (wrap64 (a1 + a3))) / 2)) + a2)) - 1)) - (wrap64 ((IntKind.u64.wrap (wrap64 (x20_2 + x21_2))) / 2)))) = j_ := ⟨_, rfl⟩
                replace H : (if 0 ≤ (ji47) then (if (ji47) < (l0.length : Int) then (if 0 ≤ (wrap64 ((IntKind.u64.wrap (wrap64 (x20_2 + x21_2))) / 2)) then (if (wrap64 ((IntKind.u64.wrap (wrap64 (x20_2 + x21_2))) / 2)) < (l0.length : Int) then ((cost_normal_1.f k2 ((rd_T39 l0 (ji47)).f0) ((rd_T39 l0 (ji47)).f1) ((rd_T39 l0 (wrap64 ((IntKind.u64.wrap (wrap64 (x20_2 + x21_2))) / 2))).f0) ((rd_T39 l0 (wrap64 ((IntKind.u64.wrap (wrap64 (x20_2 + x21_2))) / 2))).f1)).bind fun t138 => (if t138 < 0 then (api_Term_of_cost_normal_1_52.l4 k2 l0 a1 a2 a3 (wrap64 ((IntKind.u64.wrap (wrap64 (a1 + a3))) / 2)) (wrap64 ((wrap64 ((IntKind.u64.wrap (wrap64 (a1 + a3))) / 2)) + a2)) x20_2 (wrap64 ((IntKind.u64.wrap (wrap64 (x20_2 + x21_2))) / 2)) (wrap64 ((wrap64 ((wrap64 ((IntKind.u64.wrap (wrap64 (a1 + a3))) / 2)) + a2)) - 1))) else (api_Term_of_cost_normal_1_52.l4 k2 l0 a1 a2 a3 (wrap64 ((IntKind.u64.wrap (wrap64 (a1 + a3))) / 2)) (wrap64 ((wrap64 ((IntKind.u64.wrap (wrap64 (a1 + a3))) / 2)) + a2)) (wrap64 ((wrap64 ((IntKind.u64.wrap (wrap64 (x20_2 + x21_2))) / 2)) + 1)) x21_2 (wrap64 ((wrap64 ((wrap64 ((IntKind.u64.wrap (wrap64 (a1 + a3))) / 2)) + a2)) - 1))))) else (none)) else (none)) else (none)) else (none)) = some r := by (rw [hji47] at H; exact H)
                have hji47w : (IntKind.i64.wrap ((wrap64 ((wrap64 ((wrap64 ((IntKind.u64.wrap (wrap64 (a1 + a3))) / 2)) + a2)) - 1)) - (wrap64 ((IntKind.u64.wrap (wrap64 (x20_2 + x21_2))) / 2)))) = ji47 := (i64_w _).trans hji47
                replace H := its H
                obtain ⟨c48, H⟩ := H
                have c48b0 : decide (0 ≤ (ji47)) = true := decide_eq_true c48
                clear c48
                replace H := its H
                obtain ⟨c49, H⟩ := H
                have c49b0 : decide ((ji47) < (l0.length : Int)) = true := decide_eq_true c49
                clear c49
                obtain ⟨ji50, hji50⟩ : ∃ j_ : Int, (wrap64 ((IntKind.u64.wrap (wrap64 (x20_2 + x21_2))) / 2)) = j_ := ⟨_, rfl⟩
                replace H : (if 0 ≤ (ji50) then (if (ji50) < (l0.length : Int) then ((cost_normal_1.f k2 ((rd_T39 l0 (ji47)).f0) ((rd_T39 l0 (ji47)).f1) ((rd_T39 l0 (ji50)).f0) ((rd_T39 l0 (ji50)).f1)).bind fun t138 => (if t138 < 0 then (api_Term_of_cost_normal_1_52.l4 k2 l0 a1 a2 a3 (wrap64 ((IntKind.u64.wrap (wrap64 (a1 + a3))) / 2)) (wrap64 ((wrap64 ((IntKind.u64.wrap (wrap64 (a1 + a3))) / 2)) + a2)) x20_2 ji50 (wrap64 ((wrap64 ((wrap64 ((IntKind.u64.wrap (wrap64 (a1 + a3))) / 2)) + a2)) - 1))) else (api_Term_of_cost_normal_1_52.l4 k2 l0 a1 a2 a3 (wrap64 ((IntKind.u64.wrap (wrap64 (a1 + a3))) / 2)) (wrap64 ((wrap64 ((IntKind.u64.wrap (wrap64 (a1 + a3))) / 2)) + a2)) (wrap64 ((ji50) + 1)) x21_2 (wrap64 ((wrap64 ((wrap64 ((IntKind.u64.wrap (wrap64 (a1 + a3))) / 2)) + a2)) - 1))))) else (none)) else (none)) = some r := by (rw [hji50] at H; exact H)
                have hji50w : (IntKind.i64.wrap ((IntKind.u64.wrap (wrap64 (x20_2 + x21_2))) / 2)) = ji50 := (i64_w _).trans hji50
                have hji47n := hji47
                have hji47v := hji47w
                rw [hji50] at hji47n hji47v
                replace H := its H
                obtain ⟨c51, H⟩ := H
                have c51b0 : decide (0 ≤ (ji50)) = true := decide_eq_true c51
                clear c51
                replace H := its H
                obtain ⟨c52, H⟩ := H
                have c52b0 : decide ((ji50) < (l0.length : Int)) = true := decide_eq_true c52
                clear c52
                replace H := Option.bind_eq_some_iff.mp H
                obtain ⟨t138, A530, H⟩ := H
                replace H : (if t138 < 0 then (api_Term_of_cost_normal_1_52.l4 k2 l0 a1 a2 a3 (wrap64 ((IntKind.u64.wrap (wrap64 (a1 + a3))) / 2)) (wrap64 ((wrap64 ((IntKind.u64.wrap (wrap64 (a1 + a3))) / 2)) + a2)) x20_2 ji50 (wrap64 ((wrap64 ((wrap64 ((IntKind.u64.wrap (wrap64 (a1 + a3))) / 2)) + a2)) - 1))) else (api_Term_of_cost_normal_1_52.l4 k2 l0 a1 a2 a3 (wrap64 ((IntKind.u64.wrap (wrap64 (a1 + a3))) / 2)) (wrap64 ((wrap64 ((IntKind.u64.wrap (wrap64 (a1 + a3))) / 2)) + a2)) (wrap64 ((ji50) + 1)) x21_2 (wrap64 ((wrap64 ((wrap64 ((IntKind.u64.wrap (wrap64 (a1 + a3))) / 2)) + a2)) - 1)))) = some r := H
                have A53 := am A530
                clear A530
                by_cases c54 : t138 < 0
                · rw [if_pos c54] at H
                  have c54b0 : decide (t138 < 0) = true := decide_eq_true c54
                  clear c54
                  have H' := am H
                  clear H
                  try go_wp2
                  have n0_ := am (Kd.R_drew HO_0.out)
                  have n1_ := am (Kept.drew HK.out)
                  have n2_ := am (below_drew1 HB.out)
                  clear HO_0
                  clear HK
                  clear HB
                  have HO_0 := n0_
                  have HK := n1_
                  have HB := n2_
                  clear n0_ n1_ n2_
                  obtain ⟨Ao56, co56, eo56⟩ := Kd.R_slice HO_0.out
                  (subst eo56)
                  have p136 : 0 ≤ ((ji47) : Int) := of_decide_eq_true (by (with_reducible assumption))
                  have q136 : (ji47) < (l0.length : Int) := of_decide_eq_true (by (with_reducible assumption))
                  obtain ⟨ad136, A136_1, c136_1, e136, hx136_0, hx136_1, hl136_1, hi136_1⟩ := at_G (hW_.trans hZ_ HK.out hD_) (Kd.R_reads' HO_0.out).2.2 (ji47) p136 q136
                  cases e136
                  have HL136_1 := am (nilLike HO_0.out)
                  have HR136_1 := am hi136_1
                  have HC136_1 := am hl136_1
                  clear hi136_1 hl136_1
                  replace p136 := eq_true p136
                  replace q136 := eq_true q136
                  have p137 : 0 ≤ ((ji50) : Int) := of_decide_eq_true (by (with_reducible assumption))
                  have q137 : (ji50) < (l0.length : Int) := of_decide_eq_true (by (with_reducible assumption))
                  obtain ⟨ad137, A137_1, c137_1, e137, hx137_0, hx137_1, hl137_1, hi137_1⟩ := at_G (hW_.trans hZ_ HK.out hD_) (Kd.R_reads' HO_0.out).2.2 (ji50) p137 q137
                  obtain rfl : ad136 = ad137 := (by injection e137)
                  have HL137_1 := am (nilLike HO_0.out)
                  have HR137_1 := am hi137_1
                  have HC137_1 := am hl137_1
                  clear hi137_1 hl137_1
                  replace p137 := eq_true p137
                  replace q137 := eq_true q137
                  refine start_ (n := 14) (S := fun w' => w'.cell? (ad136.add (((ji47)).toNat * 2)) = some (.int .u64 ((rd_T39 l0 (ji47)).f0)) ∧ w'.cell? ⟨(ad136.add (((ji47)).toNat * 2)).block, (ad136.add (((ji47)).toNat * 2)).off + 1, none⟩ = some (.slice A136_1 ((rd_T39 l0 (ji47)).f1).length c136_1) ∧ w'.cell? (ad136.add (((ji50)).toNat * 2)) = some (.int .u64 ((rd_T39 l0 (ji50)).f0)) ∧ w'.cell? ⟨(ad136.add (((ji50)).toNat * 2)).block, (ad136.add (((ji50)).toNat * 2)).off + 1, none⟩ = some (.slice A137_1 ((rd_T39 l0 (ji50)).f1).length c137_1)) (ds := []) #[false, false, false, false, false, false, false, false, false, false, false, false, false, false] (by kernel_rfl) rfl rfl ⟨hx136_0, hx136_1, hx137_0, hx137_1⟩ (fun hHeld => ?_); refine with_tabW api_Term_of_cost_normal_1_52.tab35 api_Term_of_cost_normal_1_52.bits35 (fun HT_ HW_ => ?_)
                  generalize wr.drew = w55 at HO_0 HK HB HL136_1 HL137_1 HR136_1 HR137_1 hx136_0 hx136_1 hx137_0 hx137_1 hHeld ⊢
                  refine pu HT_ (v := ?_) (a' := ?_) 0 158 rfl rfl (by kernel_rfl) (fun _ _ _ h => h) (Or.inl ⟨by rfl, ?_⟩) ?_ ?_
                  rotate_left
                  · intro w'
                    go_simp
                    with_reducible rfl
                  rotate_left
                  · simp only [Act.put, sa, sb, sc, i64_w, i32_w]
                    rfl
                  refine pu HT_ (v := ?_) (a' := ?_) 1 159 rfl rfl (by kernel_rfl) (fun _ _ _ h => h) (Or.inl ⟨by rfl, ?_⟩) ?_ ?_
                  rotate_left
                  · intro w'
                    go_simp
                    with_reducible rfl
                  rotate_left
                  · simp only [Act.put, sa, sb, sc, i64_w, i32_w]
                    rfl
                  refine pu HT_ (v := ?_) (a' := ?_) 2 160 rfl rfl (by kernel_rfl) (fun _ _ _ h => h) (Or.inl ⟨by rfl, ?_⟩) ?_ ?_
                  rotate_left
                  · intro w'
                    go_simp
                    with_reducible rfl
                  rotate_left
                  · simp only [Act.put, sa, sb, sc, i64_w, i32_w]
                    rfl
                  refine pu HT_ (v := ?_) (a' := ?_) 3 161 rfl rfl (by kernel_rfl) (fun _ _ _ h => h) (Or.inl ⟨by rfl, ?_⟩) ?_ ?_
                  rotate_left
                  · intro w'
                    go_simp
                    with_reducible rfl
                  rotate_left
                  · simp only [Act.put, sa, sb, sc, i64_w, i32_w]
                    rfl
                  refine pu HT_ (v := ?_) (a' := ?_) 4 162 rfl rfl (by kernel_rfl) (fun _ _ _ h => h) (Or.inl ⟨by rfl, ?_⟩) ?_ ?_
                  rotate_left
                  · intro w'
                    go_simp
                    with_reducible rfl
                  rotate_left
                  · simp only [Act.put, sa, sb, sc, i64_w, i32_w]
                    rfl
                  refine pu HT_ (v := ?_) (a' := ?_) 5 163 rfl rfl (by kernel_rfl) (fun _ _ _ h => h) (Or.inl ⟨by rfl, ?_⟩) ?_ ?_
                  rotate_left
                  · intro w'
                    go_simp
                    with_reducible rfl
                  rotate_left
                  · simp only [Act.put, sa, sb, sc, i64_w, i32_w]
                    rfl
                  refine pu HT_ (v := ?_) (a' := ?_) 7 165 rfl rfl (by kernel_rfl) (fun _ _ _ h => h) (Or.inl ⟨by rfl, ?_⟩) ?_ ?_
                  rotate_left
                  · intro w'
                    go_simp
                    with_reducible rfl
                  rotate_left
                  · simp only [Act.put, sa, sb, sc, i64_w, i32_w]
                    rfl
                  refine pu HT_ (v := ?_) (a' := ?_) 8 166 rfl rfl (by kernel_rfl) (fun _ _ _ h => h) (Or.inl ⟨by rfl, ?_⟩) ?_ ?_
                  rotate_left
                  · intro w'
                    go_simp
                    with_reducible rfl
                  rotate_left
                  · simp only [Act.put, sa, sb, sc, i64_w, i32_w]
                    rfl
                  refine pu HT_ (v := ?_) (a' := ?_) 9 167 rfl rfl (by kernel_rfl) (fun _ _ _ h => h) (Or.inl ⟨by rfl, ?_⟩) ?_ ?_
                  rotate_left
                  · intro w'
                    go_simp
                    with_reducible rfl
                  rotate_left
                  · simp only [Act.put, sa, sb, sc, i64_w, i32_w]
                    rfl
                  refine take_ (i := 6) (N := some 164) (v := ?_) (a' := ?_) #[true, true, true, true, true, true, true, true, true, true, false, false, false, false] rfl rfl (take_ofW HT_.out HW_.out (by kernel_rfl)) (fun _ _ _ h => h) (Or.inl ⟨by rfl, ?_⟩) hHeld ?_ ?_
                  rotate_left
                  · rintro w' ⟨s0, s1, s2, s3⟩
                    go_simp
                    with_reducible rfl
                  rotate_left
                  · simp only [Act.put, sa, sb, sc, i64_w, i32_w]
                    rfl
                  refine take_ (i := 10) (N := some 168) (v := ?_) (a' := ?_) #[true, true, true, true, true, true, true, true, true, true, true, false, false, false] rfl rfl (take_ofW HT_.out HW_.out (by kernel_rfl)) (fun _ _ _ h => h) (Or.inl ⟨by rfl, ?_⟩) hHeld ?_ ?_
                  rotate_left
                  · rintro w' ⟨s0, s1, s2, s3⟩
                    go_simp
                    with_reducible rfl
                  rotate_left
                  · simp only [Act.put, sa, sb, sc, i64_w, i32_w]
                    rfl
                  refine one_ (i := 11) (N := some 169) #[true, true, true, true, true, true, true, true, true, true, true, true, false, false] rfl rfl (one_of HT_.out (by kernel_rfl)) (by decide) (fun K hK => ?_)
                  refine goesT_ Try.func41 (by kernel_rfl) rfl #[.agg #[.int .u64 ((rd_T39 l0 (ji47)).f0), .slice A136_1 ((rd_T39 l0 (ji47)).f1).length c136_1], .agg #[.int .u64 ((rd_T39 l0 (ji50)).f0), .slice A137_1 ((rd_T39 l0 (ji50)).f1).length c137_1]] (by rfl) rfl rfl (by rfl) (by (try simp only [List.map_toArray, List.map_cons, List.map_nil]); rfl) ?_
                  with_reducible refine (cost_normal_1.calls k2 ((rd_T39 l0 (ji47)).f0) _ _ ((rd_T39 l0 (ji47)).f1) ((rd_T39 l0 (ji50)).f0) _ _ ((rd_T39 l0 (ji50)).f1) t138 _ ?side1 ?side2 ?side3 ?side4 A53.out).mono ?_
                  (case side1 => exact HR136_1.out)
                  (case side2 => exact HC136_1.out)
                  (case side3 => exact HR137_1.out)
                  (case side4 => exact HC137_1.out)
                  rintro e w57 ⟨rfl, hb⟩
                  have HS0_ := (hb.cell (World.block_lt_of_cell? _ _ (hHeld.1))).trans (hHeld.1)
                  have HS1_ := (hb.cell (World.block_lt_of_cell? _ _ (hHeld.2.1))).trans (hHeld.2.1)
                  have HS2_ := (hb.cell (World.block_lt_of_cell? _ _ (hHeld.2.2.1))).trans (hHeld.2.2.1)
                  have HS3_ := (hb.cell (World.block_lt_of_cell? _ _ (hHeld.2.2.2))).trans (hHeld.2.2.2)
                  refine ⟨_, rfl, ?_⟩
                  have n0_ := am (Kd.R_below HO_0.out hb)
                  have n1_ := am (Kd.R_below HL136_1.out hb)
                  have n2_ := am (Kd.R_below HL137_1.out hb)
                  have n3_ := am (Kd.C_below HR136_1.out hb)
                  have n4_ := am (Kd.C_below HR137_1.out hb)
                  have n5_ := am (Kept.below (S := (fun k_ => P0_ k_)) HK.out hb)
                  have n6_ := am (below_step HB.out hb)
                  clear HO_0
                  clear HL136_1
                  clear HL137_1
                  clear HR136_1
                  clear HR137_1
                  clear HK
                  clear HB
                  have HO_0 := n0_
                  have HL136_1 := n1_
                  have HL137_1 := n2_
                  have HR136_1 := n3_
                  have HR137_1 := n4_
                  have HK := n5_
                  have HB := n6_
                  clear n0_ n1_ n2_ n3_ n4_ n5_ n6_
                  (try clear hb)
                  refine hK.out _ _ ⟨HS0_, HS1_, HS2_, HS3_⟩ (fun hHeld => ?_)
                  clear hK K
                  refine norm_ (a' := ?_) ?_ ?_
                  rotate_left
                  · show Act.put _ (some 169) _ = _
                    simp only [Act.put, sa, sb, sc, i64_w, i32_w]
                    rfl
                  refine pu HT_ (v := ?_) (a' := ?_) 12 170 rfl rfl (by kernel_rfl) (fun _ _ _ h => h) (Or.inl ⟨by rfl, ?_⟩) ?_ ?_
                  rotate_left
                  · intro w'
                    go_simp
                    with_reducible rfl
                  rotate_left
                  · simp only [Act.put, sa, sb, sc, i64_w, i32_w]
                    rfl
                  refine pu HT_ (v := ?_) (a' := ?_) 13 171 rfl rfl (by kernel_rfl) (fun _ _ _ h => h) (Or.inl ⟨by rfl, ?_⟩) ?_ ?_
                  rotate_left
                  · intro w'
                    go_simp
                    with_reducible rfl
                  rotate_left
                  · simp only [Act.put, sa, sb, sc, i64_w, i32_w]
                    rfl
                  refine done_ (done_of HT_.out (by kernel_rfl)) ?_
                  try go_wp2
                  go_roundg k2
                  case measure => have := HJ43.out; have := HK2.out; omega
                  case rel => exact ⟨(x20_2), (ji50), (by rfl), (by rfl), H', ⟨by have := HJ43.out; have := HK2.out; omega⟩, ⟨by exact HO_0.out⟩, ⟨by exact HK.out⟩, ⟨by exact HB.out⟩⟩
                · rw [if_neg c54] at H
                  have c54b0 : decide (t138 < 0) = false := decide_eq_false c54
                  clear c54
                  have H' := am H
                  clear H
                  try go_wp2
                  have n0_ := am (Kd.R_drew HO_0.out)
                  have n1_ := am (Kept.drew HK.out)
                  have n2_ := am (below_drew1 HB.out)
                  clear HO_0
                  clear HK
                  clear HB
                  have HO_0 := n0_
                  have HK := n1_
                  have HB := n2_
                  clear n0_ n1_ n2_
                  obtain ⟨Ao59, co59, eo59⟩ := Kd.R_slice HO_0.out
                  (subst eo59)
                  have p136 : 0 ≤ ((ji47) : Int) := of_decide_eq_true (by (with_reducible assumption))
                  have q136 : (ji47) < (l0.length : Int) := of_decide_eq_true (by (with_reducible assumption))
                  obtain ⟨ad136, A136_1, c136_1, e136, hx136_0, hx136_1, hl136_1, hi136_1⟩ := at_G (hW_.trans hZ_ HK.out hD_) (Kd.R_reads' HO_0.out).2.2 (ji47) p136 q136
                  cases e136
                  have HL136_1 := am (nilLike HO_0.out)
                  have HR136_1 := am hi136_1
                  have HC136_1 := am hl136_1
                  clear hi136_1 hl136_1
                  replace p136 := eq_true p136
                  replace q136 := eq_true q136
                  have p137 : 0 ≤ ((ji50) : Int) := of_decide_eq_true (by (with_reducible assumption))
                  have q137 : (ji50) < (l0.length : Int) := of_decide_eq_true (by (with_reducible assumption))
                  obtain ⟨ad137, A137_1, c137_1, e137, hx137_0, hx137_1, hl137_1, hi137_1⟩ := at_G (hW_.trans hZ_ HK.out hD_) (Kd.R_reads' HO_0.out).2.2 (ji50) p137 q137
                  obtain rfl : ad136 = ad137 := (by injection e137)
                  have HL137_1 := am (nilLike HO_0.out)
                  have HR137_1 := am hi137_1
                  have HC137_1 := am hl137_1
                  clear hi137_1 hl137_1
                  replace p137 := eq_true p137
                  replace q137 := eq_true q137
                  refine start_ (n := 14) (S := fun w' => w'.cell? (ad136.add (((ji47)).toNat * 2)) = some (.int .u64 ((rd_T39 l0 (ji47)).f0)) ∧ w'.cell? ⟨(ad136.add (((ji47)).toNat * 2)).block, (ad136.add (((ji47)).toNat * 2)).off + 1, none⟩ = some (.slice A136_1 ((rd_T39 l0 (ji47)).f1).length c136_1) ∧ w'.cell? (ad136.add (((ji50)).toNat * 2)) = some (.int .u64 ((rd_T39 l0 (ji50)).f0)) ∧ w'.cell? ⟨(ad136.add (((ji50)).toNat * 2)).block, (ad136.add (((ji50)).toNat * 2)).off + 1, none⟩ = some (.slice A137_1 ((rd_T39 l0 (ji50)).f1).length c137_1)) (ds := []) #[false, false, false, false, false, false, false, false, false, false, false, false, false, false] (by kernel_rfl) rfl rfl ⟨hx136_0, hx136_1, hx137_0, hx137_1⟩ (fun hHeld => ?_); refine with_tabW api_Term_of_cost_normal_1_52.tab35 api_Term_of_cost_normal_1_52.bits35 (fun HT_ HW_ => ?_)
                  generalize wr.drew = w58 at HO_0 HK HB HL136_1 HL137_1 HR136_1 HR137_1 hx136_0 hx136_1 hx137_0 hx137_1 hHeld ⊢
                  refine pu HT_ (v := ?_) (a' := ?_) 0 158 rfl rfl (by kernel_rfl) (fun _ _ _ h => h) (Or.inl ⟨by rfl, ?_⟩) ?_ ?_
                  rotate_left
                  · intro w'
                    go_simp
                    with_reducible rfl
                  rotate_left
                  · simp only [Act.put, sa, sb, sc, i64_w, i32_w]
                    rfl
                  refine pu HT_ (v := ?_) (a' := ?_) 1 159 rfl rfl (by kernel_rfl) (fun _ _ _ h => h) (Or.inl ⟨by rfl, ?_⟩) ?_ ?_
                  rotate_left
                  · intro w'
                    go_simp
                    with_reducible rfl
                  rotate_left
                  · simp only [Act.put, sa, sb, sc, i64_w, i32_w]
                    rfl
                  refine pu HT_ (v := ?_) (a' := ?_) 2 160 rfl rfl (by kernel_rfl) (fun _ _ _ h => h) (Or.inl ⟨by rfl, ?_⟩) ?_ ?_
                  rotate_left
                  · intro w'
                    go_simp
                    with_reducible rfl
                  rotate_left
                  · simp only [Act.put, sa, sb, sc, i64_w, i32_w]
                    rfl
                  refine pu HT_ (v := ?_) (a' := ?_) 3 161 rfl rfl (by kernel_rfl) (fun _ _ _ h => h) (Or.inl ⟨by rfl, ?_⟩) ?_ ?_
                  rotate_left
                  · intro w'
                    go_simp
                    with_reducible rfl
                  rotate_left
                  · simp only [Act.put, sa, sb, sc, i64_w, i32_w]
                    rfl
                  refine pu HT_ (v := ?_) (a' := ?_) 4 162 rfl rfl (by kernel_rfl) (fun _ _ _ h => h) (Or.inl ⟨by rfl, ?_⟩) ?_ ?_
                  rotate_left
                  · intro w'
                    go_simp
                    with_reducible rfl
                  rotate_left
                  · simp only [Act.put, sa, sb, sc, i64_w, i32_w]
                    rfl
                  refine pu HT_ (v := ?_) (a' := ?_) 5 163 rfl rfl (by kernel_rfl) (fun _ _ _ h => h) (Or.inl ⟨by rfl, ?_⟩) ?_ ?_
                  rotate_left
                  · intro w'
                    go_simp
                    with_reducible rfl
                  rotate_left
                  · simp only [Act.put, sa, sb, sc, i64_w, i32_w]
                    rfl
                  refine pu HT_ (v := ?_) (a' := ?_) 7 165 rfl rfl (by kernel_rfl) (fun _ _ _ h => h) (Or.inl ⟨by rfl, ?_⟩) ?_ ?_
                  rotate_left
                  · intro w'
                    go_simp
                    with_reducible rfl
                  rotate_left
                  · simp only [Act.put, sa, sb, sc, i64_w, i32_w]
                    rfl
                  refine pu HT_ (v := ?_) (a' := ?_) 8 166 rfl rfl (by kernel_rfl) (fun _ _ _ h => h) (Or.inl ⟨by rfl, ?_⟩) ?_ ?_
                  rotate_left
                  · intro w'
                    go_simp
                    with_reducible rfl
                  rotate_left
                  · simp only [Act.put, sa, sb, sc, i64_w, i32_w]
                    rfl
                  refine pu HT_ (v := ?_) (a' := ?_) 9 167 rfl rfl (by kernel_rfl) (fun _ _ _ h => h) (Or.inl ⟨by rfl, ?_⟩) ?_ ?_
                  rotate_left
                  · intro w'
                    go_simp
                    with_reducible rfl
                  rotate_left
                  · simp only [Act.put, sa, sb, sc, i64_w, i32_w]
                    rfl
                  refine take_ (i := 6) (N := some 164) (v := ?_) (a' := ?_) #[true, true, true, true, true, true, true, true, true, true, false, false, false, false] rfl rfl (take_ofW HT_.out HW_.out (by kernel_rfl)) (fun _ _ _ h => h) (Or.inl ⟨by rfl, ?_⟩) hHeld ?_ ?_
                  rotate_left
                  · rintro w' ⟨s0, s1, s2, s3⟩
                    go_simp
                    with_reducible rfl
                  rotate_left
                  · simp only [Act.put, sa, sb, sc, i64_w, i32_w]
                    rfl
                  refine take_ (i := 10) (N := some 168) (v := ?_) (a' := ?_) #[true, true, true, true, true, true, true, true, true, true, true, false, false, false] rfl rfl (take_ofW HT_.out HW_.out (by kernel_rfl)) (fun _ _ _ h => h) (Or.inl ⟨by rfl, ?_⟩) hHeld ?_ ?_
                  rotate_left
                  · rintro w' ⟨s0, s1, s2, s3⟩
                    go_simp
                    with_reducible rfl
                  rotate_left
                  · simp only [Act.put, sa, sb, sc, i64_w, i32_w]
                    rfl
                  refine one_ (i := 11) (N := some 169) #[true, true, true, true, true, true, true, true, true, true, true, true, false, false] rfl rfl (one_of HT_.out (by kernel_rfl)) (by decide) (fun K hK => ?_)
                  refine goesT_ Try.func41 (by kernel_rfl) rfl #[.agg #[.int .u64 ((rd_T39 l0 (ji47)).f0), .slice A136_1 ((rd_T39 l0 (ji47)).f1).length c136_1], .agg #[.int .u64 ((rd_T39 l0 (ji50)).f0), .slice A137_1 ((rd_T39 l0 (ji50)).f1).length c137_1]] (by rfl) rfl rfl (by rfl) (by (try simp only [List.map_toArray, List.map_cons, List.map_nil]); rfl) ?_
                  with_reducible refine (cost_normal_1.calls k2 ((rd_T39 l0 (ji47)).f0) _ _ ((rd_T39 l0 (ji47)).f1) ((rd_T39 l0 (ji50)).f0) _ _ ((rd_T39 l0 (ji50)).f1) t138 _ ?side1 ?side2 ?side3 ?side4 A53.out).mono ?_
                  (case side1 => exact HR136_1.out)
                  (case side2 => exact HC136_1.out)
                  (case side3 => exact HR137_1.out)
                  (case side4 => exact HC137_1.out)
                  rintro e w60 ⟨rfl, hb⟩
                  have HS0_ := (hb.cell (World.block_lt_of_cell? _ _ (hHeld.1))).trans (hHeld.1)
                  have HS1_ := (hb.cell (World.block_lt_of_cell? _ _ (hHeld.2.1))).trans (hHeld.2.1)
                  have HS2_ := (hb.cell (World.block_lt_of_cell? _ _ (hHeld.2.2.1))).trans (hHeld.2.2.1)
                  have HS3_ := (hb.cell (World.block_lt_of_cell? _ _ (hHeld.2.2.2))).trans (hHeld.2.2.2)
                  refine ⟨_, rfl, ?_⟩
                  have n0_ := am (Kd.R_below HO_0.out hb)
                  have n1_ := am (Kd.R_below HL136_1.out hb)
                  have n2_ := am (Kd.R_below HL137_1.out hb)
                  have n3_ := am (Kd.C_below HR136_1.out hb)
                  have n4_ := am (Kd.C_below HR137_1.out hb)
                  have n5_ := am (Kept.below (S := (fun k_ => P0_ k_)) HK.out hb)
                  have n6_ := am (below_step HB.out hb)
                  clear HO_0
                  clear HL136_1
                  clear HL137_1
                  clear HR136_1
                  clear HR137_1
                  clear HK
                  clear HB
                  have HO_0 := n0_
                  have HL136_1 := n1_
                  have HL137_1 := n2_
                  have HR136_1 := n3_
                  have HR137_1 := n4_
                  have HK := n5_
                  have HB := n6_
                  clear n0_ n1_ n2_ n3_ n4_ n5_ n6_
                  (try clear hb)
                  refine hK.out _ _ ⟨HS0_, HS1_, HS2_, HS3_⟩ (fun hHeld => ?_)
                  clear hK K
                  refine norm_ (a' := ?_) ?_ ?_
                  rotate_left
                  · show Act.put _ (some 169) _ = _
                    simp only [Act.put, sa, sb, sc, i64_w, i32_w]
                    rfl
                  refine pu HT_ (v := ?_) (a' := ?_) 12 170 rfl rfl (by kernel_rfl) (fun _ _ _ h => h) (Or.inl ⟨by rfl, ?_⟩) ?_ ?_
                  rotate_left
                  · intro w'
                    go_simp
                    with_reducible rfl
                  rotate_left
                  · simp only [Act.put, sa, sb, sc, i64_w, i32_w]
                    rfl
                  refine pu HT_ (v := ?_) (a' := ?_) 13 171 rfl rfl (by kernel_rfl) (fun _ _ _ h => h) (Or.inl ⟨by rfl, ?_⟩) ?_ ?_
                  rotate_left
                  · intro w'
                    go_simp
                    with_reducible rfl
                  rotate_left
                  · simp only [Act.put, sa, sb, sc, i64_w, i32_w]
                    rfl
                  refine done_ (done_of HT_.out (by kernel_rfl)) ?_
                  try go_wp2
                  go_roundg k2
                  case measure => have := HJ43.out; have := HK2.out; omega
                  case rel => exact ⟨(wrap64 ((ji50) + 1)), (x21_2), (by rfl), (by rfl), H', ⟨by have := HJ43.out; have := HK2.out; omega⟩, ⟨by exact HO_0.out⟩, ⟨by exact HK.out⟩, ⟨by exact HB.out⟩⟩
              · rw [if_neg c46] at H
                have c46b0 : decide (x20_2 < x21_2) = false := decide_eq_false c46
                clear c46
                have HC61 := am H
                clear H
                go_upto_region 39 with (fail)
                go_cut [185] (fun v185 wc => ∃ (kq : Nat) (x185_60 : Bool), v185 = .bool x185_60 ∧ Aside0 (api_Term_of_cost_normal_1_52.j6 kq l0 a1 a2 a3 (wrap64 ((IntKind.u64.wrap (wrap64 (a1 + a3))) / 2)) x20_2 (wrap64 ((wrap64 ((wrap64 ((IntKind.u64.wrap (wrap64 (a1 + a3))) / 2)) + a2)) - x20_2)) x185_60 = some r) ∧ Aside0 (kq ≤ k2) ∧ Aside0 (Kd.R (kG W0_ okE_) 39 wc w0.heap.size (fun k_ => (P0_ k_ ∨ w.heap.size ≤ k_)) u9000_ l0) ∧ Aside0 (Kept w wc (fun k_ => P0_ k_)) ∧ Aside0 (Below w0.heap.size w0 wc))
                case first => as_aux_lemma =>
                  have H := HC61.out
                  clear HC61
                  by_cases c62 : x20_2 < a2
                  · rw [if_pos c62] at H
                    have c62b0 : decide (x20_2 < a2) = true := decide_eq_true c62
                    clear c62
                    (skip)
                    have H' := am H
                    clear H
                    go_wp2
                    go_meet
                    case rel => exact ⟨_, (decide (a2 < (wrap64 ((wrap64 ((wrap64 ((IntKind.u64.wrap (wrap64 (a1 + a3))) / 2)) + a2)) - x20_2)))), (by with_reducible rfl), H', ⟨by have := HJ43.out; have := HK2.out; omega⟩, ⟨by exact HO_0.out⟩, ⟨by exact HK.out⟩, ⟨by exact HB.out⟩⟩
                  · rw [if_neg c62] at H
                    have c62b0 : decide (x20_2 < a2) = false := decide_eq_false c62
                    clear c62
                    (skip)
                    have H' := am H
                    clear H
                    go_wp2
                    go_meet
                    case rel => exact ⟨_, (false), (by with_reducible rfl), H', ⟨by have := HJ43.out; have := HK2.out; omega⟩, ⟨by exact HO_0.out⟩, ⟨by exact HK.out⟩, ⟨by exact HB.out⟩⟩
                case rest => as_aux_lemma =>
                  clear HC61
                  try clear c46b0
                  obtain ⟨kq, x185_60, rfl, HA, HJ60, HO_0, HK, HB⟩ := hcut
                  cases kq with
                  | zero => exact absurd HA.out (by simp [api_Term_of_cost_normal_1_52.j6])
                  | succ kj60 =>
                    have H := HA.out
                    clear HA
                    simp only [api_Term_of_cost_normal_1_52.j6] at H
                    have HC63 := am H
                    clear H
                    go_upto_if 185 with (fail)
                    go_cut [] (fun wc => ∃ (kq : Nat) (x0_62 : List (S39)), Aside0 (api_Term_of_cost_normal_1_52.j7 kq x0_62 a1 a3 (wrap64 ((IntKind.u64.wrap (wrap64 (a1 + a3))) / 2)) x20_2 (wrap64 ((wrap64 ((wrap64 ((IntKind.u64.wrap (wrap64 (a1 + a3))) / 2)) + a2)) - x20_2)) = some r) ∧ Aside0 (kq ≤ kj60) ∧ Aside0 (Kd.R (kG W0_ okE_) 39 wc w0.heap.size (fun k_ => (P0_ k_ ∨ w.heap.size ≤ k_)) u9000_ x0_62) ∧ Aside0 (Kept w wc (fun k_ => P0_ k_)) ∧ Aside0 (Below w0.heap.size w0 wc))
                    case first => as_aux_lemma =>
                      have H := HC63.out
                      clear HC63
                      by_cases c64 : x185_60 = true
                      · subst c64
                        have H1 : ((api_Term_of_cost_normal_1_53.f kj60 l0 x20_2 a2 (wrap64 ((wrap64 ((wrap64 ((IntKind.u64.wrap (wrap64 (a1 + a3))) / 2)) + a2)) - x20_2))).bind fun t139 => (api_Term_of_cost_normal_1_52.j7 kj60 t139 a1 a3 (wrap64 ((IntKind.u64.wrap (wrap64 (a1 + a3))) / 2)) x20_2 (wrap64 ((wrap64 ((wrap64 ((IntKind.u64.wrap (wrap64 (a1 + a3))) / 2)) + a2)) - x20_2)))) = some r := by rw [if_pos rfl] at H; exact H
                        clear H
                        have H := H1
                        clear H1
                        replace H := Option.bind_eq_some_iff.mp H
                        obtain ⟨t139, A650, H⟩ := H
                        replace H : (api_Term_of_cost_normal_1_52.j7 kj60 t139 a1 a3 (wrap64 ((IntKind.u64.wrap (wrap64 (a1 + a3))) / 2)) x20_2 (wrap64 ((wrap64 ((wrap64 ((IntKind.u64.wrap (wrap64 (a1 + a3))) / 2)) + a2)) - x20_2))) = some r := H
                        have A65 := am A650
                        clear A650
                        have H' := am H
                        clear H
                        obtain ⟨Ao66, co66, eo66⟩ := Kd.R_slice HO_0.out
                        subst eo66
                        go_wp2_with (((with_reducible refine gate_callee (f := 53) rfl ?_); refine goesL_ (some 191) rfl rfl Try.func53 (by kernel_rfl) rfl #[.slice Ao66 l0.length co66, .int .i64 x20_2, .int .i64 a2, .int .i64 (wrap64 ((wrap64 ((wrap64 ((IntKind.u64.wrap (wrap64 (a1 + a3))) / 2)) + a2)) - x20_2)), .func (.func 41) #[] #[]] rfl (by (try simp only [List.map_toArray, List.map_cons, List.map_nil]); rfl) ?_; (with_reducible refine (api_Term_of_cost_normal_1_53.calls W0_ okE_ kj60 (fun k_ => some k_ = (.slice Ao66 l0.length co66 : Value).ownBlock) (.slice Ao66 l0.length co66) l0 x20_2 a2 (wrap64 ((wrap64 ((wrap64 ((IntKind.u64.wrap (wrap64 (a1 + a3))) / 2)) + a2)) - x20_2))  t139 w0 _ ?side1 ?side2 A65.out).mono ?_); (case side1 => exact HB.out); (case side2 => exact Kd.R_tight rfl HO_0.out); rintro e w67 ⟨rfl, hy0, hb, hkp⟩; refine ⟨_, rfl, ?_⟩; replace HK := am (Kept.then_ (S := (fun k_ => P0_ k_)) HK.out hkp (fun k_ hs_ => (fun e_ => (HO_0.out.1 k_ e_.symm)) hs_)); replace HO_0 := am (Kd.R_reok rfl hy0 (fun k_ e_ => HO_0.out.1 k_ e_)); replace HB := am (hb); (try clear hb); (try clear hkp); (try clear hy0)))
                        go_meet
                        case rel => exact ⟨_, (t139), H', ⟨by have := HJ43.out; have := HK2.out; have := HJ60.out; omega⟩, ⟨by exact HO_0.out⟩, ⟨by exact HK.out⟩, ⟨by exact HB.out⟩⟩
                      · replace c64 := Bool.eq_false_iff.mpr c64
                        subst c64
                        have H1 : (api_Term_of_cost_normal_1_52.j7 kj60 l0 a1 a3 (wrap64 ((IntKind.u64.wrap (wrap64 (a1 + a3))) / 2)) x20_2 (wrap64 ((wrap64 ((wrap64 ((IntKind.u64.wrap (wrap64 (a1 + a3))) / 2)) + a2)) - x20_2))) = some r := by rw [if_neg (show ¬ (false = true) by decide)] at H; exact H
                        clear H
                        have H := H1
                        clear H1
                        have H' := am H
                        clear H
                        go_wp2
                        go_meet
                        case rel => exact ⟨_, (l0), H', ⟨by have := HJ43.out; have := HK2.out; have := HJ60.out; omega⟩, ⟨by exact HO_0.out⟩, ⟨by exact HK.out⟩, ⟨by exact HB.out⟩⟩
                    case rest => as_aux_lemma =>
                      clear HC63
                      obtain ⟨kq, x0_62, HA, HJ62, HO_0, HK, HB⟩ := hcut
                      cases kq with
                      | zero => exact absurd HA.out (by simp [api_Term_of_cost_normal_1_52.j7])
                      | succ kj62 =>
                        have H := HA.out
                        clear HA
                        simp only [api_Term_of_cost_normal_1_52.j7] at H
                        have HC68 := am H
                        clear H
                        go_upto_region 41 with (fail)
                        go_cut [199] (fun v199 wc => ∃ (kq : Nat) (x199_67 : Bool), v199 = .bool x199_67 ∧ Aside0 (api_Term_of_cost_normal_1_52.j8 kq x0_62 a1 a3 (wrap64 ((IntKind.u64.wrap (wrap64 (a1 + a3))) / 2)) x20_2 (wrap64 ((wrap64 ((wrap64 ((IntKind.u64.wrap (wrap64 (a1 + a3))) / 2)) + a2)) - x20_2)) x199_67 = some r) ∧ Aside0 (kq ≤ kj62) ∧ Aside0 (Kd.R (kG W0_ okE_) 39 wc w0.heap.size (fun k_ => (P0_ k_ ∨ w.heap.size ≤ k_)) u9000_ x0_62) ∧ Aside0 (Kept w wc (fun k_ => P0_ k_)) ∧ Aside0 (Below w0.heap.size w0 wc))
                        case first => as_aux_lemma =>
                          have H := HC68.out
                          clear HC68
                          by_cases c69 : a1 < x20_2
                          · rw [if_pos c69] at H
                            have c69b0 : decide (a1 < x20_2) = true := decide_eq_true c69
                            clear c69
                            (skip)
                            have H' := am H
                            clear H
                            go_wp2
                            go_meet
                            case rel => exact ⟨_, (decide (x20_2 < (wrap64 ((IntKind.u64.wrap (wrap64 (a1 + a3))) / 2)))), (by with_reducible rfl), H', ⟨by have := HJ43.out; have := HK2.out; have := HJ60.out; have := HJ62.out; omega⟩, ⟨by exact HO_0.out⟩, ⟨by exact HK.out⟩, ⟨by exact HB.out⟩⟩
                          · rw [if_neg c69] at H
                            have c69b0 : decide (a1 < x20_2) = false := decide_eq_false c69
                            clear c69
                            (skip)
                            have H' := am H
                            clear H
                            go_wp2
                            go_meet
                            case rel => exact ⟨_, (false), (by with_reducible rfl), H', ⟨by have := HJ43.out; have := HK2.out; have := HJ60.out; have := HJ62.out; omega⟩, ⟨by exact HO_0.out⟩, ⟨by exact HK.out⟩, ⟨by exact HB.out⟩⟩
                        case rest => as_aux_lemma =>
                          clear HC68
                          obtain ⟨kq, x199_67, rfl, HA, HJ67, HO_0, HK, HB⟩ := hcut
                          cases kq with
                          | zero => exact absurd HA.out (by simp [api_Term_of_cost_normal_1_52.j8])
                          | succ kj67 =>
                            have H := HA.out
                            clear HA
                            simp only [api_Term_of_cost_normal_1_52.j8] at H
                            by_cases c70 : x199_67 = true
                            · subst c70
                              have H1 : ((api_Term_of_cost_normal_1_52.f kj67 x0_62 a1 x20_2 (wrap64 ((IntKind.u64.wrap (wrap64 (a1 + a3))) / 2))).bind fun t140 => (if (wrap64 ((IntKind.u64.wrap (wrap64 (a1 + a3))) / 2)) < (wrap64 ((wrap64 ((wrap64 ((IntKind.u64.wrap (wrap64 (a1 + a3))) / 2)) + a2)) - x20_2)) then (if (wrap64 ((wrap64 ((wrap64 ((IntKind.u64.wrap (wrap64 (a1 + a3))) / 2)) + a2)) - x20_2)) < a3 then ((api_Term_of_cost_normal_1_52.f kj67 t140 (wrap64 ((IntKind.u64.wrap (wrap64 (a1 + a3))) / 2)) (wrap64 ((wrap64 ((wrap64 ((IntKind.u64.wrap (wrap64 (a1 + a3))) / 2)) + a2)) - x20_2)) a3).bind fun t141 => (some t141)) else (some t140)) else (some t140))) = some r := by rw [if_pos rfl] at H; exact H
                              clear H
                              have H := H1
                              clear H1
                              replace H := Option.bind_eq_some_iff.mp H
                              obtain ⟨t140, A710, H⟩ := H
                              replace H : (if (wrap64 ((IntKind.u64.wrap (wrap64 (a1 + a3))) / 2)) < (wrap64 ((wrap64 ((wrap64 ((IntKind.u64.wrap (wrap64 (a1 + a3))) / 2)) + a2)) - x20_2)) then (if (wrap64 ((wrap64 ((wrap64 ((IntKind.u64.wrap (wrap64 (a1 + a3))) / 2)) + a2)) - x20_2)) < a3 then ((api_Term_of_cost_normal_1_52.f kj67 t140 (wrap64 ((IntKind.u64.wrap (wrap64 (a1 + a3))) / 2)) (wrap64 ((wrap64 ((wrap64 ((IntKind.u64.wrap (wrap64 (a1 + a3))) / 2)) + a2)) - x20_2)) a3).bind fun t141 => (some t141)) else (some t140)) else (some t140)) = some r := H
                              have A71 := am A710
                              clear A710
                              by_cases c72 : (wrap64 ((IntKind.u64.wrap (wrap64 (a1 + a3))) / 2)) < (wrap64 ((wrap64 ((wrap64 ((IntKind.u64.wrap (wrap64 (a1 + a3))) / 2)) + a2)) - x20_2))
                              · rw [if_pos c72] at H
                                have c72b0 : decide ((wrap64 ((IntKind.u64.wrap (wrap64 (a1 + a3))) / 2)) < (wrap64 ((wrap64 ((wrap64 ((IntKind.u64.wrap (wrap64 (a1 + a3))) / 2)) + a2)) - x20_2))) = true := decide_eq_true c72
                                clear c72
                                by_cases c73 : (wrap64 ((wrap64 ((wrap64 ((IntKind.u64.wrap (wrap64 (a1 + a3))) / 2)) + a2)) - x20_2)) < a3
                                · rw [if_pos c73] at H
                                  have c73b0 : decide ((wrap64 ((wrap64 ((wrap64 ((IntKind.u64.wrap (wrap64 (a1 + a3))) / 2)) + a2)) - x20_2)) < a3) = true := decide_eq_true c73
                                  clear c73
                                  replace H := Option.bind_eq_some_iff.mp H
                                  obtain ⟨t141, A740, H⟩ := H
                                  replace H : (some t141) = some r := H
                                  have A74 := am A740
                                  clear A740
                                  obtain rfl := Option.some.inj H
                                  obtain ⟨Ao75, co75, eo75⟩ := Kd.R_slice HO_0.out
                                  subst eo75
                                  go_wp2_with (first | ((with_reducible refine gate_callee (f := 52) rfl ?_); refine goesL_ (some 205) rfl rfl Try.func52 (by kernel_rfl) rfl #[.slice Ao75 x0_62.length co75, .int .i64 a1, .int .i64 x20_2, .int .i64 (wrap64 ((IntKind.u64.wrap (wrap64 (a1 + a3))) / 2)), .func (.func 41) #[] #[]] rfl (by (try simp only [List.map_toArray, List.map_cons, List.map_nil]); rfl) ?_; (with_reducible refine (ih kj67 (by have := HJ43.out; have := HK2.out; have := HJ60.out; have := HJ62.out; have := HJ67.out; omega) (fun k_ => some k_ = (.slice Ao75 x0_62.length co75 : Value).ownBlock) (.slice Ao75 x0_62.length co75) x0_62 a1 x20_2 (wrap64 ((IntKind.u64.wrap (wrap64 (a1 + a3))) / 2))  t140 w0 _ ?side1 ?side2 ?sideW ?sideZ ?sideD A71.out).mono ?_); (case side1 => exact HB.out); (case side2 => exact Kd.R_tight rfl HO_0.out); (case sideW => exact hW_.trans hZ_ HK.out hD_); (case sideZ => exact Nat.le_trans hZ_ HK.out.1); (case sideD => exact fun k_ ho_ hl_ e_ => (HO_0.out.1 k_ e_.symm).elim (hD_ k_ ho_ hl_) (fun hn_ => absurd hl_ (by omega))); rintro e w76 ⟨rfl, hy0, hb, hkp⟩; refine ⟨_, rfl, ?_⟩; replace HK := am (Kept.then_ (S := (fun k_ => P0_ k_)) HK.out hkp (fun k_ hs_ => (fun e_ => (HO_0.out.1 k_ e_.symm)) hs_)); replace HO_0 := am (Kd.R_reok rfl hy0 (fun k_ e_ => HO_0.out.1 k_ e_)); replace HB := am (hb); (try clear hb); (try clear hkp); (try clear hy0)) | ((with_reducible refine gate_callee (f := 52) rfl ?_); refine goesL_ (some 219) rfl rfl Try.func52 (by kernel_rfl) rfl #[.slice Ao75 x0_62.length co75, .int .i64 (wrap64 ((IntKind.u64.wrap (wrap64 (a1 + a3))) / 2)), .int .i64 (wrap64 ((wrap64 ((wrap64 ((IntKind.u64.wrap (wrap64 (a1 + a3))) / 2)) + a2)) - x20_2)), .int .i64 a3, .func (.func 41) #[] #[]] rfl (by (try simp only [List.map_toArray, List.map_cons, List.map_nil]); rfl) ?_; (with_reducible refine (ih kj67 (by have := HJ43.out; have := HK2.out; have := HJ60.out; have := HJ62.out; have := HJ67.out; omega) (fun k_ => some k_ = (.slice Ao75 x0_62.length co75 : Value).ownBlock) (.slice Ao75 x0_62.length co75) t140 (wrap64 ((IntKind.u64.wrap (wrap64 (a1 + a3))) / 2)) (wrap64 ((wrap64 ((wrap64 ((IntKind.u64.wrap (wrap64 (a1 + a3))) / 2)) + a2)) - x20_2)) a3  t141 w0 _ ?side1 ?side2 ?sideW ?sideZ ?sideD A74.out).mono ?_); (case side1 => exact HB.out); (case side2 => exact Kd.R_tight rfl HO_0.out); (case sideW => exact hW_.trans hZ_ HK.out hD_); (case sideZ => exact Nat.le_trans hZ_ HK.out.1); (case sideD => exact fun k_ ho_ hl_ e_ => (HO_0.out.1 k_ e_.symm).elim (hD_ k_ ho_ hl_) (fun hn_ => absurd hl_ (by omega))); rintro e w77 ⟨rfl, hy0, hb, hkp⟩; refine ⟨_, rfl, ?_⟩; replace HK := am (Kept.then_ (S := (fun k_ => P0_ k_)) HK.out hkp (fun k_ hs_ => (fun e_ => (HO_0.out.1 k_ e_.symm)) hs_)); replace HO_0 := am (Kd.R_reok rfl hy0 (fun k_ e_ => HO_0.out.1 k_ e_)); replace HB := am (hb); (try clear hb); (try clear hkp); (try clear hy0)))
                                  go_end0
                                  exact ⟨by rfl, by exact HO_0.out, by exact HB.out, by exact HK.out⟩
                                · rw [if_neg c73] at H
                                  have c73b0 : decide ((wrap64 ((wrap64 ((wrap64 ((IntKind.u64.wrap (wrap64 (a1 + a3))) / 2)) + a2)) - x20_2)) < a3) = false := decide_eq_false c73
                                  clear c73
                                  obtain rfl := Option.some.inj H
                                  obtain ⟨Ao78, co78, eo78⟩ := Kd.R_slice HO_0.out
                                  subst eo78
                                  go_wp2_with (((with_reducible refine gate_callee (f := 52) rfl ?_); refine goesL_ (some 205) rfl rfl Try.func52 (by kernel_rfl) rfl #[.slice Ao78 x0_62.length co78, .int .i64 a1, .int .i64 x20_2, .int .i64 (wrap64 ((IntKind.u64.wrap (wrap64 (a1 + a3))) / 2)), .func (.func 41) #[] #[]] rfl (by (try simp only [List.map_toArray, List.map_cons, List.map_nil]); rfl) ?_; (with_reducible refine (ih kj67 (by have := HJ43.out; have := HK2.out; have := HJ60.out; have := HJ62.out; have := HJ67.out; omega) (fun k_ => some k_ = (.slice Ao78 x0_62.length co78 : Value).ownBlock) (.slice Ao78 x0_62.length co78) x0_62 a1 x20_2 (wrap64 ((IntKind.u64.wrap (wrap64 (a1 + a3))) / 2))  t140 w0 _ ?side1 ?side2 ?sideW ?sideZ ?sideD A71.out).mono ?_); (case side1 => exact HB.out); (case side2 => exact Kd.R_tight rfl HO_0.out); (case sideW => exact hW_.trans hZ_ HK.out hD_); (case sideZ => exact Nat.le_trans hZ_ HK.out.1); (case sideD => exact fun k_ ho_ hl_ e_ => (HO_0.out.1 k_ e_.symm).elim (hD_ k_ ho_ hl_) (fun hn_ => absurd hl_ (by omega))); rintro e w79 ⟨rfl, hy0, hb, hkp⟩; refine ⟨_, rfl, ?_⟩; replace HK := am (Kept.then_ (S := (fun k_ => P0_ k_)) HK.out hkp (fun k_ hs_ => (fun e_ => (HO_0.out.1 k_ e_.symm)) hs_)); replace HO_0 := am (Kd.R_reok rfl hy0 (fun k_ e_ => HO_0.out.1 k_ e_)); replace HB := am (hb); (try clear hb); (try clear hkp); (try clear hy0)))
                                  go_end0
                                  exact ⟨by rfl, by exact HO_0.out, by exact HB.out, by exact HK.out⟩
                              · rw [if_neg c72] at H
                                have c72b0 : decide ((wrap64 ((IntKind.u64.wrap (wrap64 (a1 + a3))) / 2)) < (wrap64 ((wrap64 ((wrap64 ((IntKind.u64.wrap (wrap64 (a1 + a3))) / 2)) + a2)) - x20_2))) = false := decide_eq_false c72
                                clear c72
                                obtain rfl := Option.some.inj H
                                obtain ⟨Ao80, co80, eo80⟩ := Kd.R_slice HO_0.out
                                subst eo80
                                go_wp2_with (((with_reducible refine gate_callee (f := 52) rfl ?_); refine goesL_ (some 205) rfl rfl Try.func52 (by kernel_rfl) rfl #[.slice Ao80 x0_62.length co80, .int .i64 a1, .int .i64 x20_2, .int .i64 (wrap64 ((IntKind.u64.wrap (wrap64 (a1 + a3))) / 2)), .func (.func 41) #[] #[]] rfl (by (try simp only [List.map_toArray, List.map_cons, List.map_nil]); rfl) ?_; (with_reducible refine (ih kj67 (by have := HJ43.out; have := HK2.out; have := HJ60.out; have := HJ62.out; have := HJ67.out; omega) (fun k_ => some k_ = (.slice Ao80 x0_62.length co80 : Value).ownBlock) (.slice Ao80 x0_62.length co80) x0_62 a1 x20_2 (wrap64 ((IntKind.u64.wrap (wrap64 (a1 + a3))) / 2))  t140 w0 _ ?side1 ?side2 ?sideW ?sideZ ?sideD A71.out).mono ?_); (case side1 => exact HB.out); (case side2 => exact Kd.R_tight rfl HO_0.out); (case sideW => exact hW_.trans hZ_ HK.out hD_); (case sideZ => exact Nat.le_trans hZ_ HK.out.1); (case sideD => exact fun k_ ho_ hl_ e_ => (HO_0.out.1 k_ e_.symm).elim (hD_ k_ ho_ hl_) (fun hn_ => absurd hl_ (by omega))); rintro e w81 ⟨rfl, hy0, hb, hkp⟩; refine ⟨_, rfl, ?_⟩; replace HK := am (Kept.then_ (S := (fun k_ => P0_ k_)) HK.out hkp (fun k_ hs_ => (fun e_ => (HO_0.out.1 k_ e_.symm)) hs_)); replace HO_0 := am (Kd.R_reok rfl hy0 (fun k_ e_ => HO_0.out.1 k_ e_)); replace HB := am (hb); (try clear hb); (try clear hkp); (try clear hy0)))
                                go_end0
                                exact ⟨by rfl, by exact HO_0.out, by exact HB.out, by exact HK.out⟩
                            · replace c70 := Bool.eq_false_iff.mpr c70
                              subst c70
                              have H1 : (if (wrap64 ((IntKind.u64.wrap (wrap64 (a1 + a3))) / 2)) < (wrap64 ((wrap64 ((wrap64 ((IntKind.u64.wrap (wrap64 (a1 + a3))) / 2)) + a2)) - x20_2)) then (if (wrap64 ((wrap64 ((wrap64 ((IntKind.u64.wrap (wrap64 (a1 + a3))) / 2)) + a2)) - x20_2)) < a3 then ((api_Term_of_cost_normal_1_52.f kj67 x0_62 (wrap64 ((IntKind.u64.wrap (wrap64 (a1 + a3))) / 2)) (wrap64 ((wrap64 ((wrap64 ((IntKind.u64.wrap (wrap64 (a1 + a3))) / 2)) + a2)) - x20_2)) a3).bind fun t142 => (some t142)) else (some x0_62)) else (some x0_62)) = some r := by rw [if_neg (show ¬ (false = true) by decide)] at H; exact H
                              clear H
                              have H := H1
                              clear H1
                              by_cases c82 : (wrap64 ((IntKind.u64.wrap (wrap64 (a1 + a3))) / 2)) < (wrap64 ((wrap64 ((wrap64 ((IntKind.u64.wrap (wrap64 (a1 + a3))) / 2)) + a2)) - x20_2))
                              · rw [if_pos c82] at H
                                have c82b0 : decide ((wrap64 ((IntKind.u64.wrap (wrap64 (a1 + a3))) / 2)) < (wrap64 ((wrap64 ((wrap64 ((IntKind.u64.wrap (wrap64 (a1 + a3))) / 2)) + a2)) - x20_2))) = true := decide_eq_true c82
                                clear c82
                                by_cases c83 : (wrap64 ((wrap64 ((wrap64 ((IntKind.u64.wrap (wrap64 (a1 + a3))) / 2)) + a2)) - x20_2)) < a3
                                · rw [if_pos c83] at H
                                  have c83b0 : decide ((wrap64 ((wrap64 ((wrap64 ((IntKind.u64.wrap (wrap64 (a1 + a3))) / 2)) + a2)) - x20_2)) < a3) = true := decide_eq_true c83
                                  clear c83
                                  replace H := Option.bind_eq_some_iff.mp H
                                  obtain ⟨t142, A840, H⟩ := H
                                  replace H : (some t142) = some r := H
                                  have A84 := am A840
                                  clear A840
                                  obtain rfl := Option.some.inj H
                                  obtain ⟨Ao85, co85, eo85⟩ := Kd.R_slice HO_0.out
                                  subst eo85
                                  go_wp2_with (((with_reducible refine gate_callee (f := 52) rfl ?_); refine goesL_ (some 219) rfl rfl Try.func52 (by kernel_rfl) rfl #[.slice Ao85 x0_62.length co85, .int .i64 (wrap64 ((IntKind.u64.wrap (wrap64 (a1 + a3))) / 2)), .int .i64 (wrap64 ((wrap64 ((wrap64 ((IntKind.u64.wrap (wrap64 (a1 + a3))) / 2)) + a2)) - x20_2)), .int .i64 a3, .func (.func 41) #[] #[]] rfl (by (try simp only [List.map_toArray, List.map_cons, List.map_nil]); rfl) ?_; (with_reducible refine (ih kj67 (by have := HJ43.out; have := HK2.out; have := HJ60.out; have := HJ62.out; have := HJ67.out; omega) (fun k_ => some k_ = (.slice Ao85 x0_62.length co85 : Value).ownBlock) (.slice Ao85 x0_62.length co85) x0_62 (wrap64 ((IntKind.u64.wrap (wrap64 (a1 + a3))) / 2)) (wrap64 ((wrap64 ((wrap64 ((IntKind.u64.wrap (wrap64 (a1 + a3))) / 2)) + a2)) - x20_2)) a3  t142 w0 _ ?side1 ?side2 ?sideW ?sideZ ?sideD A84.out).mono ?_); (case side1 => exact HB.out); (case side2 => exact Kd.R_tight rfl HO_0.out); (case sideW => exact hW_.trans hZ_ HK.out hD_); (case sideZ => exact Nat.le_trans hZ_ HK.out.1); (case sideD => exact fun k_ ho_ hl_ e_ => (HO_0.out.1 k_ e_.symm).elim (hD_ k_ ho_ hl_) (fun hn_ => absurd hl_ (by omega))); rintro e w86 ⟨rfl, hy0, hb, hkp⟩; refine ⟨_, rfl, ?_⟩; replace HK := am (Kept.then_ (S := (fun k_ => P0_ k_)) HK.out hkp (fun k_ hs_ => (fun e_ => (HO_0.out.1 k_ e_.symm)) hs_)); replace HO_0 := am (Kd.R_reok rfl hy0 (fun k_ e_ => HO_0.out.1 k_ e_)); replace HB := am (hb); (try clear hb); (try clear hkp); (try clear hy0)))
                                  go_end0
                                  exact ⟨by rfl, by exact HO_0.out, by exact HB.out, by exact HK.out⟩
                                · rw [if_neg c83] at H
                                  have c83b0 : decide ((wrap64 ((wrap64 ((wrap64 ((IntKind.u64.wrap (wrap64 (a1 + a3))) / 2)) + a2)) - x20_2)) < a3) = false := decide_eq_false c83
                                  clear c83
                                  obtain rfl := Option.some.inj H
                                  go_wp2
                                  go_end0
                                  exact ⟨by rfl, by exact HO_0.out, by exact HB.out, by exact HK.out⟩
                              · rw [if_neg c82] at H
                                have c82b0 : decide ((wrap64 ((IntKind.u64.wrap (wrap64 (a1 + a3))) / 2)) < (wrap64 ((wrap64 ((wrap64 ((IntKind.u64.wrap (wrap64 (a1 + a3))) / 2)) + a2)) - x20_2))) = false := decide_eq_false c82
                                clear c82
                                obtain rfl := Option.some.inj H
                                go_wp2
                                go_end0
                                exact ⟨by rfl, by exact HO_0.out, by exact HB.out, by exact HK.out⟩
set_option maxHeartbeats 8000000 in
set_option maxRecDepth 100000 in
theorem api_Term_of_cost_normal_1_52.calls (W0_ : World) (okE_ : Nat → Prop) (k : Nat) : ∀ (P0_ : Nat → Prop) (u9000_ : Value) (l0 : List (S39)) (a1 : Int) (a2 : Int) (a3 : Int)  (r : List (S39)) (w0 w : World) (hB : Below w0.heap.size w0 w) (ho0 : Kd.R (kG W0_ okE_) 39 w w0.heap.size P0_ u9000_ l0) (hW_ : Keeps W0_ w okE_) (hZ_ : W0_.heap.size ≤ w.heap.size) (hD_ : ∀ k_, okE_ k_ → k_ < W0_.heap.size → ¬ P0_ k_) (h : api_Term_of_cost_normal_1_52.f k l0 a1 a2 a3 = some r),
    Calls Try.prog 52 #[u9000_, .int .i64 a1, .int .i64 a2, .int .i64 a3, .func (.func 41) #[] #[]] w fun e w' => e = .returned (.tuple #[]) ∧ Kd.R (kG W0_ okE_) 39 w' w0.heap.size (fun k_ => (P0_ k_ ∨ w.heap.size ≤ k_)) u9000_ r ∧ Below w0.heap.size w0 w' ∧ Kept w w' (fun k_ => P0_ k_) := by
  induction k using Nat.strongRecOn with
  | _ k ih =>
  intro P0_ u9000_ l0 a1 a2 a3 r w0 w hB ho0 hW_ hZ_ hD_ h
  cases k with
  | zero => exact absurd h (by simp [api_Term_of_cost_normal_1_52.f])
  | succ k =>
  simp only [api_Term_of_cost_normal_1_52.f] at h
  have HO0 := am (show Kd.R (kG W0_ okE_) 39 w w0.heap.size (fun k_ => (P0_ k_ ∨ w.heap.size ≤ k_)) u9000_ l0 from Kd.R_mono ho0 (fun k_ hk => (.inl hk)))
  have HK := am (Kept.refl w (fun k_ => P0_ k_))
  have HW0 := am hB.size
  have HB := am hB
  clear hB
  have H : (if (wrap64 (a2 - a1)) = 1 then (api_Term_of_cost_normal_1_52.l0 k l0 a1 a2 a3) else (if (wrap64 (a3 - a2)) = 1 then (api_Term_of_cost_normal_1_52.l2 k l0 a2 a1 a2) else (if a2 > (wrap64 ((IntKind.u64.wrap (wrap64 (a1 + a3))) / 2)) then (api_Term_of_cost_normal_1_52.j4 k l0 a1 a2 a3 (wrap64 ((IntKind.u64.wrap (wrap64 (a1 + a3))) / 2)) (wrap64 ((wrap64 ((IntKind.u64.wrap (wrap64 (a1 + a3))) / 2)) + a2)) (wrap64 ((wrap64 ((wrap64 ((IntKind.u64.wrap (wrap64 (a1 + a3))) / 2)) + a2)) - a3)) (wrap64 ((IntKind.u64.wrap (wrap64 (a1 + a3))) / 2))) else (api_Term_of_cost_normal_1_52.j4 k l0 a1 a2 a3 (wrap64 ((IntKind.u64.wrap (wrap64 (a1 + a3))) / 2)) (wrap64 ((wrap64 ((IntKind.u64.wrap (wrap64 (a1 + a3))) / 2)) + a2)) a1 a2)))) = some r := h
  clear h
  by_cases c6 : (wrap64 (a2 - a1)) = 1
  · exact api_Term_of_cost_normal_1_52.case1 W0_ okE_ k P0_ u9000_ l0 a1 a2 a3 r w0 w hW_ hZ_ hD_ HO0 HK HW0 HB H c6
  · by_cases c25 : (wrap64 (a3 - a2)) = 1
    · exact api_Term_of_cost_normal_1_52.case2 W0_ okE_ k P0_ u9000_ l0 a1 a2 a3 r w0 w hW_ hZ_ hD_ HO0 HK HW0 HB H c6 c25
    · exact api_Term_of_cost_normal_1_52.case3 W0_ okE_ k ih P0_ u9000_ l0 a1 a2 a3 r w0 w hW_ hZ_ hD_ HO0 HK HW0 HB H c6 c25
end Go.Proofs.Ytkkocmmilmbgpaa.S
end
section
namespace Go.Proofs.Ytkkocmmilmbgpaa.S
open Go.RowKit Go.Proofs.YtkkocmmilmbgpaaW.PrintWords Go.Proofs.YtkkocmmilmbgpaaW.PrintLast Go.Proofs.YtkkocmmilmbgpaaW.PrintMore
attribute [local go_sem] max2_int min2_int max_two min_two max_three min_three max_four min_four
set_option linter.unusedVariables false
set_option linter.unusedSimpArgs false
mutual
def api_Term_of_cost_normal_1_49.l0 : Nat → List (S39) → Int → Int → Int → Int → Option ((List (S39)))
  | 0, _, _, _, _, _ => none
  | k + 1, x0, x1, x6, x7, x8 => if x8 ≤ x1 then ((api_Term_of_cost_normal_1_51.f x0 x7 x8).bind fun t143 => (api_Term_of_cost_normal_1_49.l0 k t143 x1 x6 x8 (wrap64 (x8 + x6)))) else ((api_Term_of_cost_normal_1_51.f x0 x7 x1).bind fun t144 => (api_Term_of_cost_normal_1_49.l1 k t144 x1 x6))
def api_Term_of_cost_normal_1_49.l1 : Nat → List (S39) → Int → Int → Option ((List (S39)))
  | 0, _, _, _ => none
  | k + 1, x0, x1, x6 => if x6 < x1 then (api_Term_of_cost_normal_1_49.l2 k x0 x1 x6 0 (wrap64 (2 * x6))) else (some x0)
def api_Term_of_cost_normal_1_49.l2 : Nat → List (S39) → Int → Int → Int → Int → Option ((List (S39)))
  | 0, _, _, _, _, _ => none
  | k + 1, x0, x1, x6, x7, x8 => if x8 ≤ x1 then ((api_Term_of_cost_normal_1_52.f k x0 x7 (wrap64 (x7 + x6)) x8).bind fun t145 => (api_Term_of_cost_normal_1_49.l2 k t145 x1 x6 x8 (wrap64 (x8 + (wrap64 (2 * x6)))))) else (if (wrap64 (x7 + x6)) < x1 then ((api_Term_of_cost_normal_1_52.f k x0 x7 (wrap64 (x7 + x6)) x1).bind fun t146 => (api_Term_of_cost_normal_1_49.l1 k t146 x1 (wrap64 (x6 * 2)))) else (api_Term_of_cost_normal_1_49.l1 k x0 x1 (wrap64 (x6 * 2))))
end
def api_Term_of_cost_normal_1_49.f (k : Nat) (l0 : List (S39)) (a1 : Int)  : Option ((List (S39))) := api_Term_of_cost_normal_1_49.l0 k l0 a1 20 0 20
theorem api_Term_of_cost_normal_1_49.mono_l : ∀ k, (∀ y0 y1 y2 y3 y4, LeO (api_Term_of_cost_normal_1_49.l0 k y0 y1 y2 y3 y4) (api_Term_of_cost_normal_1_49.l0 (k + 1) y0 y1 y2 y3 y4)) ∧ (∀ y0 y1 y2, LeO (api_Term_of_cost_normal_1_49.l1 k y0 y1 y2) (api_Term_of_cost_normal_1_49.l1 (k + 1) y0 y1 y2)) ∧ (∀ y0 y1 y2 y3 y4, LeO (api_Term_of_cost_normal_1_49.l2 k y0 y1 y2 y3 y4) (api_Term_of_cost_normal_1_49.l2 (k + 1) y0 y1 y2 y3 y4))
  | 0 => ⟨fun _ _ _ _ _ r h => by simp [api_Term_of_cost_normal_1_49.l0] at h, fun _ _ _ r h => by simp [api_Term_of_cost_normal_1_49.l1] at h, fun _ _ _ _ _ r h => by simp [api_Term_of_cost_normal_1_49.l2] at h⟩
  | k + 1 => by
    obtain ⟨ih0, ih1, ih2⟩ := api_Term_of_cost_normal_1_49.mono_l k
    refine ⟨?_, ?_, ?_⟩
    · intro y0 y1 y2 y3 y4
      unfold api_Term_of_cost_normal_1_49.l0
      repeat' first
      | (with_reducible exact ih0 _ _ _ _ _)
      | (with_reducible exact ih1 _ _ _)
      | (with_reducible exact ih2 _ _ _ _ _)
      | (with_reducible exact api_Term_of_cost_normal_1_52.mono _ _ _ _ _)
      | (with_reducible exact LeO.refl _)
      | (with_reducible exact LeO.none _)
      | (with_reducible refine LeO.ite ?_ ?_)
      | (with_reducible refine LeO.bind ?_ (fun _ => ?_))
      | exact ih0 _ _ _ _ _
      | exact ih1 _ _ _
      | exact ih2 _ _ _ _ _
      | exact api_Term_of_cost_normal_1_52.mono _ _ _ _ _
      | exact LeO.none _
      | refine LeO.ite ?_ ?_
      | refine LeO.bind ?_ (fun _ => ?_)
    · intro y0 y1 y2
      unfold api_Term_of_cost_normal_1_49.l1
      repeat' first
      | (with_reducible exact ih0 _ _ _ _ _)
      | (with_reducible exact ih1 _ _ _)
      | (with_reducible exact ih2 _ _ _ _ _)
      | (with_reducible exact api_Term_of_cost_normal_1_52.mono _ _ _ _ _)
      | (with_reducible exact LeO.refl _)
      | (with_reducible exact LeO.none _)
      | (with_reducible refine LeO.ite ?_ ?_)
      | (with_reducible refine LeO.bind ?_ (fun _ => ?_))
      | exact ih0 _ _ _ _ _
      | exact ih1 _ _ _
      | exact ih2 _ _ _ _ _
      | exact api_Term_of_cost_normal_1_52.mono _ _ _ _ _
      | exact LeO.none _
      | refine LeO.ite ?_ ?_
      | refine LeO.bind ?_ (fun _ => ?_)
    · intro y0 y1 y2 y3 y4
      unfold api_Term_of_cost_normal_1_49.l2
      repeat' first
      | (with_reducible exact ih0 _ _ _ _ _)
      | (with_reducible exact ih1 _ _ _)
      | (with_reducible exact ih2 _ _ _ _ _)
      | (with_reducible exact api_Term_of_cost_normal_1_52.mono _ _ _ _ _)
      | (with_reducible exact LeO.refl _)
      | (with_reducible exact LeO.none _)
      | (with_reducible refine LeO.ite ?_ ?_)
      | (with_reducible refine LeO.bind ?_ (fun _ => ?_))
      | exact ih0 _ _ _ _ _
      | exact ih1 _ _ _
      | exact ih2 _ _ _ _ _
      | exact api_Term_of_cost_normal_1_52.mono _ _ _ _ _
      | exact LeO.none _
      | refine LeO.ite ?_ ?_
      | refine LeO.bind ?_ (fun _ => ?_)
theorem api_Term_of_cost_normal_1_49.mono : ∀ a0 a1 k, LeO (api_Term_of_cost_normal_1_49.f k a0 a1) (api_Term_of_cost_normal_1_49.f (k + 1) a0 a1) := by
  intro a0 a1 k
  obtain ⟨ih0, ih1, ih2⟩ := api_Term_of_cost_normal_1_49.mono_l k
  unfold api_Term_of_cost_normal_1_49.f
  repeat' first
      | (with_reducible exact ih0 _ _ _ _ _)
      | (with_reducible exact ih1 _ _ _)
      | (with_reducible exact ih2 _ _ _ _ _)
      | (with_reducible exact api_Term_of_cost_normal_1_52.mono _ _ _ _ _)
      | (with_reducible exact LeO.refl _)
      | (with_reducible exact LeO.none _)
      | (with_reducible refine LeO.ite ?_ ?_)
      | (with_reducible refine LeO.bind ?_ (fun _ => ?_))
      | exact ih0 _ _ _ _ _
      | exact ih1 _ _ _
      | exact ih2 _ _ _ _ _
      | exact api_Term_of_cost_normal_1_52.mono _ _ _ _ _
      | exact LeO.none _
      | refine LeO.ite ?_ ?_
      | refine LeO.bind ?_ (fun _ => ?_)
set_option maxHeartbeats 8000000 in
set_option maxRecDepth 100000 in
theorem api_Term_of_cost_normal_1_49.calls (W0_ : World) (okE_ : Nat → Prop) (k : Nat) (P0_ : Nat → Prop) (u9000_ : Value) (l0 : List (S39)) (a1 : Int)  (r : List (S39)) (w0 w : World) (hB : Below w0.heap.size w0 w) (ho0 : Kd.R (kG W0_ okE_) 39 w w0.heap.size P0_ u9000_ l0) (hW_ : Keeps W0_ w okE_) (hZ_ : W0_.heap.size ≤ w.heap.size) (hD_ : ∀ k_, okE_ k_ → k_ < W0_.heap.size → ¬ P0_ k_) (h : api_Term_of_cost_normal_1_49.f k l0 a1 = some r) :
    Calls Try.prog 49 #[u9000_, .int .i64 a1, .func (.func 41) #[] #[]] w fun e w' => e = .returned (.tuple #[]) ∧ Kd.R (kG W0_ okE_) 39 w' w0.heap.size (fun k_ => (P0_ k_ ∨ w.heap.size ≤ k_)) u9000_ r ∧ Below w0.heap.size w0 w' ∧ Kept w w' (fun k_ => P0_ k_) := by
  have HO0 := am (show Kd.R (kG W0_ okE_) 39 w w0.heap.size (fun k_ => (P0_ k_ ∨ w.heap.size ≤ k_)) u9000_ l0 from Kd.R_mono ho0 (fun k_ hk => (.inl hk)))
  have HK := am (Kept.refl w (fun k_ => P0_ k_))
  have HW0 := am hB.size
  have HB := am hB
  clear hB
  have H : (api_Term_of_cost_normal_1_49.l0 k l0 a1 20 0 20) = some r := h
  clear h
  have H' := am H
  clear H
  go_enter Try.func49, Try.ntmps49
  go_wp2
  go_loopg [7, 8] k (fun kq v7 v8 w' => ∃ (x0_1 : List (S39)) (x7_1 : Int) (x8_1 : Int), v7 = .int .i64 x7_1 ∧ v8 = .int .i64 x8_1 ∧ Aside0 (api_Term_of_cost_normal_1_49.l0 kq x0_1 a1 20 x7_1 x8_1 = some r) ∧ Aside0 (kq ≤ k) ∧ Aside0 (Kd.R (kG W0_ okE_) 39 w' w0.heap.size (fun k_ => (P0_ k_ ∨ w.heap.size ≤ k_)) u9000_ x0_1) ∧ Aside0 (Kept w w' (fun k_ => P0_ k_)) ∧ Aside0 (Below w0.heap.size w0 w'))
  case atStart => exact ⟨(l0), (0), (20), (by rfl), (by rfl), H', ⟨Nat.le_refl _⟩, ⟨by exact HO0.out⟩, ⟨by exact HK.out⟩, ⟨by exact HB.out⟩⟩
  case round =>
    clear H'
    obtain ⟨x0_1, x7_1, x8_1, rfl, rfl, HA, HK1, HO_0, HK, HB⟩ := hrel
    cases gk with
    | zero => exact absurd HA.out (by simp [api_Term_of_cost_normal_1_49.l0])
    | succ k1 =>
      have H := HA.out
      clear HA
      simp only [api_Term_of_cost_normal_1_49.l0] at H
      by_cases c4 : x8_1 ≤ a1
      · rw [if_pos c4] at H
        have c4b0 : decide (x8_1 ≤ a1) = true := decide_eq_true c4
        clear c4
        replace H := Option.bind_eq_some_iff.mp H
        obtain ⟨t143, A50, H⟩ := H
        replace H : (api_Term_of_cost_normal_1_49.l0 k1 t143 a1 20 x8_1 (wrap64 (x8_1 + 20))) = some r := H
        have A5 := am A50
        clear A50
        have H' := am H
        clear H
        obtain ⟨Ao6, co6, eo6⟩ := Kd.R_slice HO_0.out
        subst eo6
        go_wp2_with (((with_reducible refine gate_callee (f := 51) rfl ?_); refine goesL_ (some 18) rfl rfl Try.func51 (by kernel_rfl) rfl #[.slice Ao6 x0_1.length co6, .int .i64 x7_1, .int .i64 x8_1, .func (.func 41) #[] #[]] rfl (by (try simp only [List.map_toArray, List.map_cons, List.map_nil]); rfl) ?_; (with_reducible refine (api_Term_of_cost_normal_1_51.calls W0_ okE_ (fun k_ => some k_ = (.slice Ao6 x0_1.length co6 : Value).ownBlock) (.slice Ao6 x0_1.length co6) x0_1 x7_1 x8_1  t143 w0 _ ?side1 ?side2 ?sideW ?sideZ ?sideD A5.out).mono ?_); (case side1 => exact HB.out); (case side2 => exact Kd.R_tight rfl HO_0.out); (case sideW => exact hW_.trans hZ_ HK.out hD_); (case sideZ => exact Nat.le_trans hZ_ HK.out.1); (case sideD => exact fun k_ ho_ hl_ e_ => (HO_0.out.1 k_ e_.symm).elim (hD_ k_ ho_ hl_) (fun hn_ => absurd hl_ (by omega))); rintro e w7 ⟨rfl, hy0, hb, hkp⟩; refine ⟨_, rfl, ?_⟩; replace HK := am (Kept.then_ (S := (fun k_ => P0_ k_)) HK.out hkp (fun k_ hs_ => (fun e_ => (HO_0.out.1 k_ e_.symm)) hs_)); replace HO_0 := am (Kd.R_reok rfl hy0 (fun k_ e_ => HO_0.out.1 k_ e_)); replace HB := am (hb); (try clear hb); (try clear hkp); (try clear hy0)))
        go_roundg k1
        case measure => have := HK1.out; omega
        case rel => exact ⟨(t143), (x8_1), (wrap64 (x8_1 + 20)), (by rfl), (by rfl), H', ⟨by have := HK1.out; omega⟩, ⟨by exact HO_0.out⟩, ⟨by exact HK.out⟩, ⟨by exact HB.out⟩⟩
      · rw [if_neg c4] at H
        have c4b0 : decide (x8_1 ≤ a1) = false := decide_eq_false c4
        clear c4
        replace H := Option.bind_eq_some_iff.mp H
        obtain ⟨t144, A80, H⟩ := H
        replace H : (api_Term_of_cost_normal_1_49.l1 k1 t144 a1 20) = some r := H
        have A8 := am A80
        clear A80
        have H' := am H
        clear H
        obtain ⟨Ao9, co9, eo9⟩ := Kd.R_slice HO_0.out
        subst eo9
        go_wp2_with (((with_reducible refine gate_callee (f := 51) rfl ?_); refine goesL_ (some 27) rfl rfl Try.func51 (by kernel_rfl) rfl #[.slice Ao9 x0_1.length co9, .int .i64 x7_1, .int .i64 a1, .func (.func 41) #[] #[]] rfl (by (try simp only [List.map_toArray, List.map_cons, List.map_nil]); rfl) ?_; (with_reducible refine (api_Term_of_cost_normal_1_51.calls W0_ okE_ (fun k_ => some k_ = (.slice Ao9 x0_1.length co9 : Value).ownBlock) (.slice Ao9 x0_1.length co9) x0_1 x7_1 a1  t144 w0 _ ?side1 ?side2 ?sideW ?sideZ ?sideD A8.out).mono ?_); (case side1 => exact HB.out); (case side2 => exact Kd.R_tight rfl HO_0.out); (case sideW => exact hW_.trans hZ_ HK.out hD_); (case sideZ => exact Nat.le_trans hZ_ HK.out.1); (case sideD => exact fun k_ ho_ hl_ e_ => (HO_0.out.1 k_ e_.symm).elim (hD_ k_ ho_ hl_) (fun hn_ => absurd hl_ (by omega))); rintro e w10 ⟨rfl, hy0, hb, hkp⟩; refine ⟨_, rfl, ?_⟩; replace HK := am (Kept.then_ (S := (fun k_ => P0_ k_)) HK.out hkp (fun k_ hs_ => (fun e_ => (HO_0.out.1 k_ e_.symm)) hs_)); replace HO_0 := am (Kd.R_reok rfl hy0 (fun k_ e_ => HO_0.out.1 k_ e_)); replace HB := am (hb); (try clear hb); (try clear hkp); (try clear hy0)))
        simp only [Act.put, sa, sb, sc]
        go_loopg [6] k1 (fun kq v6 w' => ∃ (x0_2 : List (S39)) (x6_2 : Int), v6 = .int .i64 x6_2 ∧ Aside0 (api_Term_of_cost_normal_1_49.l1 kq x0_2 a1 x6_2 = some r) ∧ Aside0 (kq ≤ k1) ∧ Aside0 (Kd.R (kG W0_ okE_) 39 w' w0.heap.size (fun k_ => (P0_ k_ ∨ w.heap.size ≤ k_)) (.slice Ao9 x0_1.length co9) x0_2) ∧ Aside0 (Kept w w' (fun k_ => P0_ k_)) ∧ Aside0 (Below w0.heap.size w0 w'))
        case atStart => exact ⟨(t144), (20), (by rfl), H', ⟨Nat.le_refl _⟩, ⟨by exact HO_0.out⟩, ⟨by exact HK.out⟩, ⟨by exact HB.out⟩⟩
        case round =>
          clear H'
          try clear c4b0
          obtain ⟨x0_2, x6_2, rfl, HA, HK2, HO_0, HK, HB⟩ := hrel
          have hl0_2 := (Kd.R_reads' HO_0.out).1
          rw [hl0_2] at HO_0
          (try simp only [hl0_2])
          cases gk with
          | zero => exact absurd HA.out (by simp [api_Term_of_cost_normal_1_49.l1])
          | succ k2 =>
            have H := HA.out
            clear HA
            simp only [api_Term_of_cost_normal_1_49.l1] at H
            by_cases c11 : x6_2 < a1
            · rw [if_pos c11] at H
              have c11b0 : decide (x6_2 < a1) = true := decide_eq_true c11
              clear c11
              have H' := am H
              clear H
              go_wp2
              go_loopg [7, 8] k2 (fun kq v7 v8 w' => ∃ (x0_3 : List (S39)) (x7_3 : Int) (x8_3 : Int), v7 = .int .i64 x7_3 ∧ v8 = .int .i64 x8_3 ∧ Aside0 (api_Term_of_cost_normal_1_49.l2 kq x0_3 a1 x6_2 x7_3 x8_3 = some r) ∧ Aside0 (kq ≤ k2) ∧ Aside0 (Kd.R (kG W0_ okE_) 39 w' w0.heap.size (fun k_ => (P0_ k_ ∨ w.heap.size ≤ k_)) (.slice Ao9 x0_2.length co9) x0_3) ∧ Aside0 (Kept w w' (fun k_ => P0_ k_)) ∧ Aside0 (Below w0.heap.size w0 w'))
              case atStart => exact ⟨(x0_2), (0), (wrap64 (2 * x6_2)), (by rfl), (by rfl), H', ⟨Nat.le_refl _⟩, ⟨by exact HO_0.out⟩, ⟨by exact HK.out⟩, ⟨by exact HB.out⟩⟩
              case round =>
                clear H'
                try clear c11b0
                obtain ⟨x0_3, x7_3, x8_3, rfl, rfl, HA, HK3, HO_0, HK, HB⟩ := hrel
                have hl0_3 := (Kd.R_reads' HO_0.out).1
                rw [hl0_3] at HO_0
                (try simp only [hl0_3])
                cases gk with
                | zero => exact absurd HA.out (by simp [api_Term_of_cost_normal_1_49.l2])
                | succ k3 =>
                  have H := HA.out
                  clear HA
                  simp only [api_Term_of_cost_normal_1_49.l2] at H
                  by_cases c12 : x8_3 ≤ a1
                  · rw [if_pos c12] at H
                    have c12b0 : decide (x8_3 ≤ a1) = true := decide_eq_true c12
                    clear c12
                    replace H := Option.bind_eq_some_iff.mp H
                    obtain ⟨t145, A130, H⟩ := H
                    replace H : (api_Term_of_cost_normal_1_49.l2 k3 t145 a1 x6_2 x8_3 (wrap64 (x8_3 + (wrap64 (2 * x6_2))))) = some r := H
                    have A13 := am A130
                    clear A130
                    have H' := am H
                    clear H
                    go_wp2_with (((with_reducible refine gate_callee (f := 52) rfl ?_); refine goesL_ (some 43) rfl rfl Try.func52 (by kernel_rfl) rfl #[.slice Ao9 x0_3.length co9, .int .i64 x7_3, .int .i64 (wrap64 (x7_3 + x6_2)), .int .i64 x8_3, .func (.func 41) #[] #[]] rfl (by (try simp only [List.map_toArray, List.map_cons, List.map_nil]); rfl) ?_; (with_reducible refine (api_Term_of_cost_normal_1_52.calls W0_ okE_ k3 (fun k_ => some k_ = (.slice Ao9 x0_3.length co9 : Value).ownBlock) (.slice Ao9 x0_3.length co9) x0_3 x7_3 (wrap64 (x7_3 + x6_2)) x8_3  t145 w0 _ ?side1 ?side2 ?sideW ?sideZ ?sideD A13.out).mono ?_); (case side1 => exact HB.out); (case side2 => exact Kd.R_tight rfl HO_0.out); (case sideW => exact hW_.trans hZ_ HK.out hD_); (case sideZ => exact Nat.le_trans hZ_ HK.out.1); (case sideD => exact fun k_ ho_ hl_ e_ => (HO_0.out.1 k_ e_.symm).elim (hD_ k_ ho_ hl_) (fun hn_ => absurd hl_ (by omega))); rintro e w14 ⟨rfl, hy0, hb, hkp⟩; refine ⟨_, rfl, ?_⟩; replace HK := am (Kept.then_ (S := (fun k_ => P0_ k_)) HK.out hkp (fun k_ hs_ => (fun e_ => (HO_0.out.1 k_ e_.symm)) hs_)); replace HO_0 := am (Kd.R_reok rfl hy0 (fun k_ e_ => HO_0.out.1 k_ e_)); replace HB := am (hb); (try clear hb); (try clear hkp); (try clear hy0)))
                    (try simp only [← hl0_3])
                    go_roundg k3
                    case measure => have := HK1.out; have := HK2.out; have := HK3.out; omega
                    case rel => exact ⟨(t145), (x8_3), (wrap64 (x8_3 + (wrap64 (2 * x6_2)))), (by rfl), (by rfl), H', ⟨by have := HK1.out; have := HK2.out; have := HK3.out; omega⟩, ⟨by (try simp only [hl0_3]); exact HO_0.out⟩, ⟨by exact HK.out⟩, ⟨by exact HB.out⟩⟩
                  · rw [if_neg c12] at H
                    have c12b0 : decide (x8_3 ≤ a1) = false := decide_eq_false c12
                    clear c12
                    by_cases c15 : (wrap64 (x7_3 + x6_2)) < a1
                    · rw [if_pos c15] at H
                      have c15b0 : decide ((wrap64 (x7_3 + x6_2)) < a1) = true := decide_eq_true c15
                      clear c15
                      replace H := Option.bind_eq_some_iff.mp H
                      obtain ⟨t146, A160, H⟩ := H
                      replace H : (api_Term_of_cost_normal_1_49.l1 k3 t146 a1 (wrap64 (x6_2 * 2))) = some r := H
                      have A16 := am A160
                      clear A160
                      have H' := am H
                      clear H
                      go_wp2_with (((with_reducible refine gate_callee (f := 52) rfl ?_); refine goesL_ (some 60) rfl rfl Try.func52 (by kernel_rfl) rfl #[.slice Ao9 x0_3.length co9, .int .i64 x7_3, .int .i64 (wrap64 (x7_3 + x6_2)), .int .i64 a1, .func (.func 41) #[] #[]] rfl (by (try simp only [List.map_toArray, List.map_cons, List.map_nil]); rfl) ?_; (with_reducible refine (api_Term_of_cost_normal_1_52.calls W0_ okE_ k3 (fun k_ => some k_ = (.slice Ao9 x0_3.length co9 : Value).ownBlock) (.slice Ao9 x0_3.length co9) x0_3 x7_3 (wrap64 (x7_3 + x6_2)) a1  t146 w0 _ ?side1 ?side2 ?sideW ?sideZ ?sideD A16.out).mono ?_); (case side1 => exact HB.out); (case side2 => exact Kd.R_tight rfl HO_0.out); (case sideW => exact hW_.trans hZ_ HK.out hD_); (case sideZ => exact Nat.le_trans hZ_ HK.out.1); (case sideD => exact fun k_ ho_ hl_ e_ => (HO_0.out.1 k_ e_.symm).elim (hD_ k_ ho_ hl_) (fun hn_ => absurd hl_ (by omega))); rintro e w17 ⟨rfl, hy0, hb, hkp⟩; refine ⟨_, rfl, ?_⟩; replace HK := am (Kept.then_ (S := (fun k_ => P0_ k_)) HK.out hkp (fun k_ hs_ => (fun e_ => (HO_0.out.1 k_ e_.symm)) hs_)); replace HO_0 := am (Kd.R_reok rfl hy0 (fun k_ e_ => HO_0.out.1 k_ e_)); replace HB := am (hb); (try clear hb); (try clear hkp); (try clear hy0)))
                      (try simp only [← hl0_2, ← hl0_3])
                      go_roundg k3
                      case measure => have := HK1.out; have := HK2.out; have := HK3.out; omega
                      case rel => exact ⟨(t146), (wrap64 (x6_2 * 2)), (by rfl), H', ⟨by have := HK1.out; have := HK2.out; have := HK3.out; omega⟩, ⟨by (try simp only [hl0_2]); (try simp only [hl0_3]); exact HO_0.out⟩, ⟨by exact HK.out⟩, ⟨by exact HB.out⟩⟩
                    · rw [if_neg c15] at H
                      have c15b0 : decide ((wrap64 (x7_3 + x6_2)) < a1) = false := decide_eq_false c15
                      clear c15
                      have H' := am H
                      clear H
                      go_wp2
                      (try simp only [← hl0_2, ← hl0_3])
                      go_roundg k3
                      case measure => have := HK1.out; have := HK2.out; have := HK3.out; omega
                      case rel => exact ⟨(x0_3), (wrap64 (x6_2 * 2)), (by rfl), H', ⟨by have := HK1.out; have := HK2.out; have := HK3.out; omega⟩, ⟨by (try simp only [hl0_2]); (try simp only [hl0_3]); exact HO_0.out⟩, ⟨by exact HK.out⟩, ⟨by exact HB.out⟩⟩
            · rw [if_neg c11] at H
              have c11b0 : decide (x6_2 < a1) = false := decide_eq_false c11
              clear c11
              obtain rfl := Option.some.inj H
              go_wp2
              go_end0
              exact ⟨by rfl, (by exact HO_0.out), by exact HB.out, by exact HK.out⟩
end Go.Proofs.Ytkkocmmilmbgpaa.S
end

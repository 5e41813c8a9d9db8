/- Part 9 of a claim of this seat: texts merged by a program of the claim's session (wip/bundle.py). -/
import Derived.Test.YtkkocmmilmbgpaaZCa0
import Derived.Test.YtkkocmmilmbgpaaZCa2
import Derived.Test.YtkkocmmilmbgpaaZCa4
import Derived.Test.YtkkocmmilmbgpaaZCa5
import Derived.Test.YtkkocmmilmbgpaaZCa6
import Derived.Test.YtkkocmmilmbgpaaZCa7
import Derived.Test.YtkkocmmilmbgpaaZCa8
import Derived.Deep.Slices
import Derived.Deep.Strs
import Derived.Lib.SmallJoins
import Derived.OpenShut
import Derived.Carry
import Derived.SizedLaws
import Derived.Test.YtkkocmmilmbgpaaRows
import Derived.Shelf.Vars
import Derived.LaidMore
import Derived.ProofKit
import Derived.Deep.DeepHandedRow
section
namespace Go.Proofs.Ytkkocmmilmbgpaa.S
open Go.RowKit Go.Proofs.YtkkocmmilmbgpaaW.PrintWords Go.Proofs.YtkkocmmilmbgpaaW.PrintLast Go.Proofs.YtkkocmmilmbgpaaW.PrintMore
attribute [local go_sem] max2_int min2_int max_two min_two max_three min_three max_four min_four
set_option linter.unusedVariables false
set_option linter.unusedSimpArgs false
mutual
def locksteplaw28_CostAdds.j1 : Nat → List (S39) → List (S39) → List (S39) → List Int → Option (Bool)
  | 0, _, _, _, _ => none
  | k + 1, x0, x1, x2, x9 => (locksteplaw28_own.f k x0).bind fun t498 => ((locksteplaw28_own.f k x1).bind fun t501 => ((cost_Add.f k t498 t501).bind fun bt504 => ((locksteplaw28_own.f k x1).bind fun t508 => ((locksteplaw28_own.f k x0).bind fun t511 => ((cost_Add.f k t508 t511).bind fun bt514 => ((locksteplaw28_own.f k x1).bind fun t518 => ((locksteplaw28_own.f k x2).bind fun t521 => ((cost_Add.f k t518 t521).bind fun bt524 => (if bt504.2 = 0 then (if bt514.2 = 0 then (if bt524.2 = 0 then ((locksteplaw28_same.f k bt504.1 bt514.1).bind fun t528 => (if t528 = true then ((cost_Value.f k bt504.1 x9).bind fun t529 => ((cost_Value.f k x0 x9).bind fun t530 => ((cost_Value.f k x1 x9).bind fun t531 => (locksteplaw28_CostAdds.j2 k x0 x1 x2 x9 bt504.1 bt524.1 (t529 != (IntKind.u64.wrap (t530 + t531))))))) else (locksteplaw28_CostAdds.j2 k x0 x1 x2 x9 bt504.1 bt524.1 true))) else (locksteplaw28_CostAdds.j2 k x0 x1 x2 x9 bt504.1 bt524.1 true)) else (locksteplaw28_CostAdds.j2 k x0 x1 x2 x9 bt504.1 bt524.1 true)) else (locksteplaw28_CostAdds.j2 k x0 x1 x2 x9 bt504.1 bt524.1 true))))))))))
def locksteplaw28_CostAdds.j2 : Nat → List (S39) → List (S39) → List (S39) → List Int → List (S39) → List (S39) → Bool → Option (Bool)
  | 0, _, _, _, _, _, _, _ => none
  | k + 1, x0, x1, x2, x9, x11, x15, x105 => if x105 = true then (some false) else ((locksteplaw28_own.f k x2).bind fun t532 => ((cost_Add.f k x11 t532).bind fun bt535 => ((locksteplaw28_own.f k x0).bind fun t539 => ((cost_Add.f k t539 x15).bind fun bt542 => (if bt535.2 = 0 then (if bt542.2 = 0 then ((locksteplaw28_same.f k bt535.1 bt542.1).bind fun t546 => (locksteplaw28_CostAdds.j3 k x0 x1 x2 x9 x15 (!t546))) else (locksteplaw28_CostAdds.j3 k x0 x1 x2 x9 x15 true)) else (locksteplaw28_CostAdds.j3 k x0 x1 x2 x9 x15 true))))))
def locksteplaw28_CostAdds.j3 : Nat → List (S39) → List (S39) → List (S39) → List Int → List (S39) → Bool → Option (Bool)
  | 0, _, _, _, _, _, _ => none
  | k + 1, x0, x1, x2, x9, x15, x131 => if x131 = true then (some false) else ((locksteplaw28_own.f k x0).bind fun t547 => ((locksteplaw28_own.f k x1).bind fun t550 => ((cost_Times.f k t547 t550).bind fun bt553 => ((locksteplaw28_own.f k x1).bind fun t557 => ((locksteplaw28_own.f k x0).bind fun t560 => ((cost_Times.f k t557 t560).bind fun bt563 => (if bt553.2 = 0 then (if bt563.2 = 0 then ((locksteplaw28_same.f k bt553.1 bt563.1).bind fun t567 => (if t567 = true then ((cost_Value.f k bt553.1 x9).bind fun t568 => ((cost_Value.f k x0 x9).bind fun t569 => ((cost_Value.f k x1 x9).bind fun t570 => (locksteplaw28_CostAdds.j4 k x0 x2 x9 x15 bt553.1 (t568 != (IntKind.u64.wrap (t569 * t570))))))) else (locksteplaw28_CostAdds.j4 k x0 x2 x9 x15 bt553.1 true))) else (locksteplaw28_CostAdds.j4 k x0 x2 x9 x15 bt553.1 true)) else (locksteplaw28_CostAdds.j4 k x0 x2 x9 x15 bt553.1 true))))))))
def locksteplaw28_CostAdds.j4 : Nat → List (S39) → List (S39) → List Int → List (S39) → List (S39) → Bool → Option (Bool)
  | 0, _, _, _, _, _, _ => none
  | k + 1, x0, x2, x9, x15, x19, x172 => if x172 = true then (some false) else ((locksteplaw28_own.f k x0).bind fun t571 => ((cost_Times.f k t571 x15).bind fun bt574 => ((locksteplaw28_own.f k x0).bind fun t578 => ((locksteplaw28_own.f k x2).bind fun t581 => ((cost_Times.f k t578 t581).bind fun bt584 => ((cost_Add.f k x19 bt584.1).bind fun bt588 => ((locksteplaw28_own.f k x0).bind fun t592 => ((cost_Normal.f k t592).bind fun bt595 => (if bt574.2 = 0 then (if bt584.2 = 0 then (if bt588.2 = 0 then ((locksteplaw28_same.f k bt574.1 bt588.1).bind fun t599 => (if t599 = true then (if bt595.2 = 0 then ((cost_Value.f k bt595.1 x9).bind fun t600 => ((cost_Value.f k x0 x9).bind fun t601 => (some (t600 == t601)))) else (some false)) else (some false))) else (some false)) else (some false)) else (some false))))))))))
def locksteplaw28_CostAdds.l0 : Nat → List (S39) → List (S39) → List (S39) → List Int → List Int → Int → Option (Bool)
  | 0, _, _, _, _, _, _ => none
  | k + 1, x0, x1, x2, x3, x9, x10 => if x10 < (x3.length : Int) then (if x10 < 3 then (if 0 ≤ x10 then (if x9.length < 17592186044416 then (locksteplaw28_CostAdds.l0 k x0 x1 x2 x3 (x9 ++ [IntKind.u64.wrap (Int.tmod (rd x3 x10) 7)]) (wrap64 (x10 + 1))) else (none)) else (none)) else (locksteplaw28_CostAdds.j1 k x0 x1 x2 x9)) else (locksteplaw28_CostAdds.j1 k x0 x1 x2 x9)
end
def locksteplaw28_CostAdds.f (k : Nat) (l0 : List (S39)) (l1 : List (S39)) (l2 : List (S39)) (l3 : List Int) : Option (Bool) := (locksteplaw28_lives.f k).bind fun t484 => (if t484 = true then ((locksteplaw28_small.f k l0).bind fun t485 => ((locksteplaw28_small.f k l1).bind fun t488 => ((locksteplaw28_small.f k l2).bind fun t491 => (locksteplaw28_CostAdds.l0 k t485 t488 t491 l3 ([] : List Int) 0)))) else (some false))
theorem locksteplaw28_CostAdds.mono_l : ∀ k, (∀ y0 y1 y2 y3, LeO (locksteplaw28_CostAdds.j1 k y0 y1 y2 y3) (locksteplaw28_CostAdds.j1 (k + 1) y0 y1 y2 y3)) ∧ (∀ y0 y1 y2 y3 y4 y5 y6, LeO (locksteplaw28_CostAdds.j2 k y0 y1 y2 y3 y4 y5 y6) (locksteplaw28_CostAdds.j2 (k + 1) y0 y1 y2 y3 y4 y5 y6)) ∧ (∀ y0 y1 y2 y3 y4 y5, LeO (locksteplaw28_CostAdds.j3 k y0 y1 y2 y3 y4 y5) (locksteplaw28_CostAdds.j3 (k + 1) y0 y1 y2 y3 y4 y5)) ∧ (∀ y0 y1 y2 y3 y4 y5, LeO (locksteplaw28_CostAdds.j4 k y0 y1 y2 y3 y4 y5) (locksteplaw28_CostAdds.j4 (k + 1) y0 y1 y2 y3 y4 y5)) ∧ (∀ y0 y1 y2 y3 y4 y5, LeO (locksteplaw28_CostAdds.l0 k y0 y1 y2 y3 y4 y5) (locksteplaw28_CostAdds.l0 (k + 1) y0 y1 y2 y3 y4 y5))
  | 0 => ⟨fun _ _ _ _ r h => by simp [locksteplaw28_CostAdds.j1] at h, fun _ _ _ _ _ _ _ r h => by simp [locksteplaw28_CostAdds.j2] at h, fun _ _ _ _ _ _ r h => by simp [locksteplaw28_CostAdds.j3] at h, fun _ _ _ _ _ _ r h => by simp [locksteplaw28_CostAdds.j4] at h, fun _ _ _ _ _ _ r h => by simp [locksteplaw28_CostAdds.l0] at h⟩
  | k + 1 => by
    obtain ⟨ih0, ih1, ih2, ih3, ih4⟩ := locksteplaw28_CostAdds.mono_l k
    refine ⟨?_, ?_, ?_, ?_, ?_⟩
    · intro y0 y1 y2 y3
      unfold locksteplaw28_CostAdds.j1
      repeat' first
      | (with_reducible exact ih0 _ _ _ _)
      | (with_reducible exact ih1 _ _ _ _ _ _ _)
      | (with_reducible exact ih2 _ _ _ _ _ _)
      | (with_reducible exact ih3 _ _ _ _ _ _)
      | (with_reducible exact ih4 _ _ _ _ _ _)
      | (with_reducible exact cost_Add.mono _ _ _)
      | (with_reducible exact cost_Normal.mono _ _)
      | (with_reducible exact cost_Times.mono _ _ _)
      | (with_reducible exact cost_Value.mono _ _ _)
      | (with_reducible exact locksteplaw28_lives.mono _)
      | (with_reducible exact locksteplaw28_own.mono _ _)
      | (with_reducible exact locksteplaw28_same.mono _ _ _)
      | (with_reducible exact locksteplaw28_small.mono _ _)
      | (with_reducible exact LeO.refl _)
      | (with_reducible exact LeO.none _)
      | (with_reducible refine LeO.ite ?_ ?_)
      | (with_reducible refine LeO.bind ?_ (fun _ => ?_))
      | exact ih0 _ _ _ _
      | exact ih1 _ _ _ _ _ _ _
      | exact ih2 _ _ _ _ _ _
      | exact ih3 _ _ _ _ _ _
      | exact ih4 _ _ _ _ _ _
      | exact cost_Add.mono _ _ _
      | exact cost_Normal.mono _ _
      | exact cost_Times.mono _ _ _
      | exact cost_Value.mono _ _ _
      | exact locksteplaw28_lives.mono _
      | exact locksteplaw28_own.mono _ _
      | exact locksteplaw28_same.mono _ _ _
      | exact locksteplaw28_small.mono _ _
      | exact LeO.none _
      | refine LeO.ite ?_ ?_
      | refine LeO.bind ?_ (fun _ => ?_)
    · intro y0 y1 y2 y3 y4 y5 y6
      unfold locksteplaw28_CostAdds.j2
      repeat' first
      | (with_reducible exact ih0 _ _ _ _)
      | (with_reducible exact ih1 _ _ _ _ _ _ _)
      | (with_reducible exact ih2 _ _ _ _ _ _)
      | (with_reducible exact ih3 _ _ _ _ _ _)
      | (with_reducible exact ih4 _ _ _ _ _ _)
      | (with_reducible exact cost_Add.mono _ _ _)
      | (with_reducible exact cost_Normal.mono _ _)
      | (with_reducible exact cost_Times.mono _ _ _)
      | (with_reducible exact cost_Value.mono _ _ _)
      | (with_reducible exact locksteplaw28_lives.mono _)
      | (with_reducible exact locksteplaw28_own.mono _ _)
      | (with_reducible exact locksteplaw28_same.mono _ _ _)
      | (with_reducible exact locksteplaw28_small.mono _ _)
      | (with_reducible exact LeO.refl _)
      | (with_reducible exact LeO.none _)
      | (with_reducible refine LeO.ite ?_ ?_)
      | (with_reducible refine LeO.bind ?_ (fun _ => ?_))
      | exact ih0 _ _ _ _
      | exact ih1 _ _ _ _ _ _ _
      | exact ih2 _ _ _ _ _ _
      | exact ih3 _ _ _ _ _ _
      | exact ih4 _ _ _ _ _ _
      | exact cost_Add.mono _ _ _
      | exact cost_Normal.mono _ _
      | exact cost_Times.mono _ _ _
      | exact cost_Value.mono _ _ _
      | exact locksteplaw28_lives.mono _
      | exact locksteplaw28_own.mono _ _
      | exact locksteplaw28_same.mono _ _ _
      | exact locksteplaw28_small.mono _ _
      | exact LeO.none _
      | refine LeO.ite ?_ ?_
      | refine LeO.bind ?_ (fun _ => ?_)
    · intro y0 y1 y2 y3 y4 y5
      unfold locksteplaw28_CostAdds.j3
      repeat' first
      | (with_reducible exact ih0 _ _ _ _)
      | (with_reducible exact ih1 _ _ _ _ _ _ _)
      | (with_reducible exact ih2 _ _ _ _ _ _)
      | (with_reducible exact ih3 _ _ _ _ _ _)
      | (with_reducible exact ih4 _ _ _ _ _ _)
      | (with_reducible exact cost_Add.mono _ _ _)
      | (with_reducible exact cost_Normal.mono _ _)
      | (with_reducible exact cost_Times.mono _ _ _)
      | (with_reducible exact cost_Value.mono _ _ _)
      | (with_reducible exact locksteplaw28_lives.mono _)
      | (with_reducible exact locksteplaw28_own.mono _ _)
      | (with_reducible exact locksteplaw28_same.mono _ _ _)
      | (with_reducible exact locksteplaw28_small.mono _ _)
      | (with_reducible exact LeO.refl _)
      | (with_reducible exact LeO.none _)
      | (with_reducible refine LeO.ite ?_ ?_)
      | (with_reducible refine LeO.bind ?_ (fun _ => ?_))
      | exact ih0 _ _ _ _
      | exact ih1 _ _ _ _ _ _ _
      | exact ih2 _ _ _ _ _ _
      | exact ih3 _ _ _ _ _ _
      | exact ih4 _ _ _ _ _ _
      | exact cost_Add.mono _ _ _
      | exact cost_Normal.mono _ _
      | exact cost_Times.mono _ _ _
      | exact cost_Value.mono _ _ _
      | exact locksteplaw28_lives.mono _
      | exact locksteplaw28_own.mono _ _
      | exact locksteplaw28_same.mono _ _ _
      | exact locksteplaw28_small.mono _ _
      | exact LeO.none _
      | refine LeO.ite ?_ ?_
      | refine LeO.bind ?_ (fun _ => ?_)
    · intro y0 y1 y2 y3 y4 y5
      unfold locksteplaw28_CostAdds.j4
      repeat' first
      | (with_reducible exact ih0 _ _ _ _)
      | (with_reducible exact ih1 _ _ _ _ _ _ _)
      | (with_reducible exact ih2 _ _ _ _ _ _)
      | (with_reducible exact ih3 _ _ _ _ _ _)
      | (with_reducible exact ih4 _ _ _ _ _ _)
      | (with_reducible exact cost_Add.mono _ _ _)
      | (with_reducible exact cost_Normal.mono _ _)
      | (with_reducible exact cost_Times.mono _ _ _)
      | (with_reducible exact cost_Value.mono _ _ _)
      | (with_reducible exact locksteplaw28_lives.mono _)
      | (with_reducible exact locksteplaw28_own.mono _ _)
      | (with_reducible exact locksteplaw28_same.mono _ _ _)
      | (with_reducible exact locksteplaw28_small.mono _ _)
      | (with_reducible exact LeO.refl _)
      | (with_reducible exact LeO.none _)
      | (with_reducible refine LeO.ite ?_ ?_)
      | (with_reducible refine LeO.bind ?_ (fun _ => ?_))
      | exact ih0 _ _ _ _
      | exact ih1 _ _ _ _ _ _ _
      | exact ih2 _ _ _ _ _ _
      | exact ih3 _ _ _ _ _ _
      | exact ih4 _ _ _ _ _ _
      | exact cost_Add.mono _ _ _
      | exact cost_Normal.mono _ _
      | exact cost_Times.mono _ _ _
      | exact cost_Value.mono _ _ _
      | exact locksteplaw28_lives.mono _
      | exact locksteplaw28_own.mono _ _
      | exact locksteplaw28_same.mono _ _ _
      | exact locksteplaw28_small.mono _ _
      | exact LeO.none _
      | refine LeO.ite ?_ ?_
      | refine LeO.bind ?_ (fun _ => ?_)
    · intro y0 y1 y2 y3 y4 y5
      unfold locksteplaw28_CostAdds.l0
      repeat' first
      | (with_reducible exact ih0 _ _ _ _)
      | (with_reducible exact ih1 _ _ _ _ _ _ _)
      | (with_reducible exact ih2 _ _ _ _ _ _)
      | (with_reducible exact ih3 _ _ _ _ _ _)
      | (with_reducible exact ih4 _ _ _ _ _ _)
      | (with_reducible exact cost_Add.mono _ _ _)
      | (with_reducible exact cost_Normal.mono _ _)
      | (with_reducible exact cost_Times.mono _ _ _)
      | (with_reducible exact cost_Value.mono _ _ _)
      | (with_reducible exact locksteplaw28_lives.mono _)
      | (with_reducible exact locksteplaw28_own.mono _ _)
      | (with_reducible exact locksteplaw28_same.mono _ _ _)
      | (with_reducible exact locksteplaw28_small.mono _ _)
      | (with_reducible exact LeO.refl _)
      | (with_reducible exact LeO.none _)
      | (with_reducible refine LeO.ite ?_ ?_)
      | (with_reducible refine LeO.bind ?_ (fun _ => ?_))
      | exact ih0 _ _ _ _
      | exact ih1 _ _ _ _ _ _ _
      | exact ih2 _ _ _ _ _ _
      | exact ih3 _ _ _ _ _ _
      | exact ih4 _ _ _ _ _ _
      | exact cost_Add.mono _ _ _
      | exact cost_Normal.mono _ _
      | exact cost_Times.mono _ _ _
      | exact cost_Value.mono _ _ _
      | exact locksteplaw28_lives.mono _
      | exact locksteplaw28_own.mono _ _
      | exact locksteplaw28_same.mono _ _ _
      | exact locksteplaw28_small.mono _ _
      | exact LeO.none _
      | refine LeO.ite ?_ ?_
      | refine LeO.bind ?_ (fun _ => ?_)
theorem locksteplaw28_CostAdds.mono : ∀ a0 a1 a2 a3 k, LeO (locksteplaw28_CostAdds.f k a0 a1 a2 a3) (locksteplaw28_CostAdds.f (k + 1) a0 a1 a2 a3) := by
  intro a0 a1 a2 a3 k
  obtain ⟨ih0, ih1, ih2, ih3, ih4⟩ := locksteplaw28_CostAdds.mono_l k
  unfold locksteplaw28_CostAdds.f
  repeat' first
      | (with_reducible exact ih0 _ _ _ _)
      | (with_reducible exact ih1 _ _ _ _ _ _ _)
      | (with_reducible exact ih2 _ _ _ _ _ _)
      | (with_reducible exact ih3 _ _ _ _ _ _)
      | (with_reducible exact ih4 _ _ _ _ _ _)
      | (with_reducible exact cost_Add.mono _ _ _)
      | (with_reducible exact cost_Normal.mono _ _)
      | (with_reducible exact cost_Times.mono _ _ _)
      | (with_reducible exact cost_Value.mono _ _ _)
      | (with_reducible exact locksteplaw28_lives.mono _)
      | (with_reducible exact locksteplaw28_own.mono _ _)
      | (with_reducible exact locksteplaw28_same.mono _ _ _)
      | (with_reducible exact locksteplaw28_small.mono _ _)
      | (with_reducible exact LeO.refl _)
      | (with_reducible exact LeO.none _)
      | (with_reducible refine LeO.ite ?_ ?_)
      | (with_reducible refine LeO.bind ?_ (fun _ => ?_))
      | exact ih0 _ _ _ _
      | exact ih1 _ _ _ _ _ _ _
      | exact ih2 _ _ _ _ _ _
      | exact ih3 _ _ _ _ _ _
      | exact ih4 _ _ _ _ _ _
      | exact cost_Add.mono _ _ _
      | exact cost_Normal.mono _ _
      | exact cost_Times.mono _ _ _
      | exact cost_Value.mono _ _ _
      | exact locksteplaw28_lives.mono _
      | exact locksteplaw28_own.mono _ _
      | exact locksteplaw28_same.mono _ _ _
      | exact locksteplaw28_small.mono _ _
      | exact LeO.none _
      | refine LeO.ite ?_ ?_
      | refine LeO.bind ?_ (fun _ => ?_)
set_option maxHeartbeats 8000000 in
set_option maxRecDepth 100000 in
theorem locksteplaw28_CostAdds.calls (k : Nat) (A0 : Option Addr) (c0 : Nat) (l0 : List (S39)) (A1 : Option Addr) (c1 : Nat) (l1 : List (S39)) (A2 : Option Addr) (c2 : Nat) (l2 : List (S39)) (A3 : Option Addr) (c3 : Nat) (l3 : List Int) (r : Bool) (w : World) (hr0 : Kd.C k39 w A0 l0.length l0) (hc0 : l0.length ≤ c0) (hr1 : Kd.C k39 w A1 l1.length l1) (hc1 : l1.length ≤ c1) (hr2 : Kd.C k39 w A2 l2.length l2) (hc2 : l2.length ≤ c2) (hr3 : Kd.C (Kd.int .u8) w A3 l3.length l3) (hc3 : l3.length ≤ c3) (h : locksteplaw28_CostAdds.f k l0 l1 l2 l3 = some r) (hr : r = true) :
    Calls Try.prog 5 #[.slice A0 l0.length c0, .slice A1 l1.length c1, .slice A2 l2.length c2, .slice A3 l3.length c3] w fun e w' => e = .returned (.bool r) ∧ Below w.heap.size w w' := by
  have HR := am hr
  clear hr
  have HR0 := am hr0
  have HC0 := am hc0
  clear hr0 hc0
  have HR1 := am hr1
  have HC1 := am hc1
  clear hr1 hc1
  have HR2 := am hr2
  have HC2 := am hc2
  clear hr2 hc2
  have HR3 := am hr3
  have HC3 := am hc3
  clear hr3 hc3
  have HB := am (Below.refl w.heap.size w)
  have H : ((locksteplaw28_lives.f k).bind fun t484 => (if t484 = true then ((locksteplaw28_small.f k l0).bind fun t485 => ((locksteplaw28_small.f k l1).bind fun t488 => ((locksteplaw28_small.f k l2).bind fun t491 => (locksteplaw28_CostAdds.l0 k t485 t488 t491 l3 ([] : List Int) 0)))) else (some false))) = some r := h
  clear h
  replace H := Option.bind_eq_some_iff.mp H
  obtain ⟨t484, A50, H⟩ := H
  replace H : (if t484 = true then ((locksteplaw28_small.f k l0).bind fun t485 => ((locksteplaw28_small.f k l1).bind fun t488 => ((locksteplaw28_small.f k l2).bind fun t491 => (locksteplaw28_CostAdds.l0 k t485 t488 t491 l3 ([] : List Int) 0)))) else (some false)) = some r := H
  have A5 := am A50
  clear A50
  by_cases c6 : t484 = true
  · subst c6
    have H1 : ((locksteplaw28_small.f k l0).bind fun t485 => ((locksteplaw28_small.f k l1).bind fun t488 => ((locksteplaw28_small.f k l2).bind fun t491 => (locksteplaw28_CostAdds.l0 k t485 t488 t491 l3 ([] : List Int) 0)))) = some r := by rw [if_pos rfl] at H; exact H
    clear H
    have H := H1
    clear H1
    replace H := Option.bind_eq_some_iff.mp H
    obtain ⟨t485, A70, H⟩ := H
    replace H : ((locksteplaw28_small.f k l1).bind fun t488 => ((locksteplaw28_small.f k l2).bind fun t491 => (locksteplaw28_CostAdds.l0 k t485 t488 t491 l3 ([] : List Int) 0))) = some r := H
    have A7 := am A70
    clear A70
    replace H := Option.bind_eq_some_iff.mp H
    obtain ⟨t488, A80, H⟩ := H
    replace H : ((locksteplaw28_small.f k l2).bind fun t491 => (locksteplaw28_CostAdds.l0 k t485 t488 t491 l3 ([] : List Int) 0)) = some r := H
    have A8 := am A80
    clear A80
    replace H := Option.bind_eq_some_iff.mp H
    obtain ⟨t491, A90, H⟩ := H
    replace H : (locksteplaw28_CostAdds.l0 k t485 t488 t491 l3 ([] : List Int) 0) = some r := H
    have A9 := am A90
    clear A90
    have HC10 := am H
    clear H
    go_enter Try.func5, Try.ntmps5
    go_upto_block 0 with (first | ((with_reducible refine gate_callee (f := 6) rfl ?_); refine goesL_ (some 26) rfl rfl Try.func6 (by kernel_rfl) rfl #[] rfl (by (try simp only [List.map_toArray, List.map_cons, List.map_nil]); done) ?_; (with_reducible refine (locksteplaw28_lives.calls k  true _ A5.out).mono ?_); rintro e w11 ⟨rfl, hb⟩; refine ⟨_, rfl, ?_⟩; replace HB := am (below_step HB.out hb); (try clear hb)) | ((with_reducible refine gate_callee (f := 20) rfl ?_); refine goesL_ (some 29) rfl rfl Try.func20 (by kernel_rfl) rfl #[.slice A0 l0.length c0] rfl (by (try simp only [List.map_toArray, List.map_cons, List.map_nil]); rfl) ?_; (with_reducible refine (locksteplaw28_small.calls k _ _ l0 t485 _ ?side1 ?side2 A7.out).mono ?_); (case side1 => exact (Kd.C_below HR0.out HB.out)); (case side2 => exact HC0.out); rintro e w12 ⟨v486, rfl, ho0, hb⟩; refine ⟨_, rfl, ?_⟩; have HO487 := am (Kd.N_lower (Kd.N_mono (ok' := fun k_ => True) (Kd.R_N (Kd.R_bound ho0)) (fun k_ hk_ => trivial)) (below_size HB.out)); replace HB := am (below_step HB.out hb); (try clear hb); (try clear ho0)) | ((with_reducible refine gate_callee (f := 20) rfl ?_); refine goesL_ (some 31) rfl rfl Try.func20 (by kernel_rfl) rfl #[.slice A1 l1.length c1] rfl (by (try simp only [List.map_toArray, List.map_cons, List.map_nil]); rfl) ?_; (with_reducible refine (locksteplaw28_small.calls k _ _ l1 t488 _ ?side1 ?side2 A8.out).mono ?_); (case side1 => exact (Kd.C_below HR1.out HB.out)); (case side2 => exact HC1.out); rintro e w13 ⟨v489, rfl, ho0, hb⟩; refine ⟨_, rfl, ?_⟩; have HO490 := am (Kd.N_lower (Kd.N_mono (ok' := fun k_ => some k_ ≠ (v486 : Value).ownBlock) (Kd.R_N (Kd.R_bound ho0)) (fun k_ hk_ => (Kd.fresh' (Kd.N_lt HO487.out) k_ hk_.2.1))) (below_size HB.out)); replace HO487 := am (Kd.N_elder' HO487.out (Kd.R_base ho0) hb); replace HB := am (below_step HB.out hb); (try clear hb); (try clear ho0)) | ((with_reducible refine gate_callee (f := 20) rfl ?_); refine goesL_ (some 33) rfl rfl Try.func20 (by kernel_rfl) rfl #[.slice A2 l2.length c2] rfl (by (try simp only [List.map_toArray, List.map_cons, List.map_nil]); rfl) ?_; (with_reducible refine (locksteplaw28_small.calls k _ _ l2 t491 _ ?side1 ?side2 A9.out).mono ?_); (case side1 => exact (Kd.C_below HR2.out HB.out)); (case side2 => exact HC2.out); rintro e w14 ⟨v492, rfl, ho0, hb⟩; refine ⟨_, rfl, ?_⟩; have HO493 := am (Kd.N_lower (Kd.N_mono (ok' := fun k_ => some k_ ≠ (v486 : Value).ownBlock ∧ some k_ ≠ (v489 : Value).ownBlock) (Kd.R_N (Kd.R_bound ho0)) (fun k_ hk_ => ⟨(Kd.fresh' (Kd.N_lt HO487.out) k_ hk_.2.1), (Kd.fresh' (Kd.N_lt HO490.out) k_ hk_.2.1)⟩)) (below_size HB.out)); replace HO487 := am (Kd.N_elder' HO487.out (Kd.R_base ho0) hb); replace HO490 := am (Kd.N_elder' HO490.out (Kd.R_base ho0) hb); replace HB := am (below_step HB.out hb); (try clear hb); (try clear ho0)))
    go_cut [9] (fun v9 wc => ∃ (kq : Nat) (x9_9 : List Int), Aside0 (locksteplaw28_CostAdds.j1 kq t485 t488 t491 x9_9 = some r) ∧ Aside0 (kq ≤ k) ∧ Aside0 (Kd.N k39 39 wc w.heap.size (fun k_ => some k_ ≠ (v489 : Value).ownBlock ∧ some k_ ≠ (v492 : Value).ownBlock ∧ some k_ ≠ (v9 : Value).ownBlock) v486 t485) ∧ Aside0 (Kd.N k39 39 wc w.heap.size (fun k_ => some k_ ≠ (v486 : Value).ownBlock ∧ some k_ ≠ (v492 : Value).ownBlock ∧ some k_ ≠ (v9 : Value).ownBlock) v489 t488) ∧ Aside0 (Kd.N k39 39 wc w.heap.size (fun k_ => some k_ ≠ (v486 : Value).ownBlock ∧ some k_ ≠ (v489 : Value).ownBlock ∧ some k_ ≠ (v9 : Value).ownBlock) v492 t491) ∧ Aside0 (Kd.R (Kd.int .u64) 24 wc w.heap.size (fun _ => True) v9 x9_9) ∧ Aside0 (Below w.heap.size w wc))
    case first => as_aux_lemma =>
      have H := HC10.out
      clear HC10
      have H' := am H
      clear H
      go_wp2
      go_loopg [9, 10] k (fun kq v9 v10 w' => ∃ (x9_1 : List Int) (x10_1 : Int), v10 = .int .i64 x10_1 ∧ Aside0 (locksteplaw28_CostAdds.l0 kq t485 t488 t491 l3 x9_1 x10_1 = some r) ∧ Aside0 (kq ≤ k) ∧ Aside0 (Kd.N k39 39 w' w.heap.size (fun k_ => some k_ ≠ (v489 : Value).ownBlock ∧ some k_ ≠ (v492 : Value).ownBlock ∧ some k_ ≠ (v9 : Value).ownBlock) v486 t485) ∧ Aside0 (Kd.N k39 39 w' w.heap.size (fun k_ => some k_ ≠ (v486 : Value).ownBlock ∧ some k_ ≠ (v492 : Value).ownBlock ∧ some k_ ≠ (v9 : Value).ownBlock) v489 t488) ∧ Aside0 (Kd.N k39 39 w' w.heap.size (fun k_ => some k_ ≠ (v486 : Value).ownBlock ∧ some k_ ≠ (v489 : Value).ownBlock ∧ some k_ ≠ (v9 : Value).ownBlock) v492 t491) ∧ Aside0 (Kd.R (Kd.int .u64) 24 w' w.heap.size (fun _ => True) v9 x9_1) ∧ Aside0 (Below w.heap.size w w'))
      case atStart => exact ⟨(([] : List Int)), (0), (by rfl), H', ⟨Nat.le_refl _⟩, ⟨by exact Kd.N_mono HO487.out (fun _ hk => ⟨hk.1.2, ⟨hk.2, (by simp [Value.ownBlock])⟩⟩)⟩, ⟨by exact Kd.N_mono HO490.out (fun _ hk => ⟨hk.1, ⟨hk.2, (by simp [Value.ownBlock])⟩⟩)⟩, ⟨by exact Kd.N_mono HO493.out (fun _ hk => ⟨hk.1, ⟨hk.2, (by simp [Value.ownBlock])⟩⟩)⟩, ⟨by exact Kd.R_nil _ _ _ _ _⟩, ⟨by exact HB.out⟩⟩
      case round =>
        clear H'
        obtain ⟨x9_1, x10_1, rfl, HA, HK1, HO_0, HO_1, HO_2, HO_9, HB⟩ := hrel
        cases gk with
        | zero => exact absurd HA.out (by simp [locksteplaw28_CostAdds.l0])
        | succ k1 =>
          have H := HA.out
          clear HA
          simp only [locksteplaw28_CostAdds.l0] at H
          by_cases c15 : x10_1 < (l3.length : Int)
          · rw [if_pos c15] at H
            have c15b0 : decide (x10_1 < (l3.length : Int)) = true := decide_eq_true c15
            clear c15
            (skip)
            by_cases c16 : x10_1 < 3
            · rw [if_pos c16] at H
              have c16b0 : decide (x10_1 < 3) = true := decide_eq_true c16
              clear c16
              replace H := its H
              obtain ⟨c17, H⟩ := H
              have c17b0 : decide (0 ≤ x10_1) = true := decide_eq_true c17
              clear c17
              replace H := its H
              obtain ⟨c18, H⟩ := H
              have LMc18 := am c18
              clear c18
              obtain ⟨y495, hy495⟩ : ∃ y_ : List Int, y_ = (x9_1 ++ [IntKind.u64.wrap (Int.tmod (rd l3 x10_1) 7)]) := ⟨_, rfl⟩
              replace H : (locksteplaw28_CostAdds.l0 k1 t485 t488 t491 l3 y495 (wrap64 (x10_1 + 1))) = some r := by (rw [hy495]; with_reducible exact H)
              have Ny495 := am hy495
              clear hy495
              have H' := am H
              clear H
              have p494 : 0 ≤ (x10_1 : Int) := of_decide_eq_true (by (with_reducible assumption))
              have q494 : x10_1 < (l3.length : Int) := of_decide_eq_true (by (with_reducible assumption))
              obtain ⟨ad494, e494, hx494_0⟩ := Kd.at_int HR3.out x10_1 p494 q494
              cases e494
              replace hx494_0 := (HB.out.cell (World.block_lt_of_cell? w _ hx494_0)).trans hx494_0
              replace p494 := eq_true p494
              replace q494 := eq_true q494
              go_wp2_with (((with_reducible refine gate_builtin (b := .append) (xs := #[.tmp 44, .tmp 51]) rfl ?_); at_builtin; refine Kd.R_append (Kd.int .u64) (w0 := w) w.heap.size rfl (.tmp 44) (.tmp 51) 23 24 (.int .u64 0) 8 rfl Try.underlying23 info24 rfl (by decide) (by omega) u9 x9_1 (IntKind.u64.wrap (Int.tmod (rd l3 x10_1) 7)) [.int .u64 (IntKind.u64.wrap (Int.tmod (rd l3 x10_1) 7))] (fun _ => True) (fun _ => False) rfl rfl ?aP (fun _ hk => hk.elim) ?aF ?aO ?aB ?aS ?aL ?_; (case aP => exact rfl); (case aB => exact HB.out); (case aF => exact (fun _ _ => trivial)); (case aO => exact HO_9.out); (case aS => exact (below_size HB.out)); (case aL => have := LMc18.out; omega); intro v496 w19 ho hb hg hat; rw [← Ny495.out] at ho; replace HO_0 := am (Kd.N_afterv (ok := (fun k_ => some k_ ≠ (v489 : Value).ownBlock ∧ some k_ ≠ (v492 : Value).ownBlock)) (by exact Kd.N_mono HO_0.out (fun _ hk => ⟨⟨hk.1, hk.2.1⟩, hk.2.2⟩)) hg hat); replace HO_1 := am (Kd.N_afterv (ok := (fun k_ => some k_ ≠ (v486 : Value).ownBlock ∧ some k_ ≠ (v492 : Value).ownBlock)) (by exact Kd.N_mono HO_1.out (fun _ hk => ⟨⟨hk.1, hk.2.1⟩, hk.2.2⟩)) hg hat); replace HO_2 := am (Kd.N_afterv (ok := (fun k_ => some k_ ≠ (v486 : Value).ownBlock ∧ some k_ ≠ (v489 : Value).ownBlock)) (by exact Kd.N_mono HO_2.out (fun _ hk => ⟨⟨hk.1, hk.2.1⟩, hk.2.2⟩)) hg hat); replace HB := am (hb); have HO497 := am (ho); clear HO_9; clear ho hb hg hat))
              go_roundg k1
              case measure => have := HK1.out; omega
              case rel => exact ⟨(y495), (wrap64 (x10_1 + 1)), (by rfl), H', ⟨by have := HK1.out; omega⟩, ⟨by exact Kd.N_mono HO_0.out (fun _ hk => ⟨hk.1.1, ⟨hk.1.2, hk.2⟩⟩)⟩, ⟨by exact Kd.N_mono HO_1.out (fun _ hk => ⟨hk.1.1, ⟨hk.1.2, hk.2⟩⟩)⟩, ⟨by exact Kd.N_mono HO_2.out (fun _ hk => ⟨hk.1.1, ⟨hk.1.2, hk.2⟩⟩)⟩, ⟨by exact HO497.out⟩, ⟨by exact HB.out⟩⟩
            · rw [if_neg c16] at H
              have c16b0 : decide (x10_1 < 3) = false := decide_eq_false c16
              clear c16
              have H' := am H
              clear H
              go_wp2
              go_meet
              case rel => exact ⟨_, (x9_1), H', ⟨by have := HK1.out; omega⟩, ⟨by exact HO_0.out⟩, ⟨by exact HO_1.out⟩, ⟨by exact HO_2.out⟩, ⟨by exact HO_9.out⟩, ⟨by exact HB.out⟩⟩
          · rw [if_neg c15] at H
            have c15b0 : decide (x10_1 < (l3.length : Int)) = false := decide_eq_false c15
            clear c15
            (skip)
            have H' := am H
            clear H
            go_wp2
            go_meet
            case rel => exact ⟨_, (x9_1), H', ⟨by have := HK1.out; omega⟩, ⟨by exact HO_0.out⟩, ⟨by exact HO_1.out⟩, ⟨by exact HO_2.out⟩, ⟨by exact HO_9.out⟩, ⟨by exact HB.out⟩⟩
    case rest => as_aux_lemma =>
      clear HC10
      obtain ⟨kq, x9_9, HA, HJ9, HO_0, HO_1, HO_2, HO_9, HB⟩ := hcut
      cases kq with
      | zero => exact absurd HA.out (by simp [locksteplaw28_CostAdds.j1])
      | succ kj9 =>
        have H := HA.out
        clear HA
        simp only [locksteplaw28_CostAdds.j1] at H
        replace H := Option.bind_eq_some_iff.mp H
        obtain ⟨t498, A200, H⟩ := H
        replace H : ((locksteplaw28_own.f kj9 t488).bind fun t501 => ((cost_Add.f kj9 t498 t501).bind fun bt504 => ((locksteplaw28_own.f kj9 t488).bind fun t508 => ((locksteplaw28_own.f kj9 t485).bind fun t511 => ((cost_Add.f kj9 t508 t511).bind fun bt514 => ((locksteplaw28_own.f kj9 t488).bind fun t518 => ((locksteplaw28_own.f kj9 t491).bind fun t521 => ((cost_Add.f kj9 t518 t521).bind fun bt524 => (if bt504.2 = 0 then (if bt514.2 = 0 then (if bt524.2 = 0 then ((locksteplaw28_same.f kj9 bt504.1 bt514.1).bind fun t528 => (if t528 = true then ((cost_Value.f kj9 bt504.1 x9_9).bind fun t529 => ((cost_Value.f kj9 t485 x9_9).bind fun t530 => ((cost_Value.f kj9 t488 x9_9).bind fun t531 => (locksteplaw28_CostAdds.j2 kj9 t485 t488 t491 x9_9 bt504.1 bt524.1 (t529 != (IntKind.u64.wrap (t530 + t531))))))) else (locksteplaw28_CostAdds.j2 kj9 t485 t488 t491 x9_9 bt504.1 bt524.1 true))) else (locksteplaw28_CostAdds.j2 kj9 t485 t488 t491 x9_9 bt504.1 bt524.1 true)) else (locksteplaw28_CostAdds.j2 kj9 t485 t488 t491 x9_9 bt504.1 bt524.1 true)) else (locksteplaw28_CostAdds.j2 kj9 t485 t488 t491 x9_9 bt504.1 bt524.1 true)))))))))) = some r := H
        have A20 := am A200
        clear A200
        replace H := Option.bind_eq_some_iff.mp H
        obtain ⟨t501, A210, H⟩ := H
        replace H : ((cost_Add.f kj9 t498 t501).bind fun bt504 => ((locksteplaw28_own.f kj9 t488).bind fun t508 => ((locksteplaw28_own.f kj9 t485).bind fun t511 => ((cost_Add.f kj9 t508 t511).bind fun bt514 => ((locksteplaw28_own.f kj9 t488).bind fun t518 => ((locksteplaw28_own.f kj9 t491).bind fun t521 => ((cost_Add.f kj9 t518 t521).bind fun bt524 => (if bt504.2 = 0 then (if bt514.2 = 0 then (if bt524.2 = 0 then ((locksteplaw28_same.f kj9 bt504.1 bt514.1).bind fun t528 => (if t528 = true then ((cost_Value.f kj9 bt504.1 x9_9).bind fun t529 => ((cost_Value.f kj9 t485 x9_9).bind fun t530 => ((cost_Value.f kj9 t488 x9_9).bind fun t531 => (locksteplaw28_CostAdds.j2 kj9 t485 t488 t491 x9_9 bt504.1 bt524.1 (t529 != (IntKind.u64.wrap (t530 + t531))))))) else (locksteplaw28_CostAdds.j2 kj9 t485 t488 t491 x9_9 bt504.1 bt524.1 true))) else (locksteplaw28_CostAdds.j2 kj9 t485 t488 t491 x9_9 bt504.1 bt524.1 true)) else (locksteplaw28_CostAdds.j2 kj9 t485 t488 t491 x9_9 bt504.1 bt524.1 true)) else (locksteplaw28_CostAdds.j2 kj9 t485 t488 t491 x9_9 bt504.1 bt524.1 true))))))))) = some r := H
        have A21 := am A210
        clear A210
        replace H := Option.bind_eq_some_iff.mp H
        obtain ⟨⟨t504, t507⟩, A220, H⟩ := H
        replace H : ((locksteplaw28_own.f kj9 t488).bind fun t508 => ((locksteplaw28_own.f kj9 t485).bind fun t511 => ((cost_Add.f kj9 t508 t511).bind fun bt514 => ((locksteplaw28_own.f kj9 t488).bind fun t518 => ((locksteplaw28_own.f kj9 t491).bind fun t521 => ((cost_Add.f kj9 t518 t521).bind fun bt524 => (if t507 = 0 then (if bt514.2 = 0 then (if bt524.2 = 0 then ((locksteplaw28_same.f kj9 t504 bt514.1).bind fun t528 => (if t528 = true then ((cost_Value.f kj9 t504 x9_9).bind fun t529 => ((cost_Value.f kj9 t485 x9_9).bind fun t530 => ((cost_Value.f kj9 t488 x9_9).bind fun t531 => (locksteplaw28_CostAdds.j2 kj9 t485 t488 t491 x9_9 t504 bt524.1 (t529 != (IntKind.u64.wrap (t530 + t531))))))) else (locksteplaw28_CostAdds.j2 kj9 t485 t488 t491 x9_9 t504 bt524.1 true))) else (locksteplaw28_CostAdds.j2 kj9 t485 t488 t491 x9_9 t504 bt524.1 true)) else (locksteplaw28_CostAdds.j2 kj9 t485 t488 t491 x9_9 t504 bt524.1 true)) else (locksteplaw28_CostAdds.j2 kj9 t485 t488 t491 x9_9 t504 bt524.1 true)))))))) = some r := H
        have A22 := am A220
        clear A220
        replace H := Option.bind_eq_some_iff.mp H
        obtain ⟨t508, A230, H⟩ := H
        replace H : ((locksteplaw28_own.f kj9 t485).bind fun t511 => ((cost_Add.f kj9 t508 t511).bind fun bt514 => ((locksteplaw28_own.f kj9 t488).bind fun t518 => ((locksteplaw28_own.f kj9 t491).bind fun t521 => ((cost_Add.f kj9 t518 t521).bind fun bt524 => (if t507 = 0 then (if bt514.2 = 0 then (if bt524.2 = 0 then ((locksteplaw28_same.f kj9 t504 bt514.1).bind fun t528 => (if t528 = true then ((cost_Value.f kj9 t504 x9_9).bind fun t529 => ((cost_Value.f kj9 t485 x9_9).bind fun t530 => ((cost_Value.f kj9 t488 x9_9).bind fun t531 => (locksteplaw28_CostAdds.j2 kj9 t485 t488 t491 x9_9 t504 bt524.1 (t529 != (IntKind.u64.wrap (t530 + t531))))))) else (locksteplaw28_CostAdds.j2 kj9 t485 t488 t491 x9_9 t504 bt524.1 true))) else (locksteplaw28_CostAdds.j2 kj9 t485 t488 t491 x9_9 t504 bt524.1 true)) else (locksteplaw28_CostAdds.j2 kj9 t485 t488 t491 x9_9 t504 bt524.1 true)) else (locksteplaw28_CostAdds.j2 kj9 t485 t488 t491 x9_9 t504 bt524.1 true))))))) = some r := H
        have A23 := am A230
        clear A230
        replace H := Option.bind_eq_some_iff.mp H
        obtain ⟨t511, A240, H⟩ := H
        replace H : ((cost_Add.f kj9 t508 t511).bind fun bt514 => ((locksteplaw28_own.f kj9 t488).bind fun t518 => ((locksteplaw28_own.f kj9 t491).bind fun t521 => ((cost_Add.f kj9 t518 t521).bind fun bt524 => (if t507 = 0 then (if bt514.2 = 0 then (if bt524.2 = 0 then ((locksteplaw28_same.f kj9 t504 bt514.1).bind fun t528 => (if t528 = true then ((cost_Value.f kj9 t504 x9_9).bind fun t529 => ((cost_Value.f kj9 t485 x9_9).bind fun t530 => ((cost_Value.f kj9 t488 x9_9).bind fun t531 => (locksteplaw28_CostAdds.j2 kj9 t485 t488 t491 x9_9 t504 bt524.1 (t529 != (IntKind.u64.wrap (t530 + t531))))))) else (locksteplaw28_CostAdds.j2 kj9 t485 t488 t491 x9_9 t504 bt524.1 true))) else (locksteplaw28_CostAdds.j2 kj9 t485 t488 t491 x9_9 t504 bt524.1 true)) else (locksteplaw28_CostAdds.j2 kj9 t485 t488 t491 x9_9 t504 bt524.1 true)) else (locksteplaw28_CostAdds.j2 kj9 t485 t488 t491 x9_9 t504 bt524.1 true)))))) = some r := H
        have A24 := am A240
        clear A240
        replace H := Option.bind_eq_some_iff.mp H
        obtain ⟨⟨t514, t517⟩, A250, H⟩ := H
        replace H : ((locksteplaw28_own.f kj9 t488).bind fun t518 => ((locksteplaw28_own.f kj9 t491).bind fun t521 => ((cost_Add.f kj9 t518 t521).bind fun bt524 => (if t507 = 0 then (if t517 = 0 then (if bt524.2 = 0 then ((locksteplaw28_same.f kj9 t504 t514).bind fun t528 => (if t528 = true then ((cost_Value.f kj9 t504 x9_9).bind fun t529 => ((cost_Value.f kj9 t485 x9_9).bind fun t530 => ((cost_Value.f kj9 t488 x9_9).bind fun t531 => (locksteplaw28_CostAdds.j2 kj9 t485 t488 t491 x9_9 t504 bt524.1 (t529 != (IntKind.u64.wrap (t530 + t531))))))) else (locksteplaw28_CostAdds.j2 kj9 t485 t488 t491 x9_9 t504 bt524.1 true))) else (locksteplaw28_CostAdds.j2 kj9 t485 t488 t491 x9_9 t504 bt524.1 true)) else (locksteplaw28_CostAdds.j2 kj9 t485 t488 t491 x9_9 t504 bt524.1 true)) else (locksteplaw28_CostAdds.j2 kj9 t485 t488 t491 x9_9 t504 bt524.1 true))))) = some r := H
        have A25 := am A250
        clear A250
        replace H := Option.bind_eq_some_iff.mp H
        obtain ⟨t518, A260, H⟩ := H
        replace H : ((locksteplaw28_own.f kj9 t491).bind fun t521 => ((cost_Add.f kj9 t518 t521).bind fun bt524 => (if t507 = 0 then (if t517 = 0 then (if bt524.2 = 0 then ((locksteplaw28_same.f kj9 t504 t514).bind fun t528 => (if t528 = true then ((cost_Value.f kj9 t504 x9_9).bind fun t529 => ((cost_Value.f kj9 t485 x9_9).bind fun t530 => ((cost_Value.f kj9 t488 x9_9).bind fun t531 => (locksteplaw28_CostAdds.j2 kj9 t485 t488 t491 x9_9 t504 bt524.1 (t529 != (IntKind.u64.wrap (t530 + t531))))))) else (locksteplaw28_CostAdds.j2 kj9 t485 t488 t491 x9_9 t504 bt524.1 true))) else (locksteplaw28_CostAdds.j2 kj9 t485 t488 t491 x9_9 t504 bt524.1 true)) else (locksteplaw28_CostAdds.j2 kj9 t485 t488 t491 x9_9 t504 bt524.1 true)) else (locksteplaw28_CostAdds.j2 kj9 t485 t488 t491 x9_9 t504 bt524.1 true)))) = some r := H
        have A26 := am A260
        clear A260
        replace H := Option.bind_eq_some_iff.mp H
        obtain ⟨t521, A270, H⟩ := H
        replace H : ((cost_Add.f kj9 t518 t521).bind fun bt524 => (if t507 = 0 then (if t517 = 0 then (if bt524.2 = 0 then ((locksteplaw28_same.f kj9 t504 t514).bind fun t528 => (if t528 = true then ((cost_Value.f kj9 t504 x9_9).bind fun t529 => ((cost_Value.f kj9 t485 x9_9).bind fun t530 => ((cost_Value.f kj9 t488 x9_9).bind fun t531 => (locksteplaw28_CostAdds.j2 kj9 t485 t488 t491 x9_9 t504 bt524.1 (t529 != (IntKind.u64.wrap (t530 + t531))))))) else (locksteplaw28_CostAdds.j2 kj9 t485 t488 t491 x9_9 t504 bt524.1 true))) else (locksteplaw28_CostAdds.j2 kj9 t485 t488 t491 x9_9 t504 bt524.1 true)) else (locksteplaw28_CostAdds.j2 kj9 t485 t488 t491 x9_9 t504 bt524.1 true)) else (locksteplaw28_CostAdds.j2 kj9 t485 t488 t491 x9_9 t504 bt524.1 true))) = some r := H
        have A27 := am A270
        clear A270
        replace H := Option.bind_eq_some_iff.mp H
        obtain ⟨⟨t524, t527⟩, A280, H⟩ := H
        replace H : (if t507 = 0 then (if t517 = 0 then (if t527 = 0 then ((locksteplaw28_same.f kj9 t504 t514).bind fun t528 => (if t528 = true then ((cost_Value.f kj9 t504 x9_9).bind fun t529 => ((cost_Value.f kj9 t485 x9_9).bind fun t530 => ((cost_Value.f kj9 t488 x9_9).bind fun t531 => (locksteplaw28_CostAdds.j2 kj9 t485 t488 t491 x9_9 t504 t524 (t529 != (IntKind.u64.wrap (t530 + t531))))))) else (locksteplaw28_CostAdds.j2 kj9 t485 t488 t491 x9_9 t504 t524 true))) else (locksteplaw28_CostAdds.j2 kj9 t485 t488 t491 x9_9 t504 t524 true)) else (locksteplaw28_CostAdds.j2 kj9 t485 t488 t491 x9_9 t504 t524 true)) else (locksteplaw28_CostAdds.j2 kj9 t485 t488 t491 x9_9 t504 t524 true)) = some r := H
        have A28 := am A280
        clear A280
        have HC29 := am H
        clear H
        obtain ⟨Ao30, co30, eo30⟩ := Kd.N_slice HO_0.out
        subst eo30
        go_upto_region 12 with (first | ((with_reducible refine gate_callee (f := 9) rfl ?_); refine goesL_ (some 55) rfl rfl Try.func9 (by kernel_rfl) rfl #[.slice Ao30 t485.length co30] rfl (by (try simp only [List.map_toArray, List.map_cons, List.map_nil]); rfl) ?_; (with_reducible refine (locksteplaw28_own.calls kj9 _ _ t485 t498 _ ?side1 ?side2 A20.out).mono ?_); (case side1 => exact (Kd.N_reads' HO_0.out).2.2); (case side2 => exact (Kd.N_reads' HO_0.out).2.1); rintro e w31 ⟨v499, rfl, ho0, hb⟩; refine ⟨_, rfl, ?_⟩; have HO500 := am (Kd.N_lower (Kd.N_mono (ok' := fun k_ => some k_ ≠ (.slice Ao30 t485.length co30 : Value).ownBlock ∧ some k_ ≠ (v489 : Value).ownBlock ∧ some k_ ≠ (v492 : Value).ownBlock ∧ some k_ ≠ (u9 : Value).ownBlock) (Kd.R_N (Kd.R_bound ho0)) (fun k_ hk_ => ⟨(Kd.fresh' (Kd.N_lt HO_0.out) k_ hk_.2.1), (Kd.fresh' (Kd.N_lt HO_1.out) k_ hk_.2.1), (Kd.fresh' (Kd.N_lt HO_2.out) k_ hk_.2.1), (Kd.fresh' (Kd.R_lt HO_9.out) k_ hk_.2.1)⟩)) (below_size HB.out)); replace HO_0 := am (Kd.N_elder' HO_0.out (Kd.R_base ho0) hb); replace HO_1 := am (Kd.N_elder' HO_1.out (Kd.R_base ho0) hb); replace HO_2 := am (Kd.N_elder' HO_2.out (Kd.R_base ho0) hb); replace HO_9 := am (Kd.R_below HO_9.out hb); replace HB := am (below_step HB.out hb); (try clear hb); (try clear ho0); obtain ⟨Ao32, co32, eo32⟩ := Kd.N_slice HO_1.out; subst eo32) | ((with_reducible refine gate_callee (f := 9) rfl ?_); refine goesL_ (some 57) rfl rfl Try.func9 (by kernel_rfl) rfl #[.slice Ao32 t488.length co32] rfl (by (try simp only [List.map_toArray, List.map_cons, List.map_nil]); rfl) ?_; (with_reducible refine (locksteplaw28_own.calls kj9 _ _ t488 t501 _ ?side1 ?side2 A21.out).mono ?_); (case side1 => exact (Kd.N_reads' HO_1.out).2.2); (case side2 => exact (Kd.N_reads' HO_1.out).2.1); rintro e w33 ⟨v502, rfl, ho0, hb⟩; refine ⟨_, rfl, ?_⟩; have HO503 := am (Kd.N_lower (Kd.N_mono (ok' := fun k_ => some k_ ≠ (.slice Ao30 t485.length co30 : Value).ownBlock ∧ some k_ ≠ (.slice Ao32 t488.length co32 : Value).ownBlock ∧ some k_ ≠ (v492 : Value).ownBlock ∧ some k_ ≠ (u9 : Value).ownBlock ∧ some k_ ≠ (v499 : Value).ownBlock) (Kd.R_N (Kd.R_bound ho0)) (fun k_ hk_ => ⟨(Kd.fresh' (Kd.N_lt HO_0.out) k_ hk_.2.1), (Kd.fresh' (Kd.N_lt HO_1.out) k_ hk_.2.1), (Kd.fresh' (Kd.N_lt HO_2.out) k_ hk_.2.1), (Kd.fresh' (Kd.R_lt HO_9.out) k_ hk_.2.1), (Kd.fresh' (Kd.N_lt HO500.out) k_ hk_.2.1)⟩)) (below_size HB.out)); replace HO_0 := am (Kd.N_elder' HO_0.out (Kd.R_base ho0) hb); replace HO_1 := am (Kd.N_elder' HO_1.out (Kd.R_base ho0) hb); replace HO_2 := am (Kd.N_elder' HO_2.out (Kd.R_base ho0) hb); replace HO_9 := am (Kd.R_below HO_9.out hb); replace HO500 := am (Kd.N_elder' HO500.out (Kd.R_base ho0) hb); replace HB := am (below_step HB.out hb); (try clear hb); (try clear ho0); obtain ⟨Ao34, co34, eo34⟩ := Kd.N_slice HO500.out; subst eo34; obtain ⟨Ao35, co35, eo35⟩ := Kd.N_slice HO503.out; subst eo35) | ((with_reducible refine gate_callee (f := 12) rfl ?_); refine goesL_ (some 58) rfl rfl Try.func12 (by kernel_rfl) rfl #[.slice Ao34 t498.length co34, .slice Ao35 t501.length co35] rfl (by (try simp only [List.map_toArray, List.map_cons, List.map_nil]); rfl) ?_; (with_reducible refine (cost_Add.calls kj9 (fun k_ => ((some k_ ≠ (.slice Ao30 t485.length co30 : Value).ownBlock ∧ (some k_ ≠ (.slice Ao32 t488.length co32 : Value).ownBlock ∧ (some k_ ≠ (v492 : Value).ownBlock ∧ some k_ ≠ (u9 : Value).ownBlock))) ∧ some k_ ≠ (.slice Ao35 t501.length co35 : Value).ownBlock)) _ _ t498 (fun k_ => (some k_ ≠ (.slice Ao30 t485.length co30 : Value).ownBlock ∧ (some k_ ≠ (.slice Ao32 t488.length co32 : Value).ownBlock ∧ (some k_ ≠ (v492 : Value).ownBlock ∧ (some k_ ≠ (u9 : Value).ownBlock ∧ some k_ ≠ (.slice Ao34 t498.length co34 : Value).ownBlock))))) _ _ t501 t504 t507 _ ?side1 ?side2 A22.out).mono ?_); (case side1 => exact Kd.N_V (HO500.out)); (case side2 => exact Kd.N_V (HO503.out)); rintro e w36 ⟨v505, rfl, ho0, hb⟩; refine ⟨_, rfl, ?_⟩; replace HO500 := am (Kd.N_elder' HO500.out (Kd.N_base ho0) hb); replace HO503 := am (Kd.N_elder' HO503.out (Kd.N_base ho0) hb); have HO506 := am (Kd.N_lower (Kd.N_mono (ok' := fun k_ => some k_ ≠ (.slice Ao30 t485.length co30 : Value).ownBlock ∧ some k_ ≠ (.slice Ao32 t488.length co32 : Value).ownBlock ∧ some k_ ≠ (v492 : Value).ownBlock ∧ some k_ ≠ (u9 : Value).ownBlock) ho0 (fun k_ hk_ => ⟨Or.elim hk_ (fun hs_ => Or.elim hs_ (fun hs_ => hs_.1.1) (fun hs_ => hs_.1)) (fun hn_ => (Kd.fresh' (Kd.N_lt HO_0.out) k_ hn_)), Or.elim hk_ (fun hs_ => Or.elim hs_ (fun hs_ => hs_.1.2.1) (fun hs_ => hs_.2.1)) (fun hn_ => (Kd.fresh' (Kd.N_lt HO_1.out) k_ hn_)), Or.elim hk_ (fun hs_ => Or.elim hs_ (fun hs_ => hs_.1.2.2.1) (fun hs_ => hs_.2.2.1)) (fun hn_ => (Kd.fresh' (Kd.N_lt HO_2.out) k_ hn_)), Or.elim hk_ (fun hs_ => Or.elim hs_ (fun hs_ => hs_.1.2.2.2) (fun hs_ => hs_.2.2.2.1)) (fun hn_ => (Kd.fresh' (Kd.R_lt HO_9.out) k_ hn_))⟩)) (below_size HB.out)); replace HO_0 := am (Kd.N_elder' HO_0.out (Kd.N_base ho0) hb); replace HO_1 := am (Kd.N_elder' HO_1.out (Kd.N_base ho0) hb); replace HO_2 := am (Kd.N_elder' HO_2.out (Kd.N_base ho0) hb); replace HO_9 := am (Kd.R_below HO_9.out hb); replace HB := am (below_step HB.out hb); (try clear hb); (try clear ho0)) | ((with_reducible refine gate_callee (f := 9) rfl ?_); refine goesL_ (some 63) rfl rfl Try.func9 (by kernel_rfl) rfl #[.slice Ao32 t488.length co32] rfl (by (try simp only [List.map_toArray, List.map_cons, List.map_nil]); rfl) ?_; (with_reducible refine (locksteplaw28_own.calls kj9 _ _ t488 t508 _ ?side1 ?side2 A23.out).mono ?_); (case side1 => exact (Kd.N_reads' HO_1.out).2.2); (case side2 => exact (Kd.N_reads' HO_1.out).2.1); rintro e w37 ⟨v509, rfl, ho0, hb⟩; refine ⟨_, rfl, ?_⟩; have HO510 := am (Kd.N_lower (Kd.N_mono (ok' := fun k_ => some k_ ≠ (.slice Ao30 t485.length co30 : Value).ownBlock ∧ some k_ ≠ (.slice Ao32 t488.length co32 : Value).ownBlock ∧ some k_ ≠ (v492 : Value).ownBlock ∧ some k_ ≠ (u9 : Value).ownBlock ∧ some k_ ≠ (.slice Ao34 t498.length co34 : Value).ownBlock ∧ some k_ ≠ (.slice Ao35 t501.length co35 : Value).ownBlock ∧ some k_ ≠ (v505 : Value).ownBlock) (Kd.R_N (Kd.R_bound ho0)) (fun k_ hk_ => ⟨(Kd.fresh' (Kd.N_lt HO_0.out) k_ hk_.2.1), (Kd.fresh' (Kd.N_lt HO_1.out) k_ hk_.2.1), (Kd.fresh' (Kd.N_lt HO_2.out) k_ hk_.2.1), (Kd.fresh' (Kd.R_lt HO_9.out) k_ hk_.2.1), (Kd.fresh' (Kd.N_lt HO500.out) k_ hk_.2.1), (Kd.fresh' (Kd.N_lt HO503.out) k_ hk_.2.1), (Kd.fresh' (Kd.N_lt HO506.out) k_ hk_.2.1)⟩)) (below_size HB.out)); replace HO_0 := am (Kd.N_elder' HO_0.out (Kd.R_base ho0) hb); replace HO_1 := am (Kd.N_elder' HO_1.out (Kd.R_base ho0) hb); replace HO_2 := am (Kd.N_elder' HO_2.out (Kd.R_base ho0) hb); replace HO_9 := am (Kd.R_below HO_9.out hb); replace HO500 := am (Kd.N_elder' HO500.out (Kd.R_base ho0) hb); replace HO503 := am (Kd.N_elder' HO503.out (Kd.R_base ho0) hb); replace HO506 := am (Kd.N_elder' HO506.out (Kd.R_base ho0) hb); replace HB := am (below_step HB.out hb); (try clear hb); (try clear ho0)) | ((with_reducible refine gate_callee (f := 9) rfl ?_); refine goesL_ (some 65) rfl rfl Try.func9 (by kernel_rfl) rfl #[.slice Ao30 t485.length co30] rfl (by (try simp only [List.map_toArray, List.map_cons, List.map_nil]); rfl) ?_; (with_reducible refine (locksteplaw28_own.calls kj9 _ _ t485 t511 _ ?side1 ?side2 A24.out).mono ?_); (case side1 => exact (Kd.N_reads' HO_0.out).2.2); (case side2 => exact (Kd.N_reads' HO_0.out).2.1); rintro e w38 ⟨v512, rfl, ho0, hb⟩; refine ⟨_, rfl, ?_⟩; have HO513 := am (Kd.N_lower (Kd.N_mono (ok' := fun k_ => some k_ ≠ (.slice Ao30 t485.length co30 : Value).ownBlock ∧ some k_ ≠ (.slice Ao32 t488.length co32 : Value).ownBlock ∧ some k_ ≠ (v492 : Value).ownBlock ∧ some k_ ≠ (u9 : Value).ownBlock ∧ some k_ ≠ (.slice Ao34 t498.length co34 : Value).ownBlock ∧ some k_ ≠ (.slice Ao35 t501.length co35 : Value).ownBlock ∧ some k_ ≠ (v505 : Value).ownBlock ∧ some k_ ≠ (v509 : Value).ownBlock) (Kd.R_N (Kd.R_bound ho0)) (fun k_ hk_ => ⟨(Kd.fresh' (Kd.N_lt HO_0.out) k_ hk_.2.1), (Kd.fresh' (Kd.N_lt HO_1.out) k_ hk_.2.1), (Kd.fresh' (Kd.N_lt HO_2.out) k_ hk_.2.1), (Kd.fresh' (Kd.R_lt HO_9.out) k_ hk_.2.1), (Kd.fresh' (Kd.N_lt HO500.out) k_ hk_.2.1), (Kd.fresh' (Kd.N_lt HO503.out) k_ hk_.2.1), (Kd.fresh' (Kd.N_lt HO506.out) k_ hk_.2.1), (Kd.fresh' (Kd.N_lt HO510.out) k_ hk_.2.1)⟩)) (below_size HB.out)); replace HO_0 := am (Kd.N_elder' HO_0.out (Kd.R_base ho0) hb); replace HO_1 := am (Kd.N_elder' HO_1.out (Kd.R_base ho0) hb); replace HO_2 := am (Kd.N_elder' HO_2.out (Kd.R_base ho0) hb); replace HO_9 := am (Kd.R_below HO_9.out hb); replace HO500 := am (Kd.N_elder' HO500.out (Kd.R_base ho0) hb); replace HO503 := am (Kd.N_elder' HO503.out (Kd.R_base ho0) hb); replace HO506 := am (Kd.N_elder' HO506.out (Kd.R_base ho0) hb); replace HO510 := am (Kd.N_elder' HO510.out (Kd.R_base ho0) hb); replace HB := am (below_step HB.out hb); (try clear hb); (try clear ho0); obtain ⟨Ao39, co39, eo39⟩ := Kd.N_slice HO510.out; subst eo39; obtain ⟨Ao40, co40, eo40⟩ := Kd.N_slice HO513.out; subst eo40) | ((with_reducible refine gate_callee (f := 12) rfl ?_); refine goesL_ (some 66) rfl rfl Try.func12 (by kernel_rfl) rfl #[.slice Ao39 t508.length co39, .slice Ao40 t511.length co40] rfl (by (try simp only [List.map_toArray, List.map_cons, List.map_nil]); rfl) ?_; (with_reducible refine (cost_Add.calls kj9 (fun k_ => ((some k_ ≠ (.slice Ao30 t485.length co30 : Value).ownBlock ∧ (some k_ ≠ (.slice Ao32 t488.length co32 : Value).ownBlock ∧ (some k_ ≠ (v492 : Value).ownBlock ∧ (some k_ ≠ (u9 : Value).ownBlock ∧ (some k_ ≠ (.slice Ao34 t498.length co34 : Value).ownBlock ∧ (some k_ ≠ (.slice Ao35 t501.length co35 : Value).ownBlock ∧ some k_ ≠ (v505 : Value).ownBlock)))))) ∧ some k_ ≠ (.slice Ao40 t511.length co40 : Value).ownBlock)) _ _ t508 (fun k_ => (some k_ ≠ (.slice Ao30 t485.length co30 : Value).ownBlock ∧ (some k_ ≠ (.slice Ao32 t488.length co32 : Value).ownBlock ∧ (some k_ ≠ (v492 : Value).ownBlock ∧ (some k_ ≠ (u9 : Value).ownBlock ∧ (some k_ ≠ (.slice Ao34 t498.length co34 : Value).ownBlock ∧ (some k_ ≠ (.slice Ao35 t501.length co35 : Value).ownBlock ∧ (some k_ ≠ (v505 : Value).ownBlock ∧ some k_ ≠ (.slice Ao39 t508.length co39 : Value).ownBlock)))))))) _ _ t511 t514 t517 _ ?side1 ?side2 A25.out).mono ?_); (case side1 => exact Kd.N_V (HO510.out)); (case side2 => exact Kd.N_V (HO513.out)); rintro e w41 ⟨v515, rfl, ho0, hb⟩; refine ⟨_, rfl, ?_⟩; replace HO510 := am (Kd.N_elder' HO510.out (Kd.N_base ho0) hb); replace HO513 := am (Kd.N_elder' HO513.out (Kd.N_base ho0) hb); have HO516 := am (Kd.N_lower (Kd.N_mono (ok' := fun k_ => some k_ ≠ (.slice Ao30 t485.length co30 : Value).ownBlock ∧ some k_ ≠ (.slice Ao32 t488.length co32 : Value).ownBlock ∧ some k_ ≠ (v492 : Value).ownBlock ∧ some k_ ≠ (u9 : Value).ownBlock ∧ some k_ ≠ (.slice Ao34 t498.length co34 : Value).ownBlock ∧ some k_ ≠ (.slice Ao35 t501.length co35 : Value).ownBlock ∧ some k_ ≠ (v505 : Value).ownBlock) ho0 (fun k_ hk_ => ⟨Or.elim hk_ (fun hs_ => Or.elim hs_ (fun hs_ => hs_.1.1) (fun hs_ => hs_.1)) (fun hn_ => (Kd.fresh' (Kd.N_lt HO_0.out) k_ hn_)), Or.elim hk_ (fun hs_ => Or.elim hs_ (fun hs_ => hs_.1.2.1) (fun hs_ => hs_.2.1)) (fun hn_ => (Kd.fresh' (Kd.N_lt HO_1.out) k_ hn_)), Or.elim hk_ (fun hs_ => Or.elim hs_ (fun hs_ => hs_.1.2.2.1) (fun hs_ => hs_.2.2.1)) (fun hn_ => (Kd.fresh' (Kd.N_lt HO_2.out) k_ hn_)), Or.elim hk_ (fun hs_ => Or.elim hs_ (fun hs_ => hs_.1.2.2.2.1) (fun hs_ => hs_.2.2.2.1)) (fun hn_ => (Kd.fresh' (Kd.R_lt HO_9.out) k_ hn_)), Or.elim hk_ (fun hs_ => Or.elim hs_ (fun hs_ => hs_.1.2.2.2.2.1) (fun hs_ => hs_.2.2.2.2.1)) (fun hn_ => (Kd.fresh' (Kd.N_lt HO500.out) k_ hn_)), Or.elim hk_ (fun hs_ => Or.elim hs_ (fun hs_ => hs_.1.2.2.2.2.2.1) (fun hs_ => hs_.2.2.2.2.2.1)) (fun hn_ => (Kd.fresh' (Kd.N_lt HO503.out) k_ hn_)), Or.elim hk_ (fun hs_ => Or.elim hs_ (fun hs_ => hs_.1.2.2.2.2.2.2) (fun hs_ => hs_.2.2.2.2.2.2.1)) (fun hn_ => (Kd.fresh' (Kd.N_lt HO506.out) k_ hn_))⟩)) (below_size HB.out)); replace HO_0 := am (Kd.N_elder' HO_0.out (Kd.N_base ho0) hb); replace HO_1 := am (Kd.N_elder' HO_1.out (Kd.N_base ho0) hb); replace HO_2 := am (Kd.N_elder' HO_2.out (Kd.N_base ho0) hb); replace HO_9 := am (Kd.R_below HO_9.out hb); replace HO500 := am (Kd.N_elder' HO500.out (Kd.N_base ho0) hb); replace HO503 := am (Kd.N_elder' HO503.out (Kd.N_base ho0) hb); replace HO506 := am (Kd.N_elder' HO506.out (Kd.N_base ho0) hb); replace HB := am (below_step HB.out hb); (try clear hb); (try clear ho0)) | ((with_reducible refine gate_callee (f := 9) rfl ?_); refine goesL_ (some 71) rfl rfl Try.func9 (by kernel_rfl) rfl #[.slice Ao32 t488.length co32] rfl (by (try simp only [List.map_toArray, List.map_cons, List.map_nil]); rfl) ?_; (with_reducible refine (locksteplaw28_own.calls kj9 _ _ t488 t518 _ ?side1 ?side2 A26.out).mono ?_); (case side1 => exact (Kd.N_reads' HO_1.out).2.2); (case side2 => exact (Kd.N_reads' HO_1.out).2.1); rintro e w42 ⟨v519, rfl, ho0, hb⟩; refine ⟨_, rfl, ?_⟩; have HO520 := am (Kd.N_lower (Kd.N_mono (ok' := fun k_ => some k_ ≠ (.slice Ao30 t485.length co30 : Value).ownBlock ∧ some k_ ≠ (.slice Ao32 t488.length co32 : Value).ownBlock ∧ some k_ ≠ (v492 : Value).ownBlock ∧ some k_ ≠ (u9 : Value).ownBlock ∧ some k_ ≠ (.slice Ao34 t498.length co34 : Value).ownBlock ∧ some k_ ≠ (.slice Ao35 t501.length co35 : Value).ownBlock ∧ some k_ ≠ (v505 : Value).ownBlock ∧ some k_ ≠ (.slice Ao39 t508.length co39 : Value).ownBlock ∧ some k_ ≠ (.slice Ao40 t511.length co40 : Value).ownBlock ∧ some k_ ≠ (v515 : Value).ownBlock) (Kd.R_N (Kd.R_bound ho0)) (fun k_ hk_ => ⟨(Kd.fresh' (Kd.N_lt HO_0.out) k_ hk_.2.1), (Kd.fresh' (Kd.N_lt HO_1.out) k_ hk_.2.1), (Kd.fresh' (Kd.N_lt HO_2.out) k_ hk_.2.1), (Kd.fresh' (Kd.R_lt HO_9.out) k_ hk_.2.1), (Kd.fresh' (Kd.N_lt HO500.out) k_ hk_.2.1), (Kd.fresh' (Kd.N_lt HO503.out) k_ hk_.2.1), (Kd.fresh' (Kd.N_lt HO506.out) k_ hk_.2.1), (Kd.fresh' (Kd.N_lt HO510.out) k_ hk_.2.1), (Kd.fresh' (Kd.N_lt HO513.out) k_ hk_.2.1), (Kd.fresh' (Kd.N_lt HO516.out) k_ hk_.2.1)⟩)) (below_size HB.out)); replace HO_0 := am (Kd.N_elder' HO_0.out (Kd.R_base ho0) hb); replace HO_1 := am (Kd.N_elder' HO_1.out (Kd.R_base ho0) hb); replace HO_2 := am (Kd.N_elder' HO_2.out (Kd.R_base ho0) hb); replace HO_9 := am (Kd.R_below HO_9.out hb); replace HO500 := am (Kd.N_elder' HO500.out (Kd.R_base ho0) hb); replace HO503 := am (Kd.N_elder' HO503.out (Kd.R_base ho0) hb); replace HO506 := am (Kd.N_elder' HO506.out (Kd.R_base ho0) hb); replace HO510 := am (Kd.N_elder' HO510.out (Kd.R_base ho0) hb); replace HO513 := am (Kd.N_elder' HO513.out (Kd.R_base ho0) hb); replace HO516 := am (Kd.N_elder' HO516.out (Kd.R_base ho0) hb); replace HB := am (below_step HB.out hb); (try clear hb); (try clear ho0); obtain ⟨Ao43, co43, eo43⟩ := Kd.N_slice HO_2.out; subst eo43) | ((with_reducible refine gate_callee (f := 9) rfl ?_); refine goesL_ (some 73) rfl rfl Try.func9 (by kernel_rfl) rfl #[.slice Ao43 t491.length co43] rfl (by (try simp only [List.map_toArray, List.map_cons, List.map_nil]); rfl) ?_; (with_reducible refine (locksteplaw28_own.calls kj9 _ _ t491 t521 _ ?side1 ?side2 A27.out).mono ?_); (case side1 => exact (Kd.N_reads' HO_2.out).2.2); (case side2 => exact (Kd.N_reads' HO_2.out).2.1); rintro e w44 ⟨v522, rfl, ho0, hb⟩; refine ⟨_, rfl, ?_⟩; have HO523 := am (Kd.N_lower (Kd.N_mono (ok' := fun k_ => some k_ ≠ (.slice Ao30 t485.length co30 : Value).ownBlock ∧ some k_ ≠ (.slice Ao32 t488.length co32 : Value).ownBlock ∧ some k_ ≠ (.slice Ao43 t491.length co43 : Value).ownBlock ∧ some k_ ≠ (u9 : Value).ownBlock ∧ some k_ ≠ (.slice Ao34 t498.length co34 : Value).ownBlock ∧ some k_ ≠ (.slice Ao35 t501.length co35 : Value).ownBlock ∧ some k_ ≠ (v505 : Value).ownBlock ∧ some k_ ≠ (.slice Ao39 t508.length co39 : Value).ownBlock ∧ some k_ ≠ (.slice Ao40 t511.length co40 : Value).ownBlock ∧ some k_ ≠ (v515 : Value).ownBlock ∧ some k_ ≠ (v519 : Value).ownBlock) (Kd.R_N (Kd.R_bound ho0)) (fun k_ hk_ => ⟨(Kd.fresh' (Kd.N_lt HO_0.out) k_ hk_.2.1), (Kd.fresh' (Kd.N_lt HO_1.out) k_ hk_.2.1), (Kd.fresh' (Kd.N_lt HO_2.out) k_ hk_.2.1), (Kd.fresh' (Kd.R_lt HO_9.out) k_ hk_.2.1), (Kd.fresh' (Kd.N_lt HO500.out) k_ hk_.2.1), (Kd.fresh' (Kd.N_lt HO503.out) k_ hk_.2.1), (Kd.fresh' (Kd.N_lt HO506.out) k_ hk_.2.1), (Kd.fresh' (Kd.N_lt HO510.out) k_ hk_.2.1), (Kd.fresh' (Kd.N_lt HO513.out) k_ hk_.2.1), (Kd.fresh' (Kd.N_lt HO516.out) k_ hk_.2.1), (Kd.fresh' (Kd.N_lt HO520.out) k_ hk_.2.1)⟩)) (below_size HB.out)); replace HO_0 := am (Kd.N_elder' HO_0.out (Kd.R_base ho0) hb); replace HO_1 := am (Kd.N_elder' HO_1.out (Kd.R_base ho0) hb); replace HO_2 := am (Kd.N_elder' HO_2.out (Kd.R_base ho0) hb); replace HO_9 := am (Kd.R_below HO_9.out hb); replace HO500 := am (Kd.N_elder' HO500.out (Kd.R_base ho0) hb); replace HO503 := am (Kd.N_elder' HO503.out (Kd.R_base ho0) hb); replace HO506 := am (Kd.N_elder' HO506.out (Kd.R_base ho0) hb); replace HO510 := am (Kd.N_elder' HO510.out (Kd.R_base ho0) hb); replace HO513 := am (Kd.N_elder' HO513.out (Kd.R_base ho0) hb); replace HO516 := am (Kd.N_elder' HO516.out (Kd.R_base ho0) hb); replace HO520 := am (Kd.N_elder' HO520.out (Kd.R_base ho0) hb); replace HB := am (below_step HB.out hb); (try clear hb); (try clear ho0); obtain ⟨Ao45, co45, eo45⟩ := Kd.N_slice HO520.out; subst eo45; obtain ⟨Ao46, co46, eo46⟩ := Kd.N_slice HO523.out; subst eo46) | ((with_reducible refine gate_callee (f := 12) rfl ?_); refine goesL_ (some 74) rfl rfl Try.func12 (by kernel_rfl) rfl #[.slice Ao45 t518.length co45, .slice Ao46 t521.length co46] rfl (by (try simp only [List.map_toArray, List.map_cons, List.map_nil]); rfl) ?_; (with_reducible refine (cost_Add.calls kj9 (fun k_ => ((some k_ ≠ (.slice Ao30 t485.length co30 : Value).ownBlock ∧ (some k_ ≠ (.slice Ao32 t488.length co32 : Value).ownBlock ∧ (some k_ ≠ (.slice Ao43 t491.length co43 : Value).ownBlock ∧ (some k_ ≠ (u9 : Value).ownBlock ∧ (some k_ ≠ (.slice Ao34 t498.length co34 : Value).ownBlock ∧ (some k_ ≠ (.slice Ao35 t501.length co35 : Value).ownBlock ∧ (some k_ ≠ (v505 : Value).ownBlock ∧ (some k_ ≠ (.slice Ao39 t508.length co39 : Value).ownBlock ∧ (some k_ ≠ (.slice Ao40 t511.length co40 : Value).ownBlock ∧ some k_ ≠ (v515 : Value).ownBlock))))))))) ∧ some k_ ≠ (.slice Ao46 t521.length co46 : Value).ownBlock)) _ _ t518 (fun k_ => (some k_ ≠ (.slice Ao30 t485.length co30 : Value).ownBlock ∧ (some k_ ≠ (.slice Ao32 t488.length co32 : Value).ownBlock ∧ (some k_ ≠ (.slice Ao43 t491.length co43 : Value).ownBlock ∧ (some k_ ≠ (u9 : Value).ownBlock ∧ (some k_ ≠ (.slice Ao34 t498.length co34 : Value).ownBlock ∧ (some k_ ≠ (.slice Ao35 t501.length co35 : Value).ownBlock ∧ (some k_ ≠ (v505 : Value).ownBlock ∧ (some k_ ≠ (.slice Ao39 t508.length co39 : Value).ownBlock ∧ (some k_ ≠ (.slice Ao40 t511.length co40 : Value).ownBlock ∧ (some k_ ≠ (v515 : Value).ownBlock ∧ some k_ ≠ (.slice Ao45 t518.length co45 : Value).ownBlock))))))))))) _ _ t521 t524 t527 _ ?side1 ?side2 A28.out).mono ?_); (case side1 => exact Kd.N_V (HO520.out)); (case side2 => exact Kd.N_V (HO523.out)); rintro e w47 ⟨v525, rfl, ho0, hb⟩; refine ⟨_, rfl, ?_⟩; replace HO520 := am (Kd.N_elder' HO520.out (Kd.N_base ho0) hb); replace HO523 := am (Kd.N_elder' HO523.out (Kd.N_base ho0) hb); have HO526 := am (Kd.N_lower (Kd.N_mono (ok' := fun k_ => some k_ ≠ (.slice Ao30 t485.length co30 : Value).ownBlock ∧ some k_ ≠ (.slice Ao32 t488.length co32 : Value).ownBlock ∧ some k_ ≠ (.slice Ao43 t491.length co43 : Value).ownBlock ∧ some k_ ≠ (u9 : Value).ownBlock ∧ some k_ ≠ (.slice Ao34 t498.length co34 : Value).ownBlock ∧ some k_ ≠ (.slice Ao35 t501.length co35 : Value).ownBlock ∧ some k_ ≠ (v505 : Value).ownBlock ∧ some k_ ≠ (.slice Ao39 t508.length co39 : Value).ownBlock ∧ some k_ ≠ (.slice Ao40 t511.length co40 : Value).ownBlock ∧ some k_ ≠ (v515 : Value).ownBlock) ho0 (fun k_ hk_ => ⟨Or.elim hk_ (fun hs_ => Or.elim hs_ (fun hs_ => hs_.1.1) (fun hs_ => hs_.1)) (fun hn_ => (Kd.fresh' (Kd.N_lt HO_0.out) k_ hn_)), Or.elim hk_ (fun hs_ => Or.elim hs_ (fun hs_ => hs_.1.2.1) (fun hs_ => hs_.2.1)) (fun hn_ => (Kd.fresh' (Kd.N_lt HO_1.out) k_ hn_)), Or.elim hk_ (fun hs_ => Or.elim hs_ (fun hs_ => hs_.1.2.2.1) (fun hs_ => hs_.2.2.1)) (fun hn_ => (Kd.fresh' (Kd.N_lt HO_2.out) k_ hn_)), Or.elim hk_ (fun hs_ => Or.elim hs_ (fun hs_ => hs_.1.2.2.2.1) (fun hs_ => hs_.2.2.2.1)) (fun hn_ => (Kd.fresh' (Kd.R_lt HO_9.out) k_ hn_)), Or.elim hk_ (fun hs_ => Or.elim hs_ (fun hs_ => hs_.1.2.2.2.2.1) (fun hs_ => hs_.2.2.2.2.1)) (fun hn_ => (Kd.fresh' (Kd.N_lt HO500.out) k_ hn_)), Or.elim hk_ (fun hs_ => Or.elim hs_ (fun hs_ => hs_.1.2.2.2.2.2.1) (fun hs_ => hs_.2.2.2.2.2.1)) (fun hn_ => (Kd.fresh' (Kd.N_lt HO503.out) k_ hn_)), Or.elim hk_ (fun hs_ => Or.elim hs_ (fun hs_ => hs_.1.2.2.2.2.2.2.1) (fun hs_ => hs_.2.2.2.2.2.2.1)) (fun hn_ => (Kd.fresh' (Kd.N_lt HO506.out) k_ hn_)), Or.elim hk_ (fun hs_ => Or.elim hs_ (fun hs_ => hs_.1.2.2.2.2.2.2.2.1) (fun hs_ => hs_.2.2.2.2.2.2.2.1)) (fun hn_ => (Kd.fresh' (Kd.N_lt HO510.out) k_ hn_)), Or.elim hk_ (fun hs_ => Or.elim hs_ (fun hs_ => hs_.1.2.2.2.2.2.2.2.2.1) (fun hs_ => hs_.2.2.2.2.2.2.2.2.1)) (fun hn_ => (Kd.fresh' (Kd.N_lt HO513.out) k_ hn_)), Or.elim hk_ (fun hs_ => Or.elim hs_ (fun hs_ => hs_.1.2.2.2.2.2.2.2.2.2) (fun hs_ => hs_.2.2.2.2.2.2.2.2.2.1)) (fun hn_ => (Kd.fresh' (Kd.N_lt HO516.out) k_ hn_))⟩)) (below_size HB.out)); replace HO_0 := am (Kd.N_elder' HO_0.out (Kd.N_base ho0) hb); replace HO_1 := am (Kd.N_elder' HO_1.out (Kd.N_base ho0) hb); replace HO_2 := am (Kd.N_elder' HO_2.out (Kd.N_base ho0) hb); replace HO_9 := am (Kd.R_below HO_9.out hb); replace HO500 := am (Kd.N_elder' HO500.out (Kd.N_base ho0) hb); replace HO503 := am (Kd.N_elder' HO503.out (Kd.N_base ho0) hb); replace HO506 := am (Kd.N_elder' HO506.out (Kd.N_base ho0) hb); replace HO510 := am (Kd.N_elder' HO510.out (Kd.N_base ho0) hb); replace HO513 := am (Kd.N_elder' HO513.out (Kd.N_base ho0) hb); replace HO516 := am (Kd.N_elder' HO516.out (Kd.N_base ho0) hb); replace HB := am (below_step HB.out hb); (try clear hb); (try clear ho0)))
        go_cut [105] (fun v105 wc => ∃ (kq : Nat) (x105_28 : Bool), v105 = .bool x105_28 ∧ Aside0 (locksteplaw28_CostAdds.j2 kq t485 t488 t491 x9_9 t504 t524 x105_28 = some r) ∧ Aside0 (kq ≤ kj9) ∧ Aside0 (Kd.N k39 39 wc w.heap.size (fun k_ => some k_ ≠ ((.slice Ao32 t488.length co32) : Value).ownBlock ∧ some k_ ≠ ((.slice Ao43 t491.length co43) : Value).ownBlock ∧ some k_ ≠ (u9 : Value).ownBlock ∧ some k_ ≠ (v505 : Value).ownBlock ∧ some k_ ≠ (v525 : Value).ownBlock) (.slice Ao30 t485.length co30) t485) ∧ Aside0 (Kd.N k39 39 wc w.heap.size (fun k_ => some k_ ≠ ((.slice Ao30 t485.length co30) : Value).ownBlock ∧ some k_ ≠ ((.slice Ao43 t491.length co43) : Value).ownBlock ∧ some k_ ≠ (u9 : Value).ownBlock ∧ some k_ ≠ (v505 : Value).ownBlock ∧ some k_ ≠ (v525 : Value).ownBlock) (.slice Ao32 t488.length co32) t488) ∧ Aside0 (Kd.N k39 39 wc w.heap.size (fun k_ => some k_ ≠ ((.slice Ao30 t485.length co30) : Value).ownBlock ∧ some k_ ≠ ((.slice Ao32 t488.length co32) : Value).ownBlock ∧ some k_ ≠ (u9 : Value).ownBlock ∧ some k_ ≠ (v505 : Value).ownBlock ∧ some k_ ≠ (v525 : Value).ownBlock) (.slice Ao43 t491.length co43) t491) ∧ Aside0 (Kd.R (Kd.int .u64) 24 wc w.heap.size (fun _ => True) u9 x9_9) ∧ Aside0 (Kd.N k39 39 wc w.heap.size (fun k_ => some k_ ≠ ((.slice Ao30 t485.length co30) : Value).ownBlock ∧ some k_ ≠ ((.slice Ao32 t488.length co32) : Value).ownBlock ∧ some k_ ≠ ((.slice Ao43 t491.length co43) : Value).ownBlock ∧ some k_ ≠ (u9 : Value).ownBlock ∧ some k_ ≠ (v525 : Value).ownBlock) v505 t504) ∧ Aside0 (Kd.N k39 39 wc w.heap.size (fun k_ => some k_ ≠ ((.slice Ao30 t485.length co30) : Value).ownBlock ∧ some k_ ≠ ((.slice Ao32 t488.length co32) : Value).ownBlock ∧ some k_ ≠ ((.slice Ao43 t491.length co43) : Value).ownBlock ∧ some k_ ≠ (u9 : Value).ownBlock ∧ some k_ ≠ (v505 : Value).ownBlock) v525 t524) ∧ Aside0 (Below w.heap.size w wc))
        case first => as_aux_lemma =>
          have H := HC29.out
          clear HC29
          by_cases c48 : t507 = 0
          · rw [if_pos c48] at H
            have c48b0 : (t507 == 0) = true := beq_iff_eq.mpr c48
            have c48b1 : (t507 != 0) = false := bne_eq_false_iff_eq.mpr c48
            clear c48
            (skip)
            by_cases c49 : t517 = 0
            · rw [if_pos c49] at H
              have c49b0 : (t517 == 0) = true := beq_iff_eq.mpr c49
              have c49b1 : (t517 != 0) = false := bne_eq_false_iff_eq.mpr c49
              clear c49
              by_cases c50 : t527 = 0
              · rw [if_pos c50] at H
                have c50b0 : (t527 == 0) = true := beq_iff_eq.mpr c50
                have c50b1 : (t527 != 0) = false := bne_eq_false_iff_eq.mpr c50
                clear c50
                replace H := Option.bind_eq_some_iff.mp H
                obtain ⟨t528, A510, H⟩ := H
                replace H : (if t528 = true then ((cost_Value.f kj9 t504 x9_9).bind fun t529 => ((cost_Value.f kj9 t485 x9_9).bind fun t530 => ((cost_Value.f kj9 t488 x9_9).bind fun t531 => (locksteplaw28_CostAdds.j2 kj9 t485 t488 t491 x9_9 t504 t524 (t529 != (IntKind.u64.wrap (t530 + t531))))))) else (locksteplaw28_CostAdds.j2 kj9 t485 t488 t491 x9_9 t504 t524 true)) = some r := H
                have A51 := am A510
                clear A510
                by_cases c52 : t528 = true
                · subst c52
                  have H1 : ((cost_Value.f kj9 t504 x9_9).bind fun t529 => ((cost_Value.f kj9 t485 x9_9).bind fun t530 => ((cost_Value.f kj9 t488 x9_9).bind fun t531 => (locksteplaw28_CostAdds.j2 kj9 t485 t488 t491 x9_9 t504 t524 (t529 != (IntKind.u64.wrap (t530 + t531))))))) = some r := by rw [if_pos rfl] at H; exact H
                  clear H
                  have H := H1
                  clear H1
                  replace H := Option.bind_eq_some_iff.mp H
                  obtain ⟨t529, A530, H⟩ := H
                  replace H : ((cost_Value.f kj9 t485 x9_9).bind fun t530 => ((cost_Value.f kj9 t488 x9_9).bind fun t531 => (locksteplaw28_CostAdds.j2 kj9 t485 t488 t491 x9_9 t504 t524 (t529 != (IntKind.u64.wrap (t530 + t531)))))) = some r := H
                  have A53 := am A530
                  clear A530
                  replace H := Option.bind_eq_some_iff.mp H
                  obtain ⟨t530, A540, H⟩ := H
                  replace H : ((cost_Value.f kj9 t488 x9_9).bind fun t531 => (locksteplaw28_CostAdds.j2 kj9 t485 t488 t491 x9_9 t504 t524 (t529 != (IntKind.u64.wrap (t530 + t531))))) = some r := H
                  have A54 := am A540
                  clear A540
                  replace H := Option.bind_eq_some_iff.mp H
                  obtain ⟨t531, A550, H⟩ := H
                  replace H : (locksteplaw28_CostAdds.j2 kj9 t485 t488 t491 x9_9 t504 t524 (t529 != (IntKind.u64.wrap (t530 + t531)))) = some r := H
                  have A55 := am A550
                  clear A550
                  have H' := am H
                  clear H
                  obtain ⟨Ao56, co56, eo56⟩ := Kd.N_slice HO506.out
                  subst eo56
                  obtain ⟨Ao57, co57, eo57⟩ := Kd.N_slice HO516.out
                  subst eo57
                  go_wp2_with (first | (go_at_call 17; (with_reducible refine (locksteplaw28_same.calls kj9 _ _ t504 _ _ t514 true _ ?side1 ?side2 ?side3 ?side4 A51.out).mono ?_); (case side1 => exact (Kd.N_reads' HO506.out).2.2); (case side2 => exact (Kd.N_reads' HO506.out).2.1); (case side3 => exact (Kd.N_reads' HO516.out).2.2); (case side4 => exact (Kd.N_reads' HO516.out).2.1); rintro e w' ⟨rfl, ⟨nd, rfl⟩⟩; obtain ⟨Ao58, co58, eo58⟩ := Kd.R_slice HO_9.out; subst eo58) | (go_at_call 7; (with_reducible refine (cost_Value.calls kj9 _ _ t504 _ _ x9_9 t529 _ ?side1 ?side2 ?side3 ?side4 A53.out).mono ?_); (case side1 => exact (Kd.N_reads' HO506.out).2.2); (case side2 => exact (Kd.N_reads' HO506.out).2.1); (case side3 => exact (Kd.R_reads' HO_9.out).2.2); (case side4 => exact (Kd.R_reads' HO_9.out).2.1); rintro e w59 ⟨rfl, hb⟩; replace HO_0 := am (Kd.N_below (by (with_reducible repeat (apply Kd.N_drewN)); exact HO_0.out) hb); replace HO_1 := am (Kd.N_below (by (with_reducible repeat (apply Kd.N_drewN)); exact HO_1.out) hb); replace HO_2 := am (Kd.N_below (by (with_reducible repeat (apply Kd.N_drewN)); exact HO_2.out) hb); replace HO_9 := am (Kd.R_below (by (with_reducible repeat (apply Kd.R_drewN)); exact HO_9.out) hb); replace HO500 := am (Kd.N_below (by (with_reducible repeat (apply Kd.N_drewN)); exact HO500.out) hb); replace HO503 := am (Kd.N_below (by (with_reducible repeat (apply Kd.N_drewN)); exact HO503.out) hb); replace HO506 := am (Kd.N_below (by (with_reducible repeat (apply Kd.N_drewN)); exact HO506.out) hb); replace HO510 := am (Kd.N_below (by (with_reducible repeat (apply Kd.N_drewN)); exact HO510.out) hb); replace HO513 := am (Kd.N_below (by (with_reducible repeat (apply Kd.N_drewN)); exact HO513.out) hb); replace HO516 := am (Kd.N_below (by (with_reducible repeat (apply Kd.N_drewN)); exact HO516.out) hb); replace HO520 := am (Kd.N_below (by (with_reducible repeat (apply Kd.N_drewN)); exact HO520.out) hb); replace HO523 := am (Kd.N_below (by (with_reducible repeat (apply Kd.N_drewN)); exact HO523.out) hb); replace HO526 := am (Kd.N_below (by (with_reducible repeat (apply Kd.N_drewN)); exact HO526.out) hb); replace HB := am (below_step (by repeat ((with_reducible first | exact HB.out | apply pw_below_drewN))) hb); (try clear hb)) | (go_at_call 7; (with_reducible refine (cost_Value.calls kj9 _ _ t485 _ _ x9_9 t530 _ ?side1 ?side2 ?side3 ?side4 A54.out).mono ?_); (case side1 => exact (Kd.N_reads' HO_0.out).2.2); (case side2 => exact (Kd.N_reads' HO_0.out).2.1); (case side3 => exact (Kd.R_reads' HO_9.out).2.2); (case side4 => exact (Kd.R_reads' HO_9.out).2.1); rintro e w60 ⟨rfl, hb⟩; replace HO_0 := am (Kd.N_below HO_0.out hb); replace HO_1 := am (Kd.N_below HO_1.out hb); replace HO_2 := am (Kd.N_below HO_2.out hb); replace HO_9 := am (Kd.R_below HO_9.out hb); replace HO500 := am (Kd.N_below HO500.out hb); replace HO503 := am (Kd.N_below HO503.out hb); replace HO506 := am (Kd.N_below HO506.out hb); replace HO510 := am (Kd.N_below HO510.out hb); replace HO513 := am (Kd.N_below HO513.out hb); replace HO516 := am (Kd.N_below HO516.out hb); replace HO520 := am (Kd.N_below HO520.out hb); replace HO523 := am (Kd.N_below HO523.out hb); replace HO526 := am (Kd.N_below HO526.out hb); replace HB := am (below_step HB.out hb); (try clear hb)) | (go_at_call 7; (with_reducible refine (cost_Value.calls kj9 _ _ t488 _ _ x9_9 t531 _ ?side1 ?side2 ?side3 ?side4 A55.out).mono ?_); (case side1 => exact (Kd.N_reads' HO_1.out).2.2); (case side2 => exact (Kd.N_reads' HO_1.out).2.1); (case side3 => exact (Kd.R_reads' HO_9.out).2.2); (case side4 => exact (Kd.R_reads' HO_9.out).2.1); rintro e w61 ⟨rfl, hb⟩; replace HO_0 := am (Kd.N_below HO_0.out hb); replace HO_1 := am (Kd.N_below HO_1.out hb); replace HO_2 := am (Kd.N_below HO_2.out hb); replace HO_9 := am (Kd.R_below HO_9.out hb); replace HO500 := am (Kd.N_below HO500.out hb); replace HO503 := am (Kd.N_below HO503.out hb); replace HO506 := am (Kd.N_below HO506.out hb); replace HO510 := am (Kd.N_below HO510.out hb); replace HO513 := am (Kd.N_below HO513.out hb); replace HO516 := am (Kd.N_below HO516.out hb); replace HO520 := am (Kd.N_below HO520.out hb); replace HO523 := am (Kd.N_below HO523.out hb); replace HO526 := am (Kd.N_below HO526.out hb); replace HB := am (below_step HB.out hb); (try clear hb)))
                  go_meet
                  case rel => exact ⟨_, ((t529 != (IntKind.u64.wrap (t530 + t531)))), (by with_reducible rfl), H', ⟨by have := HJ9.out; omega⟩, ⟨by exact Kd.N_mono HO_0.out (fun _ hk => ⟨hk.1.1.1.1.1.1.1.1.1.1, ⟨hk.1.1.1.1.1.1.1.1.1.2.1, ⟨hk.1.1.1.1.1.1.1.1.1.2.2, ⟨hk.1.1.1.1.1.1.2, hk.2⟩⟩⟩⟩)⟩, ⟨by exact Kd.N_mono HO_1.out (fun _ hk => ⟨hk.1.1.1.1.1.1.1.1.1.1, ⟨hk.1.1.1.1.1.1.1.1.1.2.1, ⟨hk.1.1.1.1.1.1.1.1.1.2.2, ⟨hk.1.1.1.1.1.1.2, hk.2⟩⟩⟩⟩)⟩, ⟨by exact Kd.N_mono HO_2.out (fun _ hk => ⟨hk.1.1.1.1.1.1.1.1.1.1, ⟨hk.1.1.1.1.1.1.1.1.1.2.1, ⟨hk.1.1.1.1.1.1.1.1.1.2.2, ⟨hk.1.1.1.1.1.1.2, hk.2⟩⟩⟩⟩)⟩, ⟨by exact HO_9.out⟩, ⟨by exact Kd.N_mono HO506.out (fun _ hk => ⟨hk.1.1.1.1.1.1.1, ⟨hk.1.1.1.1.1.1.2.1, ⟨hk.1.1.1.1.1.1.2.2.1, ⟨hk.1.1.1.1.1.1.2.2.2, hk.2⟩⟩⟩⟩)⟩, ⟨by exact Kd.N_mono HO526.out (fun _ hk => ⟨hk.1, ⟨hk.2.1, ⟨hk.2.2.1, ⟨hk.2.2.2.1, hk.2.2.2.2.2.2.1⟩⟩⟩⟩)⟩, ⟨by exact HB.out⟩⟩
                · replace c52 := Bool.eq_false_iff.mpr c52
                  subst c52
                  have H1 : (locksteplaw28_CostAdds.j2 kj9 t485 t488 t491 x9_9 t504 t524 true) = some r := by rw [if_neg (show ¬ (false = true) by decide)] at H; exact H
                  clear H
                  have H := H1
                  clear H1
                  have H' := am H
                  clear H
                  obtain ⟨Ao62, co62, eo62⟩ := Kd.N_slice HO506.out
                  subst eo62
                  obtain ⟨Ao63, co63, eo63⟩ := Kd.N_slice HO516.out
                  subst eo63
                  go_wp2_with ((go_at_call 17; (with_reducible refine (locksteplaw28_same.calls kj9 _ _ t504 _ _ t514 false _ ?side1 ?side2 ?side3 ?side4 A51.out).mono ?_); (case side1 => exact (Kd.N_reads' HO506.out).2.2); (case side2 => exact (Kd.N_reads' HO506.out).2.1); (case side3 => exact (Kd.N_reads' HO516.out).2.2); (case side4 => exact (Kd.N_reads' HO516.out).2.1); rintro e w' ⟨rfl, ⟨nd, rfl⟩⟩))
                  go_meet
                  case rel => exact ⟨_, (true), (by with_reducible rfl), H', ⟨by have := HJ9.out; omega⟩, ⟨by (with_reducible repeat (apply Kd.N_drewN)); exact Kd.N_mono HO_0.out (fun _ hk => ⟨hk.1.1.1.1.1.1.1.1.1.1, ⟨hk.1.1.1.1.1.1.1.1.1.2.1, ⟨hk.1.1.1.1.1.1.1.1.1.2.2, ⟨hk.1.1.1.1.1.1.2, hk.2⟩⟩⟩⟩)⟩, ⟨by (with_reducible repeat (apply Kd.N_drewN)); exact Kd.N_mono HO_1.out (fun _ hk => ⟨hk.1.1.1.1.1.1.1.1.1.1, ⟨hk.1.1.1.1.1.1.1.1.1.2.1, ⟨hk.1.1.1.1.1.1.1.1.1.2.2, ⟨hk.1.1.1.1.1.1.2, hk.2⟩⟩⟩⟩)⟩, ⟨by (with_reducible repeat (apply Kd.N_drewN)); exact Kd.N_mono HO_2.out (fun _ hk => ⟨hk.1.1.1.1.1.1.1.1.1.1, ⟨hk.1.1.1.1.1.1.1.1.1.2.1, ⟨hk.1.1.1.1.1.1.1.1.1.2.2, ⟨hk.1.1.1.1.1.1.2, hk.2⟩⟩⟩⟩)⟩, ⟨by (with_reducible repeat (apply Kd.R_drewN)); exact HO_9.out⟩, ⟨by (with_reducible repeat (apply Kd.N_drewN)); exact Kd.N_mono HO506.out (fun _ hk => ⟨hk.1.1.1.1.1.1.1, ⟨hk.1.1.1.1.1.1.2.1, ⟨hk.1.1.1.1.1.1.2.2.1, ⟨hk.1.1.1.1.1.1.2.2.2, hk.2⟩⟩⟩⟩)⟩, ⟨by (with_reducible repeat (apply Kd.N_drewN)); exact Kd.N_mono HO526.out (fun _ hk => ⟨hk.1, ⟨hk.2.1, ⟨hk.2.2.1, ⟨hk.2.2.2.1, hk.2.2.2.2.2.2.1⟩⟩⟩⟩)⟩, ⟨by repeat ((with_reducible first | exact HB.out | apply pw_below_drewN))⟩⟩
              · rw [if_neg c50] at H
                have c50b0 : (t527 == 0) = false := beq_eq_false_iff_ne.mpr c50
                have c50b1 : (t527 != 0) = true := bne_iff_ne.mpr c50
                have H' := am H
                clear H
                go_wp2
                go_meet
                case rel => exact ⟨_, (true), (by with_reducible rfl), H', ⟨by have := HJ9.out; omega⟩, ⟨by exact Kd.N_mono HO_0.out (fun _ hk => ⟨hk.1.1.1.1.1.1.1.1.1.1, ⟨hk.1.1.1.1.1.1.1.1.1.2.1, ⟨hk.1.1.1.1.1.1.1.1.1.2.2, ⟨hk.1.1.1.1.1.1.2, hk.2⟩⟩⟩⟩)⟩, ⟨by exact Kd.N_mono HO_1.out (fun _ hk => ⟨hk.1.1.1.1.1.1.1.1.1.1, ⟨hk.1.1.1.1.1.1.1.1.1.2.1, ⟨hk.1.1.1.1.1.1.1.1.1.2.2, ⟨hk.1.1.1.1.1.1.2, hk.2⟩⟩⟩⟩)⟩, ⟨by exact Kd.N_mono HO_2.out (fun _ hk => ⟨hk.1.1.1.1.1.1.1.1.1.1, ⟨hk.1.1.1.1.1.1.1.1.1.2.1, ⟨hk.1.1.1.1.1.1.1.1.1.2.2, ⟨hk.1.1.1.1.1.1.2, hk.2⟩⟩⟩⟩)⟩, ⟨by exact HO_9.out⟩, ⟨by exact Kd.N_mono HO506.out (fun _ hk => ⟨hk.1.1.1.1.1.1.1, ⟨hk.1.1.1.1.1.1.2.1, ⟨hk.1.1.1.1.1.1.2.2.1, ⟨hk.1.1.1.1.1.1.2.2.2, hk.2⟩⟩⟩⟩)⟩, ⟨by exact Kd.N_mono HO526.out (fun _ hk => ⟨hk.1, ⟨hk.2.1, ⟨hk.2.2.1, ⟨hk.2.2.2.1, hk.2.2.2.2.2.2.1⟩⟩⟩⟩)⟩, ⟨by exact HB.out⟩⟩
            · rw [if_neg c49] at H
              have c49b0 : (t517 == 0) = false := beq_eq_false_iff_ne.mpr c49
              have c49b1 : (t517 != 0) = true := bne_iff_ne.mpr c49
              have H' := am H
              clear H
              go_wp2
              go_meet
              case rel => exact ⟨_, (true), (by with_reducible rfl), H', ⟨by have := HJ9.out; omega⟩, ⟨by exact Kd.N_mono HO_0.out (fun _ hk => ⟨hk.1.1.1.1.1.1.1.1.1.1, ⟨hk.1.1.1.1.1.1.1.1.1.2.1, ⟨hk.1.1.1.1.1.1.1.1.1.2.2, ⟨hk.1.1.1.1.1.1.2, hk.2⟩⟩⟩⟩)⟩, ⟨by exact Kd.N_mono HO_1.out (fun _ hk => ⟨hk.1.1.1.1.1.1.1.1.1.1, ⟨hk.1.1.1.1.1.1.1.1.1.2.1, ⟨hk.1.1.1.1.1.1.1.1.1.2.2, ⟨hk.1.1.1.1.1.1.2, hk.2⟩⟩⟩⟩)⟩, ⟨by exact Kd.N_mono HO_2.out (fun _ hk => ⟨hk.1.1.1.1.1.1.1.1.1.1, ⟨hk.1.1.1.1.1.1.1.1.1.2.1, ⟨hk.1.1.1.1.1.1.1.1.1.2.2, ⟨hk.1.1.1.1.1.1.2, hk.2⟩⟩⟩⟩)⟩, ⟨by exact HO_9.out⟩, ⟨by exact Kd.N_mono HO506.out (fun _ hk => ⟨hk.1.1.1.1.1.1.1, ⟨hk.1.1.1.1.1.1.2.1, ⟨hk.1.1.1.1.1.1.2.2.1, ⟨hk.1.1.1.1.1.1.2.2.2, hk.2⟩⟩⟩⟩)⟩, ⟨by exact Kd.N_mono HO526.out (fun _ hk => ⟨hk.1, ⟨hk.2.1, ⟨hk.2.2.1, ⟨hk.2.2.2.1, hk.2.2.2.2.2.2.1⟩⟩⟩⟩)⟩, ⟨by exact HB.out⟩⟩
          · rw [if_neg c48] at H
            have c48b0 : (t507 == 0) = false := beq_eq_false_iff_ne.mpr c48
            have c48b1 : (t507 != 0) = true := bne_iff_ne.mpr c48
            (skip)
            have H' := am H
            clear H
            go_wp2
            go_meet
            case rel => exact ⟨_, (true), (by with_reducible rfl), H', ⟨by have := HJ9.out; omega⟩, ⟨by exact Kd.N_mono HO_0.out (fun _ hk => ⟨hk.1.1.1.1.1.1.1.1.1.1, ⟨hk.1.1.1.1.1.1.1.1.1.2.1, ⟨hk.1.1.1.1.1.1.1.1.1.2.2, ⟨hk.1.1.1.1.1.1.2, hk.2⟩⟩⟩⟩)⟩, ⟨by exact Kd.N_mono HO_1.out (fun _ hk => ⟨hk.1.1.1.1.1.1.1.1.1.1, ⟨hk.1.1.1.1.1.1.1.1.1.2.1, ⟨hk.1.1.1.1.1.1.1.1.1.2.2, ⟨hk.1.1.1.1.1.1.2, hk.2⟩⟩⟩⟩)⟩, ⟨by exact Kd.N_mono HO_2.out (fun _ hk => ⟨hk.1.1.1.1.1.1.1.1.1.1, ⟨hk.1.1.1.1.1.1.1.1.1.2.1, ⟨hk.1.1.1.1.1.1.1.1.1.2.2, ⟨hk.1.1.1.1.1.1.2, hk.2⟩⟩⟩⟩)⟩, ⟨by exact HO_9.out⟩, ⟨by exact Kd.N_mono HO506.out (fun _ hk => ⟨hk.1.1.1.1.1.1.1, ⟨hk.1.1.1.1.1.1.2.1, ⟨hk.1.1.1.1.1.1.2.2.1, ⟨hk.1.1.1.1.1.1.2.2.2, hk.2⟩⟩⟩⟩)⟩, ⟨by exact Kd.N_mono HO526.out (fun _ hk => ⟨hk.1, ⟨hk.2.1, ⟨hk.2.2.1, ⟨hk.2.2.2.1, hk.2.2.2.2.2.2.1⟩⟩⟩⟩)⟩, ⟨by exact HB.out⟩⟩
        case rest => as_aux_lemma =>
          clear HC29
          obtain ⟨kq, x105_28, rfl, HA, HJ28, HO_0, HO_1, HO_2, HO_9, HO_11, HO_15, HB⟩ := hcut
          cases kq with
          | zero => exact absurd HA.out (by simp [locksteplaw28_CostAdds.j2])
          | succ kj28 =>
            have H := HA.out
            clear HA
            simp only [locksteplaw28_CostAdds.j2] at H
            by_cases c64 : x105_28 = true
            · subst c64
              have H1 : (some false) = some r := by rw [if_pos rfl] at H; exact H
              clear H
              have H := H1
              clear H1
              exact absurd (Option.some.inj H) (by rw [HR.out]; simp)
            · replace c64 := Bool.eq_false_iff.mpr c64
              subst c64
              have H1 : ((locksteplaw28_own.f kj28 t491).bind fun t532 => ((cost_Add.f kj28 t504 t532).bind fun bt535 => ((locksteplaw28_own.f kj28 t485).bind fun t539 => ((cost_Add.f kj28 t539 t524).bind fun bt542 => (if bt535.2 = 0 then (if bt542.2 = 0 then ((locksteplaw28_same.f kj28 bt535.1 bt542.1).bind fun t546 => (locksteplaw28_CostAdds.j3 kj28 t485 t488 t491 x9_9 t524 (!t546))) else (locksteplaw28_CostAdds.j3 kj28 t485 t488 t491 x9_9 t524 true)) else (locksteplaw28_CostAdds.j3 kj28 t485 t488 t491 x9_9 t524 true)))))) = some r := by rw [if_neg (show ¬ (false = true) by decide)] at H; exact H
              clear H
              have H := H1
              clear H1
              replace H := Option.bind_eq_some_iff.mp H
              obtain ⟨t532, A650, H⟩ := H
              replace H : ((cost_Add.f kj28 t504 t532).bind fun bt535 => ((locksteplaw28_own.f kj28 t485).bind fun t539 => ((cost_Add.f kj28 t539 t524).bind fun bt542 => (if bt535.2 = 0 then (if bt542.2 = 0 then ((locksteplaw28_same.f kj28 bt535.1 bt542.1).bind fun t546 => (locksteplaw28_CostAdds.j3 kj28 t485 t488 t491 x9_9 t524 (!t546))) else (locksteplaw28_CostAdds.j3 kj28 t485 t488 t491 x9_9 t524 true)) else (locksteplaw28_CostAdds.j3 kj28 t485 t488 t491 x9_9 t524 true))))) = some r := H
              have A65 := am A650
              clear A650
              replace H := Option.bind_eq_some_iff.mp H
              obtain ⟨⟨t535, t538⟩, A660, H⟩ := H
              replace H : ((locksteplaw28_own.f kj28 t485).bind fun t539 => ((cost_Add.f kj28 t539 t524).bind fun bt542 => (if t538 = 0 then (if bt542.2 = 0 then ((locksteplaw28_same.f kj28 t535 bt542.1).bind fun t546 => (locksteplaw28_CostAdds.j3 kj28 t485 t488 t491 x9_9 t524 (!t546))) else (locksteplaw28_CostAdds.j3 kj28 t485 t488 t491 x9_9 t524 true)) else (locksteplaw28_CostAdds.j3 kj28 t485 t488 t491 x9_9 t524 true)))) = some r := H
              have A66 := am A660
              clear A660
              replace H := Option.bind_eq_some_iff.mp H
              obtain ⟨t539, A670, H⟩ := H
              replace H : ((cost_Add.f kj28 t539 t524).bind fun bt542 => (if t538 = 0 then (if bt542.2 = 0 then ((locksteplaw28_same.f kj28 t535 bt542.1).bind fun t546 => (locksteplaw28_CostAdds.j3 kj28 t485 t488 t491 x9_9 t524 (!t546))) else (locksteplaw28_CostAdds.j3 kj28 t485 t488 t491 x9_9 t524 true)) else (locksteplaw28_CostAdds.j3 kj28 t485 t488 t491 x9_9 t524 true))) = some r := H
              have A67 := am A670
              clear A670
              replace H := Option.bind_eq_some_iff.mp H
              obtain ⟨⟨t542, t545⟩, A680, H⟩ := H
              replace H : (if t538 = 0 then (if t545 = 0 then ((locksteplaw28_same.f kj28 t535 t542).bind fun t546 => (locksteplaw28_CostAdds.j3 kj28 t485 t488 t491 x9_9 t524 (!t546))) else (locksteplaw28_CostAdds.j3 kj28 t485 t488 t491 x9_9 t524 true)) else (locksteplaw28_CostAdds.j3 kj28 t485 t488 t491 x9_9 t524 true)) = some r := H
              have A68 := am A680
              clear A680
              have HC69 := am H
              clear H
              go_upto_region 16 with (first | ((with_reducible refine gate_callee (f := 9) rfl ?_); refine goesL_ (some 109) rfl rfl Try.func9 (by kernel_rfl) rfl #[.slice Ao43 t491.length co43] rfl (by (try simp only [List.map_toArray, List.map_cons, List.map_nil]); rfl) ?_; (with_reducible refine (locksteplaw28_own.calls kj28 _ _ t491 t532 _ ?side1 ?side2 A65.out).mono ?_); (case side1 => exact (Kd.N_reads' HO_2.out).2.2); (case side2 => exact (Kd.N_reads' HO_2.out).2.1); rintro e w70 ⟨v533, rfl, ho0, hb⟩; refine ⟨_, rfl, ?_⟩; have HO534 := am (Kd.N_lower (Kd.N_mono (ok' := fun k_ => some k_ ≠ (.slice Ao30 t485.length co30 : Value).ownBlock ∧ some k_ ≠ (.slice Ao32 t488.length co32 : Value).ownBlock ∧ some k_ ≠ (.slice Ao43 t491.length co43 : Value).ownBlock ∧ some k_ ≠ (u9 : Value).ownBlock ∧ some k_ ≠ (v505 : Value).ownBlock ∧ some k_ ≠ (v525 : Value).ownBlock) (Kd.R_N (Kd.R_bound ho0)) (fun k_ hk_ => ⟨(Kd.fresh' (Kd.N_lt HO_0.out) k_ hk_.2.1), (Kd.fresh' (Kd.N_lt HO_1.out) k_ hk_.2.1), (Kd.fresh' (Kd.N_lt HO_2.out) k_ hk_.2.1), (Kd.fresh' (Kd.R_lt HO_9.out) k_ hk_.2.1), (Kd.fresh' (Kd.N_lt HO_11.out) k_ hk_.2.1), (Kd.fresh' (Kd.N_lt HO_15.out) k_ hk_.2.1)⟩)) (below_size HB.out)); replace HO_0 := am (Kd.N_elder' HO_0.out (Kd.R_base ho0) hb); replace HO_1 := am (Kd.N_elder' HO_1.out (Kd.R_base ho0) hb); replace HO_2 := am (Kd.N_elder' HO_2.out (Kd.R_base ho0) hb); replace HO_9 := am (Kd.R_below HO_9.out hb); replace HO_11 := am (Kd.N_elder' HO_11.out (Kd.R_base ho0) hb); replace HO_15 := am (Kd.N_elder' HO_15.out (Kd.R_base ho0) hb); replace HB := am (below_step HB.out hb); (try clear hb); (try clear ho0); obtain ⟨Ao71, co71, eo71⟩ := Kd.N_slice HO_11.out; subst eo71; obtain ⟨Ao72, co72, eo72⟩ := Kd.N_slice HO534.out; subst eo72) | ((with_reducible refine gate_callee (f := 12) rfl ?_); refine goesL_ (some 110) rfl rfl Try.func12 (by kernel_rfl) rfl #[.slice Ao71 t504.length co71, .slice Ao72 t532.length co72] rfl (by (try simp only [List.map_toArray, List.map_cons, List.map_nil]); rfl) ?_; (with_reducible refine (cost_Add.calls kj28 (fun k_ => ((some k_ ≠ (.slice Ao30 t485.length co30 : Value).ownBlock ∧ (some k_ ≠ (.slice Ao32 t488.length co32 : Value).ownBlock ∧ (some k_ ≠ (.slice Ao43 t491.length co43 : Value).ownBlock ∧ (some k_ ≠ (u9 : Value).ownBlock ∧ some k_ ≠ (v525 : Value).ownBlock)))) ∧ some k_ ≠ (.slice Ao72 t532.length co72 : Value).ownBlock)) _ _ t504 (fun k_ => (some k_ ≠ (.slice Ao30 t485.length co30 : Value).ownBlock ∧ (some k_ ≠ (.slice Ao32 t488.length co32 : Value).ownBlock ∧ (some k_ ≠ (.slice Ao43 t491.length co43 : Value).ownBlock ∧ (some k_ ≠ (u9 : Value).ownBlock ∧ (some k_ ≠ (.slice Ao71 t504.length co71 : Value).ownBlock ∧ some k_ ≠ (v525 : Value).ownBlock)))))) _ _ t532 t535 t538 _ ?side1 ?side2 A66.out).mono ?_); (case side1 => exact Kd.N_V (HO_11.out)); (case side2 => exact Kd.N_V (HO534.out)); rintro e w73 ⟨v536, rfl, ho0, hb⟩; refine ⟨_, rfl, ?_⟩; replace HO_11 := am (Kd.N_elder' HO_11.out (Kd.N_base ho0) hb); replace HO534 := am (Kd.N_elder' HO534.out (Kd.N_base ho0) hb); have HO537 := am (Kd.N_lower (Kd.N_mono (ok' := fun k_ => some k_ ≠ (.slice Ao30 t485.length co30 : Value).ownBlock ∧ some k_ ≠ (.slice Ao32 t488.length co32 : Value).ownBlock ∧ some k_ ≠ (.slice Ao43 t491.length co43 : Value).ownBlock ∧ some k_ ≠ (u9 : Value).ownBlock ∧ some k_ ≠ (v525 : Value).ownBlock) ho0 (fun k_ hk_ => ⟨Or.elim hk_ (fun hs_ => Or.elim hs_ (fun hs_ => hs_.1.1) (fun hs_ => hs_.1)) (fun hn_ => (Kd.fresh' (Kd.N_lt HO_0.out) k_ hn_)), Or.elim hk_ (fun hs_ => Or.elim hs_ (fun hs_ => hs_.1.2.1) (fun hs_ => hs_.2.1)) (fun hn_ => (Kd.fresh' (Kd.N_lt HO_1.out) k_ hn_)), Or.elim hk_ (fun hs_ => Or.elim hs_ (fun hs_ => hs_.1.2.2.1) (fun hs_ => hs_.2.2.1)) (fun hn_ => (Kd.fresh' (Kd.N_lt HO_2.out) k_ hn_)), Or.elim hk_ (fun hs_ => Or.elim hs_ (fun hs_ => hs_.1.2.2.2.1) (fun hs_ => hs_.2.2.2.1)) (fun hn_ => (Kd.fresh' (Kd.R_lt HO_9.out) k_ hn_)), Or.elim hk_ (fun hs_ => Or.elim hs_ (fun hs_ => hs_.1.2.2.2.2) (fun hs_ => hs_.2.2.2.2.2)) (fun hn_ => (Kd.fresh' (Kd.N_lt HO_15.out) k_ hn_))⟩)) (below_size HB.out)); replace HO_0 := am (Kd.N_elder' HO_0.out (Kd.N_base ho0) hb); replace HO_1 := am (Kd.N_elder' HO_1.out (Kd.N_base ho0) hb); replace HO_2 := am (Kd.N_elder' HO_2.out (Kd.N_base ho0) hb); replace HO_9 := am (Kd.R_below HO_9.out hb); replace HO_15 := am (Kd.N_elder' HO_15.out (Kd.N_base ho0) hb); replace HB := am (below_step HB.out hb); (try clear hb); (try clear ho0)) | ((with_reducible refine gate_callee (f := 9) rfl ?_); refine goesL_ (some 115) rfl rfl Try.func9 (by kernel_rfl) rfl #[.slice Ao30 t485.length co30] rfl (by (try simp only [List.map_toArray, List.map_cons, List.map_nil]); rfl) ?_; (with_reducible refine (locksteplaw28_own.calls kj28 _ _ t485 t539 _ ?side1 ?side2 A67.out).mono ?_); (case side1 => exact (Kd.N_reads' HO_0.out).2.2); (case side2 => exact (Kd.N_reads' HO_0.out).2.1); rintro e w74 ⟨v540, rfl, ho0, hb⟩; refine ⟨_, rfl, ?_⟩; have HO541 := am (Kd.N_lower (Kd.N_mono (ok' := fun k_ => some k_ ≠ (.slice Ao30 t485.length co30 : Value).ownBlock ∧ some k_ ≠ (.slice Ao32 t488.length co32 : Value).ownBlock ∧ some k_ ≠ (.slice Ao43 t491.length co43 : Value).ownBlock ∧ some k_ ≠ (u9 : Value).ownBlock ∧ some k_ ≠ (.slice Ao71 t504.length co71 : Value).ownBlock ∧ some k_ ≠ (v525 : Value).ownBlock ∧ some k_ ≠ (.slice Ao72 t532.length co72 : Value).ownBlock ∧ some k_ ≠ (v536 : Value).ownBlock) (Kd.R_N (Kd.R_bound ho0)) (fun k_ hk_ => ⟨(Kd.fresh' (Kd.N_lt HO_0.out) k_ hk_.2.1), (Kd.fresh' (Kd.N_lt HO_1.out) k_ hk_.2.1), (Kd.fresh' (Kd.N_lt HO_2.out) k_ hk_.2.1), (Kd.fresh' (Kd.R_lt HO_9.out) k_ hk_.2.1), (Kd.fresh' (Kd.N_lt HO_11.out) k_ hk_.2.1), (Kd.fresh' (Kd.N_lt HO_15.out) k_ hk_.2.1), (Kd.fresh' (Kd.N_lt HO534.out) k_ hk_.2.1), (Kd.fresh' (Kd.N_lt HO537.out) k_ hk_.2.1)⟩)) (below_size HB.out)); replace HO_0 := am (Kd.N_elder' HO_0.out (Kd.R_base ho0) hb); replace HO_1 := am (Kd.N_elder' HO_1.out (Kd.R_base ho0) hb); replace HO_2 := am (Kd.N_elder' HO_2.out (Kd.R_base ho0) hb); replace HO_9 := am (Kd.R_below HO_9.out hb); replace HO_11 := am (Kd.N_elder' HO_11.out (Kd.R_base ho0) hb); replace HO_15 := am (Kd.N_elder' HO_15.out (Kd.R_base ho0) hb); replace HO534 := am (Kd.N_elder' HO534.out (Kd.R_base ho0) hb); replace HO537 := am (Kd.N_elder' HO537.out (Kd.R_base ho0) hb); replace HB := am (below_step HB.out hb); (try clear hb); (try clear ho0); obtain ⟨Ao75, co75, eo75⟩ := Kd.N_slice HO541.out; subst eo75; obtain ⟨Ao76, co76, eo76⟩ := Kd.N_slice HO_15.out; subst eo76) | ((with_reducible refine gate_callee (f := 12) rfl ?_); refine goesL_ (some 117) rfl rfl Try.func12 (by kernel_rfl) rfl #[.slice Ao75 t539.length co75, .slice Ao76 t524.length co76] rfl (by (try simp only [List.map_toArray, List.map_cons, List.map_nil]); rfl) ?_; (with_reducible refine (cost_Add.calls kj28 (fun k_ => (some k_ ≠ (.slice Ao30 t485.length co30 : Value).ownBlock ∧ (some k_ ≠ (.slice Ao32 t488.length co32 : Value).ownBlock ∧ (some k_ ≠ (.slice Ao43 t491.length co43 : Value).ownBlock ∧ (some k_ ≠ (u9 : Value).ownBlock ∧ (some k_ ≠ (.slice Ao71 t504.length co71 : Value).ownBlock ∧ (some k_ ≠ (.slice Ao76 t524.length co76 : Value).ownBlock ∧ (some k_ ≠ (.slice Ao72 t532.length co72 : Value).ownBlock ∧ some k_ ≠ (v536 : Value).ownBlock)))))))) _ _ t539 (fun k_ => ((((some k_ ≠ (.slice Ao30 t485.length co30 : Value).ownBlock ∧ (some k_ ≠ (.slice Ao32 t488.length co32 : Value).ownBlock ∧ (some k_ ≠ (.slice Ao43 t491.length co43 : Value).ownBlock ∧ (some k_ ≠ (u9 : Value).ownBlock ∧ some k_ ≠ (.slice Ao71 t504.length co71 : Value).ownBlock)))) ∧ some k_ ≠ (.slice Ao72 t532.length co72 : Value).ownBlock) ∧ some k_ ≠ (v536 : Value).ownBlock) ∧ some k_ ≠ (.slice Ao75 t539.length co75 : Value).ownBlock)) _ _ t524 t542 t545 _ ?side1 ?side2 A68.out).mono ?_); (case side1 => exact Kd.N_V (HO541.out)); (case side2 => exact Kd.N_V (HO_15.out)); rintro e w77 ⟨v543, rfl, ho0, hb⟩; refine ⟨_, rfl, ?_⟩; replace HO_15 := am (Kd.N_elder' HO_15.out (Kd.N_base ho0) hb); replace HO541 := am (Kd.N_elder' HO541.out (Kd.N_base ho0) hb); have HO544 := am (Kd.N_lower (Kd.N_mono (ok' := fun k_ => some k_ ≠ (.slice Ao30 t485.length co30 : Value).ownBlock ∧ some k_ ≠ (.slice Ao32 t488.length co32 : Value).ownBlock ∧ some k_ ≠ (.slice Ao43 t491.length co43 : Value).ownBlock ∧ some k_ ≠ (u9 : Value).ownBlock ∧ some k_ ≠ (.slice Ao71 t504.length co71 : Value).ownBlock ∧ some k_ ≠ (.slice Ao72 t532.length co72 : Value).ownBlock ∧ some k_ ≠ (v536 : Value).ownBlock) ho0 (fun k_ hk_ => ⟨Or.elim hk_ (fun hs_ => Or.elim hs_ (fun hs_ => hs_.1) (fun hs_ => hs_.1.1.1.1)) (fun hn_ => (Kd.fresh' (Kd.N_lt HO_0.out) k_ hn_)), Or.elim hk_ (fun hs_ => Or.elim hs_ (fun hs_ => hs_.2.1) (fun hs_ => hs_.1.1.1.2.1)) (fun hn_ => (Kd.fresh' (Kd.N_lt HO_1.out) k_ hn_)), Or.elim hk_ (fun hs_ => Or.elim hs_ (fun hs_ => hs_.2.2.1) (fun hs_ => hs_.1.1.1.2.2.1)) (fun hn_ => (Kd.fresh' (Kd.N_lt HO_2.out) k_ hn_)), Or.elim hk_ (fun hs_ => Or.elim hs_ (fun hs_ => hs_.2.2.2.1) (fun hs_ => hs_.1.1.1.2.2.2.1)) (fun hn_ => (Kd.fresh' (Kd.R_lt HO_9.out) k_ hn_)), Or.elim hk_ (fun hs_ => Or.elim hs_ (fun hs_ => hs_.2.2.2.2.1) (fun hs_ => hs_.1.1.1.2.2.2.2)) (fun hn_ => (Kd.fresh' (Kd.N_lt HO_11.out) k_ hn_)), Or.elim hk_ (fun hs_ => Or.elim hs_ (fun hs_ => hs_.2.2.2.2.2.2.1) (fun hs_ => hs_.1.1.2)) (fun hn_ => (Kd.fresh' (Kd.N_lt HO534.out) k_ hn_)), Or.elim hk_ (fun hs_ => Or.elim hs_ (fun hs_ => hs_.2.2.2.2.2.2.2) (fun hs_ => hs_.1.2)) (fun hn_ => (Kd.fresh' (Kd.N_lt HO537.out) k_ hn_))⟩)) (below_size HB.out)); replace HO_0 := am (Kd.N_elder' HO_0.out (Kd.N_base ho0) hb); replace HO_1 := am (Kd.N_elder' HO_1.out (Kd.N_base ho0) hb); replace HO_2 := am (Kd.N_elder' HO_2.out (Kd.N_base ho0) hb); replace HO_9 := am (Kd.R_below HO_9.out hb); replace HO_11 := am (Kd.N_elder' HO_11.out (Kd.N_base ho0) hb); replace HO534 := am (Kd.N_elder' HO534.out (Kd.N_base ho0) hb); replace HO537 := am (Kd.N_elder' HO537.out (Kd.N_base ho0) hb); replace HB := am (below_step HB.out hb); (try clear hb); (try clear ho0)))
              go_cut [131] (fun v131 wc => ∃ (kq : Nat) (x131_68 : Bool), v131 = .bool x131_68 ∧ Aside0 (locksteplaw28_CostAdds.j3 kq t485 t488 t491 x9_9 t524 x131_68 = some r) ∧ Aside0 (kq ≤ kj28) ∧ Aside0 (Kd.N k39 39 wc w.heap.size (fun k_ => some k_ ≠ ((.slice Ao32 t488.length co32) : Value).ownBlock ∧ some k_ ≠ ((.slice Ao43 t491.length co43) : Value).ownBlock ∧ some k_ ≠ (u9 : Value).ownBlock ∧ some k_ ≠ ((.slice Ao76 t524.length co76) : Value).ownBlock) (.slice Ao30 t485.length co30) t485) ∧ Aside0 (Kd.N k39 39 wc w.heap.size (fun k_ => some k_ ≠ ((.slice Ao30 t485.length co30) : Value).ownBlock ∧ some k_ ≠ ((.slice Ao43 t491.length co43) : Value).ownBlock ∧ some k_ ≠ (u9 : Value).ownBlock ∧ some k_ ≠ ((.slice Ao76 t524.length co76) : Value).ownBlock) (.slice Ao32 t488.length co32) t488) ∧ Aside0 (Kd.N k39 39 wc w.heap.size (fun k_ => some k_ ≠ ((.slice Ao30 t485.length co30) : Value).ownBlock ∧ some k_ ≠ ((.slice Ao32 t488.length co32) : Value).ownBlock ∧ some k_ ≠ (u9 : Value).ownBlock ∧ some k_ ≠ ((.slice Ao76 t524.length co76) : Value).ownBlock) (.slice Ao43 t491.length co43) t491) ∧ Aside0 (Kd.R (Kd.int .u64) 24 wc w.heap.size (fun _ => True) u9 x9_9) ∧ Aside0 (Kd.N k39 39 wc w.heap.size (fun k_ => some k_ ≠ ((.slice Ao30 t485.length co30) : Value).ownBlock ∧ some k_ ≠ ((.slice Ao32 t488.length co32) : Value).ownBlock ∧ some k_ ≠ ((.slice Ao43 t491.length co43) : Value).ownBlock ∧ some k_ ≠ (u9 : Value).ownBlock) (.slice Ao76 t524.length co76) t524) ∧ Aside0 (Below w.heap.size w wc))
              case first => as_aux_lemma =>
                have H := HC69.out
                clear HC69
                by_cases c78 : t538 = 0
                · rw [if_pos c78] at H
                  have c78b0 : (t538 == 0) = true := beq_iff_eq.mpr c78
                  have c78b1 : (t538 != 0) = false := bne_eq_false_iff_eq.mpr c78
                  clear c78
                  (skip)
                  by_cases c79 : t545 = 0
                  · rw [if_pos c79] at H
                    have c79b0 : (t545 == 0) = true := beq_iff_eq.mpr c79
                    have c79b1 : (t545 != 0) = false := bne_eq_false_iff_eq.mpr c79
                    clear c79
                    replace H := Option.bind_eq_some_iff.mp H
                    obtain ⟨t546, A800, H⟩ := H
                    replace H : (locksteplaw28_CostAdds.j3 kj28 t485 t488 t491 x9_9 t524 (!t546)) = some r := H
                    have A80 := am A800
                    clear A800
                    have H' := am H
                    clear H
                    obtain ⟨Ao81, co81, eo81⟩ := Kd.N_slice HO537.out
                    subst eo81
                    obtain ⟨Ao82, co82, eo82⟩ := Kd.N_slice HO544.out
                    subst eo82
                    go_wp2_with ((go_at_call 17; (with_reducible refine (locksteplaw28_same.calls kj28 _ _ t535 _ _ t542 t546 _ ?side1 ?side2 ?side3 ?side4 A80.out).mono ?_); (case side1 => exact (Kd.N_reads' HO537.out).2.2); (case side2 => exact (Kd.N_reads' HO537.out).2.1); (case side3 => exact (Kd.N_reads' HO544.out).2.2); (case side4 => exact (Kd.N_reads' HO544.out).2.1); rintro e w' ⟨rfl, ⟨nd, rfl⟩⟩))
                    go_meet
                    case rel => exact ⟨_, (!t546), (by with_reducible rfl), H', ⟨by have := HJ9.out; have := HJ28.out; omega⟩, ⟨by (with_reducible repeat (apply Kd.N_drewN)); exact Kd.N_mono HO_0.out (fun _ hk => ⟨hk.1.1.1.1.1, ⟨hk.1.1.1.1.2.1, ⟨hk.1.1.1.1.2.2.1, hk.1.1.1.1.2.2.2.2⟩⟩⟩)⟩, ⟨by (with_reducible repeat (apply Kd.N_drewN)); exact Kd.N_mono HO_1.out (fun _ hk => ⟨hk.1.1.1.1.1, ⟨hk.1.1.1.1.2.1, ⟨hk.1.1.1.1.2.2.1, hk.1.1.1.1.2.2.2.2⟩⟩⟩)⟩, ⟨by (with_reducible repeat (apply Kd.N_drewN)); exact Kd.N_mono HO_2.out (fun _ hk => ⟨hk.1.1.1.1.1, ⟨hk.1.1.1.1.2.1, ⟨hk.1.1.1.1.2.2.1, hk.1.1.1.1.2.2.2.2⟩⟩⟩)⟩, ⟨by (with_reducible repeat (apply Kd.R_drewN)); exact HO_9.out⟩, ⟨by (with_reducible repeat (apply Kd.N_drewN)); exact Kd.N_mono HO_15.out (fun _ hk => ⟨hk.1.1.1.1.1, ⟨hk.1.1.1.1.2.1, ⟨hk.1.1.1.1.2.2.1, hk.1.1.1.1.2.2.2.1⟩⟩⟩)⟩, ⟨by repeat ((with_reducible first | exact HB.out | apply pw_below_drewN))⟩⟩
                  · rw [if_neg c79] at H
                    have c79b0 : (t545 == 0) = false := beq_eq_false_iff_ne.mpr c79
                    have c79b1 : (t545 != 0) = true := bne_iff_ne.mpr c79
                    have H' := am H
                    clear H
                    go_wp2
                    go_meet
                    case rel => exact ⟨_, (true), (by with_reducible rfl), H', ⟨by have := HJ9.out; have := HJ28.out; omega⟩, ⟨by exact Kd.N_mono HO_0.out (fun _ hk => ⟨hk.1.1.1.1.1, ⟨hk.1.1.1.1.2.1, ⟨hk.1.1.1.1.2.2.1, hk.1.1.1.1.2.2.2.2⟩⟩⟩)⟩, ⟨by exact Kd.N_mono HO_1.out (fun _ hk => ⟨hk.1.1.1.1.1, ⟨hk.1.1.1.1.2.1, ⟨hk.1.1.1.1.2.2.1, hk.1.1.1.1.2.2.2.2⟩⟩⟩)⟩, ⟨by exact Kd.N_mono HO_2.out (fun _ hk => ⟨hk.1.1.1.1.1, ⟨hk.1.1.1.1.2.1, ⟨hk.1.1.1.1.2.2.1, hk.1.1.1.1.2.2.2.2⟩⟩⟩)⟩, ⟨by exact HO_9.out⟩, ⟨by exact Kd.N_mono HO_15.out (fun _ hk => ⟨hk.1.1.1.1.1, ⟨hk.1.1.1.1.2.1, ⟨hk.1.1.1.1.2.2.1, hk.1.1.1.1.2.2.2.1⟩⟩⟩)⟩, ⟨by exact HB.out⟩⟩
                · rw [if_neg c78] at H
                  have c78b0 : (t538 == 0) = false := beq_eq_false_iff_ne.mpr c78
                  have c78b1 : (t538 != 0) = true := bne_iff_ne.mpr c78
                  (skip)
                  have H' := am H
                  clear H
                  go_wp2
                  go_meet
                  case rel => exact ⟨_, (true), (by with_reducible rfl), H', ⟨by have := HJ9.out; have := HJ28.out; omega⟩, ⟨by exact Kd.N_mono HO_0.out (fun _ hk => ⟨hk.1.1.1.1.1, ⟨hk.1.1.1.1.2.1, ⟨hk.1.1.1.1.2.2.1, hk.1.1.1.1.2.2.2.2⟩⟩⟩)⟩, ⟨by exact Kd.N_mono HO_1.out (fun _ hk => ⟨hk.1.1.1.1.1, ⟨hk.1.1.1.1.2.1, ⟨hk.1.1.1.1.2.2.1, hk.1.1.1.1.2.2.2.2⟩⟩⟩)⟩, ⟨by exact Kd.N_mono HO_2.out (fun _ hk => ⟨hk.1.1.1.1.1, ⟨hk.1.1.1.1.2.1, ⟨hk.1.1.1.1.2.2.1, hk.1.1.1.1.2.2.2.2⟩⟩⟩)⟩, ⟨by exact HO_9.out⟩, ⟨by exact Kd.N_mono HO_15.out (fun _ hk => ⟨hk.1.1.1.1.1, ⟨hk.1.1.1.1.2.1, ⟨hk.1.1.1.1.2.2.1, hk.1.1.1.1.2.2.2.1⟩⟩⟩)⟩, ⟨by exact HB.out⟩⟩
              case rest => as_aux_lemma =>
                clear HC69
                obtain ⟨kq, x131_68, rfl, HA, HJ68, HO_0, HO_1, HO_2, HO_9, HO_15, HB⟩ := hcut
                cases kq with
                | zero => exact absurd HA.out (by simp [locksteplaw28_CostAdds.j3])
                | succ kj68 =>
                  have H := HA.out
                  clear HA
                  simp only [locksteplaw28_CostAdds.j3] at H
                  by_cases c83 : x131_68 = true
                  · subst c83
                    have H1 : (some false) = some r := by rw [if_pos rfl] at H; exact H
                    clear H
                    have H := H1
                    clear H1
                    exact absurd (Option.some.inj H) (by rw [HR.out]; simp)
                  · replace c83 := Bool.eq_false_iff.mpr c83
                    subst c83
                    have H1 : ((locksteplaw28_own.f kj68 t485).bind fun t547 => ((locksteplaw28_own.f kj68 t488).bind fun t550 => ((cost_Times.f kj68 t547 t550).bind fun bt553 => ((locksteplaw28_own.f kj68 t488).bind fun t557 => ((locksteplaw28_own.f kj68 t485).bind fun t560 => ((cost_Times.f kj68 t557 t560).bind fun bt563 => (if bt553.2 = 0 then (if bt563.2 = 0 then ((locksteplaw28_same.f kj68 bt553.1 bt563.1).bind fun t567 => (if t567 = true then ((cost_Value.f kj68 bt553.1 x9_9).bind fun t568 => ((cost_Value.f kj68 t485 x9_9).bind fun t569 => ((cost_Value.f kj68 t488 x9_9).bind fun t570 => (locksteplaw28_CostAdds.j4 kj68 t485 t491 x9_9 t524 bt553.1 (t568 != (IntKind.u64.wrap (t569 * t570))))))) else (locksteplaw28_CostAdds.j4 kj68 t485 t491 x9_9 t524 bt553.1 true))) else (locksteplaw28_CostAdds.j4 kj68 t485 t491 x9_9 t524 bt553.1 true)) else (locksteplaw28_CostAdds.j4 kj68 t485 t491 x9_9 t524 bt553.1 true)))))))) = some r := by rw [if_neg (show ¬ (false = true) by decide)] at H; exact H
                    clear H
                    have H := H1
                    clear H1
                    replace H := Option.bind_eq_some_iff.mp H
                    obtain ⟨t547, A840, H⟩ := H
                    replace H : ((locksteplaw28_own.f kj68 t488).bind fun t550 => ((cost_Times.f kj68 t547 t550).bind fun bt553 => ((locksteplaw28_own.f kj68 t488).bind fun t557 => ((locksteplaw28_own.f kj68 t485).bind fun t560 => ((cost_Times.f kj68 t557 t560).bind fun bt563 => (if bt553.2 = 0 then (if bt563.2 = 0 then ((locksteplaw28_same.f kj68 bt553.1 bt563.1).bind fun t567 => (if t567 = true then ((cost_Value.f kj68 bt553.1 x9_9).bind fun t568 => ((cost_Value.f kj68 t485 x9_9).bind fun t569 => ((cost_Value.f kj68 t488 x9_9).bind fun t570 => (locksteplaw28_CostAdds.j4 kj68 t485 t491 x9_9 t524 bt553.1 (t568 != (IntKind.u64.wrap (t569 * t570))))))) else (locksteplaw28_CostAdds.j4 kj68 t485 t491 x9_9 t524 bt553.1 true))) else (locksteplaw28_CostAdds.j4 kj68 t485 t491 x9_9 t524 bt553.1 true)) else (locksteplaw28_CostAdds.j4 kj68 t485 t491 x9_9 t524 bt553.1 true))))))) = some r := H
                    have A84 := am A840
                    clear A840
                    replace H := Option.bind_eq_some_iff.mp H
                    obtain ⟨t550, A850, H⟩ := H
                    replace H : ((cost_Times.f kj68 t547 t550).bind fun bt553 => ((locksteplaw28_own.f kj68 t488).bind fun t557 => ((locksteplaw28_own.f kj68 t485).bind fun t560 => ((cost_Times.f kj68 t557 t560).bind fun bt563 => (if bt553.2 = 0 then (if bt563.2 = 0 then ((locksteplaw28_same.f kj68 bt553.1 bt563.1).bind fun t567 => (if t567 = true then ((cost_Value.f kj68 bt553.1 x9_9).bind fun t568 => ((cost_Value.f kj68 t485 x9_9).bind fun t569 => ((cost_Value.f kj68 t488 x9_9).bind fun t570 => (locksteplaw28_CostAdds.j4 kj68 t485 t491 x9_9 t524 bt553.1 (t568 != (IntKind.u64.wrap (t569 * t570))))))) else (locksteplaw28_CostAdds.j4 kj68 t485 t491 x9_9 t524 bt553.1 true))) else (locksteplaw28_CostAdds.j4 kj68 t485 t491 x9_9 t524 bt553.1 true)) else (locksteplaw28_CostAdds.j4 kj68 t485 t491 x9_9 t524 bt553.1 true)))))) = some r := H
                    have A85 := am A850
                    clear A850
                    replace H := Option.bind_eq_some_iff.mp H
                    obtain ⟨⟨t553, t556⟩, A860, H⟩ := H
                    replace H : ((locksteplaw28_own.f kj68 t488).bind fun t557 => ((locksteplaw28_own.f kj68 t485).bind fun t560 => ((cost_Times.f kj68 t557 t560).bind fun bt563 => (if t556 = 0 then (if bt563.2 = 0 then ((locksteplaw28_same.f kj68 t553 bt563.1).bind fun t567 => (if t567 = true then ((cost_Value.f kj68 t553 x9_9).bind fun t568 => ((cost_Value.f kj68 t485 x9_9).bind fun t569 => ((cost_Value.f kj68 t488 x9_9).bind fun t570 => (locksteplaw28_CostAdds.j4 kj68 t485 t491 x9_9 t524 t553 (t568 != (IntKind.u64.wrap (t569 * t570))))))) else (locksteplaw28_CostAdds.j4 kj68 t485 t491 x9_9 t524 t553 true))) else (locksteplaw28_CostAdds.j4 kj68 t485 t491 x9_9 t524 t553 true)) else (locksteplaw28_CostAdds.j4 kj68 t485 t491 x9_9 t524 t553 true))))) = some r := H
                    have A86 := am A860
                    clear A860
                    replace H := Option.bind_eq_some_iff.mp H
                    obtain ⟨t557, A870, H⟩ := H
                    replace H : ((locksteplaw28_own.f kj68 t485).bind fun t560 => ((cost_Times.f kj68 t557 t560).bind fun bt563 => (if t556 = 0 then (if bt563.2 = 0 then ((locksteplaw28_same.f kj68 t553 bt563.1).bind fun t567 => (if t567 = true then ((cost_Value.f kj68 t553 x9_9).bind fun t568 => ((cost_Value.f kj68 t485 x9_9).bind fun t569 => ((cost_Value.f kj68 t488 x9_9).bind fun t570 => (locksteplaw28_CostAdds.j4 kj68 t485 t491 x9_9 t524 t553 (t568 != (IntKind.u64.wrap (t569 * t570))))))) else (locksteplaw28_CostAdds.j4 kj68 t485 t491 x9_9 t524 t553 true))) else (locksteplaw28_CostAdds.j4 kj68 t485 t491 x9_9 t524 t553 true)) else (locksteplaw28_CostAdds.j4 kj68 t485 t491 x9_9 t524 t553 true)))) = some r := H
                    have A87 := am A870
                    clear A870
                    replace H := Option.bind_eq_some_iff.mp H
                    obtain ⟨t560, A880, H⟩ := H
                    replace H : ((cost_Times.f kj68 t557 t560).bind fun bt563 => (if t556 = 0 then (if bt563.2 = 0 then ((locksteplaw28_same.f kj68 t553 bt563.1).bind fun t567 => (if t567 = true then ((cost_Value.f kj68 t553 x9_9).bind fun t568 => ((cost_Value.f kj68 t485 x9_9).bind fun t569 => ((cost_Value.f kj68 t488 x9_9).bind fun t570 => (locksteplaw28_CostAdds.j4 kj68 t485 t491 x9_9 t524 t553 (t568 != (IntKind.u64.wrap (t569 * t570))))))) else (locksteplaw28_CostAdds.j4 kj68 t485 t491 x9_9 t524 t553 true))) else (locksteplaw28_CostAdds.j4 kj68 t485 t491 x9_9 t524 t553 true)) else (locksteplaw28_CostAdds.j4 kj68 t485 t491 x9_9 t524 t553 true))) = some r := H
                    have A88 := am A880
                    clear A880
                    replace H := Option.bind_eq_some_iff.mp H
                    obtain ⟨⟨t563, t566⟩, A890, H⟩ := H
                    replace H : (if t556 = 0 then (if t566 = 0 then ((locksteplaw28_same.f kj68 t553 t563).bind fun t567 => (if t567 = true then ((cost_Value.f kj68 t553 x9_9).bind fun t568 => ((cost_Value.f kj68 t485 x9_9).bind fun t569 => ((cost_Value.f kj68 t488 x9_9).bind fun t570 => (locksteplaw28_CostAdds.j4 kj68 t485 t491 x9_9 t524 t553 (t568 != (IntKind.u64.wrap (t569 * t570))))))) else (locksteplaw28_CostAdds.j4 kj68 t485 t491 x9_9 t524 t553 true))) else (locksteplaw28_CostAdds.j4 kj68 t485 t491 x9_9 t524 t553 true)) else (locksteplaw28_CostAdds.j4 kj68 t485 t491 x9_9 t524 t553 true)) = some r := H
                    have A89 := am A890
                    clear A890
                    have HC90 := am H
                    clear H
                    go_upto_region 20 with (first | ((with_reducible refine gate_callee (f := 9) rfl ?_); refine goesL_ (some 134) rfl rfl Try.func9 (by kernel_rfl) rfl #[.slice Ao30 t485.length co30] rfl (by (try simp only [List.map_toArray, List.map_cons, List.map_nil]); rfl) ?_; (with_reducible refine (locksteplaw28_own.calls kj68 _ _ t485 t547 _ ?side1 ?side2 A84.out).mono ?_); (case side1 => exact (Kd.N_reads' HO_0.out).2.2); (case side2 => exact (Kd.N_reads' HO_0.out).2.1); rintro e w91 ⟨v548, rfl, ho0, hb⟩; refine ⟨_, rfl, ?_⟩; have HO549 := am (Kd.N_lower (Kd.N_mono (ok' := fun k_ => some k_ ≠ (.slice Ao30 t485.length co30 : Value).ownBlock ∧ some k_ ≠ (.slice Ao32 t488.length co32 : Value).ownBlock ∧ some k_ ≠ (.slice Ao43 t491.length co43 : Value).ownBlock ∧ some k_ ≠ (u9 : Value).ownBlock ∧ some k_ ≠ (.slice Ao76 t524.length co76 : Value).ownBlock) (Kd.R_N (Kd.R_bound ho0)) (fun k_ hk_ => ⟨(Kd.fresh' (Kd.N_lt HO_0.out) k_ hk_.2.1), (Kd.fresh' (Kd.N_lt HO_1.out) k_ hk_.2.1), (Kd.fresh' (Kd.N_lt HO_2.out) k_ hk_.2.1), (Kd.fresh' (Kd.R_lt HO_9.out) k_ hk_.2.1), (Kd.fresh' (Kd.N_lt HO_15.out) k_ hk_.2.1)⟩)) (below_size HB.out)); replace HO_0 := am (Kd.N_elder' HO_0.out (Kd.R_base ho0) hb); replace HO_1 := am (Kd.N_elder' HO_1.out (Kd.R_base ho0) hb); replace HO_2 := am (Kd.N_elder' HO_2.out (Kd.R_base ho0) hb); replace HO_9 := am (Kd.R_below HO_9.out hb); replace HO_15 := am (Kd.N_elder' HO_15.out (Kd.R_base ho0) hb); replace HB := am (below_step HB.out hb); (try clear hb); (try clear ho0)) | ((with_reducible refine gate_callee (f := 9) rfl ?_); refine goesL_ (some 136) rfl rfl Try.func9 (by kernel_rfl) rfl #[.slice Ao32 t488.length co32] rfl (by (try simp only [List.map_toArray, List.map_cons, List.map_nil]); rfl) ?_; (with_reducible refine (locksteplaw28_own.calls kj68 _ _ t488 t550 _ ?side1 ?side2 A85.out).mono ?_); (case side1 => exact (Kd.N_reads' HO_1.out).2.2); (case side2 => exact (Kd.N_reads' HO_1.out).2.1); rintro e w92 ⟨v551, rfl, ho0, hb⟩; refine ⟨_, rfl, ?_⟩; have HO552 := am (Kd.N_lower (Kd.N_mono (ok' := fun k_ => some k_ ≠ (.slice Ao30 t485.length co30 : Value).ownBlock ∧ some k_ ≠ (.slice Ao32 t488.length co32 : Value).ownBlock ∧ some k_ ≠ (.slice Ao43 t491.length co43 : Value).ownBlock ∧ some k_ ≠ (u9 : Value).ownBlock ∧ some k_ ≠ (.slice Ao76 t524.length co76 : Value).ownBlock ∧ some k_ ≠ (v548 : Value).ownBlock) (Kd.R_N (Kd.R_bound ho0)) (fun k_ hk_ => ⟨(Kd.fresh' (Kd.N_lt HO_0.out) k_ hk_.2.1), (Kd.fresh' (Kd.N_lt HO_1.out) k_ hk_.2.1), (Kd.fresh' (Kd.N_lt HO_2.out) k_ hk_.2.1), (Kd.fresh' (Kd.R_lt HO_9.out) k_ hk_.2.1), (Kd.fresh' (Kd.N_lt HO_15.out) k_ hk_.2.1), (Kd.fresh' (Kd.N_lt HO549.out) k_ hk_.2.1)⟩)) (below_size HB.out)); replace HO_0 := am (Kd.N_elder' HO_0.out (Kd.R_base ho0) hb); replace HO_1 := am (Kd.N_elder' HO_1.out (Kd.R_base ho0) hb); replace HO_2 := am (Kd.N_elder' HO_2.out (Kd.R_base ho0) hb); replace HO_9 := am (Kd.R_below HO_9.out hb); replace HO_15 := am (Kd.N_elder' HO_15.out (Kd.R_base ho0) hb); replace HO549 := am (Kd.N_elder' HO549.out (Kd.R_base ho0) hb); replace HB := am (below_step HB.out hb); (try clear hb); (try clear ho0); obtain ⟨Ao93, co93, eo93⟩ := Kd.N_slice HO549.out; subst eo93; obtain ⟨Ao94, co94, eo94⟩ := Kd.N_slice HO552.out; subst eo94) | ((with_reducible refine gate_callee (f := 14) rfl ?_); refine goesL_ (some 137) rfl rfl Try.func14 (by kernel_rfl) rfl #[.slice Ao93 t547.length co93, .slice Ao94 t550.length co94] rfl (by (try simp only [List.map_toArray, List.map_cons, List.map_nil]); rfl) ?_; (with_reducible refine (cost_Times.calls kj68 _ _ t547 _ _ t550 t553 t556 _ ?side1 ?side2 ?side3 ?side4 A86.out).mono ?_); (case side1 => exact (Kd.N_reads' HO549.out).2.2); (case side2 => exact (Kd.N_reads' HO549.out).2.1); (case side3 => exact (Kd.N_reads' HO552.out).2.2); (case side4 => exact (Kd.N_reads' HO552.out).2.1); rintro e w95 ⟨v554, rfl, ho0, hb⟩; refine ⟨_, rfl, ?_⟩; have HO555 := am (Kd.N_lower (Kd.N_mono (ok' := fun k_ => some k_ ≠ (.slice Ao30 t485.length co30 : Value).ownBlock ∧ some k_ ≠ (.slice Ao32 t488.length co32 : Value).ownBlock ∧ some k_ ≠ (.slice Ao43 t491.length co43 : Value).ownBlock ∧ some k_ ≠ (u9 : Value).ownBlock ∧ some k_ ≠ (.slice Ao76 t524.length co76 : Value).ownBlock ∧ some k_ ≠ (.slice Ao93 t547.length co93 : Value).ownBlock ∧ some k_ ≠ (.slice Ao94 t550.length co94 : Value).ownBlock) ho0 (fun k_ hk_ => ⟨(Kd.fresh' (Kd.N_lt HO_0.out) k_ hk_), (Kd.fresh' (Kd.N_lt HO_1.out) k_ hk_), (Kd.fresh' (Kd.N_lt HO_2.out) k_ hk_), (Kd.fresh' (Kd.R_lt HO_9.out) k_ hk_), (Kd.fresh' (Kd.N_lt HO_15.out) k_ hk_), (Kd.fresh' (Kd.N_lt HO549.out) k_ hk_), (Kd.fresh' (Kd.N_lt HO552.out) k_ hk_)⟩)) (below_size HB.out)); replace HO_0 := am (Kd.N_elder' HO_0.out (Kd.N_base ho0) hb); replace HO_1 := am (Kd.N_elder' HO_1.out (Kd.N_base ho0) hb); replace HO_2 := am (Kd.N_elder' HO_2.out (Kd.N_base ho0) hb); replace HO_9 := am (Kd.R_below HO_9.out hb); replace HO_15 := am (Kd.N_elder' HO_15.out (Kd.N_base ho0) hb); replace HO549 := am (Kd.N_elder' HO549.out (Kd.N_base ho0) hb); replace HO552 := am (Kd.N_elder' HO552.out (Kd.N_base ho0) hb); replace HB := am (below_step HB.out hb); (try clear hb); (try clear ho0)) | ((with_reducible refine gate_callee (f := 9) rfl ?_); refine goesL_ (some 142) rfl rfl Try.func9 (by kernel_rfl) rfl #[.slice Ao32 t488.length co32] rfl (by (try simp only [List.map_toArray, List.map_cons, List.map_nil]); rfl) ?_; (with_reducible refine (locksteplaw28_own.calls kj68 _ _ t488 t557 _ ?side1 ?side2 A87.out).mono ?_); (case side1 => exact (Kd.N_reads' HO_1.out).2.2); (case side2 => exact (Kd.N_reads' HO_1.out).2.1); rintro e w96 ⟨v558, rfl, ho0, hb⟩; refine ⟨_, rfl, ?_⟩; have HO559 := am (Kd.N_lower (Kd.N_mono (ok' := fun k_ => some k_ ≠ (.slice Ao30 t485.length co30 : Value).ownBlock ∧ some k_ ≠ (.slice Ao32 t488.length co32 : Value).ownBlock ∧ some k_ ≠ (.slice Ao43 t491.length co43 : Value).ownBlock ∧ some k_ ≠ (u9 : Value).ownBlock ∧ some k_ ≠ (.slice Ao76 t524.length co76 : Value).ownBlock ∧ some k_ ≠ (.slice Ao93 t547.length co93 : Value).ownBlock ∧ some k_ ≠ (.slice Ao94 t550.length co94 : Value).ownBlock ∧ some k_ ≠ (v554 : Value).ownBlock) (Kd.R_N (Kd.R_bound ho0)) (fun k_ hk_ => ⟨(Kd.fresh' (Kd.N_lt HO_0.out) k_ hk_.2.1), (Kd.fresh' (Kd.N_lt HO_1.out) k_ hk_.2.1), (Kd.fresh' (Kd.N_lt HO_2.out) k_ hk_.2.1), (Kd.fresh' (Kd.R_lt HO_9.out) k_ hk_.2.1), (Kd.fresh' (Kd.N_lt HO_15.out) k_ hk_.2.1), (Kd.fresh' (Kd.N_lt HO549.out) k_ hk_.2.1), (Kd.fresh' (Kd.N_lt HO552.out) k_ hk_.2.1), (Kd.fresh' (Kd.N_lt HO555.out) k_ hk_.2.1)⟩)) (below_size HB.out)); replace HO_0 := am (Kd.N_elder' HO_0.out (Kd.R_base ho0) hb); replace HO_1 := am (Kd.N_elder' HO_1.out (Kd.R_base ho0) hb); replace HO_2 := am (Kd.N_elder' HO_2.out (Kd.R_base ho0) hb); replace HO_9 := am (Kd.R_below HO_9.out hb); replace HO_15 := am (Kd.N_elder' HO_15.out (Kd.R_base ho0) hb); replace HO549 := am (Kd.N_elder' HO549.out (Kd.R_base ho0) hb); replace HO552 := am (Kd.N_elder' HO552.out (Kd.R_base ho0) hb); replace HO555 := am (Kd.N_elder' HO555.out (Kd.R_base ho0) hb); replace HB := am (below_step HB.out hb); (try clear hb); (try clear ho0)) | ((with_reducible refine gate_callee (f := 9) rfl ?_); refine goesL_ (some 144) rfl rfl Try.func9 (by kernel_rfl) rfl #[.slice Ao30 t485.length co30] rfl (by (try simp only [List.map_toArray, List.map_cons, List.map_nil]); rfl) ?_; (with_reducible refine (locksteplaw28_own.calls kj68 _ _ t485 t560 _ ?side1 ?side2 A88.out).mono ?_); (case side1 => exact (Kd.N_reads' HO_0.out).2.2); (case side2 => exact (Kd.N_reads' HO_0.out).2.1); rintro e w97 ⟨v561, rfl, ho0, hb⟩; refine ⟨_, rfl, ?_⟩; have HO562 := am (Kd.N_lower (Kd.N_mono (ok' := fun k_ => some k_ ≠ (.slice Ao30 t485.length co30 : Value).ownBlock ∧ some k_ ≠ (.slice Ao32 t488.length co32 : Value).ownBlock ∧ some k_ ≠ (.slice Ao43 t491.length co43 : Value).ownBlock ∧ some k_ ≠ (u9 : Value).ownBlock ∧ some k_ ≠ (.slice Ao76 t524.length co76 : Value).ownBlock ∧ some k_ ≠ (.slice Ao93 t547.length co93 : Value).ownBlock ∧ some k_ ≠ (.slice Ao94 t550.length co94 : Value).ownBlock ∧ some k_ ≠ (v554 : Value).ownBlock ∧ some k_ ≠ (v558 : Value).ownBlock) (Kd.R_N (Kd.R_bound ho0)) (fun k_ hk_ => ⟨(Kd.fresh' (Kd.N_lt HO_0.out) k_ hk_.2.1), (Kd.fresh' (Kd.N_lt HO_1.out) k_ hk_.2.1), (Kd.fresh' (Kd.N_lt HO_2.out) k_ hk_.2.1), (Kd.fresh' (Kd.R_lt HO_9.out) k_ hk_.2.1), (Kd.fresh' (Kd.N_lt HO_15.out) k_ hk_.2.1), (Kd.fresh' (Kd.N_lt HO549.out) k_ hk_.2.1), (Kd.fresh' (Kd.N_lt HO552.out) k_ hk_.2.1), (Kd.fresh' (Kd.N_lt HO555.out) k_ hk_.2.1), (Kd.fresh' (Kd.N_lt HO559.out) k_ hk_.2.1)⟩)) (below_size HB.out)); replace HO_0 := am (Kd.N_elder' HO_0.out (Kd.R_base ho0) hb); replace HO_1 := am (Kd.N_elder' HO_1.out (Kd.R_base ho0) hb); replace HO_2 := am (Kd.N_elder' HO_2.out (Kd.R_base ho0) hb); replace HO_9 := am (Kd.R_below HO_9.out hb); replace HO_15 := am (Kd.N_elder' HO_15.out (Kd.R_base ho0) hb); replace HO549 := am (Kd.N_elder' HO549.out (Kd.R_base ho0) hb); replace HO552 := am (Kd.N_elder' HO552.out (Kd.R_base ho0) hb); replace HO555 := am (Kd.N_elder' HO555.out (Kd.R_base ho0) hb); replace HO559 := am (Kd.N_elder' HO559.out (Kd.R_base ho0) hb); replace HB := am (below_step HB.out hb); (try clear hb); (try clear ho0); obtain ⟨Ao98, co98, eo98⟩ := Kd.N_slice HO559.out; subst eo98; obtain ⟨Ao99, co99, eo99⟩ := Kd.N_slice HO562.out; subst eo99) | ((with_reducible refine gate_callee (f := 14) rfl ?_); refine goesL_ (some 145) rfl rfl Try.func14 (by kernel_rfl) rfl #[.slice Ao98 t557.length co98, .slice Ao99 t560.length co99] rfl (by (try simp only [List.map_toArray, List.map_cons, List.map_nil]); rfl) ?_; (with_reducible refine (cost_Times.calls kj68 _ _ t557 _ _ t560 t563 t566 _ ?side1 ?side2 ?side3 ?side4 A89.out).mono ?_); (case side1 => exact (Kd.N_reads' HO559.out).2.2); (case side2 => exact (Kd.N_reads' HO559.out).2.1); (case side3 => exact (Kd.N_reads' HO562.out).2.2); (case side4 => exact (Kd.N_reads' HO562.out).2.1); rintro e w100 ⟨v564, rfl, ho0, hb⟩; refine ⟨_, rfl, ?_⟩; have HO565 := am (Kd.N_lower (Kd.N_mono (ok' := fun k_ => some k_ ≠ (.slice Ao30 t485.length co30 : Value).ownBlock ∧ some k_ ≠ (.slice Ao32 t488.length co32 : Value).ownBlock ∧ some k_ ≠ (.slice Ao43 t491.length co43 : Value).ownBlock ∧ some k_ ≠ (u9 : Value).ownBlock ∧ some k_ ≠ (.slice Ao76 t524.length co76 : Value).ownBlock ∧ some k_ ≠ (.slice Ao93 t547.length co93 : Value).ownBlock ∧ some k_ ≠ (.slice Ao94 t550.length co94 : Value).ownBlock ∧ some k_ ≠ (v554 : Value).ownBlock ∧ some k_ ≠ (.slice Ao98 t557.length co98 : Value).ownBlock ∧ some k_ ≠ (.slice Ao99 t560.length co99 : Value).ownBlock) ho0 (fun k_ hk_ => ⟨(Kd.fresh' (Kd.N_lt HO_0.out) k_ hk_), (Kd.fresh' (Kd.N_lt HO_1.out) k_ hk_), (Kd.fresh' (Kd.N_lt HO_2.out) k_ hk_), (Kd.fresh' (Kd.R_lt HO_9.out) k_ hk_), (Kd.fresh' (Kd.N_lt HO_15.out) k_ hk_), (Kd.fresh' (Kd.N_lt HO549.out) k_ hk_), (Kd.fresh' (Kd.N_lt HO552.out) k_ hk_), (Kd.fresh' (Kd.N_lt HO555.out) k_ hk_), (Kd.fresh' (Kd.N_lt HO559.out) k_ hk_), (Kd.fresh' (Kd.N_lt HO562.out) k_ hk_)⟩)) (below_size HB.out)); replace HO_0 := am (Kd.N_elder' HO_0.out (Kd.N_base ho0) hb); replace HO_1 := am (Kd.N_elder' HO_1.out (Kd.N_base ho0) hb); replace HO_2 := am (Kd.N_elder' HO_2.out (Kd.N_base ho0) hb); replace HO_9 := am (Kd.R_below HO_9.out hb); replace HO_15 := am (Kd.N_elder' HO_15.out (Kd.N_base ho0) hb); replace HO549 := am (Kd.N_elder' HO549.out (Kd.N_base ho0) hb); replace HO552 := am (Kd.N_elder' HO552.out (Kd.N_base ho0) hb); replace HO555 := am (Kd.N_elder' HO555.out (Kd.N_base ho0) hb); replace HO559 := am (Kd.N_elder' HO559.out (Kd.N_base ho0) hb); replace HO562 := am (Kd.N_elder' HO562.out (Kd.N_base ho0) hb); replace HB := am (below_step HB.out hb); (try clear hb); (try clear ho0)))
                    go_cut [172] (fun v172 wc => ∃ (kq : Nat) (x172_89 : Bool), v172 = .bool x172_89 ∧ Aside0 (locksteplaw28_CostAdds.j4 kq t485 t491 x9_9 t524 t553 x172_89 = some r) ∧ Aside0 (kq ≤ kj68) ∧ Aside0 (Kd.N k39 39 wc w.heap.size (fun k_ => some k_ ≠ ((.slice Ao43 t491.length co43) : Value).ownBlock ∧ some k_ ≠ (u9 : Value).ownBlock ∧ some k_ ≠ ((.slice Ao76 t524.length co76) : Value).ownBlock ∧ some k_ ≠ (v554 : Value).ownBlock) (.slice Ao30 t485.length co30) t485) ∧ Aside0 (Kd.N k39 39 wc w.heap.size (fun k_ => some k_ ≠ ((.slice Ao30 t485.length co30) : Value).ownBlock ∧ some k_ ≠ (u9 : Value).ownBlock ∧ some k_ ≠ ((.slice Ao76 t524.length co76) : Value).ownBlock ∧ some k_ ≠ (v554 : Value).ownBlock) (.slice Ao43 t491.length co43) t491) ∧ Aside0 (Kd.R (Kd.int .u64) 24 wc w.heap.size (fun _ => True) u9 x9_9) ∧ Aside0 (Kd.N k39 39 wc w.heap.size (fun k_ => some k_ ≠ ((.slice Ao30 t485.length co30) : Value).ownBlock ∧ some k_ ≠ ((.slice Ao43 t491.length co43) : Value).ownBlock ∧ some k_ ≠ (u9 : Value).ownBlock ∧ some k_ ≠ (v554 : Value).ownBlock) (.slice Ao76 t524.length co76) t524) ∧ Aside0 (Kd.N k39 39 wc w.heap.size (fun k_ => some k_ ≠ ((.slice Ao30 t485.length co30) : Value).ownBlock ∧ some k_ ≠ ((.slice Ao43 t491.length co43) : Value).ownBlock ∧ some k_ ≠ (u9 : Value).ownBlock ∧ some k_ ≠ ((.slice Ao76 t524.length co76) : Value).ownBlock) v554 t553) ∧ Aside0 (Below w.heap.size w wc))
                    case first => as_aux_lemma =>
                      have H := HC90.out
                      clear HC90
                      by_cases c101 : t556 = 0
                      · rw [if_pos c101] at H
                        have c101b0 : (t556 == 0) = true := beq_iff_eq.mpr c101
                        have c101b1 : (t556 != 0) = false := bne_eq_false_iff_eq.mpr c101
                        clear c101
                        (skip)
                        by_cases c102 : t566 = 0
                        · rw [if_pos c102] at H
                          have c102b0 : (t566 == 0) = true := beq_iff_eq.mpr c102
                          have c102b1 : (t566 != 0) = false := bne_eq_false_iff_eq.mpr c102
                          clear c102
                          replace H := Option.bind_eq_some_iff.mp H
                          obtain ⟨t567, A1030, H⟩ := H
                          replace H : (if t567 = true then ((cost_Value.f kj68 t553 x9_9).bind fun t568 => ((cost_Value.f kj68 t485 x9_9).bind fun t569 => ((cost_Value.f kj68 t488 x9_9).bind fun t570 => (locksteplaw28_CostAdds.j4 kj68 t485 t491 x9_9 t524 t553 (t568 != (IntKind.u64.wrap (t569 * t570))))))) else (locksteplaw28_CostAdds.j4 kj68 t485 t491 x9_9 t524 t553 true)) = some r := H
                          have A103 := am A1030
                          clear A1030
                          by_cases c104 : t567 = true
                          · subst c104
                            have H1 : ((cost_Value.f kj68 t553 x9_9).bind fun t568 => ((cost_Value.f kj68 t485 x9_9).bind fun t569 => ((cost_Value.f kj68 t488 x9_9).bind fun t570 => (locksteplaw28_CostAdds.j4 kj68 t485 t491 x9_9 t524 t553 (t568 != (IntKind.u64.wrap (t569 * t570))))))) = some r := by rw [if_pos rfl] at H; exact H
                            clear H
                            have H := H1
                            clear H1
                            replace H := Option.bind_eq_some_iff.mp H
                            obtain ⟨t568, A1050, H⟩ := H
                            replace H : ((cost_Value.f kj68 t485 x9_9).bind fun t569 => ((cost_Value.f kj68 t488 x9_9).bind fun t570 => (locksteplaw28_CostAdds.j4 kj68 t485 t491 x9_9 t524 t553 (t568 != (IntKind.u64.wrap (t569 * t570)))))) = some r := H
                            have A105 := am A1050
                            clear A1050
                            replace H := Option.bind_eq_some_iff.mp H
                            obtain ⟨t569, A1060, H⟩ := H
                            replace H : ((cost_Value.f kj68 t488 x9_9).bind fun t570 => (locksteplaw28_CostAdds.j4 kj68 t485 t491 x9_9 t524 t553 (t568 != (IntKind.u64.wrap (t569 * t570))))) = some r := H
                            have A106 := am A1060
                            clear A1060
                            replace H := Option.bind_eq_some_iff.mp H
                            obtain ⟨t570, A1070, H⟩ := H
                            replace H : (locksteplaw28_CostAdds.j4 kj68 t485 t491 x9_9 t524 t553 (t568 != (IntKind.u64.wrap (t569 * t570)))) = some r := H
                            have A107 := am A1070
                            clear A1070
                            have H' := am H
                            clear H
                            obtain ⟨Ao108, co108, eo108⟩ := Kd.N_slice HO555.out
                            subst eo108
                            obtain ⟨Ao109, co109, eo109⟩ := Kd.N_slice HO565.out
                            subst eo109
                            go_wp2_with (first | (go_at_call 17; (with_reducible refine (locksteplaw28_same.calls kj68 _ _ t553 _ _ t563 true _ ?side1 ?side2 ?side3 ?side4 A103.out).mono ?_); (case side1 => exact (Kd.N_reads' HO555.out).2.2); (case side2 => exact (Kd.N_reads' HO555.out).2.1); (case side3 => exact (Kd.N_reads' HO565.out).2.2); (case side4 => exact (Kd.N_reads' HO565.out).2.1); rintro e w' ⟨rfl, ⟨nd, rfl⟩⟩; obtain ⟨Ao110, co110, eo110⟩ := Kd.R_slice HO_9.out; subst eo110) | (go_at_call 7; (with_reducible refine (cost_Value.calls kj68 _ _ t553 _ _ x9_9 t568 _ ?side1 ?side2 ?side3 ?side4 A105.out).mono ?_); (case side1 => exact (Kd.N_reads' HO555.out).2.2); (case side2 => exact (Kd.N_reads' HO555.out).2.1); (case side3 => exact (Kd.R_reads' HO_9.out).2.2); (case side4 => exact (Kd.R_reads' HO_9.out).2.1); rintro e w111 ⟨rfl, hb⟩; replace HO_0 := am (Kd.N_below (by (with_reducible repeat (apply Kd.N_drewN)); exact HO_0.out) hb); replace HO_1 := am (Kd.N_below (by (with_reducible repeat (apply Kd.N_drewN)); exact HO_1.out) hb); replace HO_2 := am (Kd.N_below (by (with_reducible repeat (apply Kd.N_drewN)); exact HO_2.out) hb); replace HO_9 := am (Kd.R_below (by (with_reducible repeat (apply Kd.R_drewN)); exact HO_9.out) hb); replace HO_15 := am (Kd.N_below (by (with_reducible repeat (apply Kd.N_drewN)); exact HO_15.out) hb); replace HO549 := am (Kd.N_below (by (with_reducible repeat (apply Kd.N_drewN)); exact HO549.out) hb); replace HO552 := am (Kd.N_below (by (with_reducible repeat (apply Kd.N_drewN)); exact HO552.out) hb); replace HO555 := am (Kd.N_below (by (with_reducible repeat (apply Kd.N_drewN)); exact HO555.out) hb); replace HO559 := am (Kd.N_below (by (with_reducible repeat (apply Kd.N_drewN)); exact HO559.out) hb); replace HO562 := am (Kd.N_below (by (with_reducible repeat (apply Kd.N_drewN)); exact HO562.out) hb); replace HO565 := am (Kd.N_below (by (with_reducible repeat (apply Kd.N_drewN)); exact HO565.out) hb); replace HB := am (below_step (by repeat ((with_reducible first | exact HB.out | apply pw_below_drewN))) hb); (try clear hb)) | (go_at_call 7; (with_reducible refine (cost_Value.calls kj68 _ _ t485 _ _ x9_9 t569 _ ?side1 ?side2 ?side3 ?side4 A106.out).mono ?_); (case side1 => exact (Kd.N_reads' HO_0.out).2.2); (case side2 => exact (Kd.N_reads' HO_0.out).2.1); (case side3 => exact (Kd.R_reads' HO_9.out).2.2); (case side4 => exact (Kd.R_reads' HO_9.out).2.1); rintro e w112 ⟨rfl, hb⟩; replace HO_0 := am (Kd.N_below HO_0.out hb); replace HO_1 := am (Kd.N_below HO_1.out hb); replace HO_2 := am (Kd.N_below HO_2.out hb); replace HO_9 := am (Kd.R_below HO_9.out hb); replace HO_15 := am (Kd.N_below HO_15.out hb); replace HO549 := am (Kd.N_below HO549.out hb); replace HO552 := am (Kd.N_below HO552.out hb); replace HO555 := am (Kd.N_below HO555.out hb); replace HO559 := am (Kd.N_below HO559.out hb); replace HO562 := am (Kd.N_below HO562.out hb); replace HO565 := am (Kd.N_below HO565.out hb); replace HB := am (below_step HB.out hb); (try clear hb)) | (go_at_call 7; (with_reducible refine (cost_Value.calls kj68 _ _ t488 _ _ x9_9 t570 _ ?side1 ?side2 ?side3 ?side4 A107.out).mono ?_); (case side1 => exact (Kd.N_reads' HO_1.out).2.2); (case side2 => exact (Kd.N_reads' HO_1.out).2.1); (case side3 => exact (Kd.R_reads' HO_9.out).2.2); (case side4 => exact (Kd.R_reads' HO_9.out).2.1); rintro e w113 ⟨rfl, hb⟩; replace HO_0 := am (Kd.N_below HO_0.out hb); replace HO_1 := am (Kd.N_below HO_1.out hb); replace HO_2 := am (Kd.N_below HO_2.out hb); replace HO_9 := am (Kd.R_below HO_9.out hb); replace HO_15 := am (Kd.N_below HO_15.out hb); replace HO549 := am (Kd.N_below HO549.out hb); replace HO552 := am (Kd.N_below HO552.out hb); replace HO555 := am (Kd.N_below HO555.out hb); replace HO559 := am (Kd.N_below HO559.out hb); replace HO562 := am (Kd.N_below HO562.out hb); replace HO565 := am (Kd.N_below HO565.out hb); replace HB := am (below_step HB.out hb); (try clear hb)))
                            go_meet
                            case rel => exact ⟨_, ((t568 != (IntKind.u64.wrap (t569 * t570)))), (by with_reducible rfl), H', ⟨by have := HJ9.out; have := HJ28.out; have := HJ68.out; omega⟩, ⟨by exact Kd.N_mono HO_0.out (fun _ hk => ⟨hk.1.1.1.1.1.1.2.1, ⟨hk.1.1.1.1.1.1.2.2.1, ⟨hk.1.1.1.1.1.1.2.2.2, hk.1.1.1.2⟩⟩⟩)⟩, ⟨by exact Kd.N_mono HO_2.out (fun _ hk => ⟨hk.1.1.1.1.1.1.1, ⟨hk.1.1.1.1.1.1.2.2.1, ⟨hk.1.1.1.1.1.1.2.2.2, hk.1.1.1.2⟩⟩⟩)⟩, ⟨by exact HO_9.out⟩, ⟨by exact Kd.N_mono HO_15.out (fun _ hk => ⟨hk.1.1.1.1.1.1.1, ⟨hk.1.1.1.1.1.1.2.2.1, ⟨hk.1.1.1.1.1.1.2.2.2, hk.1.1.1.2⟩⟩⟩)⟩, ⟨by exact Kd.N_mono HO555.out (fun _ hk => ⟨hk.1.1.1.1, ⟨hk.1.1.1.2.2.1, ⟨hk.1.1.1.2.2.2.1, hk.1.1.1.2.2.2.2.1⟩⟩⟩)⟩, ⟨by exact HB.out⟩⟩
                          · replace c104 := Bool.eq_false_iff.mpr c104
                            subst c104
                            have H1 : (locksteplaw28_CostAdds.j4 kj68 t485 t491 x9_9 t524 t553 true) = some r := by rw [if_neg (show ¬ (false = true) by decide)] at H; exact H
                            clear H
                            have H := H1
                            clear H1
                            have H' := am H
                            clear H
                            obtain ⟨Ao114, co114, eo114⟩ := Kd.N_slice HO555.out
                            subst eo114
                            obtain ⟨Ao115, co115, eo115⟩ := Kd.N_slice HO565.out
                            subst eo115
                            go_wp2_with ((go_at_call 17; (with_reducible refine (locksteplaw28_same.calls kj68 _ _ t553 _ _ t563 false _ ?side1 ?side2 ?side3 ?side4 A103.out).mono ?_); (case side1 => exact (Kd.N_reads' HO555.out).2.2); (case side2 => exact (Kd.N_reads' HO555.out).2.1); (case side3 => exact (Kd.N_reads' HO565.out).2.2); (case side4 => exact (Kd.N_reads' HO565.out).2.1); rintro e w' ⟨rfl, ⟨nd, rfl⟩⟩))
                            go_meet
                            case rel => exact ⟨_, (true), (by with_reducible rfl), H', ⟨by have := HJ9.out; have := HJ28.out; have := HJ68.out; omega⟩, ⟨by (with_reducible repeat (apply Kd.N_drewN)); exact Kd.N_mono HO_0.out (fun _ hk => ⟨hk.1.1.1.1.1.1.2.1, ⟨hk.1.1.1.1.1.1.2.2.1, ⟨hk.1.1.1.1.1.1.2.2.2, hk.1.1.1.2⟩⟩⟩)⟩, ⟨by (with_reducible repeat (apply Kd.N_drewN)); exact Kd.N_mono HO_2.out (fun _ hk => ⟨hk.1.1.1.1.1.1.1, ⟨hk.1.1.1.1.1.1.2.2.1, ⟨hk.1.1.1.1.1.1.2.2.2, hk.1.1.1.2⟩⟩⟩)⟩, ⟨by (with_reducible repeat (apply Kd.R_drewN)); exact HO_9.out⟩, ⟨by (with_reducible repeat (apply Kd.N_drewN)); exact Kd.N_mono HO_15.out (fun _ hk => ⟨hk.1.1.1.1.1.1.1, ⟨hk.1.1.1.1.1.1.2.2.1, ⟨hk.1.1.1.1.1.1.2.2.2, hk.1.1.1.2⟩⟩⟩)⟩, ⟨by (with_reducible repeat (apply Kd.N_drewN)); exact Kd.N_mono HO555.out (fun _ hk => ⟨hk.1.1.1.1, ⟨hk.1.1.1.2.2.1, ⟨hk.1.1.1.2.2.2.1, hk.1.1.1.2.2.2.2.1⟩⟩⟩)⟩, ⟨by repeat ((with_reducible first | exact HB.out | apply pw_below_drewN))⟩⟩
                        · rw [if_neg c102] at H
                          have c102b0 : (t566 == 0) = false := beq_eq_false_iff_ne.mpr c102
                          have c102b1 : (t566 != 0) = true := bne_iff_ne.mpr c102
                          have H' := am H
                          clear H
                          go_wp2
                          go_meet
                          case rel => exact ⟨_, (true), (by with_reducible rfl), H', ⟨by have := HJ9.out; have := HJ28.out; have := HJ68.out; omega⟩, ⟨by exact Kd.N_mono HO_0.out (fun _ hk => ⟨hk.1.1.1.1.1.1.2.1, ⟨hk.1.1.1.1.1.1.2.2.1, ⟨hk.1.1.1.1.1.1.2.2.2, hk.1.1.1.2⟩⟩⟩)⟩, ⟨by exact Kd.N_mono HO_2.out (fun _ hk => ⟨hk.1.1.1.1.1.1.1, ⟨hk.1.1.1.1.1.1.2.2.1, ⟨hk.1.1.1.1.1.1.2.2.2, hk.1.1.1.2⟩⟩⟩)⟩, ⟨by exact HO_9.out⟩, ⟨by exact Kd.N_mono HO_15.out (fun _ hk => ⟨hk.1.1.1.1.1.1.1, ⟨hk.1.1.1.1.1.1.2.2.1, ⟨hk.1.1.1.1.1.1.2.2.2, hk.1.1.1.2⟩⟩⟩)⟩, ⟨by exact Kd.N_mono HO555.out (fun _ hk => ⟨hk.1.1.1.1, ⟨hk.1.1.1.2.2.1, ⟨hk.1.1.1.2.2.2.1, hk.1.1.1.2.2.2.2.1⟩⟩⟩)⟩, ⟨by exact HB.out⟩⟩
                      · rw [if_neg c101] at H
                        have c101b0 : (t556 == 0) = false := beq_eq_false_iff_ne.mpr c101
                        have c101b1 : (t556 != 0) = true := bne_iff_ne.mpr c101
                        (skip)
                        have H' := am H
                        clear H
                        go_wp2
                        go_meet
                        case rel => exact ⟨_, (true), (by with_reducible rfl), H', ⟨by have := HJ9.out; have := HJ28.out; have := HJ68.out; omega⟩, ⟨by exact Kd.N_mono HO_0.out (fun _ hk => ⟨hk.1.1.1.1.1.1.2.1, ⟨hk.1.1.1.1.1.1.2.2.1, ⟨hk.1.1.1.1.1.1.2.2.2, hk.1.1.1.2⟩⟩⟩)⟩, ⟨by exact Kd.N_mono HO_2.out (fun _ hk => ⟨hk.1.1.1.1.1.1.1, ⟨hk.1.1.1.1.1.1.2.2.1, ⟨hk.1.1.1.1.1.1.2.2.2, hk.1.1.1.2⟩⟩⟩)⟩, ⟨by exact HO_9.out⟩, ⟨by exact Kd.N_mono HO_15.out (fun _ hk => ⟨hk.1.1.1.1.1.1.1, ⟨hk.1.1.1.1.1.1.2.2.1, ⟨hk.1.1.1.1.1.1.2.2.2, hk.1.1.1.2⟩⟩⟩)⟩, ⟨by exact Kd.N_mono HO555.out (fun _ hk => ⟨hk.1.1.1.1, ⟨hk.1.1.1.2.2.1, ⟨hk.1.1.1.2.2.2.1, hk.1.1.1.2.2.2.2.1⟩⟩⟩)⟩, ⟨by exact HB.out⟩⟩
                    case rest => as_aux_lemma =>
                      clear HC90
                      obtain ⟨kq, x172_89, rfl, HA, HJ89, HO_0, HO_2, HO_9, HO_15, HO_19, HB⟩ := hcut
                      cases kq with
                      | zero => exact absurd HA.out (by simp [locksteplaw28_CostAdds.j4])
                      | succ kj89 =>
                        have H := HA.out
                        clear HA
                        simp only [locksteplaw28_CostAdds.j4] at H
                        by_cases c116 : x172_89 = true
                        · subst c116
                          have H1 : (some false) = some r := by rw [if_pos rfl] at H; exact H
                          clear H
                          have H := H1
                          clear H1
                          exact absurd (Option.some.inj H) (by rw [HR.out]; simp)
                        · replace c116 := Bool.eq_false_iff.mpr c116
                          subst c116
                          have H1 : ((locksteplaw28_own.f kj89 t485).bind fun t571 => ((cost_Times.f kj89 t571 t524).bind fun bt574 => ((locksteplaw28_own.f kj89 t485).bind fun t578 => ((locksteplaw28_own.f kj89 t491).bind fun t581 => ((cost_Times.f kj89 t578 t581).bind fun bt584 => ((cost_Add.f kj89 t553 bt584.1).bind fun bt588 => ((locksteplaw28_own.f kj89 t485).bind fun t592 => ((cost_Normal.f kj89 t592).bind fun bt595 => (if bt574.2 = 0 then (if bt584.2 = 0 then (if bt588.2 = 0 then ((locksteplaw28_same.f kj89 bt574.1 bt588.1).bind fun t599 => (if t599 = true then (if bt595.2 = 0 then ((cost_Value.f kj89 bt595.1 x9_9).bind fun t600 => ((cost_Value.f kj89 t485 x9_9).bind fun t601 => (some (t600 == t601)))) else (some false)) else (some false))) else (some false)) else (some false)) else (some false)))))))))) = some r := by rw [if_neg (show ¬ (false = true) by decide)] at H; exact H
                          clear H
                          have H := H1
                          clear H1
                          replace H := Option.bind_eq_some_iff.mp H
                          obtain ⟨t571, A1170, H⟩ := H
                          replace H : ((cost_Times.f kj89 t571 t524).bind fun bt574 => ((locksteplaw28_own.f kj89 t485).bind fun t578 => ((locksteplaw28_own.f kj89 t491).bind fun t581 => ((cost_Times.f kj89 t578 t581).bind fun bt584 => ((cost_Add.f kj89 t553 bt584.1).bind fun bt588 => ((locksteplaw28_own.f kj89 t485).bind fun t592 => ((cost_Normal.f kj89 t592).bind fun bt595 => (if bt574.2 = 0 then (if bt584.2 = 0 then (if bt588.2 = 0 then ((locksteplaw28_same.f kj89 bt574.1 bt588.1).bind fun t599 => (if t599 = true then (if bt595.2 = 0 then ((cost_Value.f kj89 bt595.1 x9_9).bind fun t600 => ((cost_Value.f kj89 t485 x9_9).bind fun t601 => (some (t600 == t601)))) else (some false)) else (some false))) else (some false)) else (some false)) else (some false))))))))) = some r := H
                          have A117 := am A1170
                          clear A1170
                          replace H := Option.bind_eq_some_iff.mp H
                          obtain ⟨⟨t574, t577⟩, A1180, H⟩ := H
                          replace H : ((locksteplaw28_own.f kj89 t485).bind fun t578 => ((locksteplaw28_own.f kj89 t491).bind fun t581 => ((cost_Times.f kj89 t578 t581).bind fun bt584 => ((cost_Add.f kj89 t553 bt584.1).bind fun bt588 => ((locksteplaw28_own.f kj89 t485).bind fun t592 => ((cost_Normal.f kj89 t592).bind fun bt595 => (if t577 = 0 then (if bt584.2 = 0 then (if bt588.2 = 0 then ((locksteplaw28_same.f kj89 t574 bt588.1).bind fun t599 => (if t599 = true then (if bt595.2 = 0 then ((cost_Value.f kj89 bt595.1 x9_9).bind fun t600 => ((cost_Value.f kj89 t485 x9_9).bind fun t601 => (some (t600 == t601)))) else (some false)) else (some false))) else (some false)) else (some false)) else (some false)))))))) = some r := H
                          have A118 := am A1180
                          clear A1180
                          replace H := Option.bind_eq_some_iff.mp H
                          obtain ⟨t578, A1190, H⟩ := H
                          replace H : ((locksteplaw28_own.f kj89 t491).bind fun t581 => ((cost_Times.f kj89 t578 t581).bind fun bt584 => ((cost_Add.f kj89 t553 bt584.1).bind fun bt588 => ((locksteplaw28_own.f kj89 t485).bind fun t592 => ((cost_Normal.f kj89 t592).bind fun bt595 => (if t577 = 0 then (if bt584.2 = 0 then (if bt588.2 = 0 then ((locksteplaw28_same.f kj89 t574 bt588.1).bind fun t599 => (if t599 = true then (if bt595.2 = 0 then ((cost_Value.f kj89 bt595.1 x9_9).bind fun t600 => ((cost_Value.f kj89 t485 x9_9).bind fun t601 => (some (t600 == t601)))) else (some false)) else (some false))) else (some false)) else (some false)) else (some false))))))) = some r := H
                          have A119 := am A1190
                          clear A1190
                          replace H := Option.bind_eq_some_iff.mp H
                          obtain ⟨t581, A1200, H⟩ := H
                          replace H : ((cost_Times.f kj89 t578 t581).bind fun bt584 => ((cost_Add.f kj89 t553 bt584.1).bind fun bt588 => ((locksteplaw28_own.f kj89 t485).bind fun t592 => ((cost_Normal.f kj89 t592).bind fun bt595 => (if t577 = 0 then (if bt584.2 = 0 then (if bt588.2 = 0 then ((locksteplaw28_same.f kj89 t574 bt588.1).bind fun t599 => (if t599 = true then (if bt595.2 = 0 then ((cost_Value.f kj89 bt595.1 x9_9).bind fun t600 => ((cost_Value.f kj89 t485 x9_9).bind fun t601 => (some (t600 == t601)))) else (some false)) else (some false))) else (some false)) else (some false)) else (some false)))))) = some r := H
                          have A120 := am A1200
                          clear A1200
                          replace H := Option.bind_eq_some_iff.mp H
                          obtain ⟨⟨t584, t587⟩, A1210, H⟩ := H
                          replace H : ((cost_Add.f kj89 t553 t584).bind fun bt588 => ((locksteplaw28_own.f kj89 t485).bind fun t592 => ((cost_Normal.f kj89 t592).bind fun bt595 => (if t577 = 0 then (if t587 = 0 then (if bt588.2 = 0 then ((locksteplaw28_same.f kj89 t574 bt588.1).bind fun t599 => (if t599 = true then (if bt595.2 = 0 then ((cost_Value.f kj89 bt595.1 x9_9).bind fun t600 => ((cost_Value.f kj89 t485 x9_9).bind fun t601 => (some (t600 == t601)))) else (some false)) else (some false))) else (some false)) else (some false)) else (some false))))) = some r := H
                          have A121 := am A1210
                          clear A1210
                          replace H := Option.bind_eq_some_iff.mp H
                          obtain ⟨⟨t588, t591⟩, A1220, H⟩ := H
                          replace H : ((locksteplaw28_own.f kj89 t485).bind fun t592 => ((cost_Normal.f kj89 t592).bind fun bt595 => (if t577 = 0 then (if t587 = 0 then (if t591 = 0 then ((locksteplaw28_same.f kj89 t574 t588).bind fun t599 => (if t599 = true then (if bt595.2 = 0 then ((cost_Value.f kj89 bt595.1 x9_9).bind fun t600 => ((cost_Value.f kj89 t485 x9_9).bind fun t601 => (some (t600 == t601)))) else (some false)) else (some false))) else (some false)) else (some false)) else (some false)))) = some r := H
                          have A122 := am A1220
                          clear A1220
                          replace H := Option.bind_eq_some_iff.mp H
                          obtain ⟨t592, A1230, H⟩ := H
                          replace H : ((cost_Normal.f kj89 t592).bind fun bt595 => (if t577 = 0 then (if t587 = 0 then (if t591 = 0 then ((locksteplaw28_same.f kj89 t574 t588).bind fun t599 => (if t599 = true then (if bt595.2 = 0 then ((cost_Value.f kj89 bt595.1 x9_9).bind fun t600 => ((cost_Value.f kj89 t485 x9_9).bind fun t601 => (some (t600 == t601)))) else (some false)) else (some false))) else (some false)) else (some false)) else (some false))) = some r := H
                          have A123 := am A1230
                          clear A1230
                          replace H := Option.bind_eq_some_iff.mp H
                          obtain ⟨⟨t595, t598⟩, A1240, H⟩ := H
                          replace H : (if t577 = 0 then (if t587 = 0 then (if t591 = 0 then ((locksteplaw28_same.f kj89 t574 t588).bind fun t599 => (if t599 = true then (if t598 = 0 then ((cost_Value.f kj89 t595 x9_9).bind fun t600 => ((cost_Value.f kj89 t485 x9_9).bind fun t601 => (some (t600 == t601)))) else (some false)) else (some false))) else (some false)) else (some false)) else (some false)) = some r := H
                          have A124 := am A1240
                          clear A1240
                          by_cases c125 : t577 = 0
                          · rw [if_pos c125] at H
                            have c125b0 : (t577 == 0) = true := beq_iff_eq.mpr c125
                            have c125b1 : (t577 != 0) = false := bne_eq_false_iff_eq.mpr c125
                            clear c125
                            by_cases c126 : t587 = 0
                            · rw [if_pos c126] at H
                              have c126b0 : (t587 == 0) = true := beq_iff_eq.mpr c126
                              have c126b1 : (t587 != 0) = false := bne_eq_false_iff_eq.mpr c126
                              clear c126
                              by_cases c127 : t591 = 0
                              · rw [if_pos c127] at H
                                have c127b0 : (t591 == 0) = true := beq_iff_eq.mpr c127
                                have c127b1 : (t591 != 0) = false := bne_eq_false_iff_eq.mpr c127
                                clear c127
                                replace H := Option.bind_eq_some_iff.mp H
                                obtain ⟨t599, A1280, H⟩ := H
                                replace H : (if t599 = true then (if t598 = 0 then ((cost_Value.f kj89 t595 x9_9).bind fun t600 => ((cost_Value.f kj89 t485 x9_9).bind fun t601 => (some (t600 == t601)))) else (some false)) else (some false)) = some r := H
                                have A128 := am A1280
                                clear A1280
                                by_cases c129 : t599 = true
                                · subst c129
                                  have H1 : (if t598 = 0 then ((cost_Value.f kj89 t595 x9_9).bind fun t600 => ((cost_Value.f kj89 t485 x9_9).bind fun t601 => (some (t600 == t601)))) else (some false)) = some r := by rw [if_pos rfl] at H; exact H
                                  clear H
                                  have H := H1
                                  clear H1
                                  by_cases c130 : t598 = 0
                                  · rw [if_pos c130] at H
                                    have c130b0 : (t598 == 0) = true := beq_iff_eq.mpr c130
                                    have c130b1 : (t598 != 0) = false := bne_eq_false_iff_eq.mpr c130
                                    clear c130
                                    replace H := Option.bind_eq_some_iff.mp H
                                    obtain ⟨t600, A1310, H⟩ := H
                                    replace H : ((cost_Value.f kj89 t485 x9_9).bind fun t601 => (some (t600 == t601))) = some r := H
                                    have A131 := am A1310
                                    clear A1310
                                    replace H := Option.bind_eq_some_iff.mp H
                                    obtain ⟨t601, A1320, H⟩ := H
                                    replace H : (some (t600 == t601)) = some r := H
                                    have A132 := am A1320
                                    clear A1320
                                    obtain rfl := Option.some.inj H
                                    go_wp2_with (first | ((with_reducible refine gate_callee (f := 9) rfl ?_); refine goesL_ (some 175) rfl rfl Try.func9 (by kernel_rfl) rfl #[.slice Ao30 t485.length co30] rfl (by (try simp only [List.map_toArray, List.map_cons, List.map_nil]); rfl) ?_; (with_reducible refine (locksteplaw28_own.calls kj89 _ _ t485 t571 _ ?side1 ?side2 A117.out).mono ?_); (case side1 => exact (Kd.N_reads' HO_0.out).2.2); (case side2 => exact (Kd.N_reads' HO_0.out).2.1); rintro e w133 ⟨v572, rfl, ho0, hb⟩; refine ⟨_, rfl, ?_⟩; have HO573 := am (Kd.N_lower (Kd.N_mono (ok' := fun k_ => some k_ ≠ (.slice Ao30 t485.length co30 : Value).ownBlock ∧ some k_ ≠ (.slice Ao43 t491.length co43 : Value).ownBlock ∧ some k_ ≠ (u9 : Value).ownBlock ∧ some k_ ≠ (.slice Ao76 t524.length co76 : Value).ownBlock ∧ some k_ ≠ (v554 : Value).ownBlock) (Kd.R_N (Kd.R_bound ho0)) (fun k_ hk_ => ⟨(Kd.fresh' (Kd.N_lt HO_0.out) k_ hk_.2.1), (Kd.fresh' (Kd.N_lt HO_2.out) k_ hk_.2.1), (Kd.fresh' (Kd.R_lt HO_9.out) k_ hk_.2.1), (Kd.fresh' (Kd.N_lt HO_15.out) k_ hk_.2.1), (Kd.fresh' (Kd.N_lt HO_19.out) k_ hk_.2.1)⟩)) (below_size HB.out)); replace HO_0 := am (Kd.N_elder' HO_0.out (Kd.R_base ho0) hb); replace HO_2 := am (Kd.N_elder' HO_2.out (Kd.R_base ho0) hb); replace HO_9 := am (Kd.R_below HO_9.out hb); replace HO_15 := am (Kd.N_elder' HO_15.out (Kd.R_base ho0) hb); replace HO_19 := am (Kd.N_elder' HO_19.out (Kd.R_base ho0) hb); replace HB := am (below_step HB.out hb); (try clear hb); (try clear ho0); obtain ⟨Ao134, co134, eo134⟩ := Kd.N_slice HO573.out; subst eo134) | ((with_reducible refine gate_callee (f := 14) rfl ?_); refine goesL_ (some 177) rfl rfl Try.func14 (by kernel_rfl) rfl #[.slice Ao134 t571.length co134, .slice Ao76 t524.length co76] rfl (by (try simp only [List.map_toArray, List.map_cons, List.map_nil]); rfl) ?_; (with_reducible refine (cost_Times.calls kj89 _ _ t571 _ _ t524 t574 t577 _ ?side1 ?side2 ?side3 ?side4 A118.out).mono ?_); (case side1 => exact (Kd.N_reads' HO573.out).2.2); (case side2 => exact (Kd.N_reads' HO573.out).2.1); (case side3 => exact (Kd.N_reads' HO_15.out).2.2); (case side4 => exact (Kd.N_reads' HO_15.out).2.1); rintro e w135 ⟨v575, rfl, ho0, hb⟩; refine ⟨_, rfl, ?_⟩; have HO576 := am (Kd.N_lower (Kd.N_mono (ok' := fun k_ => some k_ ≠ (.slice Ao30 t485.length co30 : Value).ownBlock ∧ some k_ ≠ (.slice Ao43 t491.length co43 : Value).ownBlock ∧ some k_ ≠ (u9 : Value).ownBlock ∧ some k_ ≠ (.slice Ao76 t524.length co76 : Value).ownBlock ∧ some k_ ≠ (v554 : Value).ownBlock ∧ some k_ ≠ (.slice Ao134 t571.length co134 : Value).ownBlock) ho0 (fun k_ hk_ => ⟨(Kd.fresh' (Kd.N_lt HO_0.out) k_ hk_), (Kd.fresh' (Kd.N_lt HO_2.out) k_ hk_), (Kd.fresh' (Kd.R_lt HO_9.out) k_ hk_), (Kd.fresh' (Kd.N_lt HO_15.out) k_ hk_), (Kd.fresh' (Kd.N_lt HO_19.out) k_ hk_), (Kd.fresh' (Kd.N_lt HO573.out) k_ hk_)⟩)) (below_size HB.out)); replace HO_0 := am (Kd.N_elder' HO_0.out (Kd.N_base ho0) hb); replace HO_2 := am (Kd.N_elder' HO_2.out (Kd.N_base ho0) hb); replace HO_9 := am (Kd.R_below HO_9.out hb); replace HO_15 := am (Kd.N_elder' HO_15.out (Kd.N_base ho0) hb); replace HO_19 := am (Kd.N_elder' HO_19.out (Kd.N_base ho0) hb); replace HO573 := am (Kd.N_elder' HO573.out (Kd.N_base ho0) hb); replace HB := am (below_step HB.out hb); (try clear hb); (try clear ho0)) | ((with_reducible refine gate_callee (f := 9) rfl ?_); refine goesL_ (some 182) rfl rfl Try.func9 (by kernel_rfl) rfl #[.slice Ao30 t485.length co30] rfl (by (try simp only [List.map_toArray, List.map_cons, List.map_nil]); rfl) ?_; (with_reducible refine (locksteplaw28_own.calls kj89 _ _ t485 t578 _ ?side1 ?side2 A119.out).mono ?_); (case side1 => exact (Kd.N_reads' HO_0.out).2.2); (case side2 => exact (Kd.N_reads' HO_0.out).2.1); rintro e w136 ⟨v579, rfl, ho0, hb⟩; refine ⟨_, rfl, ?_⟩; have HO580 := am (Kd.N_lower (Kd.N_mono (ok' := fun k_ => some k_ ≠ (.slice Ao30 t485.length co30 : Value).ownBlock ∧ some k_ ≠ (.slice Ao43 t491.length co43 : Value).ownBlock ∧ some k_ ≠ (u9 : Value).ownBlock ∧ some k_ ≠ (.slice Ao76 t524.length co76 : Value).ownBlock ∧ some k_ ≠ (v554 : Value).ownBlock ∧ some k_ ≠ (.slice Ao134 t571.length co134 : Value).ownBlock ∧ some k_ ≠ (v575 : Value).ownBlock) (Kd.R_N (Kd.R_bound ho0)) (fun k_ hk_ => ⟨(Kd.fresh' (Kd.N_lt HO_0.out) k_ hk_.2.1), (Kd.fresh' (Kd.N_lt HO_2.out) k_ hk_.2.1), (Kd.fresh' (Kd.R_lt HO_9.out) k_ hk_.2.1), (Kd.fresh' (Kd.N_lt HO_15.out) k_ hk_.2.1), (Kd.fresh' (Kd.N_lt HO_19.out) k_ hk_.2.1), (Kd.fresh' (Kd.N_lt HO573.out) k_ hk_.2.1), (Kd.fresh' (Kd.N_lt HO576.out) k_ hk_.2.1)⟩)) (below_size HB.out)); replace HO_0 := am (Kd.N_elder' HO_0.out (Kd.R_base ho0) hb); replace HO_2 := am (Kd.N_elder' HO_2.out (Kd.R_base ho0) hb); replace HO_9 := am (Kd.R_below HO_9.out hb); replace HO_15 := am (Kd.N_elder' HO_15.out (Kd.R_base ho0) hb); replace HO_19 := am (Kd.N_elder' HO_19.out (Kd.R_base ho0) hb); replace HO573 := am (Kd.N_elder' HO573.out (Kd.R_base ho0) hb); replace HO576 := am (Kd.N_elder' HO576.out (Kd.R_base ho0) hb); replace HB := am (below_step HB.out hb); (try clear hb); (try clear ho0)) | ((with_reducible refine gate_callee (f := 9) rfl ?_); refine goesL_ (some 184) rfl rfl Try.func9 (by kernel_rfl) rfl #[.slice Ao43 t491.length co43] rfl (by (try simp only [List.map_toArray, List.map_cons, List.map_nil]); rfl) ?_; (with_reducible refine (locksteplaw28_own.calls kj89 _ _ t491 t581 _ ?side1 ?side2 A120.out).mono ?_); (case side1 => exact (Kd.N_reads' HO_2.out).2.2); (case side2 => exact (Kd.N_reads' HO_2.out).2.1); rintro e w137 ⟨v582, rfl, ho0, hb⟩; refine ⟨_, rfl, ?_⟩; have HO583 := am (Kd.N_lower (Kd.N_mono (ok' := fun k_ => some k_ ≠ (.slice Ao30 t485.length co30 : Value).ownBlock ∧ some k_ ≠ (.slice Ao43 t491.length co43 : Value).ownBlock ∧ some k_ ≠ (u9 : Value).ownBlock ∧ some k_ ≠ (.slice Ao76 t524.length co76 : Value).ownBlock ∧ some k_ ≠ (v554 : Value).ownBlock ∧ some k_ ≠ (.slice Ao134 t571.length co134 : Value).ownBlock ∧ some k_ ≠ (v575 : Value).ownBlock ∧ some k_ ≠ (v579 : Value).ownBlock) (Kd.R_N (Kd.R_bound ho0)) (fun k_ hk_ => ⟨(Kd.fresh' (Kd.N_lt HO_0.out) k_ hk_.2.1), (Kd.fresh' (Kd.N_lt HO_2.out) k_ hk_.2.1), (Kd.fresh' (Kd.R_lt HO_9.out) k_ hk_.2.1), (Kd.fresh' (Kd.N_lt HO_15.out) k_ hk_.2.1), (Kd.fresh' (Kd.N_lt HO_19.out) k_ hk_.2.1), (Kd.fresh' (Kd.N_lt HO573.out) k_ hk_.2.1), (Kd.fresh' (Kd.N_lt HO576.out) k_ hk_.2.1), (Kd.fresh' (Kd.N_lt HO580.out) k_ hk_.2.1)⟩)) (below_size HB.out)); replace HO_0 := am (Kd.N_elder' HO_0.out (Kd.R_base ho0) hb); replace HO_2 := am (Kd.N_elder' HO_2.out (Kd.R_base ho0) hb); replace HO_9 := am (Kd.R_below HO_9.out hb); replace HO_15 := am (Kd.N_elder' HO_15.out (Kd.R_base ho0) hb); replace HO_19 := am (Kd.N_elder' HO_19.out (Kd.R_base ho0) hb); replace HO573 := am (Kd.N_elder' HO573.out (Kd.R_base ho0) hb); replace HO576 := am (Kd.N_elder' HO576.out (Kd.R_base ho0) hb); replace HO580 := am (Kd.N_elder' HO580.out (Kd.R_base ho0) hb); replace HB := am (below_step HB.out hb); (try clear hb); (try clear ho0); obtain ⟨Ao138, co138, eo138⟩ := Kd.N_slice HO580.out; subst eo138; obtain ⟨Ao139, co139, eo139⟩ := Kd.N_slice HO583.out; subst eo139) | ((with_reducible refine gate_callee (f := 14) rfl ?_); refine goesL_ (some 185) rfl rfl Try.func14 (by kernel_rfl) rfl #[.slice Ao138 t578.length co138, .slice Ao139 t581.length co139] rfl (by (try simp only [List.map_toArray, List.map_cons, List.map_nil]); rfl) ?_; (with_reducible refine (cost_Times.calls kj89 _ _ t578 _ _ t581 t584 t587 _ ?side1 ?side2 ?side3 ?side4 A121.out).mono ?_); (case side1 => exact (Kd.N_reads' HO580.out).2.2); (case side2 => exact (Kd.N_reads' HO580.out).2.1); (case side3 => exact (Kd.N_reads' HO583.out).2.2); (case side4 => exact (Kd.N_reads' HO583.out).2.1); rintro e w140 ⟨v585, rfl, ho0, hb⟩; refine ⟨_, rfl, ?_⟩; have HO586 := am (Kd.N_lower (Kd.N_mono (ok' := fun k_ => some k_ ≠ (.slice Ao30 t485.length co30 : Value).ownBlock ∧ some k_ ≠ (.slice Ao43 t491.length co43 : Value).ownBlock ∧ some k_ ≠ (u9 : Value).ownBlock ∧ some k_ ≠ (.slice Ao76 t524.length co76 : Value).ownBlock ∧ some k_ ≠ (v554 : Value).ownBlock ∧ some k_ ≠ (.slice Ao134 t571.length co134 : Value).ownBlock ∧ some k_ ≠ (v575 : Value).ownBlock ∧ some k_ ≠ (.slice Ao138 t578.length co138 : Value).ownBlock ∧ some k_ ≠ (.slice Ao139 t581.length co139 : Value).ownBlock) ho0 (fun k_ hk_ => ⟨(Kd.fresh' (Kd.N_lt HO_0.out) k_ hk_), (Kd.fresh' (Kd.N_lt HO_2.out) k_ hk_), (Kd.fresh' (Kd.R_lt HO_9.out) k_ hk_), (Kd.fresh' (Kd.N_lt HO_15.out) k_ hk_), (Kd.fresh' (Kd.N_lt HO_19.out) k_ hk_), (Kd.fresh' (Kd.N_lt HO573.out) k_ hk_), (Kd.fresh' (Kd.N_lt HO576.out) k_ hk_), (Kd.fresh' (Kd.N_lt HO580.out) k_ hk_), (Kd.fresh' (Kd.N_lt HO583.out) k_ hk_)⟩)) (below_size HB.out)); replace HO_0 := am (Kd.N_elder' HO_0.out (Kd.N_base ho0) hb); replace HO_2 := am (Kd.N_elder' HO_2.out (Kd.N_base ho0) hb); replace HO_9 := am (Kd.R_below HO_9.out hb); replace HO_15 := am (Kd.N_elder' HO_15.out (Kd.N_base ho0) hb); replace HO_19 := am (Kd.N_elder' HO_19.out (Kd.N_base ho0) hb); replace HO573 := am (Kd.N_elder' HO573.out (Kd.N_base ho0) hb); replace HO576 := am (Kd.N_elder' HO576.out (Kd.N_base ho0) hb); replace HO580 := am (Kd.N_elder' HO580.out (Kd.N_base ho0) hb); replace HO583 := am (Kd.N_elder' HO583.out (Kd.N_base ho0) hb); replace HB := am (below_step HB.out hb); (try clear hb); (try clear ho0); obtain ⟨Ao141, co141, eo141⟩ := Kd.N_slice HO_19.out; subst eo141; obtain ⟨Ao142, co142, eo142⟩ := Kd.N_slice HO586.out; subst eo142) | ((with_reducible refine gate_callee (f := 12) rfl ?_); refine goesL_ (some 191) rfl rfl Try.func12 (by kernel_rfl) rfl #[.slice Ao141 t553.length co141, .slice Ao142 t584.length co142] rfl (by (try simp only [List.map_toArray, List.map_cons, List.map_nil]); rfl) ?_; (with_reducible refine (cost_Add.calls kj89 (fun k_ => ((((((some k_ ≠ (.slice Ao30 t485.length co30 : Value).ownBlock ∧ (some k_ ≠ (.slice Ao43 t491.length co43 : Value).ownBlock ∧ (some k_ ≠ (u9 : Value).ownBlock ∧ some k_ ≠ (.slice Ao76 t524.length co76 : Value).ownBlock))) ∧ some k_ ≠ (.slice Ao134 t571.length co134 : Value).ownBlock) ∧ some k_ ≠ (v575 : Value).ownBlock) ∧ some k_ ≠ (.slice Ao138 t578.length co138 : Value).ownBlock) ∧ some k_ ≠ (.slice Ao139 t581.length co139 : Value).ownBlock) ∧ some k_ ≠ (.slice Ao142 t584.length co142 : Value).ownBlock)) _ _ t553 (fun k_ => (some k_ ≠ (.slice Ao30 t485.length co30 : Value).ownBlock ∧ (some k_ ≠ (.slice Ao43 t491.length co43 : Value).ownBlock ∧ (some k_ ≠ (u9 : Value).ownBlock ∧ (some k_ ≠ (.slice Ao76 t524.length co76 : Value).ownBlock ∧ (some k_ ≠ (.slice Ao141 t553.length co141 : Value).ownBlock ∧ (some k_ ≠ (.slice Ao134 t571.length co134 : Value).ownBlock ∧ (some k_ ≠ (v575 : Value).ownBlock ∧ (some k_ ≠ (.slice Ao138 t578.length co138 : Value).ownBlock ∧ some k_ ≠ (.slice Ao139 t581.length co139 : Value).ownBlock))))))))) _ _ t584 t588 t591 _ ?side1 ?side2 A122.out).mono ?_); (case side1 => exact Kd.N_V (HO_19.out)); (case side2 => exact Kd.N_V (HO586.out)); rintro e w143 ⟨v589, rfl, ho0, hb⟩; refine ⟨_, rfl, ?_⟩; replace HO_19 := am (Kd.N_elder' HO_19.out (Kd.N_base ho0) hb); replace HO586 := am (Kd.N_elder' HO586.out (Kd.N_base ho0) hb); have HO590 := am (Kd.N_lower (Kd.N_mono (ok' := fun k_ => some k_ ≠ (.slice Ao30 t485.length co30 : Value).ownBlock ∧ some k_ ≠ (.slice Ao43 t491.length co43 : Value).ownBlock ∧ some k_ ≠ (u9 : Value).ownBlock ∧ some k_ ≠ (.slice Ao76 t524.length co76 : Value).ownBlock ∧ some k_ ≠ (.slice Ao134 t571.length co134 : Value).ownBlock ∧ some k_ ≠ (v575 : Value).ownBlock ∧ some k_ ≠ (.slice Ao138 t578.length co138 : Value).ownBlock ∧ some k_ ≠ (.slice Ao139 t581.length co139 : Value).ownBlock) ho0 (fun k_ hk_ => ⟨Or.elim hk_ (fun hs_ => Or.elim hs_ (fun hs_ => hs_.1.1.1.1.1.1) (fun hs_ => hs_.1)) (fun hn_ => (Kd.fresh' (Kd.N_lt HO_0.out) k_ hn_)), Or.elim hk_ (fun hs_ => Or.elim hs_ (fun hs_ => hs_.1.1.1.1.1.2.1) (fun hs_ => hs_.2.1)) (fun hn_ => (Kd.fresh' (Kd.N_lt HO_2.out) k_ hn_)), Or.elim hk_ (fun hs_ => Or.elim hs_ (fun hs_ => hs_.1.1.1.1.1.2.2.1) (fun hs_ => hs_.2.2.1)) (fun hn_ => (Kd.fresh' (Kd.R_lt HO_9.out) k_ hn_)), Or.elim hk_ (fun hs_ => Or.elim hs_ (fun hs_ => hs_.1.1.1.1.1.2.2.2) (fun hs_ => hs_.2.2.2.1)) (fun hn_ => (Kd.fresh' (Kd.N_lt HO_15.out) k_ hn_)), Or.elim hk_ (fun hs_ => Or.elim hs_ (fun hs_ => hs_.1.1.1.1.2) (fun hs_ => hs_.2.2.2.2.2.1)) (fun hn_ => (Kd.fresh' (Kd.N_lt HO573.out) k_ hn_)), Or.elim hk_ (fun hs_ => Or.elim hs_ (fun hs_ => hs_.1.1.1.2) (fun hs_ => hs_.2.2.2.2.2.2.1)) (fun hn_ => (Kd.fresh' (Kd.N_lt HO576.out) k_ hn_)), Or.elim hk_ (fun hs_ => Or.elim hs_ (fun hs_ => hs_.1.1.2) (fun hs_ => hs_.2.2.2.2.2.2.2.1)) (fun hn_ => (Kd.fresh' (Kd.N_lt HO580.out) k_ hn_)), Or.elim hk_ (fun hs_ => Or.elim hs_ (fun hs_ => hs_.1.2) (fun hs_ => hs_.2.2.2.2.2.2.2.2)) (fun hn_ => (Kd.fresh' (Kd.N_lt HO583.out) k_ hn_))⟩)) (below_size HB.out)); replace HO_0 := am (Kd.N_elder' HO_0.out (Kd.N_base ho0) hb); replace HO_2 := am (Kd.N_elder' HO_2.out (Kd.N_base ho0) hb); replace HO_9 := am (Kd.R_below HO_9.out hb); replace HO_15 := am (Kd.N_elder' HO_15.out (Kd.N_base ho0) hb); replace HO573 := am (Kd.N_elder' HO573.out (Kd.N_base ho0) hb); replace HO576 := am (Kd.N_elder' HO576.out (Kd.N_base ho0) hb); replace HO580 := am (Kd.N_elder' HO580.out (Kd.N_base ho0) hb); replace HO583 := am (Kd.N_elder' HO583.out (Kd.N_base ho0) hb); replace HB := am (below_step HB.out hb); (try clear hb); (try clear ho0)) | ((with_reducible refine gate_callee (f := 9) rfl ?_); refine goesL_ (some 196) rfl rfl Try.func9 (by kernel_rfl) rfl #[.slice Ao30 t485.length co30] rfl (by (try simp only [List.map_toArray, List.map_cons, List.map_nil]); rfl) ?_; (with_reducible refine (locksteplaw28_own.calls kj89 _ _ t485 t592 _ ?side1 ?side2 A123.out).mono ?_); (case side1 => exact (Kd.N_reads' HO_0.out).2.2); (case side2 => exact (Kd.N_reads' HO_0.out).2.1); rintro e w144 ⟨v593, rfl, ho0, hb⟩; refine ⟨_, rfl, ?_⟩; have HO594 := am (Kd.N_lower (Kd.N_mono (ok' := fun k_ => some k_ ≠ (.slice Ao30 t485.length co30 : Value).ownBlock ∧ some k_ ≠ (.slice Ao43 t491.length co43 : Value).ownBlock ∧ some k_ ≠ (u9 : Value).ownBlock ∧ some k_ ≠ (.slice Ao76 t524.length co76 : Value).ownBlock ∧ some k_ ≠ (.slice Ao141 t553.length co141 : Value).ownBlock ∧ some k_ ≠ (.slice Ao134 t571.length co134 : Value).ownBlock ∧ some k_ ≠ (v575 : Value).ownBlock ∧ some k_ ≠ (.slice Ao138 t578.length co138 : Value).ownBlock ∧ some k_ ≠ (.slice Ao139 t581.length co139 : Value).ownBlock ∧ some k_ ≠ (.slice Ao142 t584.length co142 : Value).ownBlock ∧ some k_ ≠ (v589 : Value).ownBlock) (Kd.R_N (Kd.R_bound ho0)) (fun k_ hk_ => ⟨(Kd.fresh' (Kd.N_lt HO_0.out) k_ hk_.2.1), (Kd.fresh' (Kd.N_lt HO_2.out) k_ hk_.2.1), (Kd.fresh' (Kd.R_lt HO_9.out) k_ hk_.2.1), (Kd.fresh' (Kd.N_lt HO_15.out) k_ hk_.2.1), (Kd.fresh' (Kd.N_lt HO_19.out) k_ hk_.2.1), (Kd.fresh' (Kd.N_lt HO573.out) k_ hk_.2.1), (Kd.fresh' (Kd.N_lt HO576.out) k_ hk_.2.1), (Kd.fresh' (Kd.N_lt HO580.out) k_ hk_.2.1), (Kd.fresh' (Kd.N_lt HO583.out) k_ hk_.2.1), (Kd.fresh' (Kd.N_lt HO586.out) k_ hk_.2.1), (Kd.fresh' (Kd.N_lt HO590.out) k_ hk_.2.1)⟩)) (below_size HB.out)); replace HO_0 := am (Kd.N_elder' HO_0.out (Kd.R_base ho0) hb); replace HO_2 := am (Kd.N_elder' HO_2.out (Kd.R_base ho0) hb); replace HO_9 := am (Kd.R_below HO_9.out hb); replace HO_15 := am (Kd.N_elder' HO_15.out (Kd.R_base ho0) hb); replace HO_19 := am (Kd.N_elder' HO_19.out (Kd.R_base ho0) hb); replace HO573 := am (Kd.N_elder' HO573.out (Kd.R_base ho0) hb); replace HO576 := am (Kd.N_elder' HO576.out (Kd.R_base ho0) hb); replace HO580 := am (Kd.N_elder' HO580.out (Kd.R_base ho0) hb); replace HO583 := am (Kd.N_elder' HO583.out (Kd.R_base ho0) hb); replace HO586 := am (Kd.N_elder' HO586.out (Kd.R_base ho0) hb); replace HO590 := am (Kd.N_elder' HO590.out (Kd.R_base ho0) hb); replace HB := am (below_step HB.out hb); (try clear hb); (try clear ho0); obtain ⟨Ao145, co145, eo145⟩ := Kd.N_slice HO594.out; subst eo145) | ((with_reducible refine gate_callee (f := 10) rfl ?_); refine goesL_ (some 197) rfl rfl Try.func10 (by kernel_rfl) rfl #[.slice Ao145 t592.length co145] rfl (by (try simp only [List.map_toArray, List.map_cons, List.map_nil]); rfl) ?_; (with_reducible refine (cost_Normal.calls kj89 _ _ t592 t595 t598 _ ?side1 ?side2 A124.out).mono ?_); (case side1 => exact (Kd.N_reads' HO594.out).2.2); (case side2 => exact (Kd.N_reads' HO594.out).2.1); rintro e w146 ⟨v596, rfl, ho0, hb⟩; refine ⟨_, rfl, ?_⟩; have HO597 := am (Kd.N_lower (Kd.N_mono (ok' := fun k_ => some k_ ≠ (.slice Ao30 t485.length co30 : Value).ownBlock ∧ some k_ ≠ (.slice Ao43 t491.length co43 : Value).ownBlock ∧ some k_ ≠ (u9 : Value).ownBlock ∧ some k_ ≠ (.slice Ao76 t524.length co76 : Value).ownBlock ∧ some k_ ≠ (.slice Ao141 t553.length co141 : Value).ownBlock ∧ some k_ ≠ (.slice Ao134 t571.length co134 : Value).ownBlock ∧ some k_ ≠ (v575 : Value).ownBlock ∧ some k_ ≠ (.slice Ao138 t578.length co138 : Value).ownBlock ∧ some k_ ≠ (.slice Ao139 t581.length co139 : Value).ownBlock ∧ some k_ ≠ (.slice Ao142 t584.length co142 : Value).ownBlock ∧ some k_ ≠ (v589 : Value).ownBlock ∧ some k_ ≠ (.slice Ao145 t592.length co145 : Value).ownBlock) ho0 (fun k_ hk_ => ⟨(Kd.fresh' (Kd.N_lt HO_0.out) k_ hk_), (Kd.fresh' (Kd.N_lt HO_2.out) k_ hk_), (Kd.fresh' (Kd.R_lt HO_9.out) k_ hk_), (Kd.fresh' (Kd.N_lt HO_15.out) k_ hk_), (Kd.fresh' (Kd.N_lt HO_19.out) k_ hk_), (Kd.fresh' (Kd.N_lt HO573.out) k_ hk_), (Kd.fresh' (Kd.N_lt HO576.out) k_ hk_), (Kd.fresh' (Kd.N_lt HO580.out) k_ hk_), (Kd.fresh' (Kd.N_lt HO583.out) k_ hk_), (Kd.fresh' (Kd.N_lt HO586.out) k_ hk_), (Kd.fresh' (Kd.N_lt HO590.out) k_ hk_), (Kd.fresh' (Kd.N_lt HO594.out) k_ hk_)⟩)) (below_size HB.out)); replace HO_0 := am (Kd.N_elder' HO_0.out (Kd.N_base ho0) hb); replace HO_2 := am (Kd.N_elder' HO_2.out (Kd.N_base ho0) hb); replace HO_9 := am (Kd.R_below HO_9.out hb); replace HO_15 := am (Kd.N_elder' HO_15.out (Kd.N_base ho0) hb); replace HO_19 := am (Kd.N_elder' HO_19.out (Kd.N_base ho0) hb); replace HO573 := am (Kd.N_elder' HO573.out (Kd.N_base ho0) hb); replace HO576 := am (Kd.N_elder' HO576.out (Kd.N_base ho0) hb); replace HO580 := am (Kd.N_elder' HO580.out (Kd.N_base ho0) hb); replace HO583 := am (Kd.N_elder' HO583.out (Kd.N_base ho0) hb); replace HO586 := am (Kd.N_elder' HO586.out (Kd.N_base ho0) hb); replace HO590 := am (Kd.N_elder' HO590.out (Kd.N_base ho0) hb); replace HO594 := am (Kd.N_elder' HO594.out (Kd.N_base ho0) hb); replace HB := am (below_step HB.out hb); (try clear hb); (try clear ho0); obtain ⟨Ao147, co147, eo147⟩ := Kd.N_slice HO576.out; subst eo147; obtain ⟨Ao148, co148, eo148⟩ := Kd.N_slice HO590.out; subst eo148) | (go_at_call 17; (with_reducible refine (locksteplaw28_same.calls kj89 _ _ t574 _ _ t588 true _ ?side1 ?side2 ?side3 ?side4 A128.out).mono ?_); (case side1 => exact (Kd.N_reads' HO576.out).2.2); (case side2 => exact (Kd.N_reads' HO576.out).2.1); (case side3 => exact (Kd.N_reads' HO590.out).2.2); (case side4 => exact (Kd.N_reads' HO590.out).2.1); rintro e w' ⟨rfl, ⟨nd, rfl⟩⟩; obtain ⟨Ao149, co149, eo149⟩ := Kd.N_slice HO597.out; subst eo149; obtain ⟨Ao150, co150, eo150⟩ := Kd.R_slice HO_9.out; subst eo150) | (go_at_call 7; (with_reducible refine (cost_Value.calls kj89 _ _ t595 _ _ x9_9 t600 _ ?side1 ?side2 ?side3 ?side4 A131.out).mono ?_); (case side1 => exact (Kd.N_reads' HO597.out).2.2); (case side2 => exact (Kd.N_reads' HO597.out).2.1); (case side3 => exact (Kd.R_reads' HO_9.out).2.2); (case side4 => exact (Kd.R_reads' HO_9.out).2.1); rintro e w151 ⟨rfl, hb⟩; replace HO_0 := am (Kd.N_below (by (with_reducible repeat (apply Kd.N_drewN)); exact HO_0.out) hb); replace HO_2 := am (Kd.N_below (by (with_reducible repeat (apply Kd.N_drewN)); exact HO_2.out) hb); replace HO_9 := am (Kd.R_below (by (with_reducible repeat (apply Kd.R_drewN)); exact HO_9.out) hb); replace HO_15 := am (Kd.N_below (by (with_reducible repeat (apply Kd.N_drewN)); exact HO_15.out) hb); replace HO_19 := am (Kd.N_below (by (with_reducible repeat (apply Kd.N_drewN)); exact HO_19.out) hb); replace HO573 := am (Kd.N_below (by (with_reducible repeat (apply Kd.N_drewN)); exact HO573.out) hb); replace HO576 := am (Kd.N_below (by (with_reducible repeat (apply Kd.N_drewN)); exact HO576.out) hb); replace HO580 := am (Kd.N_below (by (with_reducible repeat (apply Kd.N_drewN)); exact HO580.out) hb); replace HO583 := am (Kd.N_below (by (with_reducible repeat (apply Kd.N_drewN)); exact HO583.out) hb); replace HO586 := am (Kd.N_below (by (with_reducible repeat (apply Kd.N_drewN)); exact HO586.out) hb); replace HO590 := am (Kd.N_below (by (with_reducible repeat (apply Kd.N_drewN)); exact HO590.out) hb); replace HO594 := am (Kd.N_below (by (with_reducible repeat (apply Kd.N_drewN)); exact HO594.out) hb); replace HO597 := am (Kd.N_below (by (with_reducible repeat (apply Kd.N_drewN)); exact HO597.out) hb); replace HB := am (below_step (by repeat ((with_reducible first | exact HB.out | apply pw_below_drewN))) hb); (try clear hb)) | (go_at_call 7; (with_reducible refine (cost_Value.calls kj89 _ _ t485 _ _ x9_9 t601 _ ?side1 ?side2 ?side3 ?side4 A132.out).mono ?_); (case side1 => exact (Kd.N_reads' HO_0.out).2.2); (case side2 => exact (Kd.N_reads' HO_0.out).2.1); (case side3 => exact (Kd.R_reads' HO_9.out).2.2); (case side4 => exact (Kd.R_reads' HO_9.out).2.1); rintro e w152 ⟨rfl, hb⟩; replace HO_0 := am (Kd.N_below HO_0.out hb); replace HO_2 := am (Kd.N_below HO_2.out hb); replace HO_9 := am (Kd.R_below HO_9.out hb); replace HO_15 := am (Kd.N_below HO_15.out hb); replace HO_19 := am (Kd.N_below HO_19.out hb); replace HO573 := am (Kd.N_below HO573.out hb); replace HO576 := am (Kd.N_below HO576.out hb); replace HO580 := am (Kd.N_below HO580.out hb); replace HO583 := am (Kd.N_below HO583.out hb); replace HO586 := am (Kd.N_below HO586.out hb); replace HO590 := am (Kd.N_below HO590.out hb); replace HO594 := am (Kd.N_below HO594.out hb); replace HO597 := am (Kd.N_below HO597.out hb); replace HB := am (below_step HB.out hb); (try clear hb)))
                                    go_ret
                                    exact ⟨by rfl, by exact HB.out⟩
                                  · rw [if_neg c130] at H
                                    have c130b0 : (t598 == 0) = false := beq_eq_false_iff_ne.mpr c130
                                    have c130b1 : (t598 != 0) = true := bne_iff_ne.mpr c130
                                    exact absurd (Option.some.inj H) (by rw [HR.out]; simp)
                                · replace c129 := Bool.eq_false_iff.mpr c129
                                  subst c129
                                  have H1 : (some false) = some r := by rw [if_neg (show ¬ (false = true) by decide)] at H; exact H
                                  clear H
                                  have H := H1
                                  clear H1
                                  exact absurd (Option.some.inj H) (by rw [HR.out]; simp)
                              · rw [if_neg c127] at H
                                have c127b0 : (t591 == 0) = false := beq_eq_false_iff_ne.mpr c127
                                have c127b1 : (t591 != 0) = true := bne_iff_ne.mpr c127
                                exact absurd (Option.some.inj H) (by rw [HR.out]; simp)
                            · rw [if_neg c126] at H
                              have c126b0 : (t587 == 0) = false := beq_eq_false_iff_ne.mpr c126
                              have c126b1 : (t587 != 0) = true := bne_iff_ne.mpr c126
                              exact absurd (Option.some.inj H) (by rw [HR.out]; simp)
                          · rw [if_neg c125] at H
                            have c125b0 : (t577 == 0) = false := beq_eq_false_iff_ne.mpr c125
                            have c125b1 : (t577 != 0) = true := bne_iff_ne.mpr c125
                            exact absurd (Option.some.inj H) (by rw [HR.out]; simp)
  · replace c6 := Bool.eq_false_iff.mpr c6
    subst c6
    have H1 : (some false) = some r := by rw [if_neg (show ¬ (false = true) by decide)] at H; exact H
    clear H
    have H := H1
    clear H1
    exact absurd (Option.some.inj H) (by rw [HR.out]; simp)
end Go.Proofs.Ytkkocmmilmbgpaa.S
end
section
namespace Go.Proofs.Ytkkocmmilmbgpaa.S
open Go.RowKit Go.Proofs.YtkkocmmilmbgpaaW.PrintWords
set_option linter.unusedVariables false
set_option linter.unusedSimpArgs false
namespace Nf
open Mg Sym
set_option maxRecDepth 100000 in
theorem lives0 : locksteplaw28_lives.f 200 = some true := by decide +kernel
theorem lives (k : Nat) (hk : 200 ≤ k) : locksteplaw28_lives.f k = some true := by
  obtain ⟨d, rfl⟩ : ∃ d, k = 200 + d := ⟨k - 200, by omega⟩
  clear hk
  induction d with
  | zero => exact lives0
  | succ d ih => exact locksteplaw28_lives.mono _ _ ih
theorem u64 {x : Int} (h : 0 ≤ x) (h2 : x ≤ 18446744073709551615) : IntKind.u64.wrap x = x := by rw [IntKind.wrap_u64]; omega
theorem Gd.own {n L T : Nat} {l : List S39} (h : Gd n L T l) (hL : L ≤ 1000) (k : Nat) (hk : 1001 ≤ k) : locksteplaw28_own.f k l = some l :=
  own_eq l (by have := h.len; omega) (fun x hx => by have := (h.tm x hx).1; omega) k (by have := h.len; omega)
theorem Gd.same {n L T : Nat} {l : List S39} (h : Gd n L T l) (hL : L ≤ 1000) : ∃ K, ∀ k, K ≤ k → locksteplaw28_same.f k l l = some true :=
  same_eq l (by have := h.len; omega) (fun x hx => by have := (h.tm x hx).1; omega)
theorem Gd.add {n L T L' T' : Nat} {a b : List S39} (ha : Gd n L T a) (hb : Gd n L' T' b) (hn : n ≤ 64) (hL : L ≤ 1000) (hL' : L' ≤ 1000) : ∃ K, ∀ k, K ≤ k → cost_Add.f k a b = some (Nf.nf (a ++ b), 0) :=
  add_eq a b (ha.can hn (by omega)) (hb.can hn (by omega)) ha.u hb.u
theorem S_p {n L T n' L' T' : Nat} {a b : List S39} (ha : Gd n L T a) (hb : Gd n' L' T' b) (hn : n ≤ 64) (hn' : n' ≤ 64) (h1 : T ≤ 18446744073709551615) (h2 : T' ≤ 18446744073709551615) (hT : T * T' ≤ 18446744073709551615) (φ : List Int → Nat) :
    S φ (Nf.prods (Nf.nf a) (Nf.nf b)) = D φ a b := by
  rw [S_prods φ _ _ ((ha.nf (by omega) h1).nosat (hb.nf (by omega) h2) hT)]
  exact D_congr φ (ha.S_nf (by omega) h1) (hb.S_nf (by omega) h2)
theorem limsU (lims : List Int) (hl : ∀ x ∈ lims, 0 ≤ x ∧ x ≤ 6) : ∀ x ∈ lims, Cost.U x := fun x hx => by have := hl x hx; unfold Cost.U; omega
theorem lm1_b (lims : List Int) (hl : ∀ x ∈ lims, 0 ≤ x ∧ x ≤ 6) : ∀ j, 1 ≤ lm1 lims j ∧ lm1 lims j ≤ 6 := fun j => by
  unfold lm1 lmOf rd
  rw [List.getD_eq_getElem?_getD]
  cases h : lims[((j : Nat) : Int).toNat]? with
  | none => simp
  | some v => have := hl v (List.mem_of_getElem? h); simp only [Option.getD_some]; omega
section
variable (a b c : List S39) (ha : Sm a) (hb : Sm b) (hc : Sm c) (lims : List Int) (hl : ∀ x ∈ lims, 0 ≤ x ∧ x ≤ 6)
include ha hb hc hl
theorem adds_j4 : ∃ K, ∀ k, K ≤ k → locksteplaw28_CostAdds.j4 k a c lims (nf (b ++ c)) (nf (prods (nf a) (nf b))) false = some true := by
  have ga := ha.gd
  have gb := hb.gd
  have gc := hc.gd
  have gBC := (gb.app gc).nf (by decide) (by decide)
  have gp := ((ga.nf (by decide) (by decide)).prods (gb.nf (by decide) (by decide)) (by decide)).nf (by decide) (by decide)
  have gs := ((ga.nf (by decide) (by decide)).prods (gc.nf (by decide) (by decide)) (by decide)).nf (by decide) (by decide)
  have gr0 := (ga.nf (by decide) (by decide)).prods (gBC.nf (by decide) (by decide)) (by decide)
  have gr := gr0.nf (by decide) (by decide)
  have gna := ga.nf (by decide) (by decide)
  obtain ⟨K1, h1⟩ := times_small ga gBC (by decide) (by decide) (by decide) (by decide) (by decide) (by decide) (by decide)
  obtain ⟨K2, h2⟩ := times_small ga gc (by decide) (by decide) (by decide) (by decide) (by decide) (by decide) (by decide)
  obtain ⟨K3, h3⟩ := gp.add gs (by decide) (by decide) (by decide)
  obtain ⟨K4, h4⟩ := Normal_eq a (ga.can (by decide) (by decide)) ga.u
  have e : nf (prods (nf a) (nf (nf (b ++ c)))) = nf (nf (prods (nf a) (nf b)) ++ nf (prods (nf a) (nf c))) := by
    refine nf_eq (gr0.okA (by decide)) ((gp.app gs).okA (by decide)) (Nat.le_trans gr0.tt (by decide)) (Nat.le_trans (gp.app gs).tt (by decide)) (fun φ => ?_)
    rw [S_append, S_p ga gBC (by decide) (by decide) (by decide) (by decide) (by decide), ((ga.nf (by decide) (by decide)).prods (gb.nf (by decide) (by decide)) (by decide)).S_nf (by decide) (by decide), ((ga.nf (by decide) (by decide)).prods (gc.nf (by decide) (by decide)) (by decide)).S_nf (by decide) (by decide),
      S_p ga gb (by decide) (by decide) (by decide) (by decide) (by decide), S_p ga gc (by decide) (by decide) (by decide) (by decide) (by decide), D_congr φ (fun f => rfl) ((gb.app gc).S_nf (by decide) (by decide)), D_append]
  obtain ⟨K5, h5⟩ := gr.same (by decide)
  have sa := ha.S _ (lm1_b lims hl)
  obtain ⟨K6, h6⟩ := val_eq lims (limsU lims hl) ga (by decide) (by decide) (by omega)
  obtain ⟨K7, h7⟩ := val_eq lims (limsU lims hl) gna (by decide) (by decide) (by rw [ga.S_nf (by decide) (by decide)]; omega)
  refine ⟨K1 + K2 + K3 + K4 + K5 + K6 + K7 + 2000, fun k hk => ?_⟩
  obtain ⟨k, rfl⟩ : ∃ j, k = j + 1 := ⟨k - 1, by omega⟩
  rw [locksteplaw28_CostAdds.j4, if_neg (by decide), ga.own (by decide) k (by omega), Option.bind_some, h1 k (by omega), Option.bind_some, Option.bind_some, gc.own (by decide) k (by omega), Option.bind_some, h2 k (by omega), Option.bind_some, h3 k (by omega), Option.bind_some, Option.bind_some, h4 k (by omega), Option.bind_some,
    if_pos rfl, if_pos rfl, if_pos rfl]
  show ((locksteplaw28_same.f k (nf (prods (nf a) (nf (nf (b ++ c))))) (nf (nf (prods (nf a) (nf b)) ++ nf (prods (nf a) (nf c))))).bind _) = _
  rw [← e, h5 k (by omega), Option.bind_some, if_pos rfl, if_pos rfl]
  show ((cost_Value.f k (nf a) lims).bind _) = _
  rw [h7 k (by omega), Option.bind_some, h6 k (by omega), Option.bind_some, ga.S_nf (by decide) (by decide)]
  simp
theorem adds_j3 : ∃ K, ∀ k, K ≤ k → locksteplaw28_CostAdds.j3 k a b c lims (nf (b ++ c)) false = some true := by
  have ga := ha.gd
  have gb := hb.gd
  have gna := ga.nf (by decide) (by decide)
  have gnb := gb.nf (by decide) (by decide)
  have gp0 := gna.prods gnb (by decide)
  have gq0 := gnb.prods gna (by decide)
  have gp := gp0.nf (by decide) (by decide)
  obtain ⟨K1, h1⟩ := times_small ga gb (by decide) (by decide) (by decide) (by decide) (by decide) (by decide) (by decide)
  obtain ⟨K2, h2⟩ := times_small gb ga (by decide) (by decide) (by decide) (by decide) (by decide) (by decide) (by decide)
  have e : nf (prods (nf a) (nf b)) = nf (prods (nf b) (nf a)) := by
    refine nf_eq (gp0.okA (by decide)) (gq0.okA (by decide)) (Nat.le_trans gp0.tt (by decide)) (Nat.le_trans gq0.tt (by decide)) (fun φ => ?_)
    rw [S_p ga gb (by decide) (by decide) (by decide) (by decide) (by decide), S_p gb ga (by decide) (by decide) (by decide) (by decide) (by decide), D_comm]
  obtain ⟨K5, h5⟩ := gp.same (by decide)
  have sa := ha.S _ (lm1_b lims hl)
  have sb := hb.S _ (lm1_b lims hl)
  have sp1 : S (phi (lm1 lims) 0) (nf (prods (nf a) (nf b))) ≤ 27713664 * 27713664 := by
    rw [gp0.S_nf (by decide) (by decide), S_p ga gb (by decide) (by decide) (by decide) (by decide) (by decide), D_phi _ ga gb]
    exact Nat.mul_le_mul sa sb
  have sp : S (phi (lmOf lims) 0) (nf (prods (nf a) (nf b))) = S (phi (lmOf lims) 0) a * S (phi (lmOf lims) 0) b := by
    rw [gp0.S_nf (by decide) (by decide), S_p ga gb (by decide) (by decide) (by decide) (by decide) (by decide), D_phi _ ga gb]
  have sle : ∀ l : List S39, S (phi (lmOf lims) 0) l ≤ S (phi (lm1 lims) 0) l := fun l => S_mono (fun x _ => by
    have g : ∀ (es : List Int) (j : Nat), phi (lmOf lims) j es ≤ phi (lm1 lims) j es := by
      intro es
      induction es with
      | nil => intro j; exact Nat.le_refl _
      | cons e es ih => intro j; rw [phi, phi]; exact Nat.mul_le_mul (Nat.pow_le_pow_left (Nat.le_max_right _ _) _) (ih (j + 1))
    exact g _ _)
  obtain ⟨K6, h6⟩ := val_eq lims (limsU lims hl) ga (by decide) (by decide) (by omega)
  obtain ⟨K7, h7⟩ := val_eq lims (limsU lims hl) gb (by decide) (by decide) (by omega)
  obtain ⟨K8, h8⟩ := val_eq lims (limsU lims hl) gp (by decide) (by decide) (by omega)
  obtain ⟨K9, h9⟩ := adds_j4 a b c ha hb hc lims hl
  refine ⟨K1 + K2 + K5 + K6 + K7 + K8 + K9 + 2000, fun k hk => ?_⟩
  obtain ⟨k, rfl⟩ : ∃ j, k = j + 1 := ⟨k - 1, by omega⟩
  rw [locksteplaw28_CostAdds.j3, if_neg (by decide), ga.own (by decide) k (by omega), Option.bind_some, gb.own (by decide) k (by omega), Option.bind_some, h1 k (by omega), Option.bind_some, Option.bind_some, Option.bind_some, h2 k (by omega), Option.bind_some, if_pos rfl, if_pos rfl]
  show ((locksteplaw28_same.f k (nf (prods (nf a) (nf b))) (nf (prods (nf b) (nf a)))).bind _) = _
  rw [← e, h5 k (by omega), Option.bind_some, if_pos rfl]
  show ((cost_Value.f k (nf (prods (nf a) (nf b))) lims).bind _) = _
  rw [h8 k (by omega), Option.bind_some, h6 k (by omega), Option.bind_some, h7 k (by omega), Option.bind_some]
  have hab := Nat.mul_le_mul (Nat.le_trans (sle a) sa) (Nat.le_trans (sle b) sb)
  have hw : (((S (phi (lmOf lims) 0) (nf (prods (nf a) (nf b))) : Nat) : Int) != IntKind.u64.wrap (((S (phi (lmOf lims) 0) a : Nat) : Int) * ((S (phi (lmOf lims) 0) b : Nat) : Int))) = false := by
    rw [← Int.natCast_mul, ← sp, u64 (by omega) (by rw [sp]; omega)]
    simp
  rw [hw]
  exact h9 k (by omega)
theorem adds_j2 : ∃ K, ∀ k, K ≤ k → locksteplaw28_CostAdds.j2 k a b c lims (nf (a ++ b)) (nf (b ++ c)) false = some true := by
  have ga := ha.gd
  have gb := hb.gd
  have gc := hc.gd
  have gab := ga.app gb
  have gbc := gb.app gc
  have gAB := gab.nf (by decide) (by decide)
  have gBC := gbc.nf (by decide) (by decide)
  have gx0 := gAB.app gc
  have gy0 := ga.app gBC
  have gx := gx0.nf (by decide) (by decide)
  obtain ⟨K1, h1⟩ := gAB.add gc (by decide) (by decide) (by decide)
  obtain ⟨K2, h2⟩ := ga.add gBC (by decide) (by decide) (by decide)
  have e : nf (nf (a ++ b) ++ c) = nf (a ++ nf (b ++ c)) := by
    refine nf_eq (gx0.okA (by decide)) (gy0.okA (by decide)) (Nat.le_trans gx0.tt (by decide)) (Nat.le_trans gy0.tt (by decide)) (fun φ => ?_)
    rw [S_append, S_append, gab.S_nf (by decide) (by decide), gbc.S_nf (by decide) (by decide), S_append, S_append, Nat.add_assoc]
  obtain ⟨K5, h5⟩ := gx.same (by decide)
  obtain ⟨K9, h9⟩ := adds_j3 a b c ha hb hc lims hl
  refine ⟨K1 + K2 + K5 + K9 + 2000, fun k hk => ?_⟩
  obtain ⟨k, rfl⟩ : ∃ j, k = j + 1 := ⟨k - 1, by omega⟩
  rw [locksteplaw28_CostAdds.j2, if_neg (by decide), gc.own (by decide) k (by omega), Option.bind_some, h1 k (by omega), Option.bind_some, ga.own (by decide) k (by omega), Option.bind_some, h2 k (by omega), Option.bind_some, if_pos rfl, if_pos rfl]
  show ((locksteplaw28_same.f k (nf (nf (a ++ b) ++ c)) (nf (a ++ nf (b ++ c)))).bind _) = _
  rw [← e, h5 k (by omega), Option.bind_some]
  exact h9 k (by omega)
theorem adds_j1 : ∃ K, ∀ k, K ≤ k → locksteplaw28_CostAdds.j1 k a b c lims = some true := by
  have ga := ha.gd
  have gb := hb.gd
  have gc := hc.gd
  have gab := ga.app gb
  have gba := gb.app ga
  have gbc := gb.app gc
  have gAB := gab.nf (by decide) (by decide)
  obtain ⟨K1, h1⟩ := ga.add gb (by decide) (by decide) (by decide)
  obtain ⟨K2, h2⟩ := gb.add ga (by decide) (by decide) (by decide)
  obtain ⟨K3, h3⟩ := gb.add gc (by decide) (by decide) (by decide)
  have e : nf (a ++ b) = nf (b ++ a) := by
    refine nf_eq (gab.okA (by decide)) (gba.okA (by decide)) (Nat.le_trans gab.tt (by decide)) (Nat.le_trans gba.tt (by decide)) (fun φ => ?_)
    rw [S_append, S_append, Nat.add_comm]
  obtain ⟨K5, h5⟩ := gAB.same (by decide)
  have sa := ha.S _ (lm1_b lims hl)
  have sb := hb.S _ (lm1_b lims hl)
  have sAB : ∀ φ, S φ (nf (a ++ b)) = S φ a + S φ b := fun φ => by rw [gab.S_nf (by decide) (by decide), S_append]
  obtain ⟨K6, h6⟩ := val_eq lims (limsU lims hl) ga (by decide) (by decide) (by omega)
  obtain ⟨K7, h7⟩ := val_eq lims (limsU lims hl) gb (by decide) (by decide) (by omega)
  obtain ⟨K8, h8⟩ := val_eq lims (limsU lims hl) gAB (by decide) (by decide) (by rw [sAB]; omega)
  have sle : ∀ l : List S39, S (phi (lmOf lims) 0) l ≤ S (phi (lm1 lims) 0) l := fun l => S_mono (fun x _ => by
    have g : ∀ (es : List Int) (j : Nat), phi (lmOf lims) j es ≤ phi (lm1 lims) j es := by
      intro es
      induction es with
      | nil => intro j; exact Nat.le_refl _
      | cons e es ih => intro j; rw [phi, phi]; exact Nat.mul_le_mul (Nat.pow_le_pow_left (Nat.le_max_right _ _) _) (ih (j + 1))
    exact g _ _)
  obtain ⟨K9, h9⟩ := adds_j2 a b c ha hb hc lims hl
  refine ⟨K1 + K2 + K3 + K5 + K6 + K7 + K8 + K9 + 2000, fun k hk => ?_⟩
  obtain ⟨k, rfl⟩ : ∃ j, k = j + 1 := ⟨k - 1, by omega⟩
  rw [locksteplaw28_CostAdds.j1, ga.own (by decide) k (by omega), Option.bind_some, gb.own (by decide) k (by omega), Option.bind_some, h1 k (by omega), Option.bind_some, Option.bind_some, Option.bind_some, h2 k (by omega), Option.bind_some, Option.bind_some, gc.own (by decide) k (by omega), Option.bind_some, h3 k (by omega), Option.bind_some, if_pos rfl, if_pos rfl, if_pos rfl]
  show ((locksteplaw28_same.f k (nf (a ++ b)) (nf (b ++ a))).bind _) = _
  rw [← e, h5 k (by omega), Option.bind_some, if_pos rfl]
  show ((cost_Value.f k (nf (a ++ b)) lims).bind _) = _
  rw [h8 k (by omega), Option.bind_some, h6 k (by omega), Option.bind_some, h7 k (by omega), Option.bind_some]
  have h1' := sle a
  have h2' := sle b
  have hw : (((S (phi (lmOf lims) 0) (nf (a ++ b)) : Nat) : Int) != IntKind.u64.wrap (((S (phi (lmOf lims) 0) a : Nat) : Int) + ((S (phi (lmOf lims) 0) b : Nat) : Int))) = false := by
    rw [← Int.natCast_add, ← sAB, u64 (by omega) (by rw [sAB]; omega)]
    simp
  rw [hw]
  exact h9 k (by omega)
end
theorem adds_l0 (a b c : List S39) (ha : Sm a) (hb : Sm b) (hc : Sm c) (l3 : List Int) (h3 : ∀ x ∈ l3, 0 ≤ x) (hl3 : l3.length < 1000000000000000) : ∀ (d : Nat) (x : List Int), x.length + d = 3 → (∀ e ∈ x, 0 ≤ e ∧ e ≤ 6) → ∃ K, ∀ k, K ≤ k → locksteplaw28_CostAdds.l0 k a b c l3 x (x.length : Int) = some true := by
  intro d
  induction d with
  | zero =>
    intro x hd hx
    obtain ⟨K, h⟩ := adds_j1 a b c ha hb hc x hx
    refine ⟨K + 1, fun k hk => ?_⟩
    obtain ⟨k, rfl⟩ : ∃ j, k = j + 1 := ⟨k - 1, by omega⟩
    rw [locksteplaw28_CostAdds.l0]
    split
    · rw [if_neg (by omega)]; exact h k (by omega)
    · exact h k (by omega)
  | succ d ih =>
    intro x hd hx
    by_cases hl : x.length < l3.length
    · have hr : 0 ≤ rd l3 (x.length : Int) := by
        unfold rd
        rw [Int.toNat_natCast, List.getD_eq_getElem?_getD, List.getElem?_eq_getElem hl]
        exact h3 _ (List.getElem_mem _)
      have hm := (tmod_b (rd l3 (x.length : Int)) 7 (by decide)).1 hr
      have hw : IntKind.u64.wrap (Int.tmod (rd l3 (x.length : Int)) 7) = Int.tmod (rd l3 (x.length : Int)) 7 := u64 hm.1 (by omega)
      obtain ⟨K, h⟩ := ih (x ++ [Int.tmod (rd l3 (x.length : Int)) 7]) (by simp; omega) (fun e he => by
        rcases List.mem_append.1 he with he | he
        · exact hx e he
        · rw [List.mem_singleton.1 he]; omega)
      refine ⟨K + 1, fun k hk => ?_⟩
      obtain ⟨k, rfl⟩ : ∃ j, k = j + 1 := ⟨k - 1, by omega⟩
      rw [locksteplaw28_CostAdds.l0, if_pos (by omega), if_pos (by omega), if_pos (by omega), if_pos (by omega), hw, wsucc _ (by omega)]
      have := h k (by omega)
      rw [List.length_append, List.length_singleton] at this
      exact this
    · obtain ⟨K, h⟩ := adds_j1 a b c ha hb hc x hx
      refine ⟨K + 1, fun k hk => ?_⟩
      obtain ⟨k, rfl⟩ : ∃ j, k = j + 1 := ⟨k - 1, by omega⟩
      rw [locksteplaw28_CostAdds.l0, if_neg (by omega)]
      exact h k (by omega)
theorem adds_true (l0 l1 l2 : List S39) (l3 : List Int) (h0 : l0.length < 1000000000000000 ∧ ∀ x ∈ l0, x.f1.length < 1000000000000000 ∧ 0 ≤ x.f0) (h1 : l1.length < 1000000000000000 ∧ ∀ x ∈ l1, x.f1.length < 1000000000000000 ∧ 0 ≤ x.f0) (h2 : l2.length < 1000000000000000 ∧ ∀ x ∈ l2, x.f1.length < 1000000000000000 ∧ 0 ≤ x.f0) (h3 : l3.length < 1000000000000000 ∧ ∀ x ∈ l3, 0 ≤ x) :
    ∃ K, locksteplaw28_CostAdds.f K l0 l1 l2 l3 = some true := by
  obtain ⟨a, ha, K1, e1⟩ := small_eq l0 h0.1 h0.2
  obtain ⟨b, hb, K2, e2⟩ := small_eq l1 h1.1 h1.2
  obtain ⟨c, hc, K3, e3⟩ := small_eq l2 h2.1 h2.2
  obtain ⟨K4, e4⟩ := adds_l0 a b c ha hb hc l3 h3.2 h3.1 3 [] rfl (fun e he => by cases he)
  refine ⟨K1 + K2 + K3 + K4 + 200, ?_⟩
  unfold locksteplaw28_CostAdds.f
  rw [lives _ (by omega), Option.bind_some, if_pos rfl, e1 _ (by omega), Option.bind_some, e2 _ (by omega), Option.bind_some, e3 _ (by omega), Option.bind_some]
  exact e4 _ (by omega)
end Nf
end Go.Proofs.Ytkkocmmilmbgpaa.S
end
section
namespace Go.Proofs.YtkkocmmilmbgpaaW.PrintWords
open Go Go.RowKit Go.ChangeShapes Go.WideShapes Go.Deep
set_option linter.unusedVariables false
set_option linter.unusedSimpArgs false
def Opens {α : Type} (P : Program) (d : Kd α) (t : TypeId) (g : α → Prop) : Prop :=
  ∀ {H : Type} (enc : TypeId × Value → H) (W : World) (base : Nat) (spare : Nat → Bool) (held : Bool) (fuel : Nat) (cs : List Value) (x : DataW H × List MemPlace),
    DataW.trod enc P W base spare held fuel t cs = some x → ∃ a, d.K W a cs ∧ g a
def inKind (k : IntKind) (n : Int) : Prop := k.min ≤ n ∧ n ≤ k.max
section
variable {P : Program} {α β : Type}
theorem opens_int {t : TypeId} {k : IntKind} (ht : P.underlying t = some (.int k)) : Opens P (Kd.int k) t (inKind k) := by
  intro H enc W base spare held fuel cs x h
  obtain ⟨n, rfl, _, hw⟩ := DataW.trod_int ht h
  refine ⟨n, rfl, ?_⟩
  simpa [Lit.wf, inKind] using hw
theorem Opens.imp {d : Kd α} {t : TypeId} {g g' : α → Prop} (h : Opens P d t g) (hg : ∀ a, g a → g' a) : Opens P d t g' := by
  intro H enc W base spare held fuel cs x hx
  obtain ⟨a, h1, h2⟩ := h enc W base spare held fuel cs x hx
  exact ⟨a, h1, hg a h2⟩
theorem elems_of {γ : Type} {n : Nat} {p : Nat → γ → Prop} (h : ∀ i, i < n → ∃ a, p i a) : ∃ xs : List γ, xs.length = n ∧ ∀ i a, xs[i]? = some a → p i a := by
  induction n with
  | zero => exact ⟨[], rfl, fun i a h => by simp at h⟩
  | succ n ih =>
    obtain ⟨xs, hl, hx⟩ := ih (fun i hi => h i (by omega))
    obtain ⟨a, ha⟩ := h n (by omega)
    refine ⟨xs ++ [a], by simp [hl], fun i b hb => ?_⟩
    by_cases hi : i < xs.length
    · rw [List.getElem?_append_left hi] at hb
      exact hx i b hb
    · rw [List.getElem?_append_right (by omega)] at hb
      have : i = n := by
        have := (List.getElem?_eq_some_iff.1 hb).1
        simp at this
        omega
      subst this
      rw [hl, Nat.sub_self] at hb
      injection hb with hb
      exact hb ▸ ha
end
end Go.Proofs.YtkkocmmilmbgpaaW.PrintWords
end
section
namespace Go.Proofs.YtkkocmmilmbgpaaW.PrintWords
open Go Go.RowKit Go.ChangeShapes Go.WideShapes Go.Deep
set_option linter.unusedVariables false
set_option linter.unusedSimpArgs false
def OpensS {α : Type} (P : Program) (d : Kd α) (t : TypeId) (g : α → Prop) : Prop :=
  ∀ {H : Type} (enc : TypeId × Value → H) (W : World) (base : Nat) (spare : Nat → Bool) (held : Bool) (fuel : Nat) (cs : List Value) (x : DataW H × List MemPlace),
    DataW.trod enc P W base spare held fuel t cs = some x → (∀ n ∈ x.1.weights P t, n ≤ reachBytes) → ∃ a, d.K W a cs ∧ g a
section
variable {P : Program} {α β : Type}
theorem opensS_of {d : Kd α} {t : TypeId} {g : α → Prop} (h : Opens P d t g) : OpensS P d t g := by
  intro H enc W base spare held fuel cs x hx _
  exact h enc W base spare held fuel cs x hx
theorem weights_mem_all {H : Type} {e : TypeId} : ∀ {l : List (DataW H)} {d : DataW H}, d ∈ l → ∀ n ∈ d.weights P e, n ∈ DataW.weightsAll P e l
  | [], _, h, _, _ => by simp at h
  | a :: l, d, h, n, hn => by
    simp only [DataW.weightsAll, List.mem_append]
    rcases List.mem_cons.1 h with rfl | h
    · exact .inl hn
    · exact .inr (weights_mem_all h n hn)
theorem opensS_slice {d : Kd α} {t e : TypeId} {g : α → Prop} (ht : P.underlying t = some (.slice e)) (hs : P.cellsOf e = d.sz) (h : OpensS P d e g) :
    OpensS P (Kd.slice e d) t (fun xs => xs.length * P.bytesOf e ≤ reachBytes ∧ ∀ x ∈ xs, g x) := by
  intro H enc W base spare held fuel cs x hx hw
  rcases open_slice ht hx with ⟨rfl, rfl⟩ | ⟨a, len, cap, m, n, D, Pl, rfl, hb, hl, hm, hmm, rfl, hel⟩
  · exact ⟨[], ⟨none, 0, rfl, Nat.le_refl _, ⟨rfl, by simp, fun h => absurd h (by simp)⟩⟩, by simp, fun x hx => by simp at hx⟩
  · simp only [DataW.weights, ht] at hw
    have hw0 := hw _ List.mem_cons_self
    obtain ⟨xs, hlen, hxs⟩ := elems_of (n := len) (p := fun i y => ∃ cs', W.cells? base (a.add (i * P.cellsOf e)) (P.cellsOf e) = some cs' ∧ d.K W y cs' ∧ g y) (fun i hi => by
      obtain ⟨cs', h1, h2⟩ := hel i (by rw [hmm]; split <;> omega)
      obtain ⟨y, h3, h4⟩ := h enc W base spare held n cs' _ h2 (fun k hk => hw k (List.mem_cons_of_mem _ (List.mem_append_left _ (weights_mem_all (List.mem_map.2 ⟨i, List.mem_range.2 hi, rfl⟩) k hk))))
      exact ⟨y, cs', h1, h3, h4⟩)
    refine ⟨xs, ⟨some a, cap, by rw [hlen], by rw [hlen]; exact hl, ⟨rfl, by rw [hlen]; simp only [maxLen] at hm; omega, fun hp => ⟨a, rfl, fun j p hj => ?_⟩⟩⟩, ?_, fun x hx => ?_⟩
    · obtain ⟨cs', h1, h2, _⟩ := hxs j p hj
      refine ⟨cs', d.K_len h2, h2, fun i u hu => ?_⟩
      obtain ⟨_, hcl, hcc⟩ := World.cells?_some h1
      have hi : i < cs'.length := (List.getElem?_eq_some_iff.1 hu).1
      have h5 := hcc i (by rw [← hcl]; exact hi)
      rw [hu, Addr.add_add, hs] at h5
      exact h5
    · rw [hlen]
      exact Nat.le_trans (Nat.mul_le_mul_right _ (by simp)) hw0
    · obtain ⟨i, hi⟩ := List.getElem?_of_mem hx
      obtain ⟨_, _, _, h4⟩ := hxs i x hi
      exact h4
theorem open_arg_sliceS {d : Kd α} {t e : TypeId} {g : α → Prop} (ht : P.underlying t = some (.slice e)) (hs : P.cellsOf e = d.sz) (h : OpensS P d e g) {H : Type} {enc : TypeId × Value → H} {W : World} {base b0 : Nat} {spare : Nat → Bool} {held : Bool} {r : Reach} {v : Value} {D : DataW H} {p : List MemPlace}
    {ts : List TypeId} {ds : List (DataW H)} {j : Nat} (hsz : (DataW.weightsEach P ts ds).all (· ≤ reachBytes) = true) (htj : ts[j]? = some t) (hdj : ds[j]? = some D)
    (hv : Value.okWide P W r b0 t v) (hd : DataW.Trod enc P W base spare held t v D p) : ∃ A c xs, v = .slice A xs.length c ∧ xs.length ≤ c ∧ d.C W A xs.length xs ∧ xs.length * P.bytesOf e ≤ reachBytes ∧ ∀ x ∈ xs, g x := by
  obtain ⟨A, n, c, rfl⟩ := okWide_slice ht hv
  obtain ⟨fuel, hf⟩ := hd
  obtain ⟨xs, ⟨A', c', he, hl, hC⟩, hg⟩ := opensS_slice ht hs h enc W base spare held fuel _ _ hf (fun n hn => by
    have := List.all_eq_true.1 hsz _ (DataW.weights_mem_each htj hdj n hn)
    simpa using this)
  have he' : Value.slice A n c = .slice A' xs.length c' := by simpa [Value.cells] using he
  injection he' with h1 h2 h3
  subst h1 h2 h3
  exact ⟨A, c, xs, rfl, hl, hC, hg⟩
end
end Go.Proofs.YtkkocmmilmbgpaaW.PrintWords
end
section
namespace Go.Proofs.Ytkkocmmilmbgpaa.S
set_option linter.unusedVariables false
set_option linter.unusedSimpArgs false
open Go.RowKit Go.Lib Go.ChangeShapes Go.WideShapes Go.ChangeAt Go.Joins Go.Proofs.YtkkocmmilmbgpaaW.PrintWords Go Go.Deep Cost
set_option maxRecDepth 100000
theorem own : ownKnob Try.prog.godebug = none := by kernel_rfl
theorem laidOut : laidOutB Try.prog = true := by kernel_rfl
theorem i64_of {n : Int} (h : inKind .i64 n) : n < 9223372036854775808 := by
  unfold inKind at h
  simp only [IntKind.min, IntKind.max, IntKind.signed, IntKind.bits, if_true] at h
  omega
theorem u64_of {n : Int} (h : inKind .u64 n) : U n := by
  unfold inKind at h
  simp only [IntKind.min, IntKind.max, IntKind.signed, IntKind.bits, Bool.false_eq_true, if_false] at h
  exact ⟨by omega, by omega⟩
theorem u8_of {n : Int} (h : inKind .u8 n) : 0 ≤ n ∧ n ≤ 255 := by
  unfold inKind at h
  simp only [IntKind.min, IntKind.max, IntKind.signed, IntKind.bits, Bool.false_eq_true, if_false] at h
  exact ⟨by omega, by omega⟩
theorem opensS_two {P : Program} {α β : Type} {a : Kd α} {b : Kd β} {t : TypeId} {f0 f1 : Field} {g0 : α → Prop} {g1 : β → Prop} (ht : P.underlying t = some (.struct #[f0, f1]))
    (ho : f0.offset = 0 ∧ f1.offset = a.sz) (hc : P.cellsOf t = a.sz + b.sz) (h0 : P.cellsOf f0.type = a.sz) (h1 : P.cellsOf f1.type = b.sz)
    (k0 : OpensS P a f0.type g0) (k1 : OpensS P b f1.type g1) : OpensS P (Kd.pair a b) t (fun x => g0 x.1 ∧ g1 x.2) := by
  intro H enc W base spare held fuel cs x hx hw
  obtain ⟨y0, y1, n, he, hl, e0, e1⟩ := trod_struct2 ht hx
  rw [ho.1, h0, List.drop_zero] at e0
  rw [ho.2, h1] at e1
  subst he
  simp only [DataW.weights, ht, DataW.weightsEach, List.map_cons, List.map_nil, List.append_nil, List.mem_append] at hw
  obtain ⟨p0, q0, r0⟩ := k0 enc W base spare held n _ _ e0 (fun k hk => hw k (.inl hk))
  obtain ⟨p1, q1, r1⟩ := k1 enc W base spare held n _ _ e1 (fun k hk => hw k (.inr hk))
  refine ⟨(p0, p1), ⟨_, _, ?_, q0, q1⟩, r0, r1⟩
  rw [hc] at hl
  rw [List.take_of_length_le (l := cs.drop a.sz) (by rw [List.length_drop]; omega), List.take_append_drop]
theorem opensS_iso {P : Program} {α β : Type} {d : Kd α} {t : TypeId} {g : α → Prop} (h : OpensS P d t g) (f : β → α) (b : α → β) (hf : ∀ a, f (b a) = a) (g' : β → Prop) (hg : ∀ x, g (f x) → g' x) : OpensS P (Kd.iso d f) t g' := by
  intro H enc W base spare held fuel cs x hx hw
  obtain ⟨a, h1, h2⟩ := h enc W base spare held fuel cs x hx hw
  exact ⟨b a, by show d.K W (f (b a)) cs; rw [hf]; exact h1, hg _ (by rw [hf]; exact h2)⟩
theorem opens_term : OpensS Try.prog k39 39 okT :=
  opensS_iso (opensS_two Try.underlying39 ⟨rfl, rfl⟩ (by kernel_rfl) (by kernel_rfl) (by kernel_rfl) (opensS_of (opens_int Try.underlying24)) (opensS_slice Try.underlying37 (by kernel_rfl) (opensS_of (opens_int Try.underlying3))))
    (fun x : S39 => (x.f0, x.f1)) (fun p => ⟨p.1, p.2⟩) (fun _ => rfl) okT (fun x h => ⟨u64_of h.1, by
      have h1 : x.f1.length * Try.prog.bytesOf 3 ≤ reachBytes := h.2.1
      rw [show Try.prog.bytesOf 3 = 8 by kernel_rfl] at h1
      exact h1, fun e he => i64_of (h.2.2 e he)⟩)
section
variable {H : Type} {enc : TypeId × Value → H} {W : World} {base b0 : Nat} {spare : Nat → Bool} {held : Bool} {r : Reach} {v : Value} {D : DataW H} {p : List MemPlace}
theorem open_terms {ts : List TypeId} {ds : List (DataW H)} {j : Nat} (hsz : (DataW.weightsEach Try.prog ts ds).all (· ≤ reachBytes) = true) (htj : ts[j]? = some 22) (hdj : ds[j]? = some D)
    (hv : Value.okWide Try.prog W r b0 22 v) (hd : DataW.Trod enc Try.prog W base spare held 22 v D p) : ∃ A c xs, v = .slice A xs.length c ∧ xs.length ≤ c ∧ k39.C W A xs.length xs ∧
      ((xs.length < 9223372036854775807 ∧ ∀ x ∈ xs, okT x) ∧ xs.length < 1000000000000000) := by
  obtain ⟨A, c, xs, h1, h2, h3, h4, h5⟩ := open_arg_sliceS Try.underlying22 (by kernel_rfl) opens_term hsz htj hdj hv hd
  rw [show Try.prog.bytesOf 39 = 32 by kernel_rfl] at h4
  have h6 : xs.length * 32 ≤ 140737488351232 := h4
  exact ⟨A, c, xs, h1, h2, h3, ⟨by omega, h5⟩, by omega⟩
theorem open_u8s {ts : List TypeId} {ds : List (DataW H)} {j : Nat} (hsz : (DataW.weightsEach Try.prog ts ds).all (· ≤ reachBytes) = true) (htj : ts[j]? = some 41) (hdj : ds[j]? = some D)
    (hv : Value.okWide Try.prog W r b0 41 v) (hd : DataW.Trod enc Try.prog W base spare held 41 v D p) : ∃ A c xs, v = .slice A xs.length c ∧ xs.length ≤ c ∧ (Kd.int .u8).C W A xs.length xs ∧
      (xs.length < 1000000000000000 ∧ ∀ x ∈ xs, 0 ≤ x) := by
  obtain ⟨A, c, xs, h1, h2, h3, h4, h5⟩ := open_arg_sliceS Try.underlying41 (by kernel_rfl) (opensS_of (Opens.imp (opens_int Try.underlying5) (fun n h => (u8_of h).1))) hsz htj hdj hv hd
  rw [show Try.prog.bytesOf 5 = 1 by kernel_rfl] at h4
  have h6 : xs.length * 1 ≤ 140737488351232 := h4
  exact ⟨A, c, xs, h1, h2, h3, by omega, h5⟩
end
noncomputable def laidWorld (os : Os) : World := World.doorLaid Try.prog 200 os
theorem laid_met (os : Os) (args : Array Value) : laidMetH Try.prog [] ((laidWorld os).forCall (fun _ _ => 0) ⟨#[], args, []⟩).memory :=
  laidMet_of_run' 8 (by kernel_rfl) (by kernel_rfl)
end Go.Proofs.Ytkkocmmilmbgpaa.S
end

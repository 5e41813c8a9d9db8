/- The law RowcodeBags of layer 2 answers true at every list of rows, every number and every row, and leaves its arguments as they were; condition: the tables of unicode/utf8 are laid as the program's text lays them. -/
import Derived.Test.YthghcpeedmconaaDoorZRb0
import Derived.Test.YthghcpeedmconaaDoorZRb1
import Derived.Test.YthghcpeedmconaaDoorZRb2
import Derived.Test.YthghcpeedmconaaDoorZRb5
import Derived.Test.YthghcpeedmconaaDoorZRb6
import Derived.Test.YthghcpeedmconaaDoorZRb7
import Derived.Deep.Slices
import Derived.Deep.Strs
import Derived.Lib.SmallJoins
import Derived.OpenShut
import Derived.Carry
import Derived.Test.YthghcpeedmconaaDoorCards
import Derived.Test.YthghcpeedmconaaDoorTie
import Derived.Lib.LaidU8T
import Derived.Lib.LaidTab
import Derived.Shelf.Vars
import Derived.LaidMore
import Derived.ShutString
import Derived.SizedLaws
import Derived.ProofKit
import Derived.Deep.DeepHandedRow
import Derived.SevenTiedAt
section
namespace Go.Proofs.YthghcpeedmconaaDoor.X
open Go.RowKit Go.Proofs.YthghcpeedmconaaDoorW.PrintWords Go.Proofs.YthghcpeedmconaaDoorW.PrintLast Go.Proofs.YthghcpeedmconaaDoorW.PrintMore
attribute [local go_sem] max2_int min2_int max_two min_two max_three min_three max_four min_four
set_option linter.unusedVariables false
set_option linter.unusedSimpArgs false
mutual
def locksteplaw02_RowcodeBags.l0 : Nat → List (List (S42)) → Int → List (S42) → List Int → List (List (S42)) → Int → Option (Bool)
  | 0, _, _, _, _, _, _ => none
  | k + 1, x0, x1, x2, x7, x9, x10 => if x10 ≥ 0 then (if (x0.length : Int) = 0 then (none) else (if 0 ≤ (Int.tmod (wrap64 (x10 + (wrap64 (x1)))) (x0.length : Int)) then (if (Int.tmod (wrap64 (x10 + (wrap64 (x1)))) (x0.length : Int)) < (x0.length : Int) then ((locksteplaw02_Own.f (rd_L5 x0 (Int.tmod (wrap64 (x10 + (wrap64 (x1)))) (x0.length : Int)))).bind fun t893 => (if x9.length < 5864062014805 then (locksteplaw02_RowcodeBags.l0 k x0 x1 x2 x7 (x9 ++ [t893]) (wrap64 (x10 - 1))) else (none))) else (none)) else (none))) else ((locksteplaw02_Owned.f k x9).bind fun t899 => ((rowcode_Bag.f k t899).bind fun bt902 => ((locksteplaw02_own.f x7).bind fun t906 => ((rowcode_ReadBag.f k t906).bind fun bt909 => (if bt902.2 = 0 then (if (strOfNums x7).toList = (strOfNums bt902.1).toList then (if bt909.2 = 0 then (locksteplaw02_RowcodeBags.j1 k x0 x2 x7 bt909.1 ((bt909.1.length : Int) != (x0.length : Int))) else (locksteplaw02_RowcodeBags.j1 k x0 x2 x7 bt909.1 true)) else (locksteplaw02_RowcodeBags.j1 k x0 x2 x7 bt909.1 true)) else (locksteplaw02_RowcodeBags.j1 k x0 x2 x7 bt909.1 true))))))
def locksteplaw02_RowcodeBags.j1 : Nat → List (List (S42)) → List (S42) → List Int → List (List (S42)) → Bool → Option (Bool)
  | 0, _, _, _, _, _ => none
  | k + 1, x0, x2, x7, x13, x84 => if x84 = true then (some false) else (locksteplaw02_RowcodeBags.l1 k x0 x2 x7 x13 1)
def locksteplaw02_RowcodeBags.l1 : Nat → List (List (S42)) → List (S42) → List Int → List (List (S42)) → Int → Option (Bool)
  | 0, _, _, _, _, _ => none
  | k + 1, x0, x2, x7, x13, x15 => if x15 < (x13.length : Int) then (if 0 ≤ (wrap64 (x15 - 1)) then (if (wrap64 (x15 - 1)) < (x13.length : Int) then (if 0 ≤ x15 then ((value_Rows.f k (rd_L5 x13 (wrap64 (x15 - 1))) (rd_L5 x13 x15)).bind fun t915 => (if t915 > 0 then (some false) else (locksteplaw02_RowcodeBags.l1 k x0 x2 x7 x13 (wrap64 (x15 + 1))))) else (none)) else (none)) else (none)) else ((rowcode_Bag.f k x13).bind fun bt916 => ((locksteplaw02_Owned.f k x0).bind fun t920 => ((locksteplaw02_Own.f x2).bind fun t923 => (if t920.length < 5864062014805 then ((rowcode_Bag.f k (t920 ++ [t923])).bind fun bt929 => (if bt916.2 = 0 then (if (strOfNums bt916.1).toList = (strOfNums x7).toList then (if bt929.2 = 0 then (some ((strOfNums bt929.1).toList != (strOfNums x7).toList)) else (some true)) else (some false)) else (some false))) else (none)))))
end
def locksteplaw02_RowcodeBags.f (k : Nat) (l0 : List (List (S42))) (a1 : Int) (l2 : List (S42)) : Option (Bool) := (locksteplaw02_lives.f k).bind fun t884 => (if t884 = true then ((locksteplaw02_Owned.f k l0).bind fun t885 => ((rowcode_Bag.f k t885).bind fun bt888 => (if bt888.2 = 0 then (locksteplaw02_RowcodeBags.l0 k l0 a1 l2 bt888.1 ([] : List (List (S42))) (wrap64 ((l0.length : Int) - 1))) else (some ((bt888.1.length : Int) == 0))))) else (some false))
theorem locksteplaw02_RowcodeBags.mono_l : ∀ k, (∀ y0 y1 y2 y3 y4 y5, LeO (locksteplaw02_RowcodeBags.l0 k y0 y1 y2 y3 y4 y5) (locksteplaw02_RowcodeBags.l0 (k + 1) y0 y1 y2 y3 y4 y5)) ∧ (∀ y0 y1 y2 y3 y4, LeO (locksteplaw02_RowcodeBags.j1 k y0 y1 y2 y3 y4) (locksteplaw02_RowcodeBags.j1 (k + 1) y0 y1 y2 y3 y4)) ∧ (∀ y0 y1 y2 y3 y4, LeO (locksteplaw02_RowcodeBags.l1 k y0 y1 y2 y3 y4) (locksteplaw02_RowcodeBags.l1 (k + 1) y0 y1 y2 y3 y4))
  | 0 => ⟨fun _ _ _ _ _ _ r h => by simp [locksteplaw02_RowcodeBags.l0] at h, fun _ _ _ _ _ r h => by simp [locksteplaw02_RowcodeBags.j1] at h, fun _ _ _ _ _ r h => by simp [locksteplaw02_RowcodeBags.l1] at h⟩
  | k + 1 => by
    obtain ⟨ih0, ih1, ih2⟩ := locksteplaw02_RowcodeBags.mono_l k
    refine ⟨?_, ?_, ?_⟩
    · intro y0 y1 y2 y3 y4 y5
      unfold locksteplaw02_RowcodeBags.l0
      repeat' first
      | (with_reducible exact ih0 _ _ _ _ _ _)
      | (with_reducible exact ih1 _ _ _ _ _)
      | (with_reducible exact ih2 _ _ _ _ _)
      | (with_reducible exact locksteplaw02_Owned.mono _ _)
      | (with_reducible exact locksteplaw02_lives.mono _)
      | (with_reducible exact rowcode_Bag.mono _ _)
      | (with_reducible exact rowcode_ReadBag.mono _ _)
      | (with_reducible exact value_Rows.mono _ _ _)
      | (with_reducible exact LeO.refl _)
      | (with_reducible exact LeO.none _)
      | (with_reducible refine LeO.ite ?_ ?_)
      | (with_reducible refine LeO.bind ?_ (fun _ => ?_))
      | exact ih0 _ _ _ _ _ _
      | exact ih1 _ _ _ _ _
      | exact ih2 _ _ _ _ _
      | exact locksteplaw02_Owned.mono _ _
      | exact locksteplaw02_lives.mono _
      | exact rowcode_Bag.mono _ _
      | exact rowcode_ReadBag.mono _ _
      | exact value_Rows.mono _ _ _
      | exact LeO.none _
      | refine LeO.ite ?_ ?_
      | refine LeO.bind ?_ (fun _ => ?_)
    · intro y0 y1 y2 y3 y4
      unfold locksteplaw02_RowcodeBags.j1
      repeat' first
      | (with_reducible exact ih0 _ _ _ _ _ _)
      | (with_reducible exact ih1 _ _ _ _ _)
      | (with_reducible exact ih2 _ _ _ _ _)
      | (with_reducible exact locksteplaw02_Owned.mono _ _)
      | (with_reducible exact locksteplaw02_lives.mono _)
      | (with_reducible exact rowcode_Bag.mono _ _)
      | (with_reducible exact rowcode_ReadBag.mono _ _)
      | (with_reducible exact value_Rows.mono _ _ _)
      | (with_reducible exact LeO.refl _)
      | (with_reducible exact LeO.none _)
      | (with_reducible refine LeO.ite ?_ ?_)
      | (with_reducible refine LeO.bind ?_ (fun _ => ?_))
      | exact ih0 _ _ _ _ _ _
      | exact ih1 _ _ _ _ _
      | exact ih2 _ _ _ _ _
      | exact locksteplaw02_Owned.mono _ _
      | exact locksteplaw02_lives.mono _
      | exact rowcode_Bag.mono _ _
      | exact rowcode_ReadBag.mono _ _
      | exact value_Rows.mono _ _ _
      | exact LeO.none _
      | refine LeO.ite ?_ ?_
      | refine LeO.bind ?_ (fun _ => ?_)
    · intro y0 y1 y2 y3 y4
      unfold locksteplaw02_RowcodeBags.l1
      repeat' first
      | (with_reducible exact ih0 _ _ _ _ _ _)
      | (with_reducible exact ih1 _ _ _ _ _)
      | (with_reducible exact ih2 _ _ _ _ _)
      | (with_reducible exact locksteplaw02_Owned.mono _ _)
      | (with_reducible exact locksteplaw02_lives.mono _)
      | (with_reducible exact rowcode_Bag.mono _ _)
      | (with_reducible exact rowcode_ReadBag.mono _ _)
      | (with_reducible exact value_Rows.mono _ _ _)
      | (with_reducible exact LeO.refl _)
      | (with_reducible exact LeO.none _)
      | (with_reducible refine LeO.ite ?_ ?_)
      | (with_reducible refine LeO.bind ?_ (fun _ => ?_))
      | exact ih0 _ _ _ _ _ _
      | exact ih1 _ _ _ _ _
      | exact ih2 _ _ _ _ _
      | exact locksteplaw02_Owned.mono _ _
      | exact locksteplaw02_lives.mono _
      | exact rowcode_Bag.mono _ _
      | exact rowcode_ReadBag.mono _ _
      | exact value_Rows.mono _ _ _
      | exact LeO.none _
      | refine LeO.ite ?_ ?_
      | refine LeO.bind ?_ (fun _ => ?_)
theorem locksteplaw02_RowcodeBags.mono : ∀ a0 a1 a2 k, LeO (locksteplaw02_RowcodeBags.f k a0 a1 a2) (locksteplaw02_RowcodeBags.f (k + 1) a0 a1 a2) := by
  intro a0 a1 a2 k
  obtain ⟨ih0, ih1, ih2⟩ := locksteplaw02_RowcodeBags.mono_l k
  unfold locksteplaw02_RowcodeBags.f
  repeat' first
      | (with_reducible exact ih0 _ _ _ _ _ _)
      | (with_reducible exact ih1 _ _ _ _ _)
      | (with_reducible exact ih2 _ _ _ _ _)
      | (with_reducible exact locksteplaw02_Owned.mono _ _)
      | (with_reducible exact locksteplaw02_lives.mono _)
      | (with_reducible exact rowcode_Bag.mono _ _)
      | (with_reducible exact rowcode_ReadBag.mono _ _)
      | (with_reducible exact value_Rows.mono _ _ _)
      | (with_reducible exact LeO.refl _)
      | (with_reducible exact LeO.none _)
      | (with_reducible refine LeO.ite ?_ ?_)
      | (with_reducible refine LeO.bind ?_ (fun _ => ?_))
      | exact ih0 _ _ _ _ _ _
      | exact ih1 _ _ _ _ _
      | exact ih2 _ _ _ _ _
      | exact locksteplaw02_Owned.mono _ _
      | exact locksteplaw02_lives.mono _
      | exact rowcode_Bag.mono _ _
      | exact rowcode_ReadBag.mono _ _
      | exact value_Rows.mono _ _ _
      | exact LeO.none _
      | refine LeO.ite ?_ ?_
      | refine LeO.bind ?_ (fun _ => ?_)
def locksteplaw02_RowcodeBags.T18 : Bool × List (List Nat × List Nat) := (true, [([], []), ([], []), ([1], [1]), ([0, 2], [0, 2]), ([3], [3]), ([], []), ([], []), ([5, 6], [5, 6]), ([7], [7]), ([4, 8], [4, 8]), ([9], [9])])
def locksteplaw02_RowcodeBags.B18 : List Nat := [0, 0, 2, 7, 15, 0, 0, 96, 224, 511, 1023]
theorem locksteplaw02_RowcodeBags.tab18 : rtab .any (opsOf Tryd.f9 18) = locksteplaw02_RowcodeBags.T18 := by kernel_rfl
theorem locksteplaw02_RowcodeBags.bits18 : waitsOk locksteplaw02_RowcodeBags.T18.2 locksteplaw02_RowcodeBags.B18 = true := by kernel_rfl
set_option maxHeartbeats 8000000 in
set_option maxRecDepth 100000 in
theorem locksteplaw02_RowcodeBags.calls (k : Nat) (A0 : Option Addr) (c0 : Nat) (l0 : List (List (S42))) (a1 : Int) (A2 : Option Addr) (c2 : Nat) (l2 : List (S42)) (r : Bool) (w : World) (hT : Tabs w) (hr0 : Kd.C (Kd.slice 42 k42) w A0 l0.length l0) (hc0 : l0.length ≤ c0) (hr2 : Kd.C k42 w A2 l2.length l2) (hc2 : l2.length ≤ c2) (h : locksteplaw02_RowcodeBags.f k l0 a1 l2 = some r) (hr : r = true) :
    Calls Tryd.prog 9 #[.slice A0 l0.length c0, .int .u16 a1, .slice A2 l2.length c2] w fun e w' => e = .returned (.bool r) ∧ Below w.heap.size w w' := by
  have HR := Aside0.mk hr
  clear hr
  have HT := Aside0.mk hT
  clear hT
  have HR0 := Aside0.mk hr0
  have HC0 := Aside0.mk hc0
  clear hr0 hc0
  have HR2 := Aside0.mk hr2
  have HC2 := Aside0.mk hc2
  clear hr2 hc2
  have HB := Aside0.mk (Below.refl w.heap.size w)
  have H : ((locksteplaw02_lives.f k).bind fun t884 => (if t884 = true then ((locksteplaw02_Owned.f k l0).bind fun t885 => ((rowcode_Bag.f k t885).bind fun bt888 => (if bt888.2 = 0 then (locksteplaw02_RowcodeBags.l0 k l0 a1 l2 bt888.1 ([] : List (List (S42))) (wrap64 ((l0.length : Int) - 1))) else (some ((bt888.1.length : Int) == 0))))) else (some false))) = some r := h
  clear h
  replace H := Option.bind_eq_some_iff.mp H
  obtain ⟨t884, A40, H⟩ := H
  replace H : (if t884 = true then ((locksteplaw02_Owned.f k l0).bind fun t885 => ((rowcode_Bag.f k t885).bind fun bt888 => (if bt888.2 = 0 then (locksteplaw02_RowcodeBags.l0 k l0 a1 l2 bt888.1 ([] : List (List (S42))) (wrap64 ((l0.length : Int) - 1))) else (some ((bt888.1.length : Int) == 0))))) else (some false)) = some r := H
  have A4 := Aside0.mk A40
  clear A40
  by_cases c5 : t884 = true
  · subst c5
    have H1 : ((locksteplaw02_Owned.f k l0).bind fun t885 => ((rowcode_Bag.f k t885).bind fun bt888 => (if bt888.2 = 0 then (locksteplaw02_RowcodeBags.l0 k l0 a1 l2 bt888.1 ([] : List (List (S42))) (wrap64 ((l0.length : Int) - 1))) else (some ((bt888.1.length : Int) == 0))))) = some r := by rw [if_pos rfl] at H; exact H
    clear H
    have H := H1
    clear H1
    replace H := Option.bind_eq_some_iff.mp H
    obtain ⟨t885, A60, H⟩ := H
    replace H : ((rowcode_Bag.f k t885).bind fun bt888 => (if bt888.2 = 0 then (locksteplaw02_RowcodeBags.l0 k l0 a1 l2 bt888.1 ([] : List (List (S42))) (wrap64 ((l0.length : Int) - 1))) else (some ((bt888.1.length : Int) == 0)))) = some r := H
    have A6 := Aside0.mk A60
    clear A60
    replace H := Option.bind_eq_some_iff.mp H
    obtain ⟨⟨t888, t889⟩, A70, H⟩ := H
    replace H : (if t889 = 0 then (locksteplaw02_RowcodeBags.l0 k l0 a1 l2 t888 ([] : List (List (S42))) (wrap64 ((l0.length : Int) - 1))) else (some ((t888.length : Int) == 0))) = some r := H
    have A7 := Aside0.mk A70
    clear A70
    by_cases c8 : t889 = 0
    · rw [if_pos c8] at H
      have c8b0 : (t889 == 0) = true := beq_iff_eq.mpr c8
      have c8b1 : (t889 != 0) = false := bne_eq_false_iff_eq.mpr c8
      clear c8
      have H' := Aside0.mk H
      clear H
      go_enter Tryd.func9, Tryd.ntmps9
      go_wp2_with (first | ((with_reducible refine gate_callee (f := 17) rfl ?_); refine goesL_ (some 20) rfl rfl Tryd.func17 (by kernel_rfl) rfl #[] rfl (by (try simp only [List.map_toArray, List.map_cons, List.map_nil]); first | done | rfl | (simp only [List.length_drop, List.length_take]; rfl)) ?_; (with_reducible refine (locksteplaw02_lives.calls k  true _ ?side1 A4.out).mono ?_); (case side1 => exact Tabs.below HT.out (by repeat (first | (with_reducible first | exact HB.out | apply below_alloc | apply pw_below_drewN | apply below_drew1) | exact HB.out))); rintro e w9 ⟨rfl, hb⟩; refine ⟨_, rfl, ?_⟩; have n0_ := Aside0.mk (below_step (by repeat (first | (with_reducible first | exact HB.out | apply below_alloc | apply pw_below_drewN | apply below_drew1) | exact HB.out)) hb); clear HB; have HB := n0_; clear n0_; (try clear hb); (try clear hb2); (try clear hk); (try clear hi)) | ((with_reducible refine gate_callee (f := 37) rfl ?_); refine goesL_ (some 24) rfl rfl Tryd.func37 (by kernel_rfl) rfl #[.slice A0 l0.length c0] rfl (by (try simp only [List.map_toArray, List.map_cons, List.map_nil]); first | done | rfl | (simp only [List.length_drop, List.length_take]; rfl)) ?_; (with_reducible refine (locksteplaw02_Owned.calls k _ _ l0 t885 _ ?side1 ?side2 A6.out).mono ?_); (case side1 => repeat (first | exact (Kd.C_below HR0.out HB.out) | (with_reducible refine Kd.C_alloc ?_ _) | (with_reducible refine Kd.C_drewN ?_ _) | (with_reducible refine Kd.C_drew ?_))); (case side2 => exact HC0.out); rintro e w10 ⟨v886, rfl, ho0, hb⟩; refine ⟨_, rfl, ?_⟩; have n0_ := Aside0.mk (Kd.S_lower ho0 (below_size (by repeat (first | (with_reducible first | exact HB.out | apply below_alloc | apply pw_below_drewN | apply below_drew1) | exact HB.out)))); have n1_ := Aside0.mk (below_step (by repeat (first | (with_reducible first | exact HB.out | apply below_alloc | apply pw_below_drewN | apply below_drew1) | exact HB.out)) hb); clear HB; have HO887 := n0_; have HB := n1_; clear n0_ n1_; (try clear hb); (try clear hb2); (try clear hk); (try clear hi); (try clear ho0); obtain ⟨Ao11, co11, eo11⟩ := Kd.S_slice HO887.out; subst eo11) | ((with_reducible refine gate_callee (f := 39) rfl ?_); refine goesL_ (some 25) rfl rfl Tryd.func39 (by kernel_rfl) rfl #[.slice Ao11 t885.length co11] rfl (by (try simp only [List.map_toArray, List.map_cons, List.map_nil]); first | done | rfl | (simp only [List.length_drop, List.length_take]; rfl)) ?_; (with_reducible refine (rowcode_Bag.calls k _ _ t885 t888 t889 _ ?side1 ?side2 ?side3 A7.out).mono ?_); (case side1 => exact Tabs.below HT.out (by repeat (first | (with_reducible first | exact HB.out | apply below_alloc | apply pw_below_drewN | apply below_drew1) | exact HB.out))); (case side2 => repeat (first | exact (Kd.S_reads' HO887.out).2.2 | (with_reducible refine Kd.C_alloc ?_ _) | (with_reducible refine Kd.C_drewN ?_ _) | (with_reducible refine Kd.C_drew ?_))); (case side3 => exact (Kd.S_reads' HO887.out).2.1); rintro e w12 ⟨v890, rfl, ho0, hb⟩; refine ⟨_, rfl, ?_⟩; have n0_ := Aside0.mk (Kd.S_below (by (with_reducible repeat (first | apply Kd.S_alloc | apply Kd.S_drewN | apply Kd.S_drew)); exact HO887.out) hb); have n1_ := Aside0.mk (Kd.R_lower ho0 (below_size (by repeat (first | (with_reducible first | exact HB.out | apply below_alloc | apply pw_below_drewN | apply below_drew1) | exact HB.out)))); have n2_ := Aside0.mk (below_step (by repeat (first | (with_reducible first | exact HB.out | apply below_alloc | apply pw_below_drewN | apply below_drew1) | exact HB.out)) hb); clear HO887; clear HB; have HO887 := n0_; have HO891 := n1_; have HB := n2_; clear n0_ n1_ n2_; (try clear hb); (try clear hb2); (try clear hk); (try clear hi); (try clear ho0)))
      go_loopg [9, 10] k (fun kq v9 v10 w' => ∃ (x9_1 : List (List (S42))) (x10_1 : Int), v10 = .int .i64 x10_1 ∧ Aside0 (locksteplaw02_RowcodeBags.l0 kq l0 a1 l2 t888 x9_1 x10_1 = some r) ∧ Aside0 (kq ≤ k) ∧ Aside0 (Kd.R (Kd.int .u8) 5 w' w.heap.size (fun _ => True) v890 t888) ∧ (∃ rows9 : List (List Value), Aside0 (Seen (Kd.slice 42 k42) w rows9 x9_1) ∧ Aside0 (Kd.R (Kd.raw 1) 33 w' w.heap.size (fun _ => True) v9 rows9)) ∧ Aside0 (Below w.heap.size w w'))
      case atStart => exact ⟨(([] : List (List (S42)))), (wrap64 ((l0.length : Int) - 1)), (by first | rfl | (simp; done) | (simp [*]; done)), H', ⟨Nat.le_refl _⟩, ⟨by (with_reducible repeat (first | apply Kd.R_alloc | apply Kd.R_drewN | apply Kd.R_drew)); exact HO891.out⟩, ⟨[], ⟨Seen.nil _ _⟩, ⟨Kd.R_nil _ _ _ _ _⟩⟩, ⟨by repeat (first | (with_reducible first | exact HB.out | apply below_alloc | apply pw_below_drewN | apply below_drew1) | exact HB.out)⟩⟩
      case round =>
        clear H'
        try clear c1
        try clear c2
        try clear p2
        try clear c3
        try clear c5
        try clear p6
        try clear c8
        try clear c8b0
        try clear c8b1
        try clear c9
        obtain ⟨x9_1, x10_1, rfl, HA, HK1, HO_7, ⟨rows9, HE9, HO_9⟩, HB⟩ := hrel
        cases gk with
        | zero => exact absurd HA.out (by simp [locksteplaw02_RowcodeBags.l0])
        | succ k1 =>
          have H := HA.out
          clear HA
          simp only [locksteplaw02_RowcodeBags.l0] at H
          by_cases c13 : x10_1 ≥ 0
          · rw [if_pos c13] at H
            have c13b0 : decide (0 ≤ x10_1) = true := decide_eq_true c13
            clear c13
            by_cases c14 : (l0.length : Int) = 0
            · rw [if_pos c14] at H
              exact absurd H (by simp)
            · rw [if_neg c14] at H
              have c14b0 : ((l0.length : Int) == 0) = false := beq_eq_false_iff_ne.mpr c14
              have c14b1 : ((l0.length : Int) != 0) = true := bne_iff_ne.mpr c14
              have c14b2 : ¬ (l0 = []) := fun h_ => c14 (by rw [h_]; rfl)
              obtain ⟨ji15, hji15⟩ : ∃ j_ : Int, (Int.tmod (wrap64 (x10_1 + (wrap64 (a1)))) (l0.length : Int)) = j_ := ⟨_, rfl⟩
              replace H : (if 0 ≤ (ji15) then (if (ji15) < (l0.length : Int) then ((locksteplaw02_Own.f (rd_L5 l0 (ji15))).bind fun t893 => (if x9_1.length < 5864062014805 then (locksteplaw02_RowcodeBags.l0 k1 l0 a1 l2 t888 (x9_1 ++ [t893]) (wrap64 (x10_1 - 1))) else (none))) else (none)) else (none)) = some r := by first | (rw [hji15] at H; exact H) | (simp only [hji15] at H ⊢; exact H)
              by_cases c16 : 0 ≤ (ji15)
              · rw [if_pos c16] at H
                have c16b0 : decide (0 ≤ (ji15)) = true := decide_eq_true c16
                clear c16
                by_cases c17 : (ji15) < (l0.length : Int)
                · rw [if_pos c17] at H
                  have c17b0 : decide ((ji15) < (l0.length : Int)) = true := decide_eq_true c17
                  clear c17
                  replace H := Option.bind_eq_some_iff.mp H
                  obtain ⟨t893, A180, H⟩ := H
                  replace H : (if x9_1.length < 5864062014805 then (locksteplaw02_RowcodeBags.l0 k1 l0 a1 l2 t888 (x9_1 ++ [t893]) (wrap64 (x10_1 - 1))) else (none)) = some r := H
                  have A18 := Aside0.mk A180
                  clear A180
                  by_cases c19 : x9_1.length < 5864062014805
                  · rw [if_pos c19] at H
                    have LMc19 := Aside0.mk c19
                    clear c19
                    obtain ⟨y896, hy896⟩ : ∃ y_ : List (List (S42)), y_ = (x9_1 ++ [t893]) := ⟨_, rfl⟩
                    replace H : (locksteplaw02_RowcodeBags.l0 k1 l0 a1 l2 t888 y896 (wrap64 (x10_1 - 1))) = some r := by first | (rw [hy896]; with_reducible exact H) | (have H2_ := (Option.bind_some _ _).symm.trans H; rw [hy896]; with_reducible exact H2_) | (have H2_ := (Option.bind_some _ _).symm.trans H; with_reducible exact H2_) | with_reducible exact H | (rw [hy896]; exact H) | exact H
                    have Ny896 := Aside0.mk hy896
                    clear hy896
                    have H' := Aside0.mk H
                    clear H
                    have p892 : 0 ≤ ((ji15) : Int) := of_decide_eq_true (by first | (with_reducible assumption) | assumption)
                    have q892 : (ji15) < (l0.length : Int) := of_decide_eq_true (by first | (with_reducible assumption) | assumption)
                    obtain ⟨ad892, A892_0, c892_0, e892, hx892_0, hl892_0, hi892_0⟩ := at_L5 HR0.out (ji15) p892 q892
                    cases e892
                    replace hx892_0 := (HB.out.cell (World.block_lt_of_cell? w _ hx892_0)).trans hx892_0
                    have HR892_0 := Aside0.mk hi892_0
                    have HC892_0 := Aside0.mk hl892_0
                    clear hi892_0 hl892_0
                    replace p892 := eq_true p892
                    replace q892 := eq_true q892
                    go_wp2_with (first | ((with_reducible refine gate_builtin (b := .append) (xs := #[.tmp 40, .tmp 51]) rfl ?_); (try (refine gate_guard (by rfl) ?_; dsimp only)); at_builtin; refine Kd.R_append (Kd.raw 1) (w0 := w) w.heap.size rfl (.tmp 40) (.tmp 51) 44 33 (.slice none 0 0) 24 rfl Tryd.underlying44 info33 rfl (by decide) (by omega) u9 rows9 [.slice A892_0 (rd_L5 l0 (ji15)).length c892_0] [.slice A892_0 (rd_L5 l0 (ji15)).length c892_0] (fun _ => True) (fun k_ => some k_ ≠ (u9 : Value).ownBlock) rfl rfl ?aP (fun k_ hk_ => ⟨trivial, hk_⟩) ?aF ?aO ?aB ?aS ?aL ?_; (case aP => exact ⟨rfl, rfl, fun u_ hu_ => by rw [List.mem_singleton.1 hu_]; rfl⟩); (case aB => exact (by repeat (first | (with_reducible first | exact HB.out | apply below_alloc | apply pw_below_drewN | apply below_drew1) | exact HB.out))); (case aF => exact fun _ _ => trivial); (case aO => exact (by (with_reducible repeat (first | apply Kd.R_alloc | apply Kd.R_drewN | apply Kd.R_drew)); exact HO_9.out)); (case aS => exact (below_size (by repeat (first | (with_reducible first | exact HB.out | apply below_alloc | apply pw_below_drewN | apply below_drew1) | exact HB.out)))); (case aL => have := LMc19.out; have := HE9.out.1; omega); intro v897 w21 ho hb hg hat; have n0_ := Aside0.mk (Kd.R_over' (by (with_reducible repeat (first | apply Kd.R_alloc | apply Kd.R_drewN | apply Kd.R_drew)); exact HO_7.out) (Kd.R_typed (by (with_reducible repeat (first | apply Kd.R_alloc | apply Kd.R_drewN | apply Kd.R_drew)); exact HO_9.out)) (by decide) hg); have n1_ := Aside0.mk (hb); have n2_ := Aside0.mk (ho); clear HO_7; clear HB; clear HO_9; have HO_7 := n0_; have HB := n1_; have HO898 := n2_; clear n0_ n1_ n2_; clear ho hb hg hat))
                    go_roundg k1
                    case measure => have := HK1.out; omega
                    case rel => exact ⟨(y896), (wrap64 (x10_1 - 1)), (by first | rfl | (simp; done) | (simp [*]; done)), H', ⟨by have := HK1.out; omega⟩, ⟨by (with_reducible repeat (first | apply Kd.R_alloc | apply Kd.R_drewN | apply Kd.R_drew)); exact HO_7.out⟩, ⟨rows9 ++ [[.slice A892_0 (rd_L5 l0 (ji15)).length c892_0]], ⟨by rw [Ny896.out]; exact Seen.snoc HE9.out (Own_id A18.out) HR892_0.out HC892_0.out⟩, ⟨by (with_reducible repeat (first | apply Kd.R_alloc | apply Kd.R_drewN | apply Kd.R_drew)); exact HO898.out⟩⟩, ⟨by repeat (first | (with_reducible first | exact HB.out | apply below_alloc | apply pw_below_drewN | apply below_drew1) | exact HB.out)⟩⟩
                  · rw [if_neg c19] at H
                    exact absurd H (by simp)
                · rw [if_neg c17] at H
                  exact absurd H (by simp)
              · rw [if_neg c16] at H
                exact absurd H (by simp)
          · rw [if_neg c13] at H
            have c13b0 : decide (0 ≤ x10_1) = false := decide_eq_false c13
            clear c13
            replace H := Option.bind_eq_some_iff.mp H
            obtain ⟨t899, A230, H⟩ := H
            replace H : ((rowcode_Bag.f k1 t899).bind fun bt902 => ((locksteplaw02_own.f t888).bind fun t906 => ((rowcode_ReadBag.f k1 t906).bind fun bt909 => (if bt902.2 = 0 then (if (strOfNums t888).toList = (strOfNums bt902.1).toList then (if bt909.2 = 0 then (locksteplaw02_RowcodeBags.j1 k1 l0 l2 t888 bt909.1 ((bt909.1.length : Int) != (l0.length : Int))) else (locksteplaw02_RowcodeBags.j1 k1 l0 l2 t888 bt909.1 true)) else (locksteplaw02_RowcodeBags.j1 k1 l0 l2 t888 bt909.1 true)) else (locksteplaw02_RowcodeBags.j1 k1 l0 l2 t888 bt909.1 true))))) = some r := H
            have A23 := Aside0.mk A230
            clear A230
            replace H := Option.bind_eq_some_iff.mp H
            obtain ⟨⟨t902, t903⟩, A240, H⟩ := H
            replace H : ((locksteplaw02_own.f t888).bind fun t906 => ((rowcode_ReadBag.f k1 t906).bind fun bt909 => (if t903 = 0 then (if (strOfNums t888).toList = (strOfNums t902).toList then (if bt909.2 = 0 then (locksteplaw02_RowcodeBags.j1 k1 l0 l2 t888 bt909.1 ((bt909.1.length : Int) != (l0.length : Int))) else (locksteplaw02_RowcodeBags.j1 k1 l0 l2 t888 bt909.1 true)) else (locksteplaw02_RowcodeBags.j1 k1 l0 l2 t888 bt909.1 true)) else (locksteplaw02_RowcodeBags.j1 k1 l0 l2 t888 bt909.1 true)))) = some r := H
            have A24 := Aside0.mk A240
            clear A240
            replace H := Option.bind_eq_some_iff.mp H
            obtain ⟨t906, A250, H⟩ := H
            replace H : ((rowcode_ReadBag.f k1 t906).bind fun bt909 => (if t903 = 0 then (if (strOfNums t888).toList = (strOfNums t902).toList then (if bt909.2 = 0 then (locksteplaw02_RowcodeBags.j1 k1 l0 l2 t888 bt909.1 ((bt909.1.length : Int) != (l0.length : Int))) else (locksteplaw02_RowcodeBags.j1 k1 l0 l2 t888 bt909.1 true)) else (locksteplaw02_RowcodeBags.j1 k1 l0 l2 t888 bt909.1 true)) else (locksteplaw02_RowcodeBags.j1 k1 l0 l2 t888 bt909.1 true))) = some r := H
            have A25 := Aside0.mk A250
            clear A250
            replace H := Option.bind_eq_some_iff.mp H
            obtain ⟨⟨t909, t912⟩, A260, H⟩ := H
            replace H : (if t903 = 0 then (if (strOfNums t888).toList = (strOfNums t902).toList then (if t912 = 0 then (locksteplaw02_RowcodeBags.j1 k1 l0 l2 t888 t909 ((t909.length : Int) != (l0.length : Int))) else (locksteplaw02_RowcodeBags.j1 k1 l0 l2 t888 t909 true)) else (locksteplaw02_RowcodeBags.j1 k1 l0 l2 t888 t909 true)) else (locksteplaw02_RowcodeBags.j1 k1 l0 l2 t888 t909 true)) = some r := H
            have A26 := Aside0.mk A260
            clear A260
            have HC27 := Aside0.mk H
            clear H
            obtain ⟨Ao28, co28, eo28⟩ := Kd.R_slice HO_9.out; rw [HE9.out.1] at eo28
            subst eo28
            go_upto_region 13 with (first | ((with_reducible refine gate_callee (f := 37) rfl ?_); refine goesL_ (some 55) rfl rfl Tryd.func37 (by kernel_rfl) rfl #[.slice Ao28 x9_1.length co28] rfl (by (try simp only [List.map_toArray, List.map_cons, List.map_nil]); first | done | rfl | (simp only [List.length_drop, List.length_take]; rfl)) ?_; (with_reducible refine (locksteplaw02_Owned.calls k1 _ _ x9_1 t899 _ ?side1 ?side2 A23.out).mono ?_); (case side1 => repeat (first | exact Seen.reads HE9.out HO_9.out (by repeat (first | (with_reducible first | exact HB.out | apply below_alloc | apply pw_below_drewN | apply below_drew1) | exact HB.out)) | (with_reducible refine Kd.C_alloc ?_ _) | (with_reducible refine Kd.C_drewN ?_ _) | (with_reducible refine Kd.C_drew ?_))); (case side2 => exact (by have h_ := (Kd.R_reads' HO_9.out).2.1; have := HE9.out.1; omega)); rintro e w29 ⟨v900, rfl, ho0, hb⟩; refine ⟨_, rfl, ?_⟩; have n0_ := Aside0.mk (Kd.R_below (by (with_reducible repeat (first | apply Kd.R_alloc | apply Kd.R_drewN | apply Kd.R_drew)); exact HO_7.out) hb); have n1_ := Aside0.mk (Kd.R_elder' (by (with_reducible repeat (first | apply Kd.R_alloc | apply Kd.R_drewN | apply Kd.R_drew)); exact HO_9.out) (Kd.S_base ho0) hb); have n2_ := Aside0.mk (Kd.S_lower (Kd.S_new' ho0 (Kd.R_lt (by (with_reducible repeat (first | apply Kd.R_alloc | apply Kd.R_drewN | apply Kd.R_drew)); exact HO_9.out))) (below_size (by repeat (first | (with_reducible first | exact HB.out | apply below_alloc | apply pw_below_drewN | apply below_drew1) | exact HB.out)))); have n3_ := Aside0.mk (below_step (by repeat (first | (with_reducible first | exact HB.out | apply below_alloc | apply pw_below_drewN | apply below_drew1) | exact HB.out)) hb); clear HO_7; clear HO_9; clear HB; have HO_7 := n0_; have HO_9 := n1_; have HO901 := n2_; have HB := n3_; clear n0_ n1_ n2_ n3_; (try clear hb); (try clear hb2); (try clear hk); (try clear hi); (try clear ho0); obtain ⟨Ao30, co30, eo30⟩ := Kd.S_slice HO901.out; subst eo30) | ((with_reducible refine gate_callee (f := 39) rfl ?_); refine goesL_ (some 56) rfl rfl Tryd.func39 (by kernel_rfl) rfl #[.slice Ao30 t899.length co30] rfl (by (try simp only [List.map_toArray, List.map_cons, List.map_nil]); first | done | rfl | (simp only [List.length_drop, List.length_take]; rfl)) ?_; (with_reducible refine (rowcode_Bag.calls k1 _ _ t899 t902 t903 _ ?side1 ?side2 ?side3 A24.out).mono ?_); (case side1 => exact Tabs.below HT.out (by repeat (first | (with_reducible first | exact HB.out | apply below_alloc | apply pw_below_drewN | apply below_drew1) | exact HB.out))); (case side2 => repeat (first | exact (Kd.S_reads' HO901.out).2.2 | (with_reducible refine Kd.C_alloc ?_ _) | (with_reducible refine Kd.C_drewN ?_ _) | (with_reducible refine Kd.C_drew ?_))); (case side3 => exact (Kd.S_reads' HO901.out).2.1); rintro e w31 ⟨v904, rfl, ho0, hb⟩; refine ⟨_, rfl, ?_⟩; have n0_ := Aside0.mk (Kd.R_elder' (by (with_reducible repeat (first | apply Kd.R_alloc | apply Kd.R_drewN | apply Kd.R_drew)); exact HO_7.out) (Kd.R_base ho0) hb); have n1_ := Aside0.mk (Kd.R_below (by (with_reducible repeat (first | apply Kd.R_alloc | apply Kd.R_drewN | apply Kd.R_drew)); exact HO_9.out) hb); have n2_ := Aside0.mk (Kd.S_below (by (with_reducible repeat (first | apply Kd.S_alloc | apply Kd.S_drewN | apply Kd.S_drew)); exact HO901.out) hb); have n3_ := Aside0.mk (Kd.R_lower (Kd.R_new' ho0 (Kd.R_lt (by (with_reducible repeat (first | apply Kd.R_alloc | apply Kd.R_drewN | apply Kd.R_drew)); exact HO_7.out))) (below_size (by repeat (first | (with_reducible first | exact HB.out | apply below_alloc | apply pw_below_drewN | apply below_drew1) | exact HB.out)))); have n4_ := Aside0.mk (below_step (by repeat (first | (with_reducible first | exact HB.out | apply below_alloc | apply pw_below_drewN | apply below_drew1) | exact HB.out)) hb); clear HO_7; clear HO_9; clear HO901; clear HB; have HO_7 := n0_; have HO_9 := n1_; have HO901 := n2_; have HO905 := n3_; have HB := n4_; clear n0_ n1_ n2_ n3_ n4_; (try clear hb); (try clear hb2); (try clear hk); (try clear hi); (try clear ho0); obtain ⟨Ao32, co32, eo32⟩ := Kd.R_slice HO_7.out; subst eo32) | ((with_reducible refine gate_callee (f := 25) rfl ?_); refine goesL_ (some 61) rfl rfl Tryd.func25 (by kernel_rfl) rfl #[.slice Ao32 t888.length co32] rfl (by (try simp only [List.map_toArray, List.map_cons, List.map_nil]); first | done | rfl | (simp only [List.length_drop, List.length_take]; rfl)) ?_; (with_reducible refine (locksteplaw02_own.calls _ _ t888 t906 _ ?side1 ?side2 A25.out).mono ?_); (case side1 => repeat (first | exact (Kd.R_reads' HO_7.out).2.2 | (with_reducible refine Kd.C_alloc ?_ _) | (with_reducible refine Kd.C_drewN ?_ _) | (with_reducible refine Kd.C_drew ?_))); (case side2 => exact (Kd.R_reads' HO_7.out).2.1); rintro e w33 ⟨v907, rfl, ho0, hb⟩; refine ⟨_, rfl, ?_⟩; have n0_ := Aside0.mk (Kd.R_elder' (by (with_reducible repeat (first | apply Kd.R_alloc | apply Kd.R_drewN | apply Kd.R_drew)); exact HO_7.out) (Kd.R_base ho0) hb); have n1_ := Aside0.mk (Kd.R_below (by (with_reducible repeat (first | apply Kd.R_alloc | apply Kd.R_drewN | apply Kd.R_drew)); exact HO_9.out) hb); have n2_ := Aside0.mk (Kd.S_below (by (with_reducible repeat (first | apply Kd.S_alloc | apply Kd.S_drewN | apply Kd.S_drew)); exact HO901.out) hb); have n3_ := Aside0.mk (Kd.R_elder' (by (with_reducible repeat (first | apply Kd.R_alloc | apply Kd.R_drewN | apply Kd.R_drew)); exact HO905.out) (Kd.R_base ho0) hb); have n4_ := Aside0.mk (Kd.R_lower (Kd.R_new' (Kd.R_new' ho0 (Kd.R_lt (by (with_reducible repeat (first | apply Kd.R_alloc | apply Kd.R_drewN | apply Kd.R_drew)); exact HO_7.out))) (Kd.R_lt (by (with_reducible repeat (first | apply Kd.R_alloc | apply Kd.R_drewN | apply Kd.R_drew)); exact HO905.out))) (below_size (by repeat (first | (with_reducible first | exact HB.out | apply below_alloc | apply pw_below_drewN | apply below_drew1) | exact HB.out)))); have n5_ := Aside0.mk (below_step (by repeat (first | (with_reducible first | exact HB.out | apply below_alloc | apply pw_below_drewN | apply below_drew1) | exact HB.out)) hb); clear HO_7; clear HO_9; clear HO901; clear HO905; clear HB; have HO_7 := n0_; have HO_9 := n1_; have HO901 := n2_; have HO905 := n3_; have HO908 := n4_; have HB := n5_; clear n0_ n1_ n2_ n3_ n4_ n5_; (try clear hb); (try clear hb2); (try clear hk); (try clear hi); (try clear ho0); obtain ⟨Ao34, co34, eo34⟩ := Kd.R_slice HO908.out; subst eo34) | ((with_reducible refine gate_callee (f := 43) rfl ?_); refine goesL_ (some 62) rfl rfl Tryd.func43 (by kernel_rfl) rfl #[.slice Ao34 t906.length co34] rfl (by (try simp only [List.map_toArray, List.map_cons, List.map_nil]); first | done | rfl | (simp only [List.length_drop, List.length_take]; rfl)) ?_; (with_reducible refine (rowcode_ReadBag.calls k1 (fun k_ => some k_ = (.slice Ao34 t906.length co34 : Value).ownBlock) _ _ t906 t909 t912 _ ?side1 ?side2 A26.out).mono ?_); (case side1 => exact Tabs.below HT.out (by repeat (first | (with_reducible first | exact HB.out | apply below_alloc | apply pw_below_drewN | apply below_drew1) | exact HB.out))); (case side2 => exact Kd.R_V (Kd.R_tight rfl (Kd.R_apart' (Kd.R_apart' (HO908.out) (Kd.R_typed HO_9.out) (by decide)) (Kd.S_typed HO901.out) (by decide)))); rintro e w35 ⟨v910, rfl, ho0, hb⟩; refine ⟨_, rfl, ?_⟩; have n0_ := Aside0.mk (Kd.R_below (by (with_reducible repeat (first | apply Kd.R_alloc | apply Kd.R_drewN | apply Kd.R_drew)); exact HO_7.out) hb); have n1_ := Aside0.mk (Kd.R_elder' (by (with_reducible repeat (first | apply Kd.R_alloc | apply Kd.R_drewN | apply Kd.R_drew)); exact HO_9.out) (Kd.S_base ho0) hb); have n2_ := Aside0.mk (Kd.S_elder' (by (with_reducible repeat (first | apply Kd.S_alloc | apply Kd.S_drewN | apply Kd.S_drew)); exact HO901.out) (Kd.S_base ho0) hb); have n3_ := Aside0.mk (Kd.R_below (by (with_reducible repeat (first | apply Kd.R_alloc | apply Kd.R_drewN | apply Kd.R_drew)); exact HO905.out) hb); have n4_ := Aside0.mk (Kd.R_below (by (with_reducible repeat (first | apply Kd.R_alloc | apply Kd.R_drewN | apply Kd.R_drew)); exact HO908.out) hb); have n5_ := Aside0.mk (Kd.S_lower (Kd.S_new' (Kd.S_new' (Kd.S_mono (ok' := fun k_ => True) ho0 (fun _ hk_ => trivial)) (Kd.R_lt (by (with_reducible repeat (first | apply Kd.R_alloc | apply Kd.R_drewN | apply Kd.R_drew)); exact HO_9.out))) (Kd.S_lt (by (with_reducible repeat (first | apply Kd.S_alloc | apply Kd.S_drewN | apply Kd.S_drew)); exact HO901.out))) (below_size (by repeat (first | (with_reducible first | exact HB.out | apply below_alloc | apply pw_below_drewN | apply below_drew1) | exact HB.out)))); have n6_ := Aside0.mk (below_step (by repeat (first | (with_reducible first | exact HB.out | apply below_alloc | apply pw_below_drewN | apply below_drew1) | exact HB.out)) hb); clear HO_7; clear HO_9; clear HO901; clear HO905; clear HO908; clear HB; have HO_7 := n0_; have HO_9 := n1_; have HO901 := n2_; have HO905 := n3_; have HO908 := n4_; have HO911 := n5_; have HB := n6_; clear n0_ n1_ n2_ n3_ n4_ n5_ n6_; (try clear hb); (try clear hb2); (try clear hk); (try clear hi); (try clear ho0)))
            (try simp only [Act.put, List.setIfInBounds_toArray, List.set_cons_zero, List.set_cons_succ])
            go_cut [84] (fun v84 wc => ∃ (kq : Nat) (x84_26 : Bool), v84 = .bool x84_26 ∧ Aside0 (locksteplaw02_RowcodeBags.j1 kq l0 l2 t888 t909 x84_26 = some r) ∧ Aside0 (kq ≤ k1) ∧ Aside0 (Kd.R (Kd.int .u8) 5 wc w.heap.size (fun _ => True) (.slice Ao32 t888.length co32) t888) ∧ Aside0 (Kd.S (Kd.slice 42 k42) 33 wc w.heap.size (fun _ => True) v910 t909) ∧ Aside0 (Below w.heap.size w wc))
            case first =>
              have H := HC27.out
              clear HC27
              by_cases c36 : t903 = 0
              · rw [if_pos c36] at H
                have c36b0 : (t903 == 0) = true := beq_iff_eq.mpr c36
                have c36b1 : (t903 != 0) = false := bne_eq_false_iff_eq.mpr c36
                clear c36
                (first | rw [c36b0] | (simp only [i64_w, i32_w]; rw [c36b0]) | skip)
                by_cases c37 : (strOfNums t888).toList = (strOfNums t902).toList
                · rw [if_pos c37] at H
                  have c37b0 : ((strOfNums t888).toList == (strOfNums t902).toList) = true := beq_iff_eq.mpr c37
                  have c37b1 : ((strOfNums t888).toList != (strOfNums t902).toList) = false := bne_eq_false_iff_eq.mpr c37
                  clear c37
                  by_cases c38 : t912 = 0
                  · rw [if_pos c38] at H
                    have c38b0 : (t912 == 0) = true := beq_iff_eq.mpr c38
                    have c38b1 : (t912 != 0) = false := bne_eq_false_iff_eq.mpr c38
                    clear c38
                    have H' := Aside0.mk H
                    clear H
                    have hcv39 := own_string (P := Tryd.prog) Tryd.underlying47 Tryd.underlying5 Tryd.underlying9 (Kd.own_of_R HO_7.out)
                    have hcv40 := own_string (P := Tryd.prog) Tryd.underlying47 Tryd.underlying5 Tryd.underlying9 (Kd.own_of_R HO905.out)
                    obtain ⟨Ao41, co41, eo41⟩ := Kd.S_slice HO911.out
                    subst eo41
                    go_wp2
                    go_meet
                    case rel => exact ⟨_, (((t909.length : Int) != (l0.length : Int))), (by first | with_reducible rfl | (simp; done) | (simp [*]; done) | rfl), H', ⟨by have := HK1.out; first | omega | exact Nat.le_refl _⟩, ⟨by (with_reducible repeat (first | apply Kd.R_alloc | apply Kd.R_drewN | apply Kd.R_drew)); exact Kd.R_mono HO_7.out (fun _ hk => trivial)⟩, ⟨by (with_reducible repeat (first | apply Kd.S_alloc | apply Kd.S_drewN | apply Kd.S_drew)); exact Kd.S_mono HO911.out (fun _ hk => trivial)⟩, ⟨by repeat (first | (with_reducible first | exact HB.out | apply below_alloc | apply pw_below_drewN | apply below_drew1) | exact HB.out)⟩⟩
                  · rw [if_neg c38] at H
                    have c38b0 : (t912 == 0) = false := beq_eq_false_iff_ne.mpr c38
                    have c38b1 : (t912 != 0) = true := bne_iff_ne.mpr c38
                    have H' := Aside0.mk H
                    clear H
                    have hcv42 := own_string (P := Tryd.prog) Tryd.underlying47 Tryd.underlying5 Tryd.underlying9 (Kd.own_of_R HO_7.out)
                    have hcv43 := own_string (P := Tryd.prog) Tryd.underlying47 Tryd.underlying5 Tryd.underlying9 (Kd.own_of_R HO905.out)
                    go_wp2
                    go_meet
                    case rel => exact ⟨_, (true), (by first | with_reducible rfl | (simp; done) | (simp [*]; done) | rfl), H', ⟨by have := HK1.out; first | omega | exact Nat.le_refl _⟩, ⟨by (with_reducible repeat (first | apply Kd.R_alloc | apply Kd.R_drewN | apply Kd.R_drew)); exact Kd.R_mono HO_7.out (fun _ hk => trivial)⟩, ⟨by (with_reducible repeat (first | apply Kd.S_alloc | apply Kd.S_drewN | apply Kd.S_drew)); exact Kd.S_mono HO911.out (fun _ hk => trivial)⟩, ⟨by repeat (first | (with_reducible first | exact HB.out | apply below_alloc | apply pw_below_drewN | apply below_drew1) | exact HB.out)⟩⟩
                · rw [if_neg c37] at H
                  have c37b0 : ((strOfNums t888).toList == (strOfNums t902).toList) = false := beq_eq_false_iff_ne.mpr c37
                  have c37b1 : ((strOfNums t888).toList != (strOfNums t902).toList) = true := bne_iff_ne.mpr c37
                  have H' := Aside0.mk H
                  clear H
                  have hcv44 := own_string (P := Tryd.prog) Tryd.underlying47 Tryd.underlying5 Tryd.underlying9 (Kd.own_of_R HO_7.out)
                  have hcv45 := own_string (P := Tryd.prog) Tryd.underlying47 Tryd.underlying5 Tryd.underlying9 (Kd.own_of_R HO905.out)
                  go_wp2
                  go_meet
                  case rel => exact ⟨_, (true), (by first | with_reducible rfl | (simp; done) | (simp [*]; done) | rfl), H', ⟨by have := HK1.out; first | omega | exact Nat.le_refl _⟩, ⟨by (with_reducible repeat (first | apply Kd.R_alloc | apply Kd.R_drewN | apply Kd.R_drew)); exact Kd.R_mono HO_7.out (fun _ hk => trivial)⟩, ⟨by (with_reducible repeat (first | apply Kd.S_alloc | apply Kd.S_drewN | apply Kd.S_drew)); exact Kd.S_mono HO911.out (fun _ hk => trivial)⟩, ⟨by repeat (first | (with_reducible first | exact HB.out | apply below_alloc | apply pw_below_drewN | apply below_drew1) | exact HB.out)⟩⟩
              · rw [if_neg c36] at H
                have c36b0 : (t903 == 0) = false := beq_eq_false_iff_ne.mpr c36
                have c36b1 : (t903 != 0) = true := bne_iff_ne.mpr c36
                (first | rw [c36b0] | (simp only [i64_w, i32_w]; rw [c36b0]) | skip)
                have H' := Aside0.mk H
                clear H
                go_wp2
                go_meet
                case rel => exact ⟨_, (true), (by first | with_reducible rfl | (simp; done) | (simp [*]; done) | rfl), H', ⟨by have := HK1.out; first | omega | exact Nat.le_refl _⟩, ⟨by (with_reducible repeat (first | apply Kd.R_alloc | apply Kd.R_drewN | apply Kd.R_drew)); exact Kd.R_mono HO_7.out (fun _ hk => trivial)⟩, ⟨by (with_reducible repeat (first | apply Kd.S_alloc | apply Kd.S_drewN | apply Kd.S_drew)); exact Kd.S_mono HO911.out (fun _ hk => trivial)⟩, ⟨by repeat (first | (with_reducible first | exact HB.out | apply below_alloc | apply pw_below_drewN | apply below_drew1) | exact HB.out)⟩⟩
            case rest =>
              clear HC27
              try clear c1
              try clear c2
              try clear p2
              try clear c3
              try clear hcv3
              try clear c4
              try clear hcv4
              try clear c5
              try clear p6
              try clear c8
              try clear c8b0
              try clear c8b1
              try clear p8
              try clear q8
              try clear hx8
              try clear c9
              try clear c12
              try clear c13
              try clear c13b0
              try clear c14
              try clear c14b0
              try clear c14b1
              try clear c14b2
              try clear c16
              try clear c16b0
              try clear c17
              try clear c17b0
              try clear c19
              try clear c25
              try clear c36
              try clear c36b0
              try clear c36b1
              try clear c37
              try clear c37b0
              try clear c37b1
              try clear c38
              try clear c38b0
              try clear c38b1
              try clear c39
              try clear hcv39
              try clear hcv40
              try clear hcv42
              try clear c43
              try clear hcv43
              try clear hcv44
              try clear hcv45
              try clear hx892_0
              try clear p2
              try clear p6
              try clear p892
              try clear q892
              obtain ⟨kq, x84_26, rfl, HA, HJ26, HO_7, HO_13, HB⟩ := hcut
              cases kq with
              | zero => exact absurd HA.out (by simp [locksteplaw02_RowcodeBags.j1])
              | succ kj26 =>
                have H := HA.out
                clear HA
                simp only [locksteplaw02_RowcodeBags.j1] at H
                by_cases c46 : x84_26 = true
                · subst c46
                  have H1 : (some false) = some r := by rw [if_pos rfl] at H; exact H
                  clear H
                  have H := H1
                  clear H1
                  exact absurd (Option.some.inj H) (by rw [HR.out]; simp)
                · replace c46 := Bool.eq_false_iff.mpr c46
                  subst c46
                  have H1 : (locksteplaw02_RowcodeBags.l1 kj26 l0 l2 t888 t909 1) = some r := by rw [if_neg (show ¬ (false = true) by decide)] at H; exact H
                  clear H
                  have H := H1
                  clear H1
                  have H' := Aside0.mk H
                  clear H
                  go_wp2
                  go_loopg [15] kj26 (fun kq v15 w' => ∃ (x15_3 : Int), v15 = .int .i64 x15_3 ∧ Aside0 (locksteplaw02_RowcodeBags.l1 kq l0 l2 t888 t909 x15_3 = some r) ∧ Aside0 (kq ≤ kj26) ∧ Aside0 (Kd.R (Kd.int .u8) 5 w' w.heap.size (fun _ => True) (.slice Ao32 t888.length co32) t888) ∧ Aside0 (Kd.S (Kd.slice 42 k42) 33 w' w.heap.size (fun _ => True) v910 t909) ∧ Aside0 (Below w.heap.size w w'))
                  case atStart => exact ⟨(1), (by first | rfl | (simp; done) | (simp [*]; done)), H', ⟨Nat.le_refl _⟩, ⟨by (with_reducible repeat (first | apply Kd.R_alloc | apply Kd.R_drewN | apply Kd.R_drew)); exact HO_7.out⟩, ⟨by (with_reducible repeat (first | apply Kd.S_alloc | apply Kd.S_drewN | apply Kd.S_drew)); exact HO_13.out⟩, ⟨by repeat (first | (with_reducible first | exact HB.out | apply below_alloc | apply pw_below_drewN | apply below_drew1) | exact HB.out)⟩⟩
                  case round =>
                    clear H'
                    try clear c1
                    try clear c2
                    try clear p2
                    try clear c3
                    try clear hcv3
                    try clear c4
                    try clear hcv4
                    try clear c5
                    try clear p6
                    try clear c8
                    try clear c8b0
                    try clear c8b1
                    try clear p8
                    try clear q8
                    try clear hx8
                    try clear c9
                    try clear c12
                    try clear c13
                    try clear c13b0
                    try clear c14
                    try clear c14b0
                    try clear c14b1
                    try clear c14b2
                    try clear c16
                    try clear c16b0
                    try clear c17
                    try clear c17b0
                    try clear c19
                    try clear c25
                    try clear c36
                    try clear c36b0
                    try clear c36b1
                    try clear c37
                    try clear c37b0
                    try clear c37b1
                    try clear c38
                    try clear c38b0
                    try clear c38b1
                    try clear c39
                    try clear hcv39
                    try clear hcv40
                    try clear hcv42
                    try clear c43
                    try clear hcv43
                    try clear hcv44
                    try clear hcv45
                    try clear c46
                    try clear hx892_0
                    try clear p2
                    try clear p6
                    try clear p8
                    try clear p892
                    try clear q8
                    try clear q892
                    obtain ⟨x15_3, rfl, HA, HK3, HO_7, HO_13, HB⟩ := hrel
                    cases gk with
                    | zero => exact absurd HA.out (by simp [locksteplaw02_RowcodeBags.l1])
                    | succ k3 =>
                      have H := HA.out
                      clear HA
                      simp only [locksteplaw02_RowcodeBags.l1] at H
                      by_cases c47 : x15_3 < (t909.length : Int)
                      · rw [if_pos c47] at H
                        have c47b0 : decide (x15_3 < (t909.length : Int)) = true := decide_eq_true c47
                        clear c47
                        obtain ⟨ji48, hji48⟩ : ∃ j_ : Int, (wrap64 (x15_3 - 1)) = j_ := ⟨_, rfl⟩
                        replace H : (if 0 ≤ (ji48) then (if (ji48) < (t909.length : Int) then (if 0 ≤ x15_3 then ((value_Rows.f k3 (rd_L5 t909 (ji48)) (rd_L5 t909 x15_3)).bind fun t915 => (if t915 > 0 then (some false) else (locksteplaw02_RowcodeBags.l1 k3 l0 l2 t888 t909 (wrap64 (x15_3 + 1))))) else (none)) else (none)) else (none)) = some r := by first | (rw [hji48] at H; exact H) | (simp only [hji48] at H ⊢; exact H)
                        have hji48w : (IntKind.i64.wrap (x15_3 - 1)) = ji48 := (i64_w _).trans hji48
                        by_cases c49 : 0 ≤ (ji48)
                        · rw [if_pos c49] at H
                          have c49b0 : decide (0 ≤ (ji48)) = true := decide_eq_true c49
                          clear c49
                          by_cases c50 : (ji48) < (t909.length : Int)
                          · rw [if_pos c50] at H
                            have c50b0 : decide ((ji48) < (t909.length : Int)) = true := decide_eq_true c50
                            clear c50
                            by_cases c51 : 0 ≤ x15_3
                            · rw [if_pos c51] at H
                              have c51b0 : decide (0 ≤ x15_3) = true := decide_eq_true c51
                              clear c51
                              replace H := Option.bind_eq_some_iff.mp H
                              obtain ⟨t915, A520, H⟩ := H
                              replace H : (if t915 > 0 then (some false) else (locksteplaw02_RowcodeBags.l1 k3 l0 l2 t888 t909 (wrap64 (x15_3 + 1)))) = some r := H
                              have A52 := Aside0.mk A520
                              clear A520
                              by_cases c53 : t915 > 0
                              · rw [if_pos c53] at H
                                have c53b0 : decide (0 < t915) = true := decide_eq_true c53
                                clear c53
                                exact absurd (Option.some.inj H) (by rw [HR.out]; simp)
                              · rw [if_neg c53] at H
                                have c53b0 : decide (0 < t915) = false := decide_eq_false c53
                                clear c53
                                have H' := Aside0.mk H
                                clear H
                                obtain ⟨Ao54, co54, eo54⟩ := Kd.S_slice HO_13.out
                                subst eo54
                                try go_wp2
                                have n0_ := Aside0.mk (Kd.R_drew HO_7.out)
                                have n1_ := Aside0.mk (Kd.S_drew HO_13.out)
                                have n2_ := Aside0.mk (below_drew1 HB.out)
                                clear HO_7
                                clear HO_13
                                clear HB
                                have HO_7 := n0_
                                have HO_13 := n1_
                                have HB := n2_
                                clear n0_ n1_ n2_
                                have p913 : 0 ≤ ((ji48) : Int) := of_decide_eq_true (by first | (with_reducible assumption) | assumption)
                                have q913 : (ji48) < (t909.length : Int) := of_decide_eq_true (by first | (with_reducible assumption) | assumption)
                                obtain ⟨ad913, A913_0, c913_0, e913, hx913_0, hl913_0, hi913_0⟩ := at_L5 (Kd.S_reads' HO_13.out).2.2 (ji48) p913 q913
                                cases e913
                                obtain ⟨ce913, hce913, hMe913, hcc913⟩ := Kd.S_get HO_13.out [] (ji48) p913 (by first | exact q913 | exact of_decide_eq_true (by first | (with_reducible assumption) | assumption) | (have e_ := (Kd.S_reads' HO_13.out).1; omega))
                                obtain ⟨ve913_0, rfl, ge913_0⟩ := hMe913
                                have hv913_0 := hcc913 0 _ rfl
                                rw [Nat.add_zero, show ((Kd.slice 42 k42)).sz = 1 from rfl, Nat.mul_one] at hv913_0
                                replace hv913_0 := Option.some.inj (hv913_0.symm.trans hx913_0)
                                rw [hv913_0] at ge913_0
                                have HL913_0 := Aside0.mk (show Kd.R k42 42 _ _ _ _ (rd_L5 t909 (ji48)) from ge913_0)
                                clear hv913_0 ge913_0
                                clear hcc913 hce913
                                have HR913_0 := Aside0.mk hi913_0
                                have HC913_0 := Aside0.mk hl913_0
                                clear hi913_0 hl913_0
                                replace p913 := eq_true p913
                                replace q913 := eq_true q913
                                have p914 : 0 ≤ (x15_3 : Int) := of_decide_eq_true (by first | (with_reducible assumption) | assumption)
                                have q914 : x15_3 < (t909.length : Int) := of_decide_eq_true (by first | (with_reducible assumption) | assumption)
                                obtain ⟨ad914, A914_0, c914_0, e914, hx914_0, hl914_0, hi914_0⟩ := at_L5 (Kd.S_reads' HO_13.out).2.2 x15_3 p914 q914
                                obtain rfl : ad913 = ad914 := (by injection e914)
                                obtain ⟨ce914, hce914, hMe914, hcc914⟩ := Kd.S_get HO_13.out [] x15_3 p914 (by first | exact q914 | exact of_decide_eq_true (by first | (with_reducible assumption) | assumption) | (have e_ := (Kd.S_reads' HO_13.out).1; omega))
                                obtain ⟨ve914_0, rfl, ge914_0⟩ := hMe914
                                have hv914_0 := hcc914 0 _ rfl
                                rw [Nat.add_zero, show ((Kd.slice 42 k42)).sz = 1 from rfl, Nat.mul_one] at hv914_0
                                replace hv914_0 := Option.some.inj (hv914_0.symm.trans hx914_0)
                                rw [hv914_0] at ge914_0
                                have HL914_0 := Aside0.mk (show Kd.R k42 42 _ _ _ _ (rd_L5 t909 x15_3) from ge914_0)
                                clear hv914_0 ge914_0
                                clear hcc914 hce914
                                have HR914_0 := Aside0.mk hi914_0
                                have HC914_0 := Aside0.mk hl914_0
                                clear hi914_0 hl914_0
                                replace p914 := eq_true p914
                                replace q914 := eq_true q914
                                refine start_ (n := 11) (S := fun w' => w'.cell? (ad913.add ((ji48)).toNat) = some (.slice A913_0 (rd_L5 t909 (ji48)).length c913_0) ∧ w'.cell? (ad913.add (x15_3).toNat) = some (.slice A914_0 (rd_L5 t909 x15_3).length c914_0)) (ds := []) #[false, false, false, false, false, false, false, false, false, false, false] (by kernel_rfl) rfl rfl ⟨hx913_0, hx914_0⟩ (fun hHeld => ?_); refine with_tabW locksteplaw02_RowcodeBags.tab18 locksteplaw02_RowcodeBags.bits18 (fun HT_ HW_ => ?_)
                                generalize wr.drew = w55 at HO_7 HO_13 HB HL913_0 HL914_0 HR913_0 HR914_0 hx913_0 hx914_0 hHeld ⊢
                                refine pure_ (i := 0) (N := some 91) (v := ?_) (a' := ?_) #[true, false, false, false, false, false, false, false, false, false, false] rfl rfl (any_of HT_.out (by kernel_rfl)) (fun _ _ _ h => h) (Or.inl ⟨by rfl, ?_⟩) ?_ ?_
                                rotate_left
                                · intro w'
                                  go_simp
                                  with_reducible rfl
                                rotate_left
                                · simp only [Act.put, List.setIfInBounds_toArray, List.set_cons_zero, List.set_cons_succ, i64_w, i32_w]
                                  rfl
                                refine pure_ (i := 1) (N := some 92) (v := ?_) (a' := ?_) #[true, true, false, false, false, false, false, false, false, false, false] rfl rfl (any_of HT_.out (by kernel_rfl)) (fun _ _ _ h => h) (Or.inl ⟨by rfl, ?_⟩) ?_ ?_
                                rotate_left
                                · intro w'
                                  go_simp
                                  with_reducible rfl
                                rotate_left
                                · simp only [Act.put, List.setIfInBounds_toArray, List.set_cons_zero, List.set_cons_succ, i64_w, i32_w]
                                  rfl
                                refine pure_ (i := 2) (N := some 93) (v := ?_) (a' := ?_) #[true, true, true, false, false, false, false, false, false, false, false] rfl rfl (any_of HT_.out (by kernel_rfl)) (fun _ _ _ h => h) (Or.inl ⟨by rfl, ?_⟩) ?_ ?_
                                rotate_left
                                · intro w'
                                  go_simp
                                  with_reducible rfl
                                rotate_left
                                · simp only [Act.put, List.setIfInBounds_toArray, List.set_cons_zero, List.set_cons_succ, i64_w, i32_w]
                                  rfl
                                refine pure_ (i := 3) (N := some 94) (v := ?_) (a' := ?_) #[true, true, true, true, false, false, false, false, false, false, false] rfl rfl (any_of HT_.out (by kernel_rfl)) (fun _ _ _ h => h) (Or.inl ⟨by rfl, ?_⟩) ?_ ?_
                                rotate_left
                                · intro w'
                                  go_simp
                                  with_reducible rfl
                                rotate_left
                                · simp only [Act.put, List.setIfInBounds_toArray, List.set_cons_zero, List.set_cons_succ, i64_w, i32_w]
                                  rfl
                                refine pure_ (i := 5) (N := some 96) (v := ?_) (a' := ?_) #[true, true, true, true, false, true, false, false, false, false, false] rfl rfl (any_of HT_.out (by kernel_rfl)) (fun _ _ _ h => h) (Or.inl ⟨by rfl, ?_⟩) ?_ ?_
                                rotate_left
                                · intro w'
                                  go_simp
                                  with_reducible rfl
                                rotate_left
                                · simp only [Act.put, List.setIfInBounds_toArray, List.set_cons_zero, List.set_cons_succ, i64_w, i32_w]
                                  rfl
                                refine pure_ (i := 6) (N := some 97) (v := ?_) (a' := ?_) #[true, true, true, true, false, true, true, false, false, false, false] rfl rfl (any_of HT_.out (by kernel_rfl)) (fun _ _ _ h => h) (Or.inl ⟨by rfl, ?_⟩) ?_ ?_
                                rotate_left
                                · intro w'
                                  go_simp
                                  with_reducible rfl
                                rotate_left
                                · simp only [Act.put, List.setIfInBounds_toArray, List.set_cons_zero, List.set_cons_succ, i64_w, i32_w]
                                  rfl
                                refine pure_ (i := 7) (N := some 98) (v := ?_) (a' := ?_) #[true, true, true, true, false, true, true, true, false, false, false] rfl rfl (any_of HT_.out (by kernel_rfl)) (fun _ _ _ h => h) (Or.inl ⟨by rfl, ?_⟩) ?_ ?_
                                rotate_left
                                · intro w'
                                  go_simp
                                  with_reducible rfl
                                rotate_left
                                · simp only [Act.put, List.setIfInBounds_toArray, List.set_cons_zero, List.set_cons_succ, i64_w, i32_w]
                                  rfl
                                refine take_ (i := 4) (N := some 95) (v := ?_) (a' := ?_) #[true, true, true, true, true, true, true, true, false, false, false] rfl rfl (take_ofW HT_.out HW_.out (by kernel_rfl)) (fun _ _ _ h => h) (Or.inl ⟨by rfl, ?_⟩) hHeld ?_ ?_
                                rotate_left
                                · rintro w' ⟨s0, s1⟩
                                  go_simp
                                  with_reducible rfl
                                rotate_left
                                · simp only [Act.put, List.setIfInBounds_toArray, List.set_cons_zero, List.set_cons_succ, i64_w, i32_w]
                                  rfl
                                refine take_ (i := 8) (N := some 99) (v := ?_) (a' := ?_) #[true, true, true, true, true, true, true, true, true, false, false] rfl rfl (take_ofW HT_.out HW_.out (by kernel_rfl)) (fun _ _ _ h => h) (Or.inl ⟨by rfl, ?_⟩) hHeld ?_ ?_
                                rotate_left
                                · rintro w' ⟨s0, s1⟩
                                  go_simp
                                  with_reducible rfl
                                rotate_left
                                · simp only [Act.put, List.setIfInBounds_toArray, List.set_cons_zero, List.set_cons_succ, i64_w, i32_w]
                                  rfl
                                refine one_ (i := 9) (N := some 100) #[true, true, true, true, true, true, true, true, true, true, false] rfl rfl (one_of HT_.out (by kernel_rfl)) (by decide) (fun K hK => ?_)
                                refine goes_ Tryd.func24 (by kernel_rfl) rfl #[.slice A913_0 (rd_L5 t909 (ji48)).length c913_0, .slice A914_0 (rd_L5 t909 x15_3).length c914_0] (by rfl) rfl rfl (by (try simp only [List.map_toArray, List.map_cons, List.map_nil]); first | done | (simp only [hji48]; rfl) | rfl | (simp only [List.length_drop, List.length_take]; rfl)) ?_
                                with_reducible refine (value_Rows.calls k3 _ _ (rd_L5 t909 (ji48)) _ _ (rd_L5 t909 x15_3) t915 _ ?side1 ?side2 ?side3 ?side4 A52.out).mono ?_
                                (case side1 => repeat (first | exact (by repeat (first | (with_reducible exact HR913_0.out) | (with_reducible refine Kd.C_alloc ?_ _) | (with_reducible refine Kd.C_drewN ?_ _) | (with_reducible refine Kd.C_drew ?_) | exact HR913_0.out)) | (with_reducible refine Kd.C_alloc ?_ _) | (with_reducible refine Kd.C_drewN ?_ _) | (with_reducible refine Kd.C_drew ?_)))
                                (case side2 => exact HC913_0.out)
                                (case side3 => repeat (first | exact (by repeat (first | (with_reducible exact HR914_0.out) | (with_reducible refine Kd.C_alloc ?_ _) | (with_reducible refine Kd.C_drewN ?_ _) | (with_reducible refine Kd.C_drew ?_) | exact HR914_0.out)) | (with_reducible refine Kd.C_alloc ?_ _) | (with_reducible refine Kd.C_drewN ?_ _) | (with_reducible refine Kd.C_drew ?_)))
                                (case side4 => exact HC914_0.out)
                                rintro e w56 ⟨rfl, hb⟩
                                have HS0_ := (hb.cell (World.block_lt_of_cell? _ _ (hHeld.1))).trans (hHeld.1)
                                have HS1_ := (hb.cell (World.block_lt_of_cell? _ _ (hHeld.2))).trans (hHeld.2)
                                refine ⟨_, rfl, ?_⟩
                                have n0_ := Aside0.mk (Kd.R_below (by (with_reducible repeat (first | apply Kd.R_alloc | apply Kd.R_drewN | apply Kd.R_drew)); exact HO_7.out) hb)
                                have n1_ := Aside0.mk (Kd.S_below (by (with_reducible repeat (first | apply Kd.S_alloc | apply Kd.S_drewN | apply Kd.S_drew)); exact HO_13.out) hb)
                                have n2_ := Aside0.mk (Kd.R_below (by (with_reducible repeat (first | apply Kd.R_alloc | apply Kd.R_drewN | apply Kd.R_drew)); exact HL913_0.out) hb)
                                have n3_ := Aside0.mk (Kd.R_below (by (with_reducible repeat (first | apply Kd.R_alloc | apply Kd.R_drewN | apply Kd.R_drew)); exact HL914_0.out) hb)
                                have n4_ := Aside0.mk (Kd.C_below (by repeat (first | (with_reducible exact HR913_0.out) | (with_reducible refine Kd.C_alloc ?_ _) | (with_reducible refine Kd.C_drewN ?_ _) | (with_reducible refine Kd.C_drew ?_) | exact HR913_0.out)) hb)
                                have n5_ := Aside0.mk (Kd.C_below (by repeat (first | (with_reducible exact HR914_0.out) | (with_reducible refine Kd.C_alloc ?_ _) | (with_reducible refine Kd.C_drewN ?_ _) | (with_reducible refine Kd.C_drew ?_) | exact HR914_0.out)) hb)
                                have n6_ := Aside0.mk (below_step (by repeat (first | (with_reducible first | exact HB.out | apply below_alloc | apply pw_below_drewN | apply below_drew1) | exact HB.out)) hb)
                                clear HO_7
                                clear HO_13
                                clear HL913_0
                                clear HL914_0
                                clear HR913_0
                                clear HR914_0
                                clear HB
                                have HO_7 := n0_
                                have HO_13 := n1_
                                have HL913_0 := n2_
                                have HL914_0 := n3_
                                have HR913_0 := n4_
                                have HR914_0 := n5_
                                have HB := n6_
                                clear n0_ n1_ n2_ n3_ n4_ n5_ n6_
                                (try clear hb)
                                (try clear hb2)
                                (try clear hk)
                                (try clear hi)
                                refine hK.out _ _ ⟨HS0_, HS1_⟩ (fun hHeld => ?_)
                                clear hK K
                                refine norm_ (a' := ?_) ?_ ?_
                                rotate_left
                                · show Act.put _ (some 100) _ = _
                                  simp only [Act.put, List.setIfInBounds_toArray, List.set_cons_zero, List.set_cons_succ, i64_w, i32_w]
                                  rfl
                                refine pure_ (i := 10) (N := some 101) (v := ?_) (a' := ?_) #[true, true, true, true, true, true, true, true, true, true, true] rfl rfl (any_of HT_.out (by kernel_rfl)) (fun _ _ _ h => h) (Or.inl ⟨by rfl, ?_⟩) ?_ ?_
                                rotate_left
                                · intro w'
                                  go_simp
                                  with_reducible rfl
                                rotate_left
                                · simp only [Act.put, List.setIfInBounds_toArray, List.set_cons_zero, List.set_cons_succ, i64_w, i32_w]
                                  rfl
                                refine done_ (done_of HT_.out (by kernel_rfl)) ?_
                                try go_wp2
                                go_roundg k3
                                case measure => have := HK1.out; have := HJ26.out; have := HK3.out; omega
                                case rel => exact ⟨(wrap64 (x15_3 + 1)), (by first | rfl | (simp; done) | (simp [*]; done)), H', ⟨by have := HK1.out; have := HJ26.out; have := HK3.out; omega⟩, ⟨by (with_reducible repeat (first | apply Kd.R_alloc | apply Kd.R_drewN | apply Kd.R_drew)); exact HO_7.out⟩, ⟨by (with_reducible repeat (first | apply Kd.S_alloc | apply Kd.S_drewN | apply Kd.S_drew)); exact HO_13.out⟩, ⟨by repeat (first | (with_reducible first | exact HB.out | apply below_alloc | apply pw_below_drewN | apply below_drew1) | exact HB.out)⟩⟩
                            · rw [if_neg c51] at H
                              exact absurd H (by simp)
                          · rw [if_neg c50] at H
                            exact absurd H (by simp)
                        · rw [if_neg c49] at H
                          exact absurd H (by simp)
                      · rw [if_neg c47] at H
                        have c47b0 : decide (x15_3 < (t909.length : Int)) = false := decide_eq_false c47
                        clear c47
                        replace H := Option.bind_eq_some_iff.mp H
                        obtain ⟨⟨t916, t917⟩, A570, H⟩ := H
                        replace H : ((locksteplaw02_Owned.f k3 l0).bind fun t920 => ((locksteplaw02_Own.f l2).bind fun t923 => (if t920.length < 5864062014805 then ((rowcode_Bag.f k3 (t920 ++ [t923])).bind fun bt929 => (if t917 = 0 then (if (strOfNums t916).toList = (strOfNums t888).toList then (if bt929.2 = 0 then (some ((strOfNums bt929.1).toList != (strOfNums t888).toList)) else (some true)) else (some false)) else (some false))) else (none)))) = some r := H
                        have A57 := Aside0.mk A570
                        clear A570
                        replace H := Option.bind_eq_some_iff.mp H
                        obtain ⟨t920, A580, H⟩ := H
                        replace H : ((locksteplaw02_Own.f l2).bind fun t923 => (if t920.length < 5864062014805 then ((rowcode_Bag.f k3 (t920 ++ [t923])).bind fun bt929 => (if t917 = 0 then (if (strOfNums t916).toList = (strOfNums t888).toList then (if bt929.2 = 0 then (some ((strOfNums bt929.1).toList != (strOfNums t888).toList)) else (some true)) else (some false)) else (some false))) else (none))) = some r := H
                        have A58 := Aside0.mk A580
                        clear A580
                        replace H := Option.bind_eq_some_iff.mp H
                        obtain ⟨t923, A590, H⟩ := H
                        replace H : (if t920.length < 5864062014805 then ((rowcode_Bag.f k3 (t920 ++ [t923])).bind fun bt929 => (if t917 = 0 then (if (strOfNums t916).toList = (strOfNums t888).toList then (if bt929.2 = 0 then (some ((strOfNums bt929.1).toList != (strOfNums t888).toList)) else (some true)) else (some false)) else (some false))) else (none)) = some r := H
                        have A59 := Aside0.mk A590
                        clear A590
                        by_cases c60 : t920.length < 5864062014805
                        · rw [if_pos c60] at H
                          have LMc60 := Aside0.mk c60
                          clear c60
                          obtain ⟨y926, hy926⟩ : ∃ y_ : List (List (S42)), y_ = (t920 ++ [t923]) := ⟨_, rfl⟩
                          replace H : ((rowcode_Bag.f k3 y926).bind fun bt929 => (if t917 = 0 then (if (strOfNums t916).toList = (strOfNums t888).toList then (if bt929.2 = 0 then (some ((strOfNums bt929.1).toList != (strOfNums t888).toList)) else (some true)) else (some false)) else (some false))) = some r := by first | (rw [hy926]; with_reducible exact H) | (have H2_ := (Option.bind_some _ _).symm.trans H; rw [hy926]; with_reducible exact H2_) | (have H2_ := (Option.bind_some _ _).symm.trans H; with_reducible exact H2_) | with_reducible exact H | (rw [hy926]; exact H) | exact H
                          have Ny926 := Aside0.mk hy926
                          clear hy926
                          replace H := Option.bind_eq_some_iff.mp H
                          obtain ⟨⟨t929, t930⟩, A610, H⟩ := H
                          replace H : (if t917 = 0 then (if (strOfNums t916).toList = (strOfNums t888).toList then (if t930 = 0 then (some ((strOfNums t929).toList != (strOfNums t888).toList)) else (some true)) else (some false)) else (some false)) = some r := H
                          have A61 := Aside0.mk A610
                          clear A610
                          by_cases c62 : t917 = 0
                          · rw [if_pos c62] at H
                            have c62b0 : (t917 == 0) = true := beq_iff_eq.mpr c62
                            have c62b1 : (t917 != 0) = false := bne_eq_false_iff_eq.mpr c62
                            clear c62
                            by_cases c63 : (strOfNums t916).toList = (strOfNums t888).toList
                            · rw [if_pos c63] at H
                              have c63b0 : ((strOfNums t916).toList == (strOfNums t888).toList) = true := beq_iff_eq.mpr c63
                              have c63b1 : ((strOfNums t916).toList != (strOfNums t888).toList) = false := bne_eq_false_iff_eq.mpr c63
                              clear c63
                              by_cases c64 : t930 = 0
                              · rw [if_pos c64] at H
                                have c64b0 : (t930 == 0) = true := beq_iff_eq.mpr c64
                                have c64b1 : (t930 != 0) = false := bne_eq_false_iff_eq.mpr c64
                                clear c64
                                obtain rfl := Option.some.inj H
                                obtain ⟨Ao65, co65, eo65⟩ := Kd.S_slice HO_13.out
                                subst eo65
                                go_wp2_with (first | ((with_reducible refine gate_callee (f := 39) rfl ?_); refine goesL_ (some 104) rfl rfl Tryd.func39 (by kernel_rfl) rfl #[.slice Ao65 t909.length co65] rfl (by (try simp only [List.map_toArray, List.map_cons, List.map_nil]); first | done | rfl | (simp only [List.length_drop, List.length_take]; rfl)) ?_; (with_reducible refine (rowcode_Bag.calls k3 _ _ t909 t916 t917 _ ?side1 ?side2 ?side3 A57.out).mono ?_); (case side1 => exact Tabs.below HT.out (by repeat (first | (with_reducible first | exact HB.out | apply below_alloc | apply pw_below_drewN | apply below_drew1) | exact HB.out))); (case side2 => repeat (first | exact (Kd.S_reads' HO_13.out).2.2 | (with_reducible refine Kd.C_alloc ?_ _) | (with_reducible refine Kd.C_drewN ?_ _) | (with_reducible refine Kd.C_drew ?_))); (case side3 => exact (Kd.S_reads' HO_13.out).2.1); rintro e w66 ⟨v918, rfl, ho0, hb⟩; refine ⟨_, rfl, ?_⟩; have n0_ := Aside0.mk (Kd.R_elder' (by (with_reducible repeat (first | apply Kd.R_alloc | apply Kd.R_drewN | apply Kd.R_drew)); exact HO_7.out) (Kd.R_base ho0) hb); have n1_ := Aside0.mk (Kd.S_below (by (with_reducible repeat (first | apply Kd.S_alloc | apply Kd.S_drewN | apply Kd.S_drew)); exact HO_13.out) hb); have n2_ := Aside0.mk (Kd.R_lower (Kd.R_new' ho0 (Kd.R_lt (by (with_reducible repeat (first | apply Kd.R_alloc | apply Kd.R_drewN | apply Kd.R_drew)); exact HO_7.out))) (below_size (by repeat (first | (with_reducible first | exact HB.out | apply below_alloc | apply pw_below_drewN | apply below_drew1) | exact HB.out)))); have n3_ := Aside0.mk (below_step (by repeat (first | (with_reducible first | exact HB.out | apply below_alloc | apply pw_below_drewN | apply below_drew1) | exact HB.out)) hb); clear HO_7; clear HO_13; clear HB; have HO_7 := n0_; have HO_13 := n1_; have HO919 := n2_; have HB := n3_; clear n0_ n1_ n2_ n3_; (try clear hb); (try clear hb2); (try clear hk); (try clear hi); (try clear ho0)) | ((with_reducible refine gate_callee (f := 37) rfl ?_); refine goesL_ (some 109) rfl rfl Tryd.func37 (by kernel_rfl) rfl #[.slice A0 l0.length c0] rfl (by (try simp only [List.map_toArray, List.map_cons, List.map_nil]); first | done | rfl | (simp only [List.length_drop, List.length_take]; rfl)) ?_; (with_reducible refine (locksteplaw02_Owned.calls k3 _ _ l0 t920 _ ?side1 ?side2 A58.out).mono ?_); (case side1 => repeat (first | exact (Kd.C_below HR0.out HB.out) | (with_reducible refine Kd.C_alloc ?_ _) | (with_reducible refine Kd.C_drewN ?_ _) | (with_reducible refine Kd.C_drew ?_))); (case side2 => exact HC0.out); rintro e w67 ⟨v921, rfl, ho0, hb⟩; refine ⟨_, rfl, ?_⟩; have n0_ := Aside0.mk (Kd.R_below (by (with_reducible repeat (first | apply Kd.R_alloc | apply Kd.R_drewN | apply Kd.R_drew)); exact HO_7.out) hb); have n1_ := Aside0.mk (Kd.S_elder' (by (with_reducible repeat (first | apply Kd.S_alloc | apply Kd.S_drewN | apply Kd.S_drew)); exact HO_13.out) (Kd.S_base ho0) hb); have n2_ := Aside0.mk (Kd.R_below (by (with_reducible repeat (first | apply Kd.R_alloc | apply Kd.R_drewN | apply Kd.R_drew)); exact HO919.out) hb); have n3_ := Aside0.mk (Kd.S_lower (Kd.S_new' ho0 (Kd.S_lt (by (with_reducible repeat (first | apply Kd.S_alloc | apply Kd.S_drewN | apply Kd.S_drew)); exact HO_13.out))) (below_size (by repeat (first | (with_reducible first | exact HB.out | apply below_alloc | apply pw_below_drewN | apply below_drew1) | exact HB.out)))); have n4_ := Aside0.mk (below_step (by repeat (first | (with_reducible first | exact HB.out | apply below_alloc | apply pw_below_drewN | apply below_drew1) | exact HB.out)) hb); clear HO_7; clear HO_13; clear HO919; clear HB; have HO_7 := n0_; have HO_13 := n1_; have HO919 := n2_; have HO922 := n3_; have HB := n4_; clear n0_ n1_ n2_ n3_ n4_; (try clear hb); (try clear hb2); (try clear hk); (try clear hi); (try clear ho0)) | ((with_reducible refine gate_callee (f := 12) rfl ?_); refine goesL_ (some 111) rfl rfl Tryd.func12 (by kernel_rfl) rfl #[.slice A2 l2.length c2] rfl (by (try simp only [List.map_toArray, List.map_cons, List.map_nil]); first | done | rfl | (simp only [List.length_drop, List.length_take]; rfl)) ?_; (with_reducible refine (locksteplaw02_Own.calls _ _ l2 t923 _ ?side1 ?side2 A59.out).mono ?_); (case side1 => repeat (first | exact (Kd.C_below HR2.out HB.out) | (with_reducible refine Kd.C_alloc ?_ _) | (with_reducible refine Kd.C_drewN ?_ _) | (with_reducible refine Kd.C_drew ?_))); (case side2 => exact HC2.out); rintro e w68 ⟨v924, rfl, ho0, hb⟩; refine ⟨_, rfl, ?_⟩; have n0_ := Aside0.mk (Kd.R_below (by (with_reducible repeat (first | apply Kd.R_alloc | apply Kd.R_drewN | apply Kd.R_drew)); exact HO_7.out) hb); have n1_ := Aside0.mk (Kd.S_elder' (by (with_reducible repeat (first | apply Kd.S_alloc | apply Kd.S_drewN | apply Kd.S_drew)); exact HO_13.out) (Kd.R_base ho0) hb); have n2_ := Aside0.mk (Kd.R_below (by (with_reducible repeat (first | apply Kd.R_alloc | apply Kd.R_drewN | apply Kd.R_drew)); exact HO919.out) hb); have n3_ := Aside0.mk (Kd.S_elder' (by (with_reducible repeat (first | apply Kd.S_alloc | apply Kd.S_drewN | apply Kd.S_drew)); exact HO922.out) (Kd.R_base ho0) hb); have n4_ := Aside0.mk (Kd.R_lower ho0 (below_size (by repeat (first | (with_reducible first | exact HB.out | apply below_alloc | apply pw_below_drewN | apply below_drew1) | exact HB.out)))); have n5_ := Aside0.mk (below_step (by repeat (first | (with_reducible first | exact HB.out | apply below_alloc | apply pw_below_drewN | apply below_drew1) | exact HB.out)) hb); clear HO_7; clear HO_13; clear HO919; clear HO922; clear HB; have HO_7 := n0_; have HO_13 := n1_; have HO919 := n2_; have HO922 := n3_; have HO925 := n4_; have HB := n5_; clear n0_ n1_ n2_ n3_ n4_ n5_; (try clear hb); (try clear hb2); (try clear hk); (try clear hi); (try clear ho0); obtain ⟨Ao70, co70, eo70⟩ := Kd.R_slice HO925.out; subst eo70) | ((with_reducible refine gate_builtin (b := .append) (xs := #[.tmp 109, .tmp 112]) rfl ?_); (try (refine gate_guard (by rfl) ?_; dsimp only)); at_builtin; refine Kd.S_append (Kd.slice 42 k42) (w0 := w) w.heap.size rfl (.tmp 109) (.tmp 112) 44 33 (.slice none 0 0) 24 rfl Tryd.underlying44 info33 rfl (by decide) (by omega) v921 t920 t923 [.slice Ao70 t923.length co70] (fun k_ => some k_ ≠ (.slice Ao65 t909.length co65 : Value).ownBlock) (fun k_ => some k_ = (.slice Ao70 t923.length co70 : Value).ownBlock) rfl rfl ?aP (fun k_ hk_ => ((Kd.R_mono (ok' := fun k_ => ((fun k_ => some k_ ≠ (.slice Ao65 t909.length co65 : Value).ownBlock)) k_ ∧ some k_ ≠ (v921 : Value).ownBlock) (Kd.R_apart' (Kd.R_apart' (HO925.out) (Kd.S_typed HO_13.out) (by decide)) (Kd.S_typed HO922.out) (by decide)) (fun k_ hk => ⟨hk.1.2, hk.2⟩))).1 k_ hk_.symm) ?aF ?aO ?aB ?aS ?aL ?_; (case aP => exact Kd.M_row (Kd.R_mono (Kd.R_tight rfl (Kd.R_mono (ok' := fun k_ => ((fun k_ => some k_ ≠ (.slice Ao65 t909.length co65 : Value).ownBlock)) k_ ∧ some k_ ≠ (v921 : Value).ownBlock) (Kd.R_apart' (Kd.R_apart' (HO925.out) (Kd.S_typed HO_13.out) (by decide)) (Kd.S_typed HO922.out) (by decide)) (fun k_ hk => ⟨hk.1.2, hk.2⟩))) (fun _ h_ => h_))); (case aB => exact (by repeat (first | (with_reducible first | exact HB.out | apply below_alloc | apply pw_below_drewN | apply below_drew1) | exact HB.out))); (case aF => exact (fun k_ hk => Kd.fresh' (Kd.S_lt (by (with_reducible repeat (first | apply Kd.S_alloc | apply Kd.S_drewN | apply Kd.S_drew)); exact HO_13.out)) k_ hk)); (case aO => exact (by (with_reducible repeat (first | apply Kd.S_alloc | apply Kd.S_drewN | apply Kd.S_drew)); exact Kd.S_mono HO922.out (fun k_ hk => ⟨hk.1.2, fun e_ => hk.2 e_⟩))); (case aS => exact (below_size (by repeat (first | (with_reducible first | exact HB.out | apply below_alloc | apply pw_below_drewN | apply below_drew1) | exact HB.out)))); (case aL => have := LMc60.out; omega); intro v927 w69 ho hb hg hat; rw [← Ny926.out] at ho; have n0_ := Aside0.mk (Kd.R_over' (by (with_reducible repeat (first | apply Kd.R_alloc | apply Kd.R_drewN | apply Kd.R_drew)); exact HO_7.out) (Kd.S_typed (by (with_reducible repeat (first | apply Kd.S_alloc | apply Kd.S_drewN | apply Kd.S_drew)); exact HO922.out)) (by decide) hg); have n1_ := Aside0.mk (Kd.S_after (ok := (fun k_ => some k_ ≠ (.slice Ao70 t923.length co70 : Value).ownBlock)) (by (with_reducible repeat (first | apply Kd.S_alloc | apply Kd.S_drewN | apply Kd.S_drew)); exact Kd.S_mono HO_13.out (fun _ hk => ⟨hk.2, hk.1.2⟩)) hg hat); have n2_ := Aside0.mk (Kd.R_over' (by (with_reducible repeat (first | apply Kd.R_alloc | apply Kd.R_drewN | apply Kd.R_drew)); exact HO919.out) (Kd.S_typed (by (with_reducible repeat (first | apply Kd.S_alloc | apply Kd.S_drewN | apply Kd.S_drew)); exact HO922.out)) (by decide) hg); have n3_ := Aside0.mk (hb); have n4_ := Aside0.mk (ho); clear HO_7; clear HO_13; clear HO919; clear HB; clear HO922; clear HO925; have HO_7 := n0_; have HO_13 := n1_; have HO919 := n2_; have HB := n3_; have HO928 := n4_; clear n0_ n1_ n2_ n3_ n4_; clear ho hb hg hat; obtain ⟨Ao71, co71, eo71⟩ := Kd.S_slice HO928.out; subst eo71) | ((with_reducible refine gate_callee (f := 39) rfl ?_); refine goesL_ (some 114) rfl rfl Tryd.func39 (by kernel_rfl) rfl #[.slice Ao71 y926.length co71] rfl (by (try simp only [List.map_toArray, List.map_cons, List.map_nil]); first | done | rfl | (simp only [List.length_drop, List.length_take]; rfl)) ?_; (with_reducible refine (rowcode_Bag.calls k3 _ _ y926 t929 t930 _ ?side1 ?side2 ?side3 A61.out).mono ?_); (case side1 => exact Tabs.below HT.out (by repeat (first | (with_reducible first | exact HB.out | apply below_alloc | apply pw_below_drewN | apply below_drew1) | exact HB.out))); (case side2 => repeat (first | exact (Kd.S_reads' HO928.out).2.2 | (with_reducible refine Kd.C_alloc ?_ _) | (with_reducible refine Kd.C_drewN ?_ _) | (with_reducible refine Kd.C_drew ?_))); (case side3 => exact (Kd.S_reads' HO928.out).2.1); rintro e w72 ⟨v931, rfl, ho0, hb⟩; refine ⟨_, rfl, ?_⟩; have n0_ := Aside0.mk (Kd.R_elder' (by (with_reducible repeat (first | apply Kd.R_alloc | apply Kd.R_drewN | apply Kd.R_drew)); exact HO_7.out) (Kd.R_base ho0) hb); have n1_ := Aside0.mk (Kd.S_below (by (with_reducible repeat (first | apply Kd.S_alloc | apply Kd.S_drewN | apply Kd.S_drew)); exact HO_13.out) hb); have n2_ := Aside0.mk (Kd.R_elder' (by (with_reducible repeat (first | apply Kd.R_alloc | apply Kd.R_drewN | apply Kd.R_drew)); exact HO919.out) (Kd.R_base ho0) hb); have n3_ := Aside0.mk (Kd.S_below (by (with_reducible repeat (first | apply Kd.S_alloc | apply Kd.S_drewN | apply Kd.S_drew)); exact HO928.out) hb); have n4_ := Aside0.mk (Kd.R_lower (Kd.R_new' (Kd.R_new' ho0 (Kd.R_lt (by (with_reducible repeat (first | apply Kd.R_alloc | apply Kd.R_drewN | apply Kd.R_drew)); exact HO_7.out))) (Kd.R_lt (by (with_reducible repeat (first | apply Kd.R_alloc | apply Kd.R_drewN | apply Kd.R_drew)); exact HO919.out))) (below_size (by repeat (first | (with_reducible first | exact HB.out | apply below_alloc | apply pw_below_drewN | apply below_drew1) | exact HB.out)))); have n5_ := Aside0.mk (below_step (by repeat (first | (with_reducible first | exact HB.out | apply below_alloc | apply pw_below_drewN | apply below_drew1) | exact HB.out)) hb); clear HO_7; clear HO_13; clear HO919; clear HO928; clear HB; have HO_7 := n0_; have HO_13 := n1_; have HO919 := n2_; have HO928 := n3_; have HO932 := n4_; have HB := n5_; clear n0_ n1_ n2_ n3_ n4_ n5_; (try clear hb); (try clear hb2); (try clear hk); (try clear hi); (try clear ho0); have hcv73 := own_string (P := Tryd.prog) Tryd.underlying47 Tryd.underlying5 Tryd.underlying9 (Kd.own_of_R HO919.out); have hcv74 := own_string (P := Tryd.prog) Tryd.underlying47 Tryd.underlying5 Tryd.underlying9 (Kd.own_of_R HO_7.out); have hcv75 := own_string (P := Tryd.prog) Tryd.underlying47 Tryd.underlying5 Tryd.underlying9 (Kd.own_of_R HO932.out); have hcv76 := own_string (P := Tryd.prog) Tryd.underlying47 Tryd.underlying5 Tryd.underlying9 (Kd.own_of_R HO_7.out)))
                                go_ret
                                exact ⟨by first | rfl | (simp [errW_none, errW_some] <;> rfl) | (simp [*, errW_none, errW_some] <;> rfl), by repeat (first | (with_reducible first | exact HB.out | apply below_alloc | apply pw_below_drewN | apply below_drew1) | exact HB.out)⟩
                              · rw [if_neg c64] at H
                                have c64b0 : (t930 == 0) = false := beq_eq_false_iff_ne.mpr c64
                                have c64b1 : (t930 != 0) = true := bne_iff_ne.mpr c64
                                obtain rfl := Option.some.inj H
                                obtain ⟨Ao77, co77, eo77⟩ := Kd.S_slice HO_13.out
                                subst eo77
                                go_wp2_with (first | ((with_reducible refine gate_callee (f := 39) rfl ?_); refine goesL_ (some 104) rfl rfl Tryd.func39 (by kernel_rfl) rfl #[.slice Ao77 t909.length co77] rfl (by (try simp only [List.map_toArray, List.map_cons, List.map_nil]); first | done | rfl | (simp only [List.length_drop, List.length_take]; rfl)) ?_; (with_reducible refine (rowcode_Bag.calls k3 _ _ t909 t916 t917 _ ?side1 ?side2 ?side3 A57.out).mono ?_); (case side1 => exact Tabs.below HT.out (by repeat (first | (with_reducible first | exact HB.out | apply below_alloc | apply pw_below_drewN | apply below_drew1) | exact HB.out))); (case side2 => repeat (first | exact (Kd.S_reads' HO_13.out).2.2 | (with_reducible refine Kd.C_alloc ?_ _) | (with_reducible refine Kd.C_drewN ?_ _) | (with_reducible refine Kd.C_drew ?_))); (case side3 => exact (Kd.S_reads' HO_13.out).2.1); rintro e w78 ⟨v918, rfl, ho0, hb⟩; refine ⟨_, rfl, ?_⟩; have n0_ := Aside0.mk (Kd.R_elder' (by (with_reducible repeat (first | apply Kd.R_alloc | apply Kd.R_drewN | apply Kd.R_drew)); exact HO_7.out) (Kd.R_base ho0) hb); have n1_ := Aside0.mk (Kd.S_below (by (with_reducible repeat (first | apply Kd.S_alloc | apply Kd.S_drewN | apply Kd.S_drew)); exact HO_13.out) hb); have n2_ := Aside0.mk (Kd.R_lower (Kd.R_new' ho0 (Kd.R_lt (by (with_reducible repeat (first | apply Kd.R_alloc | apply Kd.R_drewN | apply Kd.R_drew)); exact HO_7.out))) (below_size (by repeat (first | (with_reducible first | exact HB.out | apply below_alloc | apply pw_below_drewN | apply below_drew1) | exact HB.out)))); have n3_ := Aside0.mk (below_step (by repeat (first | (with_reducible first | exact HB.out | apply below_alloc | apply pw_below_drewN | apply below_drew1) | exact HB.out)) hb); clear HO_7; clear HO_13; clear HB; have HO_7 := n0_; have HO_13 := n1_; have HO919 := n2_; have HB := n3_; clear n0_ n1_ n2_ n3_; (try clear hb); (try clear hb2); (try clear hk); (try clear hi); (try clear ho0)) | ((with_reducible refine gate_callee (f := 37) rfl ?_); refine goesL_ (some 109) rfl rfl Tryd.func37 (by kernel_rfl) rfl #[.slice A0 l0.length c0] rfl (by (try simp only [List.map_toArray, List.map_cons, List.map_nil]); first | done | rfl | (simp only [List.length_drop, List.length_take]; rfl)) ?_; (with_reducible refine (locksteplaw02_Owned.calls k3 _ _ l0 t920 _ ?side1 ?side2 A58.out).mono ?_); (case side1 => repeat (first | exact (Kd.C_below HR0.out HB.out) | (with_reducible refine Kd.C_alloc ?_ _) | (with_reducible refine Kd.C_drewN ?_ _) | (with_reducible refine Kd.C_drew ?_))); (case side2 => exact HC0.out); rintro e w79 ⟨v921, rfl, ho0, hb⟩; refine ⟨_, rfl, ?_⟩; have n0_ := Aside0.mk (Kd.R_below (by (with_reducible repeat (first | apply Kd.R_alloc | apply Kd.R_drewN | apply Kd.R_drew)); exact HO_7.out) hb); have n1_ := Aside0.mk (Kd.S_elder' (by (with_reducible repeat (first | apply Kd.S_alloc | apply Kd.S_drewN | apply Kd.S_drew)); exact HO_13.out) (Kd.S_base ho0) hb); have n2_ := Aside0.mk (Kd.R_below (by (with_reducible repeat (first | apply Kd.R_alloc | apply Kd.R_drewN | apply Kd.R_drew)); exact HO919.out) hb); have n3_ := Aside0.mk (Kd.S_lower (Kd.S_new' ho0 (Kd.S_lt (by (with_reducible repeat (first | apply Kd.S_alloc | apply Kd.S_drewN | apply Kd.S_drew)); exact HO_13.out))) (below_size (by repeat (first | (with_reducible first | exact HB.out | apply below_alloc | apply pw_below_drewN | apply below_drew1) | exact HB.out)))); have n4_ := Aside0.mk (below_step (by repeat (first | (with_reducible first | exact HB.out | apply below_alloc | apply pw_below_drewN | apply below_drew1) | exact HB.out)) hb); clear HO_7; clear HO_13; clear HO919; clear HB; have HO_7 := n0_; have HO_13 := n1_; have HO919 := n2_; have HO922 := n3_; have HB := n4_; clear n0_ n1_ n2_ n3_ n4_; (try clear hb); (try clear hb2); (try clear hk); (try clear hi); (try clear ho0)) | ((with_reducible refine gate_callee (f := 12) rfl ?_); refine goesL_ (some 111) rfl rfl Tryd.func12 (by kernel_rfl) rfl #[.slice A2 l2.length c2] rfl (by (try simp only [List.map_toArray, List.map_cons, List.map_nil]); first | done | rfl | (simp only [List.length_drop, List.length_take]; rfl)) ?_; (with_reducible refine (locksteplaw02_Own.calls _ _ l2 t923 _ ?side1 ?side2 A59.out).mono ?_); (case side1 => repeat (first | exact (Kd.C_below HR2.out HB.out) | (with_reducible refine Kd.C_alloc ?_ _) | (with_reducible refine Kd.C_drewN ?_ _) | (with_reducible refine Kd.C_drew ?_))); (case side2 => exact HC2.out); rintro e w80 ⟨v924, rfl, ho0, hb⟩; refine ⟨_, rfl, ?_⟩; have n0_ := Aside0.mk (Kd.R_below (by (with_reducible repeat (first | apply Kd.R_alloc | apply Kd.R_drewN | apply Kd.R_drew)); exact HO_7.out) hb); have n1_ := Aside0.mk (Kd.S_elder' (by (with_reducible repeat (first | apply Kd.S_alloc | apply Kd.S_drewN | apply Kd.S_drew)); exact HO_13.out) (Kd.R_base ho0) hb); have n2_ := Aside0.mk (Kd.R_below (by (with_reducible repeat (first | apply Kd.R_alloc | apply Kd.R_drewN | apply Kd.R_drew)); exact HO919.out) hb); have n3_ := Aside0.mk (Kd.S_elder' (by (with_reducible repeat (first | apply Kd.S_alloc | apply Kd.S_drewN | apply Kd.S_drew)); exact HO922.out) (Kd.R_base ho0) hb); have n4_ := Aside0.mk (Kd.R_lower ho0 (below_size (by repeat (first | (with_reducible first | exact HB.out | apply below_alloc | apply pw_below_drewN | apply below_drew1) | exact HB.out)))); have n5_ := Aside0.mk (below_step (by repeat (first | (with_reducible first | exact HB.out | apply below_alloc | apply pw_below_drewN | apply below_drew1) | exact HB.out)) hb); clear HO_7; clear HO_13; clear HO919; clear HO922; clear HB; have HO_7 := n0_; have HO_13 := n1_; have HO919 := n2_; have HO922 := n3_; have HO925 := n4_; have HB := n5_; clear n0_ n1_ n2_ n3_ n4_ n5_; (try clear hb); (try clear hb2); (try clear hk); (try clear hi); (try clear ho0); obtain ⟨Ao82, co82, eo82⟩ := Kd.R_slice HO925.out; subst eo82) | ((with_reducible refine gate_builtin (b := .append) (xs := #[.tmp 109, .tmp 112]) rfl ?_); (try (refine gate_guard (by rfl) ?_; dsimp only)); at_builtin; refine Kd.S_append (Kd.slice 42 k42) (w0 := w) w.heap.size rfl (.tmp 109) (.tmp 112) 44 33 (.slice none 0 0) 24 rfl Tryd.underlying44 info33 rfl (by decide) (by omega) v921 t920 t923 [.slice Ao82 t923.length co82] (fun k_ => some k_ ≠ (.slice Ao77 t909.length co77 : Value).ownBlock) (fun k_ => some k_ = (.slice Ao82 t923.length co82 : Value).ownBlock) rfl rfl ?aP (fun k_ hk_ => ((Kd.R_mono (ok' := fun k_ => ((fun k_ => some k_ ≠ (.slice Ao77 t909.length co77 : Value).ownBlock)) k_ ∧ some k_ ≠ (v921 : Value).ownBlock) (Kd.R_apart' (Kd.R_apart' (HO925.out) (Kd.S_typed HO_13.out) (by decide)) (Kd.S_typed HO922.out) (by decide)) (fun k_ hk => ⟨hk.1.2, hk.2⟩))).1 k_ hk_.symm) ?aF ?aO ?aB ?aS ?aL ?_; (case aP => exact Kd.M_row (Kd.R_mono (Kd.R_tight rfl (Kd.R_mono (ok' := fun k_ => ((fun k_ => some k_ ≠ (.slice Ao77 t909.length co77 : Value).ownBlock)) k_ ∧ some k_ ≠ (v921 : Value).ownBlock) (Kd.R_apart' (Kd.R_apart' (HO925.out) (Kd.S_typed HO_13.out) (by decide)) (Kd.S_typed HO922.out) (by decide)) (fun k_ hk => ⟨hk.1.2, hk.2⟩))) (fun _ h_ => h_))); (case aB => exact (by repeat (first | (with_reducible first | exact HB.out | apply below_alloc | apply pw_below_drewN | apply below_drew1) | exact HB.out))); (case aF => exact (fun k_ hk => Kd.fresh' (Kd.S_lt (by (with_reducible repeat (first | apply Kd.S_alloc | apply Kd.S_drewN | apply Kd.S_drew)); exact HO_13.out)) k_ hk)); (case aO => exact (by (with_reducible repeat (first | apply Kd.S_alloc | apply Kd.S_drewN | apply Kd.S_drew)); exact Kd.S_mono HO922.out (fun k_ hk => ⟨hk.1.2, fun e_ => hk.2 e_⟩))); (case aS => exact (below_size (by repeat (first | (with_reducible first | exact HB.out | apply below_alloc | apply pw_below_drewN | apply below_drew1) | exact HB.out)))); (case aL => have := LMc60.out; omega); intro v927 w81 ho hb hg hat; rw [← Ny926.out] at ho; have n0_ := Aside0.mk (Kd.R_over' (by (with_reducible repeat (first | apply Kd.R_alloc | apply Kd.R_drewN | apply Kd.R_drew)); exact HO_7.out) (Kd.S_typed (by (with_reducible repeat (first | apply Kd.S_alloc | apply Kd.S_drewN | apply Kd.S_drew)); exact HO922.out)) (by decide) hg); have n1_ := Aside0.mk (Kd.S_after (ok := (fun k_ => some k_ ≠ (.slice Ao82 t923.length co82 : Value).ownBlock)) (by (with_reducible repeat (first | apply Kd.S_alloc | apply Kd.S_drewN | apply Kd.S_drew)); exact Kd.S_mono HO_13.out (fun _ hk => ⟨hk.2, hk.1.2⟩)) hg hat); have n2_ := Aside0.mk (Kd.R_over' (by (with_reducible repeat (first | apply Kd.R_alloc | apply Kd.R_drewN | apply Kd.R_drew)); exact HO919.out) (Kd.S_typed (by (with_reducible repeat (first | apply Kd.S_alloc | apply Kd.S_drewN | apply Kd.S_drew)); exact HO922.out)) (by decide) hg); have n3_ := Aside0.mk (hb); have n4_ := Aside0.mk (ho); clear HO_7; clear HO_13; clear HO919; clear HB; clear HO922; clear HO925; have HO_7 := n0_; have HO_13 := n1_; have HO919 := n2_; have HB := n3_; have HO928 := n4_; clear n0_ n1_ n2_ n3_ n4_; clear ho hb hg hat; obtain ⟨Ao83, co83, eo83⟩ := Kd.S_slice HO928.out; subst eo83) | ((with_reducible refine gate_callee (f := 39) rfl ?_); refine goesL_ (some 114) rfl rfl Tryd.func39 (by kernel_rfl) rfl #[.slice Ao83 y926.length co83] rfl (by (try simp only [List.map_toArray, List.map_cons, List.map_nil]); first | done | rfl | (simp only [List.length_drop, List.length_take]; rfl)) ?_; (with_reducible refine (rowcode_Bag.calls k3 _ _ y926 t929 t930 _ ?side1 ?side2 ?side3 A61.out).mono ?_); (case side1 => exact Tabs.below HT.out (by repeat (first | (with_reducible first | exact HB.out | apply below_alloc | apply pw_below_drewN | apply below_drew1) | exact HB.out))); (case side2 => repeat (first | exact (Kd.S_reads' HO928.out).2.2 | (with_reducible refine Kd.C_alloc ?_ _) | (with_reducible refine Kd.C_drewN ?_ _) | (with_reducible refine Kd.C_drew ?_))); (case side3 => exact (Kd.S_reads' HO928.out).2.1); rintro e w84 ⟨v931, rfl, ho0, hb⟩; refine ⟨_, rfl, ?_⟩; have n0_ := Aside0.mk (Kd.R_elder' (by (with_reducible repeat (first | apply Kd.R_alloc | apply Kd.R_drewN | apply Kd.R_drew)); exact HO_7.out) (Kd.R_base ho0) hb); have n1_ := Aside0.mk (Kd.S_below (by (with_reducible repeat (first | apply Kd.S_alloc | apply Kd.S_drewN | apply Kd.S_drew)); exact HO_13.out) hb); have n2_ := Aside0.mk (Kd.R_elder' (by (with_reducible repeat (first | apply Kd.R_alloc | apply Kd.R_drewN | apply Kd.R_drew)); exact HO919.out) (Kd.R_base ho0) hb); have n3_ := Aside0.mk (Kd.S_below (by (with_reducible repeat (first | apply Kd.S_alloc | apply Kd.S_drewN | apply Kd.S_drew)); exact HO928.out) hb); have n4_ := Aside0.mk (Kd.R_lower (Kd.R_new' (Kd.R_new' ho0 (Kd.R_lt (by (with_reducible repeat (first | apply Kd.R_alloc | apply Kd.R_drewN | apply Kd.R_drew)); exact HO_7.out))) (Kd.R_lt (by (with_reducible repeat (first | apply Kd.R_alloc | apply Kd.R_drewN | apply Kd.R_drew)); exact HO919.out))) (below_size (by repeat (first | (with_reducible first | exact HB.out | apply below_alloc | apply pw_below_drewN | apply below_drew1) | exact HB.out)))); have n5_ := Aside0.mk (below_step (by repeat (first | (with_reducible first | exact HB.out | apply below_alloc | apply pw_below_drewN | apply below_drew1) | exact HB.out)) hb); clear HO_7; clear HO_13; clear HO919; clear HO928; clear HB; have HO_7 := n0_; have HO_13 := n1_; have HO919 := n2_; have HO928 := n3_; have HO932 := n4_; have HB := n5_; clear n0_ n1_ n2_ n3_ n4_ n5_; (try clear hb); (try clear hb2); (try clear hk); (try clear hi); (try clear ho0); have hcv85 := own_string (P := Tryd.prog) Tryd.underlying47 Tryd.underlying5 Tryd.underlying9 (Kd.own_of_R HO919.out); have hcv86 := own_string (P := Tryd.prog) Tryd.underlying47 Tryd.underlying5 Tryd.underlying9 (Kd.own_of_R HO_7.out)))
                                go_ret
                                exact ⟨by first | rfl | (simp [errW_none, errW_some] <;> rfl) | (simp [*, errW_none, errW_some] <;> rfl), by repeat (first | (with_reducible first | exact HB.out | apply below_alloc | apply pw_below_drewN | apply below_drew1) | exact HB.out)⟩
                            · rw [if_neg c63] at H
                              have c63b0 : ((strOfNums t916).toList == (strOfNums t888).toList) = false := beq_eq_false_iff_ne.mpr c63
                              have c63b1 : ((strOfNums t916).toList != (strOfNums t888).toList) = true := bne_iff_ne.mpr c63
                              exact absurd (Option.some.inj H) (by rw [HR.out]; simp)
                          · rw [if_neg c62] at H
                            have c62b0 : (t917 == 0) = false := beq_eq_false_iff_ne.mpr c62
                            have c62b1 : (t917 != 0) = true := bne_iff_ne.mpr c62
                            exact absurd (Option.some.inj H) (by rw [HR.out]; simp)
                        · rw [if_neg c60] at H
                          exact absurd H (by simp)
    · rw [if_neg c8] at H
      have c8b0 : (t889 == 0) = false := beq_eq_false_iff_ne.mpr c8
      have c8b1 : (t889 != 0) = true := bne_iff_ne.mpr c8
      obtain rfl := Option.some.inj H
      go_enter Tryd.func9, Tryd.ntmps9
      go_wp2_with (first | ((with_reducible refine gate_callee (f := 17) rfl ?_); refine goesL_ (some 20) rfl rfl Tryd.func17 (by kernel_rfl) rfl #[] rfl (by (try simp only [List.map_toArray, List.map_cons, List.map_nil]); first | done | rfl | (simp only [List.length_drop, List.length_take]; rfl)) ?_; (with_reducible refine (locksteplaw02_lives.calls k  true _ ?side1 A4.out).mono ?_); (case side1 => exact Tabs.below HT.out (by repeat (first | (with_reducible first | exact HB.out | apply below_alloc | apply pw_below_drewN | apply below_drew1) | exact HB.out))); rintro e w87 ⟨rfl, hb⟩; refine ⟨_, rfl, ?_⟩; have n0_ := Aside0.mk (below_step (by repeat (first | (with_reducible first | exact HB.out | apply below_alloc | apply pw_below_drewN | apply below_drew1) | exact HB.out)) hb); clear HB; have HB := n0_; clear n0_; (try clear hb); (try clear hb2); (try clear hk); (try clear hi)) | ((with_reducible refine gate_callee (f := 37) rfl ?_); refine goesL_ (some 24) rfl rfl Tryd.func37 (by kernel_rfl) rfl #[.slice A0 l0.length c0] rfl (by (try simp only [List.map_toArray, List.map_cons, List.map_nil]); first | done | rfl | (simp only [List.length_drop, List.length_take]; rfl)) ?_; (with_reducible refine (locksteplaw02_Owned.calls k _ _ l0 t885 _ ?side1 ?side2 A6.out).mono ?_); (case side1 => repeat (first | exact (Kd.C_below HR0.out HB.out) | (with_reducible refine Kd.C_alloc ?_ _) | (with_reducible refine Kd.C_drewN ?_ _) | (with_reducible refine Kd.C_drew ?_))); (case side2 => exact HC0.out); rintro e w88 ⟨v886, rfl, ho0, hb⟩; refine ⟨_, rfl, ?_⟩; have n0_ := Aside0.mk (Kd.S_lower ho0 (below_size (by repeat (first | (with_reducible first | exact HB.out | apply below_alloc | apply pw_below_drewN | apply below_drew1) | exact HB.out)))); have n1_ := Aside0.mk (below_step (by repeat (first | (with_reducible first | exact HB.out | apply below_alloc | apply pw_below_drewN | apply below_drew1) | exact HB.out)) hb); clear HB; have HO887 := n0_; have HB := n1_; clear n0_ n1_; (try clear hb); (try clear hb2); (try clear hk); (try clear hi); (try clear ho0); obtain ⟨Ao89, co89, eo89⟩ := Kd.S_slice HO887.out; subst eo89) | ((with_reducible refine gate_callee (f := 39) rfl ?_); refine goesL_ (some 25) rfl rfl Tryd.func39 (by kernel_rfl) rfl #[.slice Ao89 t885.length co89] rfl (by (try simp only [List.map_toArray, List.map_cons, List.map_nil]); first | done | rfl | (simp only [List.length_drop, List.length_take]; rfl)) ?_; (with_reducible refine (rowcode_Bag.calls k _ _ t885 t888 t889 _ ?side1 ?side2 ?side3 A7.out).mono ?_); (case side1 => exact Tabs.below HT.out (by repeat (first | (with_reducible first | exact HB.out | apply below_alloc | apply pw_below_drewN | apply below_drew1) | exact HB.out))); (case side2 => repeat (first | exact (Kd.S_reads' HO887.out).2.2 | (with_reducible refine Kd.C_alloc ?_ _) | (with_reducible refine Kd.C_drewN ?_ _) | (with_reducible refine Kd.C_drew ?_))); (case side3 => exact (Kd.S_reads' HO887.out).2.1); rintro e w90 ⟨v890, rfl, ho0, hb⟩; refine ⟨_, rfl, ?_⟩; have n0_ := Aside0.mk (Kd.S_below (by (with_reducible repeat (first | apply Kd.S_alloc | apply Kd.S_drewN | apply Kd.S_drew)); exact HO887.out) hb); have n1_ := Aside0.mk (Kd.R_lower ho0 (below_size (by repeat (first | (with_reducible first | exact HB.out | apply below_alloc | apply pw_below_drewN | apply below_drew1) | exact HB.out)))); have n2_ := Aside0.mk (below_step (by repeat (first | (with_reducible first | exact HB.out | apply below_alloc | apply pw_below_drewN | apply below_drew1) | exact HB.out)) hb); clear HO887; clear HB; have HO887 := n0_; have HO891 := n1_; have HB := n2_; clear n0_ n1_ n2_; (try clear hb); (try clear hb2); (try clear hk); (try clear hi); (try clear ho0); obtain ⟨Ao91, co91, eo91⟩ := Kd.R_slice HO891.out; subst eo91))
      go_ret
      exact ⟨by first | rfl | (simp [errW_none, errW_some] <;> rfl) | (simp [*, errW_none, errW_some] <;> rfl), by repeat (first | (with_reducible first | exact HB.out | apply below_alloc | apply pw_below_drewN | apply below_drew1) | exact HB.out)⟩
  · replace c5 := Bool.eq_false_iff.mpr c5
    subst c5
    have H1 : (some false) = some r := by rw [if_neg (show ¬ (false = true) by decide)] at H; exact H
    clear H
    have H := H1
    clear H1
    exact absurd (Option.some.inj H) (by rw [HR.out]; simp)
end Go.Proofs.YthghcpeedmconaaDoor.X
end
section
namespace Go.Proofs.YthghcpeedmconaaDoor.X
open Go.RowKit Go.Proofs.YthghcpeedmconaaDoorW.PrintWords
set_option linter.unusedVariables false
theorem rowRead_code (r : List S42) (hf : Fine r) (z : List Int) (hz : isB z) (hl : (codes r ++ z).length < 140737488355328) : rowRead 17 (codes r ++ z) [] = (r.map plainV, z, 0) := by
  have hB : isB (codes r ++ z) := fun b hb => by
    rcases List.mem_append.1 hb with h | h
    · exact codes_isB r b h
    · exact hz b h
  have h1 := prow_eq (codes r ++ z) (2 * (codes r ++ z).length + 100) hB hl (by omega)
  have h2 := readRow_code z hz r hf.can [] (2 * (codes r ++ z).length + 100) (by simpa using hf.len) (by omega) (by have := hf.len; omega)
  unfold rowcode_readRow.f at h1
  rw [h2, List.nil_append] at h1
  exact (Option.some.inj h1).symm
theorem flat_isB (ls : List (List S42)) : isB (ls.map codes).flatten := fun b hb => by
  obtain ⟨x, hx, hb⟩ := List.mem_flatten.1 hb
  obtain ⟨r, -, rfl⟩ := List.mem_map.1 hx
  exact codes_isB r b hb
theorem bagRead_codes : ∀ (ls : List (List S42)), (∀ r ∈ ls, Fine r) → (ls.map codes).flatten.length < 140737488355328 → ∀ (acc : List (List S42)) (last : List Int), (last :: ls.map codes).Pairwise (fun a b => ¬ cmpL b a < 0) →
    bagRead ls.length (ls.map codes).flatten acc last = (acc ++ ls.map (fun r => r.map plainV), 0)
  | [], _, _, acc, last, _ => by
    show bagRead 0 [] acc last = _
    unfold bagRead
    rw [if_neg (by simp)]
    simp
  | r :: ls, hf, hl, acc, last, hp => by
    have hfr := hf r List.mem_cons_self
    rw [List.map_cons, List.flatten_cons] at hl ⊢
    have h := rowRead_code r hfr (ls.map codes).flatten (flat_isB ls) hl
    show bagRead (ls.length + 1) _ acc last = _
    unfold bagRead
    rw [h]
    simp only [if_true]
    rw [List.map_cons] at hp
    obtain ⟨hp1, hp2⟩ := List.pairwise_cons.1 hp
    have ht : (codes r ++ (ls.map codes).flatten).take ((codes r ++ (ls.map codes).flatten).length - (ls.map codes).flatten.length) = codes r := by
      rw [List.length_append, Nat.add_sub_cancel, List.take_left]
    rw [ht, if_neg (hp1 _ List.mem_cons_self)]
    rw [bagRead_codes ls (fun r hr => hf r (List.mem_cons_of_mem _ hr)) (by rw [List.length_append] at hl; omega) (acc ++ [r.map plainV]) (codes r) hp2, List.append_assoc]
    rfl
def srtR (l : List (List S42)) : List (List S42) := l.mergeSort (fun a b => leL (codes a) (codes b))
theorem srtR_perm (l : List (List S42)) : (srtR l).Perm l := List.mergeSort_perm l _
theorem srtR_map (l : List (List S42)) : (srtR l).map codes = srt (l.map codes) := by
  refine srt_uniq (fun x hx => by obtain ⟨r, -, rfl⟩ := List.mem_map.1 hx; exact codes_areB r) ((srtR_perm l).map codes) ?_
  rw [List.pairwise_map]
  exact (List.pairwise_mergeSort (le := fun a b => leL (codes a) (codes b)) (fun a b c h k => leL_trans _ _ _ h k) (fun a b => leL_total _ _) l).imp (fun h => leL_iff.1 h)
theorem srtR_len (l : List (List S42)) : (srtR l).length = l.length := (srtR_perm l).length_eq
theorem perm_fine {l m : List (List S42)} (h : m.Perm l) (hf : ∀ r ∈ l, Fine r) : ∀ r ∈ m, Fine r := fun r hr => hf r (h.mem_iff.1 hr)
def bagOf (l : List (List S42)) : List Int := hdr l.length ++ (srt (l.map codes)).flatten
theorem hdr_isB (n : Nat) : isB (hdr n) := fun b hb => by
  unfold hdr at hb
  simp only [List.mem_cons, List.not_mem_nil, or_false] at hb
  rcases hb with rfl | rfl | rfl | rfl <;> omega
theorem bagOf_isB (l : List (List S42)) : isB (bagOf l) := fun b hb => by
  rcases List.mem_append.1 hb with h | h
  · exact hdr_isB _ b h
  · rw [← srtR_map] at h; exact flat_isB _ b h
theorem bag_flat_len (l : List (List S42)) (hf : ∀ r ∈ l, Fine r) (hl : l.length ≤ 65536) : (srt (l.map codes)).flatten.length ≤ 9175040000 := by
  have := flat_len (x := srt (l.map codes)) (fun y hy => by obtain ⟨r, hr, rfl⟩ := List.mem_map.1 (srt_mem.1 hy); exact (hf r hr).code_len.2)
  rw [srt_len, List.length_map] at this
  omega
theorem bagOf_len (l : List (List S42)) (hf : ∀ r ∈ l, Fine r) (hl : l.length ≤ 65536) : (bagOf l).length ≤ 9175040004 := by
  have := bag_flat_len l hf hl
  unfold bagOf
  rw [List.length_append, hdr_len]
  omega
theorem err_fine : ∀ {l : List (List S42)}, (∀ r ∈ l, Fine r) → bagErr l = 0
  | [], _ => rfl
  | a :: l, h => by
    unfold bagErr
    rw [if_pos (by rw [(h a List.mem_cons_self).out])]
    exact err_fine (fun r hr => h r (List.mem_cons_of_mem _ hr))
theorem bagOut_fine {l : List (List S42)} (hl : l.length ≤ 65536) (hf : ∀ r ∈ l, Fine r) : bagOut l = (bagOf l, 0) := by
  unfold bagOut
  rw [if_neg (by omega), if_pos (err_fine hf)]
  rfl
theorem bagOf_perm {l m : List (List S42)} (h : m.Perm l) : bagOf m = bagOf l := by
  unfold bagOf
  rw [h.length_eq, srt_uniq (l := l.map codes) (ys := srt (m.map codes)) (fun x hx => by obtain ⟨r, -, rfl⟩ := List.mem_map.1 hx; exact codes_areB r) ((srt_perm _).trans (h.map codes)) (srt_pw _)]
theorem bagFin_of (l : List (List S42)) (hl : l.length ≤ 65536) (hf : ∀ r ∈ l, Fine r) : bagFin (bagOf l) = ((srtR l).map (fun r => r.map plainV), 0) := by
  have hh : headN (rd (bagOf l) 0) (rd (bagOf l) 1) (rd (bagOf l) 2) (rd (bagOf l) 3) = (l.length : Int) := by
    show headN (((l.length : Int) / 16777216) % 256) (((l.length : Int) / 65536) % 256) (((l.length : Int) / 256) % 256) ((l.length : Int) % 256) = _
    unfold headN
    omega
  have hlen : 4 ≤ (bagOf l).length := by unfold bagOf; rw [List.length_append, hdr_len]; omega
  have hd : (bagOf l).drop 4 = ((srtR l).map codes).flatten := by rw [srtR_map]; rfl
  unfold bagFin
  rw [if_neg (by omega), hh, if_neg (by omega), hd, Int.toNat_natCast]
  have := bagRead_codes (srtR l) (perm_fine (srtR_perm l) hf) (by rw [srtR_map]; have := bag_flat_len l hf hl; omega) [] []
    (List.pairwise_cons.2 ⟨fun a _ => cmpL_nil a, by rw [srtR_map]; exact srt_pw _⟩)
  rw [srtR_len, List.nil_append] at this
  exact this
theorem plain_codes {r : List S42} (hf : Fine r) : codes (r.map plainV) = codes r ∧ (∀ v ∈ r.map plainV, Can v) := by
  have hl := hf.code_len
  have h := rowRead_code r hf [] (fun b hb => by simp at hb) (by rw [List.append_nil]; omega)
  rw [List.append_nil] at h
  rcases rowRead_ok (codes r) (codes_isB r) (by omega) with ⟨h1, _⟩ | ⟨_, h2, _, h4⟩
  · rw [h] at h1; exact absurd rfl h1
  · rw [h] at h2 h4
    rw [List.append_nil] at h4
    exact ⟨h4.symm, h2⟩
theorem fine_plain {r : List S42} (hf : Fine r) : Fine (r.map plainV) := by
  obtain ⟨h1, h2⟩ := plain_codes hf
  have hl : (r.map plainV).length ≤ 16 := by rw [List.length_map]; exact hf.len
  refine ⟨?_, hl, h2⟩
  unfold rowOut
  rw [if_neg (by omega), if_pos (rowErr_zero _ h2)]
theorem ords_le {r s : List S42} (hr : Fine r) (hs : Fine s) (h : ¬ cmpL (codes s) (codes r) < 0) : ords r s ≤ 0 := by
  rw [← codes_cmp r s hr.can hs.can, ← cl_cli _ _ (codes_isB r) (codes_isB s)]
  have e1 := (cl_less (Lib.bytesOf (codes s)) (Lib.bytesOf (codes r))).1
  rw [less_cb] at e1
  have e2 : ¬ cl (Lib.bytesOf (codes s)) (Lib.bytesOf (codes r)) = -1 := by
    intro h'
    rw [h'] at e1
    have := of_decide_eq_true (e1.trans (by decide))
    exact h this
  have e3 := cl_anti (Lib.bytesOf (codes s)) (Lib.bytesOf (codes r))
  have e4 := (cl_less (Lib.bytesOf (codes s)) (Lib.bytesOf (codes r))).2
  show cl (Lib.bytesOf (codes r)) (Lib.bytesOf (codes s)) ≤ 0
  rw [e3]
  rcases e4 with e4 | e4 | e4
  · exact absurd e4 e2
  · omega
  · omega
def gT (l : List (List S42)) (f i : Nat) : List S42 := rd_L5 l (((i + f) % l.length : Nat) : Int)
def turnL (l : List (List S42)) (f : Nat) : Nat → List (List S42)
  | 0 => []
  | i + 1 => gT l f i :: turnL l f i
theorem turnL_rev (l : List (List S42)) (f : Nat) : ∀ i, turnL l f i = ((List.range i).map (gT l f)).reverse
  | 0 => rfl
  | i + 1 => by
    rw [List.range_succ, List.map_append, List.reverse_append, turnL, turnL_rev l f i]
    rfl
theorem turn_rot (l : List (List S42)) (f : Nat) (hn : 0 < l.length) : (List.range l.length).map (gT l f) = l.drop (f % l.length) ++ l.take (f % l.length) := by
  have hlt := Nat.mod_lt f hn
  apply List.ext_getElem
  · simp; omega
  · intro i h1 h2
    have hi : i < l.length := by simpa using h1
    rw [List.getElem_map, List.getElem_range]
    unfold gT rd_L5
    rw [Int.toNat_natCast, List.getD_eq_getElem?_getD, List.getElem?_eq_getElem (Nat.mod_lt _ hn), Option.getD_some, List.getElem_append]
    have hm : (i + f) % l.length = (i + f % l.length) % l.length := by rw [Nat.add_mod_mod]
    split
    · rename_i h
      rw [List.length_drop] at h
      rw [List.getElem_drop]
      congr 1
      rw [hm, Nat.mod_eq_of_lt (by omega)]
      omega
    · rename_i h
      rw [List.length_drop] at h
      rw [List.getElem_take]
      congr 1
      rw [hm, Nat.mod_eq_sub_mod (by omega), Nat.mod_eq_of_lt (by omega), List.length_drop]
      omega
theorem turn_perm (l : List (List S42)) (f : Nat) : (turnL l f l.length).Perm l := by
  rcases Nat.eq_zero_or_pos l.length with h | h
  · rw [h]
    obtain rfl := List.length_eq_zero_iff.1 h
    exact List.Perm.refl _
  · rw [turnL_rev, turn_rot l f h]
    refine (List.reverse_perm _).trans (List.perm_append_comm.trans ?_)
    rw [List.take_append_drop]
theorem hdr_ne {n : Nat} (hn : n + 1 ≤ 65536) : hdr (n + 1) ≠ hdr n := by
  intro h
  unfold hdr at h
  simp only [List.cons.injEq, and_true] at h
  omega
theorem Bags_l1 (l : List (List S42)) (more : List S42) (hl : l.length ≤ 65536) (hf : ∀ r ∈ l, Fine r) (hm : more.length ≤ 4398046510976) (hn : ∀ r ∈ l, ∀ v ∈ r, I64 v.f1) (hnm : ∀ v ∈ more, I64 v.f1) (R : List (List S42)) (hR : R = (srtR l).map (fun r => r.map plainV)) :
    ∀ (d i : Nat), l.length ≤ i + d → 1 ≤ i → i ≤ 65537 → ∀ (k : Nat), d + 9175200000 ≤ k → locksteplaw02_RowcodeBags.l1 k l more (bagOf l) R (i : Int) = some true := by
  have hRl : R.length = l.length := by rw [hR, List.length_map, srtR_len]
  have hRf : ∀ r ∈ R, Fine r := by
    intro r hr
    rw [hR] at hr
    obtain ⟨q, hq, rfl⟩ := List.mem_map.1 hr
    exact fine_plain (perm_fine (srtR_perm l) hf q hq)
  have hRc : R.map codes = srt (l.map codes) := by
    rw [hR, List.map_map, ← srtR_map]
    apply List.map_congr_left
    intro q hq
    exact (plain_codes (perm_fine (srtR_perm l) hf q hq)).1
  have hRp : R.Pairwise (fun a b => ¬ cmpL (codes b) (codes a) < 0) := by
    have := srt_pw (l.map codes)
    rw [← hRc, List.pairwise_map] at this
    exact this
  have hRb : bagOf R = bagOf l := by
    unfold bagOf
    rw [hRl, hRc, ← srt_uniq (l := srt (l.map codes)) (ys := srt (l.map codes)) (fun x hx => by obtain ⟨r, -, rfl⟩ := List.mem_map.1 (srt_mem.1 hx); exact codes_areB r) (List.Perm.refl _) (srt_pw _)]
  have hRn : ∀ r ∈ R, ∀ v ∈ r, I64 v.f1 := fun r hr v hv => ((hRf r hr).can v hv).2
  have hlast : ∀ k, 9175200000 ≤ k → ∀ i : Nat, R.length ≤ i → locksteplaw02_RowcodeBags.l1 k l more (bagOf l) R (i : Int) = some true := by
    intro k hk i hi
    obtain ⟨k, rfl⟩ : ∃ m, k = m + 1 := ⟨k - 1, by omega⟩
    rw [locksteplaw02_RowcodeBags.l1, if_neg (by omega), pBag_eq R hRn k (by omega), Option.bind_some, Owned_eq l (by omega) (fun r hr => by have := (hf r hr).len; omega) k (by omega), Option.bind_some, Own_eq more hm, Option.bind_some, if_pos (by omega),
      pBag_eq (l ++ [more]) (fun r hr => by
        rcases List.mem_append.1 hr with h | h
        · exact hn r h
        · rw [List.mem_singleton.1 h]; exact hnm) k (by omega), Option.bind_some, bagOut_fine (by omega) hRf, if_pos rfl, hRb, if_pos rfl]
    by_cases he : (bagOut (l ++ [more])).2 = 0
    · rw [if_pos he]
      congr 1
      have hlen : (l ++ [more]).length = l.length + 1 := by simp
      unfold bagOut at he ⊢
      by_cases h1 : 65536 < (l ++ [more]).length
      · rw [if_pos h1] at he; exact absurd he (by decide)
      · rw [if_neg h1] at he ⊢
        by_cases h2 : bagErr (l ++ [more]) = 0
        · rw [if_pos h2]
          rw [bne_iff_ne]
          intro hE
          rw [Lib.strOfNums_toList, Lib.strOfNums_toList] at hE
          have hE2 := bytesOf_inj (areB_iff.2 (bagOf_isB (l ++ [more]))) (areB_iff.2 (bagOf_isB l)) hE
          have hE3 := congrArg (List.take 4) hE2
          have t1 : (bagOf (l ++ [more])).take 4 = hdr (l ++ [more]).length := rfl
          have t2 : (bagOf l).take 4 = hdr l.length := rfl
          rw [t1, t2, hlen] at hE3
          exact hdr_ne (by omega) hE3
        · rw [if_neg h2] at he; exact absurd he h2
    · rw [if_neg he]
  intro d
  induction d with
  | zero => intro i h h1 h3 k hk; exact hlast k (by omega) i (by omega)
  | succ d ih =>
    intro i h h1 h3 k hk
    by_cases hi : R.length ≤ i
    · exact hlast k (by omega) i hi
    replace hi : i < R.length := by omega
    obtain ⟨k, rfl⟩ : ∃ m, k = m + 1 := ⟨k - 1, by omega⟩
    have hw : wrap64 ((i : Int) - 1) = ((i - 1 : Nat) : Int) := by unfold wrap64; omega
    have m1 := mem5 (l := R) (i := i - 1) (by omega)
    have m2 := mem5 (l := R) (i := i) hi
    have hle : ords (rd_L5 R ((i - 1 : Nat) : Int)) (rd_L5 R (i : Int)) ≤ 0 := by
      refine ords_le (hRf _ m1) (hRf _ m2) ?_
      have hp := List.pairwise_iff_getElem.1 hRp (i - 1) i (by omega) hi (by omega)
      unfold rd_L5
      rw [List.getD_eq_getElem?_getD, List.getD_eq_getElem?_getD, Int.toNat_natCast, Int.toNat_natCast, List.getElem?_eq_getElem hi, List.getElem?_eq_getElem (show i - 1 < R.length by omega)]
      exact hp
    have hl1 := (hRf _ m1).len
    rw [locksteplaw02_RowcodeBags.l1, if_pos (by omega), hw, if_pos (by omega), if_pos (by omega), if_pos (by omega), value_Rows.eq _ _ (hRn _ m1) (hRn _ m2) (by omega) k (Or.inl (by omega)), Option.bind_some, if_neg (by omega), w1 i (by omega)]
    exact ih (i + 1) (by omega) (by omega) (by omega) k (by omega)
theorem Bags_l0 (l : List (List S42)) (f : Nat) (hf0 : f ≤ 65535) (more : List S42) (hl : l.length ≤ 65536) (hf : ∀ r ∈ l, Fine r) (hm : more.length ≤ 4398046510976) (hn : ∀ r ∈ l, ∀ v ∈ r, I64 v.f1) (hnm : ∀ v ∈ more, I64 v.f1) :
    ∀ (i : Nat), i ≤ l.length → ∀ (x : List (List S42)) (k : Nat), x ++ turnL l f i = turnL l f l.length → i + 27525600000 ≤ k → locksteplaw02_RowcodeBags.l0 k l (f : Int) more (bagOf l) x ((i : Int) - 1) = some true
  | 0, hi, x, k, hx, hk => by
    obtain ⟨k, rfl⟩ : ∃ m, k = m + 1 + 1 := ⟨k - 2, by omega⟩
    have hxt : x = turnL l f l.length := by rw [← hx]; simp [turnL]
    have hp : x.Perm l := by rw [hxt]; exact turn_perm l f
    have hxf := perm_fine hp hf
    have hxl := hp.length_eq
    have hal := bagOf_len l hf hl
    have hRl : (((srtR l).map (fun r => r.map plainV)).length : Int) = (l.length : Int) := by rw [List.length_map, srtR_len]
    rw [locksteplaw02_RowcodeBags.l0, if_neg (by omega), Owned_eq x (by omega) (fun r hr => by have := (hxf r hr).len; omega) (k + 1) (by omega), Option.bind_some, pBag_eq x (fun r hr v hv => ((hxf r hr).can v hv).2) (k + 1) (by omega), Option.bind_some,
      own_eq2 _ (by omega), Option.bind_some, pReadBag_eq _ (bagOf_isB l) (by omega) (k + 1) (by omega), Option.bind_some, bagFin_of l hl hf, bagOut_fine (by omega) hxf, bagOf_perm hp, if_pos rfl, if_pos rfl, if_pos rfl]
    rw [locksteplaw02_RowcodeBags.j1, if_neg (by rw [hRl]; simp)]
    exact Bags_l1 l more hl hf hm hn hnm _ rfl l.length 1 (by omega) (Nat.le_refl _) (by omega) k (by omega)
  | i + 1, hi, x, k, hx, hk => by
    obtain ⟨k, rfl⟩ : ∃ m, k = m + 1 := ⟨k - 1, by omega⟩
    have hw1 : wrap64 ((((i + 1 : Nat) : Int) - 1) + wrap64 (f : Int)) = ((i + f : Nat) : Int) := by unfold wrap64; omega
    have ht : Int.tmod ((i + f : Nat) : Int) (l.length : Int) = (((i + f) % l.length : Nat) : Int) := rfl
    have hmod : (i + f) % l.length < l.length := Nat.mod_lt _ (by omega)
    have hw2 : wrap64 ((((i + 1 : Nat) : Int) - 1) - 1) = (i : Int) - 1 := by unfold wrap64; omega
    have hmem := mem5 (l := l) hmod
    have hlx : x.length + (i + 1) = l.length := by
      have h1 := congrArg List.length hx
      have h2 : ∀ j, (turnL l f j).length = j := fun j => by rw [turnL_rev]; simp
      rw [List.length_append, h2, h2] at h1
      exact h1
    rw [locksteplaw02_RowcodeBags.l0, if_pos (by omega), if_neg (by omega), hw1, ht, if_pos (by omega), if_pos (by omega), Own_eq _ (by have := (hf _ hmem).len; omega), Option.bind_some, if_pos (by omega), hw2]
    refine Bags_l0 l f hf0 more hl hf hm hn hnm i (by omega) _ k ?_ (by omega)
    rw [← hx, List.append_assoc]
    rfl
theorem RowcodeBags_true (l : List (List S42)) (f : Int) (more : List S42) (hl : l.length ≤ 5864062014634) (hr : ∀ r ∈ l, r.length ≤ 4398046510976) (hn : ∀ r ∈ l, ∀ v ∈ r, I64 v.f1) (hf : 0 ≤ f ∧ f ≤ 65535) (hm : more.length ≤ 4398046510976) (hnm : ∀ v ∈ more, I64 v.f1) :
    ∃ k, locksteplaw02_RowcodeBags.f k l f more = some true := by
  obtain ⟨f, rfl⟩ := Int.eq_ofNat_of_zero_le hf.1
  refine ⟨60 + (l.length + 27525700000), ?_⟩
  unfold locksteplaw02_RowcodeBags.f
  rw [livesUp, Option.bind_some, if_pos rfl, Owned_eq l hl hr _ (by omega), Option.bind_some, pBag_eq l hn _ (by omega), Option.bind_some]
  by_cases he : (bagOut l).2 = 0
  · rw [if_pos he]
    have h65 : l.length ≤ 65536 := by
      unfold bagOut at he
      by_cases h1 : 65536 < l.length
      · rw [if_pos h1] at he; exact absurd he (by decide)
      · omega
    have hfine : ∀ r ∈ l, Fine r := by
      unfold bagOut at he
      rw [if_neg (by omega)] at he
      by_cases h2 : bagErr l = 0
      · exact fine_all hn h2
      · rw [if_neg h2] at he; exact absurd he h2
    rw [bagOut_fine h65 hfine, show wrap64 ((l.length : Int) - 1) = (l.length : Int) - 1 by unfold wrap64; omega]
    exact Bags_l0 l f (by omega) more h65 hfine hm hn hnm l.length (Nat.le_refl _) [] _ (by rw [List.nil_append]) (by omega)
  · rw [if_neg he]
    have : (bagOut l).1 = [] := by
      unfold bagOut at he ⊢
      by_cases h1 : 65536 < l.length
      · rw [if_pos h1]
      · rw [if_neg h1] at he ⊢
        by_cases h2 : bagErr l = 0
        · rw [if_pos h2] at he; exact absurd rfl he
        · rw [if_neg h2]
    rw [this]
    rfl
end Go.Proofs.YthghcpeedmconaaDoor.X
end
section
namespace Go.Proofs.YthghcpeedmconaaDoorW.PrintWords
open Go Go.RowKit Go.ChangeShapes Go.WideShapes Go.Deep
set_option linter.unusedVariables false
set_option linter.unusedSimpArgs false
def Opens {α : Type} (P : Program) (d : Kd α) (t : TypeId) (g : α → Prop) : Prop :=
  ∀ {H : Type} (enc : TypeId × Value → H) (W : World) (base : Nat) (spare : Nat → Bool) (held : Bool) (fuel : Nat) (cs : List Value) (x : DataW H × List MemPlace),
    DataW.trod enc P W base spare held fuel t cs = some x → ∃ a, d.K W a cs ∧ g a
def inKind (k : IntKind) (n : Int) : Prop := k.min ≤ n ∧ n ≤ k.max
section
variable {P : Program} {α β : Type}
theorem opens_int {t : TypeId} {k : IntKind} (ht : P.underlying t = some (.int k)) : Opens P (Kd.int k) t (inKind k) := by
  intro H enc W base spare held fuel cs x h
  obtain ⟨n, rfl, _, hw⟩ := DataW.trod_int ht h
  refine ⟨n, rfl, ?_⟩
  simpa [Lit.wf, inKind] using hw
theorem opens_string {t : TypeId} (ht : P.underlying t = some .string) : Opens P Kd.string t (fun s => s.size ≤ 9223372036854775807) := by
  intro H enc W base spare held fuel cs x h
  obtain ⟨n, rfl, _, hw⟩ := DataW.trod_string ht h
  exact ⟨n, rfl, by simpa [maxLen] using hw⟩
theorem Opens.imp {d : Kd α} {t : TypeId} {g g' : α → Prop} (h : Opens P d t g) (hg : ∀ a, g a → g' a) : Opens P d t g' := by
  intro H enc W base spare held fuel cs x hx
  obtain ⟨a, h1, h2⟩ := h enc W base spare held fuel cs x hx
  exact ⟨a, h1, hg a h2⟩
theorem opens_iso {d : Kd α} {t : TypeId} {g : α → Prop} (h : Opens P d t g) (f : β → α) (b : α → β) (hf : ∀ a, f (b a) = a) : Opens P (Kd.iso d f) t (fun x => g (f x)) := by
  intro H enc W base spare held fuel cs x hx
  obtain ⟨a, h1, h2⟩ := h enc W base spare held fuel cs x hx
  exact ⟨b a, by show d.K W (f (b a)) cs; rw [hf]; exact h1, by show g (f (b a)); rw [hf]; exact h2⟩
theorem elems_of {γ : Type} {n : Nat} {p : Nat → γ → Prop} (h : ∀ i, i < n → ∃ a, p i a) : ∃ xs : List γ, xs.length = n ∧ ∀ i a, xs[i]? = some a → p i a := by
  induction n with
  | zero => exact ⟨[], rfl, fun i a h => by simp at h⟩
  | succ n ih =>
    obtain ⟨xs, hl, hx⟩ := ih (fun i hi => h i (by omega))
    obtain ⟨a, ha⟩ := h n (by omega)
    refine ⟨xs ++ [a], by simp [hl], fun i b hb => ?_⟩
    by_cases hi : i < xs.length
    · rw [List.getElem?_append_left hi] at hb
      exact hx i b hb
    · rw [List.getElem?_append_right (by omega)] at hb
      have : i = n := by
        have := (List.getElem?_eq_some_iff.1 hb).1
        simp at this
        omega
      subst this
      rw [hl, Nat.sub_self] at hb
      injection hb with hb
      exact hb ▸ ha
theorem opens_three {α β γ : Type} {a : Kd α} {b : Kd β} {c : Kd γ} {t : TypeId} {f0 f1 f2 : Field} {g0 : α → Prop} {g1 : β → Prop} {g2 : γ → Prop} (ht : P.underlying t = some (.struct #[f0, f1, f2]))
    (ho : f0.offset = 0 ∧ f1.offset = a.sz ∧ f2.offset = a.sz + b.sz) (hc : P.cellsOf t = a.sz + (b.sz + c.sz)) (h0 : P.cellsOf f0.type = a.sz) (h1 : P.cellsOf f1.type = b.sz) (h2 : P.cellsOf f2.type = c.sz)
    (k0 : Opens P a f0.type g0) (k1 : Opens P b f1.type g1) (k2 : Opens P c f2.type g2) : Opens P (Kd.pair a (Kd.pair b c)) t (fun x => g0 x.1 ∧ g1 x.2.1 ∧ g2 x.2.2) := by
  intro H enc W base spare held fuel cs x hx
  obtain ⟨y0, y1, y2, n, _, hl, e0, e1, e2⟩ := trod_struct3 ht hx
  rw [ho.1, h0, List.drop_zero] at e0
  rw [ho.2.1, h1] at e1
  rw [ho.2.2, h2] at e2
  obtain ⟨p0, q0, r0⟩ := k0 enc W base spare held n _ _ e0
  obtain ⟨p1, q1, r1⟩ := k1 enc W base spare held n _ _ e1
  obtain ⟨p2, q2, r2⟩ := k2 enc W base spare held n _ _ e2
  refine ⟨(p0, p1, p2), ⟨_, _, ?_, q0, ⟨_, _, rfl, q1, q2⟩⟩, r0, r1, r2⟩
  rw [hc] at hl
  rw [List.take_of_length_le (l := cs.drop (a.sz + b.sz)) (by rw [List.length_drop]; omega)]
  conv => lhs; rw [← List.take_append_drop a.sz cs]
  congr 1
  conv => lhs; rw [← List.take_append_drop b.sz (cs.drop a.sz)]
  rw [List.drop_drop]
end
end Go.Proofs.YthghcpeedmconaaDoorW.PrintWords
end
section
namespace Go.Proofs.YthghcpeedmconaaDoor.X
set_option linter.unusedVariables false
set_option linter.unusedSimpArgs false
open Go.RowKit Go.Lib Go.ChangeShapes Go.WideShapes Go.ChangeAt Go.Joins Go.Proofs.YthghcpeedmconaaDoorW.PrintWords
open Go.ChangeMaps (open_string shut_string)
set_option maxRecDepth 100000
theorem own : ownKnob Tryd.prog.godebug = none := by kernel_rfl
theorem u8extra : U8Extra Tryd.prog Tryd.laysValid_ren := ⟨by kernel_rfl, by kernel_rfl, by kernel_rfl, by kernel_rfl, by kernel_rfl, by kernel_rfl, by kernel_rfl⟩
theorem most_of {w : World} (h : w.ShapedOpen Tryd.prog) : ∃ m : Int, w.cell? ⟨2, 0, none⟩ = some (.int .i64 m) :=
  cell_of_shapedOpen_int (zero := #[.int .i64 0]) (t := 3) h (of_decide_eq_true (by kernel_rfl)) (by kernel_rfl) rfl (by kernel_rfl) (by kernel_rfl) Tryd.underlying3
def two : List (String × DataW Unit) := [("unicode/utf8.acceptRanges", Rows.laid_unicode_utf8_acceptRanges), ("unicode/utf8.first", Rows.laid_unicode_utf8_first)]
theorem tabs_of {w : World} (h : laidMetH Tryd.prog two w) (hs : w.ShapedOpen Tryd.prog) : Tabs w := by
  have h' : laidMet Tryd.prog two w := h
  refine ⟨?_, most_of hs⟩
  have h3 := Go.Lib.laidMet.reads h' (n := "unicode/utf8.first") (d := Rows.laid_unicode_utf8_first) (by simp [two])
  have h4 := Go.Lib.laidMet.reads h' (n := "unicode/utf8.acceptRanges") (d := Rows.laid_unicode_utf8_acceptRanges) (by simp [two])
  rw [show (Rows.laid_unicode_utf8_first : DataW Unit) = firstData by kernel_rfl] at h3
  rw [show (Rows.laid_unicode_utf8_acceptRanges : DataW Unit) = acceptData by kernel_rfl] at h4
  exact utf8Tabs_of_readsT (U8Types.of196 Tryd.laysValid) u8extra h3 h4
theorem laidOut : laidOutB Tryd.prog = true := by kernel_rfl
theorem i64_of {n : Int} (h : inKind .i64 n) : I64 n := by
  unfold inKind at h
  simp only [IntKind.min, IntKind.max, IntKind.signed, IntKind.bits, if_true] at h
  exact ⟨by omega, by omega⟩
def okV (x : S42) : Prop := I64 x.f0 ∧ I64 x.f1 ∧ x.f2.size ≤ 9223372036854775807
theorem opens_value : Opens Tryd.prog k42 42 okV :=
  Opens.imp (opens_iso (opens_three Tryd.underlying42 ⟨rfl, rfl, rfl⟩ (by kernel_rfl) (by kernel_rfl) (by kernel_rfl) (by kernel_rfl) (opens_int Tryd.underlying3) (opens_int Tryd.underlying2) (opens_string Tryd.underlying9)) (fun x : S42 => (x.f0, (x.f1, x.f2))) (fun p => ⟨p.1, p.2.1, p.2.2⟩) (fun _ => rfl))
    (fun x h => ⟨i64_of h.1, i64_of h.2.1, h.2.2⟩)
noncomputable def laidWorld (os : Os) : World :=
  { World.doorLaid Tryd.prog 200 os with heap := (World.doorLaid Tryd.prog 200 os).heap.modify 0 fun
      | .cells _ t frozen => .cells (Go.Pinned.utf8FirstZ.map fun (n : Nat) => Value.int .u8 (n : Int)).toArray t frozen
      | o => o }
theorem laid_met (os : Os) (args : Array Value) : laidMetH Tryd.prog two ((laidWorld os).forCall (fun _ _ => 0) ⟨#[], args, []⟩).memory :=
  laidMet_of_run' 8 (by kernel_rfl) (by kernel_rfl)
end Go.Proofs.YthghcpeedmconaaDoor.X
end
section
namespace Go.Proofs.YthghcpeedmconaaDoorW.PrintWords
open Go Go.RowKit Go.ChangeShapes Go.WideShapes Go.Deep
set_option linter.unusedVariables false
set_option linter.unusedSimpArgs false
def OpensS {α : Type} (P : Program) (d : Kd α) (t : TypeId) (g : α → Prop) : Prop :=
  ∀ {H : Type} (enc : TypeId × Value → H) (W : World) (base : Nat) (spare : Nat → Bool) (held : Bool) (fuel : Nat) (cs : List Value) (x : DataW H × List MemPlace),
    DataW.trod enc P W base spare held fuel t cs = some x → (∀ n ∈ x.1.weights P t, n ≤ reachBytes) → ∃ a, d.K W a cs ∧ g a
section
variable {P : Program} {α β : Type}
theorem opensS_of {d : Kd α} {t : TypeId} {g : α → Prop} (h : Opens P d t g) : OpensS P d t g := by
  intro H enc W base spare held fuel cs x hx _
  exact h enc W base spare held fuel cs x hx
theorem weights_mem_all {H : Type} {e : TypeId} : ∀ {l : List (DataW H)} {d : DataW H}, d ∈ l → ∀ n ∈ d.weights P e, n ∈ DataW.weightsAll P e l
  | [], _, h, _, _ => by simp at h
  | a :: l, d, h, n, hn => by
    simp only [DataW.weightsAll, List.mem_append]
    rcases List.mem_cons.1 h with rfl | h
    · exact .inl hn
    · exact .inr (weights_mem_all h n hn)
theorem opensS_slice {d : Kd α} {t e : TypeId} {g : α → Prop} (ht : P.underlying t = some (.slice e)) (hs : P.cellsOf e = d.sz) (h : OpensS P d e g) :
    OpensS P (Kd.slice e d) t (fun xs => xs.length * P.bytesOf e ≤ reachBytes ∧ ∀ x ∈ xs, g x) := by
  intro H enc W base spare held fuel cs x hx hw
  rcases open_slice ht hx with ⟨rfl, rfl⟩ | ⟨a, len, cap, m, n, D, Pl, rfl, hb, hl, hm, hmm, rfl, hel⟩
  · exact ⟨[], ⟨none, 0, rfl, Nat.le_refl _, ⟨rfl, by simp, fun h => absurd h (by simp)⟩⟩, by simp, fun x hx => by simp at hx⟩
  · simp only [DataW.weights, ht] at hw
    have hw0 := hw _ List.mem_cons_self
    obtain ⟨xs, hlen, hxs⟩ := elems_of (n := len) (p := fun i y => ∃ cs', W.cells? base (a.add (i * P.cellsOf e)) (P.cellsOf e) = some cs' ∧ d.K W y cs' ∧ g y) (fun i hi => by
      obtain ⟨cs', h1, h2⟩ := hel i (by rw [hmm]; split <;> omega)
      obtain ⟨y, h3, h4⟩ := h enc W base spare held n cs' _ h2 (fun k hk => hw k (List.mem_cons_of_mem _ (List.mem_append_left _ (weights_mem_all (List.mem_map.2 ⟨i, List.mem_range.2 hi, rfl⟩) k hk))))
      exact ⟨y, cs', h1, h3, h4⟩)
    refine ⟨xs, ⟨some a, cap, by rw [hlen], by rw [hlen]; exact hl, ⟨rfl, by rw [hlen]; simp only [maxLen] at hm; omega, fun hp => ⟨a, rfl, fun j p hj => ?_⟩⟩⟩, ?_, fun x hx => ?_⟩
    · obtain ⟨cs', h1, h2, _⟩ := hxs j p hj
      refine ⟨cs', d.K_len h2, h2, fun i u hu => ?_⟩
      obtain ⟨_, hcl, hcc⟩ := World.cells?_some h1
      have hi : i < cs'.length := (List.getElem?_eq_some_iff.1 hu).1
      have h5 := hcc i (by rw [← hcl]; exact hi)
      rw [hu, Addr.add_add, hs] at h5
      exact h5
    · rw [hlen]
      exact Nat.le_trans (Nat.mul_le_mul_right _ (by simp)) hw0
    · obtain ⟨i, hi⟩ := List.getElem?_of_mem hx
      obtain ⟨_, _, _, h4⟩ := hxs i x hi
      exact h4
theorem open_arg_sliceS {d : Kd α} {t e : TypeId} {g : α → Prop} (ht : P.underlying t = some (.slice e)) (hs : P.cellsOf e = d.sz) (h : OpensS P d e g) {H : Type} {enc : TypeId × Value → H} {W : World} {base b0 : Nat} {spare : Nat → Bool} {held : Bool} {r : Reach} {v : Value} {D : DataW H} {p : List MemPlace}
    {ts : List TypeId} {ds : List (DataW H)} {j : Nat} (hsz : (DataW.weightsEach P ts ds).all (· ≤ reachBytes) = true) (htj : ts[j]? = some t) (hdj : ds[j]? = some D)
    (hv : Value.okWide P W r b0 t v) (hd : DataW.Trod enc P W base spare held t v D p) : ∃ A c xs, v = .slice A xs.length c ∧ xs.length ≤ c ∧ d.C W A xs.length xs ∧ xs.length * P.bytesOf e ≤ reachBytes ∧ ∀ x ∈ xs, g x := by
  obtain ⟨A, n, c, rfl⟩ := okWide_slice ht hv
  obtain ⟨fuel, hf⟩ := hd
  obtain ⟨xs, ⟨A', c', he, hl, hC⟩, hg⟩ := opensS_slice ht hs h enc W base spare held fuel _ _ hf (fun n hn => by
    have := List.all_eq_true.1 hsz _ (DataW.weights_mem_each htj hdj n hn)
    simpa using this)
  have he' : Value.slice A n c = .slice A' xs.length c' := by simpa [Value.cells] using he
  injection he' with h1 h2 h3
  subst h1 h2 h3
  exact ⟨A, c, xs, rfl, hl, hC, hg⟩
end
end Go.Proofs.YthghcpeedmconaaDoorW.PrintWords
end
section
namespace Go.Proofs.YthghcpeedmconaaDoor.X
open Go.ChangeShapes Go.WideShapes Go.RowKit Go.Proofs.YthghcpeedmconaaDoorW.PrintWords
set_option linter.unusedVariables false
section
variable {H : Type} {enc : TypeId × Value → H} {W : World} {base b0 : Nat} {spare : Nat → Bool} {held : Bool} {r : Reach} {v : Value} {D : DataW H} {p : List MemPlace}
set_option maxRecDepth 100000 in
set_option linter.constructorNameAsVariable false in
theorem open_vlistS {ts : List TypeId} {ds : List (DataW H)} {j : Nat} (hsz : (DataW.weightsEach Tryd.prog ts ds).all (· ≤ reachBytes) = true) (htj : ts[j]? = some 44) (hdj : ds[j]? = some D)
    (hv : Value.okWide Tryd.prog W r b0 44 v) (hd : DataW.Trod enc Tryd.prog W base spare held 44 v D p) : ∃ A c xs, v = .slice A xs.length c ∧ xs.length ≤ c ∧ (Kd.slice 42 k42).C W A xs.length xs ∧
      (xs.length * 24 ≤ 140737488351232 ∧ ∀ x ∈ xs, x.length * 32 ≤ 140737488351232 ∧ ∀ v ∈ x, okV v) := by
  obtain ⟨A, c, xs, h1, h2, h3, h4, h5⟩ := open_arg_sliceS Tryd.underlying44 (by kernel_rfl) (opensS_slice Tryd.underlying33 (by kernel_rfl) (opensS_of opens_value)) hsz htj hdj hv hd
  rw [show Tryd.prog.bytesOf 33 = 24 by kernel_rfl] at h4
  rw [show Tryd.prog.bytesOf 42 = 32 by kernel_rfl] at h5
  exact ⟨A, c, xs, h1, h2, h3, h4, h5⟩
set_option maxRecDepth 100000 in
set_option linter.constructorNameAsVariable false in
theorem open_vrowS {ts : List TypeId} {ds : List (DataW H)} {j : Nat} (hsz : (DataW.weightsEach Tryd.prog ts ds).all (· ≤ reachBytes) = true) (htj : ts[j]? = some 33) (hdj : ds[j]? = some D)
    (hv : Value.okWide Tryd.prog W r b0 33 v) (hd : DataW.Trod enc Tryd.prog W base spare held 33 v D p) : ∃ A c xs, v = .slice A xs.length c ∧ xs.length ≤ c ∧ k42.C W A xs.length xs ∧
      (xs.length * 32 ≤ 140737488351232 ∧ ∀ x ∈ xs, okV x) := by
  obtain ⟨A, c, xs, h1, h2, h3, h4, h5⟩ := open_arg_sliceS Tryd.underlying33 (by kernel_rfl) (opensS_of opens_value) hsz htj hdj hv hd
  rw [show Tryd.prog.bytesOf 42 = 32 by kernel_rfl] at h4
  exact ⟨A, c, xs, h1, h2, h3, h4, h5⟩
end
end Go.Proofs.YthghcpeedmconaaDoor.X
end
section
namespace Go.Proofs.YthghcpeedmconaaDoor.rowcodeBags
open Go.ChangeShapes Go.WideShapes Go.ChangeAt Go.RowKit Go.Proofs.YthghcpeedmconaaDoor.X Go.Proofs.YthghcpeedmconaaDoorW.PrintWords
open Go.ChangeMaps (open_string shut_string)
set_option linter.unusedVariables false
set_option linter.unusedSimpArgs false
theorem u16_wf {x : Int} (h : (Lit.int .u16 x).wf = true) : 0 ≤ x ∧ x ≤ 65535 := by
  simp only [Lit.wf, IntKind.min, IntKind.max, IntKind.signed, IntKind.bits, Bool.false_eq_true, if_false, Bool.and_eq_true, decide_eq_true_eq] at h
  omega
set_option maxRecDepth 100000 in
theorem reads (os : Os) {H : Type} (enc : TypeId × Value → H) : ∃ places, DataW.whole enc Tryd.prog ((laidWorld os).forCall (fun _ _ => 0) ⟨#[], #[.slice none 0 0, .int .u16 0, .slice none 0 0], []⟩).memory Tryd.f9.params.toList Rows.rowcodeBagsSpec.vars false
    #[Value.slice none 0 0, .int .u16 0, .slice none 0 0].toList 8 =
    some ([.nil, .lit (.int .u16 0), .nil], [], places) :=
  ⟨[], by kernel_rfl⟩
set_option maxRecDepth 100000 in
theorem lifted (os : Os) (started : os.Started) (H : Type) (enc : TypeId × Value → H) (F : Stop.Interp) :
    ReturnsInHanded {} Tryd.checked os 9 .any ((OpenSpec.ofChange Rows.rowcodeBagsSpec).preRow enc Tryd.prog Tryd.f9 Rows.rowcodeBagsRow.domain false Rows.rowcodeBagsRow.laid) (((OpenSpec.ofChange Rows.rowcodeBagsSpec).at F).post enc Tryd.prog Tryd.f9 false true false false) := by
  obtain ⟨places, hx⟩ := reads os enc
  refine returnsInHanded_of_row (C := Tryd.checked) (s := (OpenSpec.ofChange Rows.rowcodeBagsSpec)) own started (by kernel_rfl) Tryd.func9
    (witness_row_at (enc := enc) (C := Tryd.checked) false (laidWorld os) #[.slice none 0 0, .int .u16 0, .slice none 0 0] rfl (by kernel_rfl) (by kernel_rfl) (by kernel_rfl)
      (OpenSpec.preRow_of_cond 8 hx (by kernel_rfl) (fun k hk => by cases hk) (by kernel_rfl) (laid_met os _))) ?_
  intro W base args ds gs before hval0 hW _ hcond hsz0 hL hsh _
  have hT : Tabs W := tabs_of hL hsh
  have hval : ∀ (j : Nat) t v, Tryd.f9.params[j]? = some t → args[j]? = some v → Value.okWide Tryd.prog W .any base t v := hval0
  have hW' := hW
  have hlt0 := fun x hx => hW'.lt x hx
  obtain ⟨p, q, hA0, hV, rfl, hfz, hnd⟩ := hW
  have hA : DataW.TrodAll enc Tryd.prog W 0 (fun _ => true) true Tryd.f9.params.toList args.toList ds p := hA0
  rw [Tryd.params9] at hA hval
  obtain ⟨v0, vs0, d0, ds0, p0, q0, hargs, rfl, rfl, h0, r0⟩ := trodAll_cons hA
  obtain ⟨v1, vs1, d1, ds1, p1, q1, rfl, rfl, rfl, h1, r1⟩ := trodAll_cons r0
  obtain ⟨v2, vs2, d2, ds2, p2, q2, rfl, rfl, rfl, h2, r2⟩ := trodAll_cons r1
  obtain ⟨rfl, rfl, rfl⟩ := trodAll_nil r2
  obtain rfl : args = #[v0, v1, v2] := by cases args; simp_all
  obtain ⟨rfl, rfl⟩ := trodVars_none hV
  have k0 := h0
  have lt0 : ∀ x ∈ p0, x.block < W.heap.size := fun x hx => by have := hlt0 x (by simp [hx]); simpa using this
  obtain ⟨A0, c0, a0, rfl, hc0, hr0, g0⟩ := open_vlistS (j := 0) hsz0 rfl rfl (hval 0 44 v0 rfl rfl) h0
  have k1 := h1
  have lt1 : ∀ x ∈ p1, x.block < W.heap.size := fun x hx => by have := hlt0 x (by simp [hx]); simpa using this
  obtain ⟨a1, rfl, rfl, rfl, g1⟩ := open_int Tryd.underlying73 (hval 1 73 v1 rfl rfl) h1
  have k2 := h2
  have lt2 : ∀ x ∈ p2, x.block < W.heap.size := fun x hx => by have := hlt0 x (by simp [hx]); simpa using this
  obtain ⟨A2, c2, a2, rfl, hc2, hr2, g2⟩ := open_vrowS (j := 2) hsz0 rfl rfl (hval 2 33 v2 rfl rfl) h2
  have hE := (RowcodeBags_true a0 a1 a2 (by have := g0.1; omega) (fun r hr => by have := (g0.2 r hr).1; omega) (fun r hr v hv => ((g0.2 r hr).2 v hv).2.1) (u16_wf g1) (by have := g2.1; omega) (fun v hv => (g2.2 v hv).2.1))
  obtain ⟨kk, hP⟩ := hE
  refine (locksteplaw02_RowcodeBags.calls kk A0 c0 a0 a1 A2 c2 a2 true W hT hr0 hc0 hr2 hc2 (hP) rfl).mono fun e W' ⟨he, bel⟩ => ?_
  subst he
  exact ⟨_, rfl, _, _, _, [], _, [], hW', trodAll_mk1 (shut_bool Tryd.underlying4 _), (trodAll_cons_mk (Below.trod laidOut (by kernel_rfl) (of_decide_eq_true (by kernel_rfl)) k0 bel lt0) (trodAll_cons_mk (Below.trod laidOut (by kernel_rfl) (of_decide_eq_true (by kernel_rfl)) k1 bel lt1) (trodAll_cons_mk (Below.trod laidOut (by kernel_rfl) (of_decide_eq_true (by kernel_rfl)) k2 bel lt2) trodAll_mk0))), rfl, bel.frame _, fun h => by cases h⟩
theorem said : Rows.RowcodeBagsSaid :=
  OpenClaim.holds_of_cond 9 Tryd.f9 rfl rfl rfl rfl rfl rfl rfl ⟨rfl, rfl, rfl, rfl, rfl⟩ rfl rfl rfl rfl rfl (by kernel_rfl) Tryd.func9 (by kernel_rfl)
    (of_decide_eq_true (by kernel_rfl)) (by unfold Func.isWrapper; first | (rw [if_pos (by decide +kernel)]; kernel_rfl) | (rw [if_neg (by decide +kernel)]; exact ⟨rfl, rfl⟩))
    (fun os started H enc _ F => by rw [OpenClaim.pre_eq_preRow]; exact lifted os started H enc F)
theorem plain (f : FuncId) (fn : Func) (hf : Tryd.pinned.checked.prog.funcNamed "lockstep/locksteplaw02.RowcodeBags" = some f) (hfn : Tryd.pinned.checked.prog.funcs[f]? = some fn) :
    false = Tryd.pinned.checked.prog.looks [] ∧ ∀ (j : Nat) t, fn.params[j]? = some t → Tryd.pinned.checked.prog.wantsStandIn t = false := by
  obtain rfl : f = 9 := Option.some.inj ((show Tryd.prog.funcNamed "lockstep/locksteplaw02.RowcodeBags" = some 9 by kernel_rfl).symm.trans hf) |>.symm
  obtain rfl : fn = Tryd.f9 := (Option.some.inj (Tryd.func9.symm.trans hfn)).symm
  refine ⟨by kernel_rfl, fun j t ht => ?_⟩
  rw [Tryd.params9] at ht
  have hm := Array.mem_of_getElem? ht
  have ht' : t = 44 ∨ t = 73 ∨ t = 33 := by simpa using hm
  rcases ht' with rfl | rfl | rfl
  · exact (show Tryd.prog.wantsStandIn 44 = false by kernel_rfl)
  · exact (show Tryd.prog.wantsStandIn 73 = false by kernel_rfl)
  · exact (show Tryd.prog.wantsStandIn 33 = false by kernel_rfl)
theorem card : Rows.RowcodeBagsCardSaid :=
  Claim7.holds_tied_plain_at .later [] _ _ _ _ said (fun _ h => by cases h) (by kernel_rfl) (fun _ h => by cases h) rowcodeBags_row_tie rfl ⟨rfl, rfl⟩ (by kernel_rfl) rfl plain (by kernel_rfl)
end Go.Proofs.YthghcpeedmconaaDoor.rowcodeBags
end

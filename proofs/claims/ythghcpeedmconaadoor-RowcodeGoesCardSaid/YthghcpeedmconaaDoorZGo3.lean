/- RowcodeGoes: rows that came and went leave a digest as if they had not been, in whatever order; for every input. -/
import Derived.Test.YthghcpeedmconaaDoorZGo0
import Derived.Test.YthghcpeedmconaaDoorZGo1
import Derived.Test.YthghcpeedmconaaDoorZGo2
import Derived.Deep.Slices
import Derived.Deep.Strs
import Derived.Lib.SmallJoins
import Derived.OpenShut
import Derived.Carry
import Derived.Test.YthghcpeedmconaaDoorCards
import Derived.Test.YthghcpeedmconaaDoorTie
import Derived.Lib.LaidU8T
import Derived.Lib.LaidTab
import Derived.Shelf.Vars
import Derived.LaidMore
import Derived.ShutString
import Derived.SizedLaws
import Derived.ProofKit
import Derived.Deep.DeepHandedRow
import Derived.SevenTiedAt
section
namespace Go.Proofs.YthghcpeedmconaaDoor.X
open Go.RowKit Go.Proofs.YthghcpeedmconaaDoorW.PrintWords Go.Proofs.YthghcpeedmconaaDoorW.PrintLast Go.Proofs.YthghcpeedmconaaDoorW.PrintMore
attribute [local go_sem] max2_int min2_int max_two min_two max_three min_three max_four min_four
set_option linter.unusedVariables false
set_option linter.unusedSimpArgs false
mutual
def locksteplaw02_RowcodeGoes.l0 : Nat → List (List (S42)) → List (S42) → Int → Int → Int → Int → Int → Option (Bool)
 | 0, _, _, _, _, _, _, _ => none
 | k + 1, x0, x1, x7, x316000, x316001, x317000, x317001 => if x7 < (x0.length : Int) then (if 0 ≤ x7 then ((rowcode_Digest_Add.f k x316000 x316001 (rd_L5 x0 x7)).bind fun bt318 => (if 0 ≤ (wrap64 ((wrap64 ((x0.length : Int) - 1)) - x7)) then (if (wrap64 ((wrap64 ((x0.length : Int) - 1)) - x7)) < (x0.length : Int) then ((rowcode_Digest_Add.f k x317000 x317001 (rd_L5 x0 (wrap64 ((wrap64 ((x0.length : Int) - 1)) - x7)))).bind fun bt322 => (if bt318.1 = 0 then (if bt322.1 = 0 then (locksteplaw02_RowcodeGoes.l0 k x0 x1 (wrap64 (x7 + 1)) bt318.2.1 bt318.2.2 bt322.2.1 bt322.2.2) else (some true)) else (some true))) else (none)) else (none))) else (none)) else ((rowcode_Digest_Sum.f x316000 x316001).bind fun bt325 => ((rowcode_Digest_Sum.f x317000 x317001).bind fun bt328 => (if bt325.1 = bt328.1 then ((rowcode_Digest_Len.f bt325.2.1 bt325.2.2).bind fun bt331 => (if bt331.1 = (x0.length : Int) then ((rowcode_Digest_Len.f bt328.2.1 bt328.2.2).bind fun bt334 => ((rowcode_Digest_Len.f bt331.2.1 bt331.2.2).bind fun bt337 => (locksteplaw02_RowcodeGoes.j1 k x0 x1 (bt334.1 != bt337.1) bt337.2.1 bt337.2.2 bt334.2.1 bt334.2.2))) else (locksteplaw02_RowcodeGoes.j1 k x0 x1 true bt331.2.1 bt331.2.2 bt328.2.1 bt328.2.2))) else (locksteplaw02_RowcodeGoes.j1 k x0 x1 true bt325.2.1 bt325.2.2 bt328.2.1 bt328.2.2))))
def locksteplaw02_RowcodeGoes.j1 : Nat → List (List (S42)) → List (S42) → Bool → Int → Int → Int → Int → Option (Bool)
 | 0, _, _, _, _, _, _, _ => none
 | k + 1, x0, x1, x65, x316000, x316001, x317000, x317001 => if x65 = true then (some false) else ((rowcode_Digest_Drop.f k x317000 x317001 x1).bind fun bt340 => ((rowcode_Digest_Add.f k bt340.2.1 bt340.2.2 x1).bind fun bt343 => (if bt340.1 = bt343.1 then ((rowcode_Digest_Sum.f x316000 x316001).bind fun bt346 => ((rowcode_Digest_Sum.f bt343.2.1 bt343.2.2).bind fun bt349 => (if bt346.1 = bt349.1 then ((rowcode_Digest_Len.f bt346.2.1 bt346.2.2).bind fun bt352 => ((rowcode_Digest_Len.f bt349.2.1 bt349.2.2).bind fun bt355 => (locksteplaw02_RowcodeGoes.j2 k x0 (bt352.1 != bt355.1) bt352.2.1 bt352.2.2))) else (locksteplaw02_RowcodeGoes.j2 k x0 true bt346.2.1 bt346.2.2)))) else (locksteplaw02_RowcodeGoes.j2 k x0 true x316000 x316001))))
def locksteplaw02_RowcodeGoes.j2 : Nat → List (List (S42)) → Bool → Int → Int → Option (Bool)
 | 0, _, _, _, _ => none
 | k + 1, x0, x88, x316000, x316001 => if x88 = true then (some false) else (locksteplaw02_RowcodeGoes.l1 k x0 0 x316000 x316001)
def locksteplaw02_RowcodeGoes.l1 : Nat → List (List (S42)) → Int → Int → Int → Option (Bool)
 | 0, _, _, _, _ => none
 | k + 1, x0, x12, x316000, x316001 => if x12 < (x0.length : Int) then (if 0 ≤ x12 then ((rowcode_Digest_Drop.f k x316000 x316001 (rd_L5 x0 x12)).bind fun bt359 => (locksteplaw02_RowcodeGoes.l1 k x0 (wrap64 (x12 + 1)) bt359.2.1 bt359.2.2)) else (none)) else ((rowcode_Digest_Sum.f x316000 x316001).bind fun bt362 => (if bt362.1 = 0 then ((rowcode_Digest_Len.f bt362.2.1 bt362.2.2).bind fun bt365 => (some (bt365.1 == 0))) else (some false)))
end
def locksteplaw02_RowcodeGoes.f (k : Nat) (l0 : List (List (S42))) (l1 : List (S42)) : Option (Bool) := (locksteplaw02_lives.f k).bind fun t314 => (if t314 = true then (locksteplaw02_RowcodeGoes.l0 k l0 l1 0 0 0 0 0) else (some false))
set_option maxHeartbeats 8000000 in
set_option maxRecDepth 100000 in
theorem locksteplaw02_RowcodeGoes.calls (k : Nat) (A0 : Option Addr) (c0 : Nat) (l0 : List (List (S42))) (A1 : Option Addr) (c1 : Nat) (l1 : List (S42)) (r : Bool) (w : World) (hT : Tabs w) (hr0 : Kd.C (Kd.slice 42 k42) w A0 l0.length l0) (hc0 : l0.length ≤ c0) (hr1 : Kd.C k42 w A1 l1.length l1) (hc1 : l1.length ≤ c1) (h : locksteplaw02_RowcodeGoes.f k l0 l1 = some r) (hr : r = true) :
  Calls Tryd.prog 4 #[.slice A0 l0.length c0, .slice A1 l1.length c1] w fun e w' => e = .returned (.bool r) ∧ Below w.heap.size w w' := by
 have HR := Aside0.mk hr
 clear hr
 have hu26 := Tryd.underlying26
 have HT := Aside0.mk hT
 clear hT
 have HR0 := Aside0.mk hr0
 have HC0 := Aside0.mk hc0
 clear hr0 hc0
 have HR1 := Aside0.mk hr1
 have HC1 := Aside0.mk hc1
 clear hr1 hc1
 have HB := Aside0.mk (Below.refl w.heap.size w)
 have H : ((locksteplaw02_lives.f k).bind fun t314 => (if t314 = true then (locksteplaw02_RowcodeGoes.l0 k l0 l1 0 0 0 0 0) else (some false))) = some r := h
 clear h
 replace H := Option.bind_eq_some_iff.mp H
 obtain ⟨t314, A30, H⟩ := H
 replace H : (if t314 = true then (locksteplaw02_RowcodeGoes.l0 k l0 l1 0 0 0 0 0) else (some false)) = some r := H
 have A3 := Aside0.mk A30
 clear A30
 by_cases c4 : t314 = true
 ·
  subst c4
  have H1 : (locksteplaw02_RowcodeGoes.l0 k l0 l1 0 0 0 0 0) = some r := by rw [if_pos rfl] at H; exact H
  clear H
  have H := H1
  clear H1
  have H' := Aside0.mk H
  clear H
  go_enter Tryd.func4, Tryd.ntmps4
  go_wp2_with (first | ((with_reducible refine gate_callee (f := 17) rfl ?_); refine goesL_ (some 13) rfl rfl Tryd.func17 (by kernel_rfl) rfl #[] rfl (by (try simp only [List.map_toArray, List.map_cons, List.map_nil]); first | done | rfl | (simp only [List.length_drop, List.length_take]; rfl)) ?_; (with_reducible refine (locksteplaw02_lives.calls k  true _ ?side1 A3.out).mono ?_); (case side1 => exact Tabs.below HT.out (by repeat (first | (with_reducible first | exact HB.out | apply below_alloc | apply pw_below_drewN | apply below_drew1) | exact HB.out))); rintro e w5 ⟨rfl, hb⟩; refine ⟨_, rfl, ?_⟩; have n0_ := Aside0.mk (below_step (by repeat (first | (with_reducible first | exact HB.out | apply below_alloc | apply pw_below_drewN | apply below_drew1) | exact HB.out)) hb); clear HB; have HB := n0_; clear n0_; (try clear hb); (try clear hb2); (try clear hk); (try clear hi)) | ((with_reducible refine gate_dst (N := 16) rfl ?_); (try (refine gate_guard (by rfl) ?_; dsimp only)); refine box_event ?hg (N := 16) ?hd (cs := #[.int .u64 0, .int .i64 0]) (t := 26) ?hr ?_; (case hd => rfl); (case hg => rfl); (case hr => first | (go_simp; done) | (go_simp; rfl)); intro gb315 hg w6 hbox hb; have n0_ := Aside0.mk (below_step (by repeat (first | (with_reducible first | exact HB.out | apply below_alloc | apply pw_below_drewN | apply below_drew1) | exact HB.out)) hb); have n1_ := Aside0.mk (hbox); have n2_ := Aside0.mk ((by rw [hg]; exact (below_size (by repeat (first | (with_reducible first | exact HB.out | apply below_alloc | apply pw_below_drewN | apply below_drew1) | exact HB.out))) : w.heap.size ≤ gb315)); have n3_ := Aside0.mk ((by rw [hg]; exact (below_size (by repeat (first | (with_reducible first | exact HB.out | apply below_alloc | apply pw_below_drewN | apply below_drew1) | exact HB.out))) : w.heap.size ≤ gb315)); clear HB; have HB := n0_; have BK315 := n1_; have GW315 := n2_; have GE315 := n3_; clear n0_ n1_ n2_ n3_; clear hb hbox hg) | ((with_reducible refine gate_dst (N := 18) rfl ?_); (try (refine gate_guard (by rfl) ?_; dsimp only)); refine box_event ?hg (N := 18) ?hd (cs := #[.int .u64 0, .int .i64 0]) (t := 26) ?hr ?_; (case hd => rfl); (case hg => rfl); (case hr => first | (go_simp; done) | (go_simp; rfl)); intro gb316 hg w7 hbox hb; have n0_ := Aside0.mk (blk_below (g := gb315) (o := .cells #[.int .u64 0, .int .i64 0] 26 (0, 0)) (by (with_reducible repeat (first | refine blk_drewN ?_ _ | refine blk_drew ?_ | refine blk_alloc ?_ _)); exact BK315.out) hb); have n1_ := Aside0.mk (below_step (by repeat (first | (with_reducible first | exact HB.out | apply below_alloc | apply pw_below_drewN | apply below_drew1 | refine below_set ?_ GE315.out) | exact HB.out)) hb); have n2_ := Aside0.mk (hbox); have n3_ := Aside0.mk ((by rw [hg]; exact (below_size (by repeat (first | (with_reducible first | exact HB.out | apply below_alloc | apply pw_below_drewN | apply below_drew1 | refine below_set ?_ GE315.out) | exact HB.out))) : w.heap.size ≤ gb316)); have n4_ := Aside0.mk ((by rw [hg]; exact (below_size (by repeat (first | (with_reducible first | exact HB.out | apply below_alloc | apply pw_below_drewN | apply below_drew1 | refine below_set ?_ GE315.out) | exact HB.out))) : w.heap.size ≤ gb316)); have n5_ := Aside0.mk ((by rw [hg]; exact Nat.ne_of_lt (blk_lt (g := gb315) (o := .cells #[.int .u64 0, .int .i64 0] 26 (0, 0)) (by (with_reducible repeat (first | refine blk_drewN ?_ _ | refine blk_drew ?_ | refine blk_alloc ?_ _)); exact BK315.out)) : gb315 ≠ gb316)); have n6_ := Aside0.mk ((by rw [hg]; exact Nat.ne_of_gt (blk_lt (g := gb315) (o := .cells #[.int .u64 0, .int .i64 0] 26 (0, 0)) (by (with_reducible repeat (first | refine blk_drewN ?_ _ | refine blk_drew ?_ | refine blk_alloc ?_ _)); exact BK315.out)) : gb316 ≠ gb315)); clear BK315; clear HB; have BK315 := n0_; have HB := n1_; have BK316 := n2_; have GW316 := n3_; have GE316 := n4_; have NB315_316 := n5_; have NB316_315 := n6_; clear n0_ n1_ n2_ n3_ n4_ n5_ n6_; clear hb hbox hg))
  go_loopg [7] k (fun kq v7 w' => ∃ (x7_1 : Int) (x316000_1 : Int) (x316001_1 : Int) (x317000_1 : Int) (x317001_1 : Int), v7 = .int .i64 x7_1 ∧ Aside0 (locksteplaw02_RowcodeGoes.l0 kq l0 l1 x7_1 x316000_1 x316001_1 x317000_1 x317001_1 = some r) ∧ Aside0 (kq ≤ k) ∧ Aside0 (w'.heap[gb315]? = some (.cells #[.int .u64 x316000_1, .int .i64 x316001_1] 26 (0, 0))) ∧ Aside0 (w'.heap[gb316]? = some (.cells #[.int .u64 x317000_1, .int .i64 x317001_1] 26 (0, 0))) ∧ Aside0 (Below w.heap.size w w'))
  case atStart => exact ⟨(0), (0), (0), (0), (0), (by first | rfl | (simp; done) | (simp [*]; done)), H', ⟨Nat.le_refl _⟩, ⟨by (with_reducible repeat (first | refine blk_drewN ?_ _ | refine blk_drew ?_ | refine blk_alloc ?_ _)); exact BK315.out⟩, ⟨by (with_reducible repeat (first | refine blk_drewN ?_ _ | refine blk_drew ?_ | refine blk_alloc ?_ _)); exact BK316.out⟩, ⟨by repeat (first | (with_reducible first | exact HB.out | apply below_alloc | apply pw_below_drewN | apply below_drew1 | refine below_set ?_ GE315.out | refine below_set ?_ GE316.out) | exact HB.out)⟩⟩
  case round =>
   clear H'
   (try clear c1); (try clear p2); (try clear c4)
   obtain ⟨x7_1, x316000_1, x316001_1, x317000_1, x317001_1, rfl, HA, HK1, BK315, BK316, HB⟩ := hrel
   cases gk with
   | zero => exact absurd HA.out (by simp [locksteplaw02_RowcodeGoes.l0])
   | succ k1 =>
    have H := HA.out
    clear HA
    simp only [locksteplaw02_RowcodeGoes.l0] at H
    by_cases c8 : x7_1 < (l0.length : Int)
    ·
     rw [if_pos c8] at H
     have c8b0 : decide (x7_1 < (l0.length : Int)) = true := decide_eq_true c8
     clear c8
     by_cases c9 : 0 ≤ x7_1
     ·
      rw [if_pos c9] at H
      have c9b0 : decide (0 ≤ x7_1) = true := decide_eq_true c9
      clear c9
      replace H := Option.bind_eq_some_iff.mp H
      obtain ⟨⟨t318, t319, t320⟩, A100, H⟩ := H
      replace H : (if 0 ≤ (wrap64 ((wrap64 ((l0.length : Int) - 1)) - x7_1)) then (if (wrap64 ((wrap64 ((l0.length : Int) - 1)) - x7_1)) < (l0.length : Int) then ((rowcode_Digest_Add.f k1 x317000_1 x317001_1 (rd_L5 l0 (wrap64 ((wrap64 ((l0.length : Int) - 1)) - x7_1)))).bind fun bt322 => (if t318 = 0 then (if bt322.1 = 0 then (locksteplaw02_RowcodeGoes.l0 k1 l0 l1 (wrap64 (x7_1 + 1)) t319 t320 bt322.2.1 bt322.2.2) else (some true)) else (some true))) else (none)) else (none)) = some r := H
      have A10 := Aside0.mk A100
      clear A100
      obtain ⟨ji11, hji11⟩ : ∃ j_ : Int, (wrap64 ((wrap64 ((l0.length : Int) - 1)) - x7_1)) = j_ := ⟨_, rfl⟩
      replace H : (if 0 ≤ (ji11) then (if (ji11) < (l0.length : Int) then ((rowcode_Digest_Add.f k1 x317000_1 x317001_1 (rd_L5 l0 (ji11))).bind fun bt322 => (if t318 = 0 then (if bt322.1 = 0 then (locksteplaw02_RowcodeGoes.l0 k1 l0 l1 (wrap64 (x7_1 + 1)) t319 t320 bt322.2.1 bt322.2.2) else (some true)) else (some true))) else (none)) else (none)) = some r := by first | (rw [hji11] at H; exact H) | (simp only [hji11] at H ⊢; exact H)
      (try rw [hji11] at A10)
      have hji11w : (IntKind.i64.wrap ((wrap64 ((l0.length : Int) - 1)) - x7_1)) = ji11 := (i64_w _).trans hji11
      by_cases c12 : 0 ≤ (ji11)
      ·
       rw [if_pos c12] at H
       have c12b0 : decide (0 ≤ (ji11)) = true := decide_eq_true c12
       clear c12
       by_cases c13 : (ji11) < (l0.length : Int)
       ·
        rw [if_pos c13] at H
        have c13b0 : decide ((ji11) < (l0.length : Int)) = true := decide_eq_true c13
        clear c13
        replace H := Option.bind_eq_some_iff.mp H
        obtain ⟨⟨t322, t323, t324⟩, A140, H⟩ := H
        replace H : (if t318 = 0 then (if t322 = 0 then (locksteplaw02_RowcodeGoes.l0 k1 l0 l1 (wrap64 (x7_1 + 1)) t319 t320 t323 t324) else (some true)) else (some true)) = some r := H
        have A14 := Aside0.mk A140
        clear A140
        by_cases c15 : t318 = 0
        ·
         rw [if_pos c15] at H
         have c15b0 : (t318 == 0) = true := beq_iff_eq.mpr c15
         have c15b1 : (t318 != 0) = false := bne_eq_false_iff_eq.mpr c15
         clear c15
         by_cases c16 : t322 = 0
         ·
          rw [if_pos c16] at H
          have c16b0 : (t322 == 0) = true := beq_iff_eq.mpr c16
          have c16b1 : (t322 != 0) = false := bne_eq_false_iff_eq.mpr c16
          clear c16
          have H' := Aside0.mk H
          clear H
          have p317 : 0 ≤ (x7_1 : Int) := of_decide_eq_true (by first | (with_reducible assumption) | assumption)
          have q317 : x7_1 < (l0.length : Int) := of_decide_eq_true (by first | (with_reducible assumption) | assumption)
          obtain ⟨ad317, A317_0, c317_0, e317, hx317_0, hl317_0, hi317_0⟩ := at_L5 HR0.out x7_1 p317 q317
          cases e317
          replace hx317_0 := (HB.out.cell (World.block_lt_of_cell? w _ hx317_0)).trans hx317_0
          have HR317_0 := Aside0.mk hi317_0
          have HC317_0 := Aside0.mk hl317_0
          clear hi317_0 hl317_0
          replace p317 := eq_true p317
          replace q317 := eq_true q317
          go_wp2_with (first | ((with_reducible refine gate_callee (f := 14) rfl ?_); refine goesL_ (some 30) rfl rfl Tryd.func14 (by kernel_rfl) rfl #[.pointer (some ⟨gb315, 0, none⟩), .slice A317_0 (rd_L5 l0 x7_1).length c317_0] rfl (by (try simp only [List.map_toArray, List.map_cons, List.map_nil]); first | done | rfl | (simp only [List.length_drop, List.length_take]; rfl)) ?_; (with_reducible refine (rowcode_Digest_Add.calls k1 gb315 x316000_1 x316001_1 _ _ (rd_L5 l0 x7_1) t318 t319 t320 w _ ?side1 ?side2 ?side3 ?side4 ?side5 A10.out).mono ?_); (case side1 => exact HT.out); (case side2 => repeat (first | (with_reducible first | exact (Aside0.mk (show IsS26 w _ gb315 x316000_1 x316001_1 from And.intro BK315.out GE315.out)).out | apply IsS26.alloc | apply IsS26.drewN | apply IsS26.drew | apply IsS26.set_0 | apply IsS26.set_1 | refine IsS26.far ?_ NB315_316.out _) | exact (Aside0.mk (show IsS26 w _ gb315 x316000_1 x316001_1 from And.intro BK315.out GE315.out)).out)); (case side3 => repeat (first | (with_reducible first | exact HB.out | apply below_alloc | apply pw_below_drewN | apply below_drew1 | refine below_set ?_ (IsS26.ge (Aside0.mk (show IsS26 w _ gb315 x316000_1 x316001_1 from And.intro BK315.out GE315.out)).out) | refine below_set ?_ GE316.out) | exact HB.out)); (case side4 => exact Kd.C_foot_came k42_heap HR317_0.out (by repeat (first | (with_reducible first | exact HB.out | apply below_alloc | apply pw_below_drewN | apply below_drew1 | refine below_set ?_ (IsS26.ge (Aside0.mk (show IsS26 w _ gb315 x316000_1 x316001_1 from And.intro BK315.out GE315.out)).out) | refine below_set ?_ GE316.out) | exact HB.out)) (IsS26.ge (Aside0.mk (show IsS26 w _ gb315 x316000_1 x316001_1 from And.intro BK315.out GE315.out)).out)); (case side5 => exact HC317_0.out); rintro e w17 ⟨rfl, hi, hb, hk⟩; refine ⟨_, rfl, ?_⟩; have n0_ := Aside0.mk (KeepBut.blk hk (g' := gb316) (o := .cells #[.int .u64 x317000_1, .int .i64 x317001_1] 26 (0, 0)) (by (with_reducible repeat (first | refine blk_drewN ?_ _ | refine blk_drew ?_ | refine blk_alloc ?_ _)); exact BK316.out) NB316_315.out (by simp)); have n1_ := Aside0.mk (hb); have n2_ := Aside0.mk (hi.1); clear BK316; clear HB; clear BK315; have BK316 := n0_; have HB := n1_; have BK315 := n2_; clear n0_ n1_ n2_; (try clear hb); (try clear hb2); (try clear hk); (try clear hi); have p321 : 0 ≤ ((ji11) : Int) := of_decide_eq_true (by first | (with_reducible assumption) | assumption); have q321 : (ji11) < (l0.length : Int) := of_decide_eq_true (by first | (with_reducible assumption) | assumption); obtain ⟨ad321, A321_0, c321_0, e321, hx321_0, hl321_0, hi321_0⟩ := at_L5 HR0.out (ji11) p321 q321; obtain rfl : ad317 = ad321 := (by injection e321); replace hx321_0 := (HB.out.cell (World.block_lt_of_cell? w _ hx321_0)).trans hx321_0; have HR321_0 := Aside0.mk hi321_0; have HC321_0 := Aside0.mk hl321_0; clear hi321_0 hl321_0; replace p321 := eq_true p321; replace q321 := eq_true q321) | ((with_reducible refine gate_callee (f := 14) rfl ?_); refine goesL_ (some 40) rfl rfl Tryd.func14 (by kernel_rfl) rfl #[.pointer (some ⟨gb316, 0, none⟩), .slice A321_0 (rd_L5 l0 (ji11)).length c321_0] rfl (by (try simp only [List.map_toArray, List.map_cons, List.map_nil]); first | done | (simp only [hji11]; rfl) | rfl | (simp only [List.length_drop, List.length_take]; rfl)) ?_; (with_reducible refine (rowcode_Digest_Add.calls k1 gb316 x317000_1 x317001_1 _ _ (rd_L5 l0 (ji11)) t322 t323 t324 w _ ?side1 ?side2 ?side3 ?side4 ?side5 A14.out).mono ?_); (case side1 => exact HT.out); (case side2 => repeat (first | (with_reducible first | exact (Aside0.mk (show IsS26 w _ gb316 x317000_1 x317001_1 from And.intro BK316.out GE316.out)).out | apply IsS26.alloc | apply IsS26.drewN | apply IsS26.drew | apply IsS26.set_0 | apply IsS26.set_1 | refine IsS26.far ?_ NB316_315.out _) | exact (Aside0.mk (show IsS26 w _ gb316 x317000_1 x317001_1 from And.intro BK316.out GE316.out)).out)); (case side3 => repeat (first | (with_reducible first | exact HB.out | apply below_alloc | apply pw_below_drewN | apply below_drew1 | refine below_set ?_ (IsS26.ge (Aside0.mk (show IsS26 w _ gb316 x317000_1 x317001_1 from And.intro BK316.out GE316.out)).out) | refine below_set ?_ GE315.out) | exact HB.out)); (case side4 => exact Kd.C_foot_came k42_heap HR321_0.out (by repeat (first | (with_reducible first | exact HB.out | apply below_alloc | apply pw_below_drewN | apply below_drew1 | refine below_set ?_ (IsS26.ge (Aside0.mk (show IsS26 w _ gb316 x317000_1 x317001_1 from And.intro BK316.out GE316.out)).out) | refine below_set ?_ GE315.out) | exact HB.out)) (IsS26.ge (Aside0.mk (show IsS26 w _ gb316 x317000_1 x317001_1 from And.intro BK316.out GE316.out)).out)); (case side5 => exact HC321_0.out); rintro e w18 ⟨rfl, hi, hb, hk⟩; refine ⟨_, rfl, ?_⟩; have n0_ := Aside0.mk (KeepBut.blk hk (g' := gb315) (o := .cells #[.int .u64 t319, .int .i64 t320] 26 (0, 0)) (by (with_reducible repeat (first | refine blk_drewN ?_ _ | refine blk_drew ?_ | refine blk_alloc ?_ _)); exact BK315.out) NB315_316.out (by simp)); have n1_ := Aside0.mk (hb); have n2_ := Aside0.mk (hi.1); clear BK315; clear HB; clear BK316; have BK315 := n0_; have HB := n1_; have BK316 := n2_; clear n0_ n1_ n2_; (try clear hb); (try clear hb2); (try clear hk); (try clear hi)))
          go_roundg k1
          case measure => have := HK1.out; omega
          case rel => exact ⟨(wrap64 (x7_1 + 1)), (t319), (t320), (t323), (t324), (by first | rfl | (simp; done) | (simp [*]; done)), H', ⟨by have := HK1.out; omega⟩, ⟨by (with_reducible repeat (first | refine blk_drewN ?_ _ | refine blk_drew ?_ | refine blk_alloc ?_ _)); exact BK315.out⟩, ⟨by (with_reducible repeat (first | refine blk_drewN ?_ _ | refine blk_drew ?_ | refine blk_alloc ?_ _)); exact BK316.out⟩, ⟨by repeat (first | (with_reducible first | exact HB.out | apply below_alloc | apply pw_below_drewN | apply below_drew1 | refine below_set ?_ GE315.out | refine below_set ?_ GE316.out) | exact HB.out)⟩⟩
         ·
          rw [if_neg c16] at H
          have c16b0 : (t322 == 0) = false := beq_eq_false_iff_ne.mpr c16
          have c16b1 : (t322 != 0) = true := bne_iff_ne.mpr c16
          obtain rfl := Option.some.inj H
          have p317 : 0 ≤ (x7_1 : Int) := of_decide_eq_true (by first | (with_reducible assumption) | assumption)
          have q317 : x7_1 < (l0.length : Int) := of_decide_eq_true (by first | (with_reducible assumption) | assumption)
          obtain ⟨ad317, A317_0, c317_0, e317, hx317_0, hl317_0, hi317_0⟩ := at_L5 HR0.out x7_1 p317 q317
          cases e317
          replace hx317_0 := (HB.out.cell (World.block_lt_of_cell? w _ hx317_0)).trans hx317_0
          have HR317_0 := Aside0.mk hi317_0
          have HC317_0 := Aside0.mk hl317_0
          clear hi317_0 hl317_0
          replace p317 := eq_true p317
          replace q317 := eq_true q317
          go_wp2_with (first | ((with_reducible refine gate_callee (f := 14) rfl ?_); refine goesL_ (some 30) rfl rfl Tryd.func14 (by kernel_rfl) rfl #[.pointer (some ⟨gb315, 0, none⟩), .slice A317_0 (rd_L5 l0 x7_1).length c317_0] rfl (by (try simp only [List.map_toArray, List.map_cons, List.map_nil]); first | done | rfl | (simp only [List.length_drop, List.length_take]; rfl)) ?_; (with_reducible refine (rowcode_Digest_Add.calls k1 gb315 x316000_1 x316001_1 _ _ (rd_L5 l0 x7_1) t318 t319 t320 w _ ?side1 ?side2 ?side3 ?side4 ?side5 A10.out).mono ?_); (case side1 => exact HT.out); (case side2 => repeat (first | (with_reducible first | exact (Aside0.mk (show IsS26 w _ gb315 x316000_1 x316001_1 from And.intro BK315.out GE315.out)).out | apply IsS26.alloc | apply IsS26.drewN | apply IsS26.drew | apply IsS26.set_0 | apply IsS26.set_1 | refine IsS26.far ?_ NB315_316.out _) | exact (Aside0.mk (show IsS26 w _ gb315 x316000_1 x316001_1 from And.intro BK315.out GE315.out)).out)); (case side3 => repeat (first | (with_reducible first | exact HB.out | apply below_alloc | apply pw_below_drewN | apply below_drew1 | refine below_set ?_ (IsS26.ge (Aside0.mk (show IsS26 w _ gb315 x316000_1 x316001_1 from And.intro BK315.out GE315.out)).out) | refine below_set ?_ GE316.out) | exact HB.out)); (case side4 => exact Kd.C_foot_came k42_heap HR317_0.out (by repeat (first | (with_reducible first | exact HB.out | apply below_alloc | apply pw_below_drewN | apply below_drew1 | refine below_set ?_ (IsS26.ge (Aside0.mk (show IsS26 w _ gb315 x316000_1 x316001_1 from And.intro BK315.out GE315.out)).out) | refine below_set ?_ GE316.out) | exact HB.out)) (IsS26.ge (Aside0.mk (show IsS26 w _ gb315 x316000_1 x316001_1 from And.intro BK315.out GE315.out)).out)); (case side5 => exact HC317_0.out); rintro e w19 ⟨rfl, hi, hb, hk⟩; refine ⟨_, rfl, ?_⟩; have n0_ := Aside0.mk (KeepBut.blk hk (g' := gb316) (o := .cells #[.int .u64 x317000_1, .int .i64 x317001_1] 26 (0, 0)) (by (with_reducible repeat (first | refine blk_drewN ?_ _ | refine blk_drew ?_ | refine blk_alloc ?_ _)); exact BK316.out) NB316_315.out (by simp)); have n1_ := Aside0.mk (hb); have n2_ := Aside0.mk (hi.1); clear BK316; clear HB; clear BK315; have BK316 := n0_; have HB := n1_; have BK315 := n2_; clear n0_ n1_ n2_; (try clear hb); (try clear hb2); (try clear hk); (try clear hi); have p321 : 0 ≤ ((ji11) : Int) := of_decide_eq_true (by first | (with_reducible assumption) | assumption); have q321 : (ji11) < (l0.length : Int) := of_decide_eq_true (by first | (with_reducible assumption) | assumption); obtain ⟨ad321, A321_0, c321_0, e321, hx321_0, hl321_0, hi321_0⟩ := at_L5 HR0.out (ji11) p321 q321; obtain rfl : ad317 = ad321 := (by injection e321); replace hx321_0 := (HB.out.cell (World.block_lt_of_cell? w _ hx321_0)).trans hx321_0; have HR321_0 := Aside0.mk hi321_0; have HC321_0 := Aside0.mk hl321_0; clear hi321_0 hl321_0; replace p321 := eq_true p321; replace q321 := eq_true q321) | ((with_reducible refine gate_callee (f := 14) rfl ?_); refine goesL_ (some 40) rfl rfl Tryd.func14 (by kernel_rfl) rfl #[.pointer (some ⟨gb316, 0, none⟩), .slice A321_0 (rd_L5 l0 (ji11)).length c321_0] rfl (by (try simp only [List.map_toArray, List.map_cons, List.map_nil]); first | done | (simp only [hji11]; rfl) | rfl | (simp only [List.length_drop, List.length_take]; rfl)) ?_; (with_reducible refine (rowcode_Digest_Add.calls k1 gb316 x317000_1 x317001_1 _ _ (rd_L5 l0 (ji11)) t322 t323 t324 w _ ?side1 ?side2 ?side3 ?side4 ?side5 A14.out).mono ?_); (case side1 => exact HT.out); (case side2 => repeat (first | (with_reducible first | exact (Aside0.mk (show IsS26 w _ gb316 x317000_1 x317001_1 from And.intro BK316.out GE316.out)).out | apply IsS26.alloc | apply IsS26.drewN | apply IsS26.drew | apply IsS26.set_0 | apply IsS26.set_1 | refine IsS26.far ?_ NB316_315.out _) | exact (Aside0.mk (show IsS26 w _ gb316 x317000_1 x317001_1 from And.intro BK316.out GE316.out)).out)); (case side3 => repeat (first | (with_reducible first | exact HB.out | apply below_alloc | apply pw_below_drewN | apply below_drew1 | refine below_set ?_ (IsS26.ge (Aside0.mk (show IsS26 w _ gb316 x317000_1 x317001_1 from And.intro BK316.out GE316.out)).out) | refine below_set ?_ GE315.out) | exact HB.out)); (case side4 => exact Kd.C_foot_came k42_heap HR321_0.out (by repeat (first | (with_reducible first | exact HB.out | apply below_alloc | apply pw_below_drewN | apply below_drew1 | refine below_set ?_ (IsS26.ge (Aside0.mk (show IsS26 w _ gb316 x317000_1 x317001_1 from And.intro BK316.out GE316.out)).out) | refine below_set ?_ GE315.out) | exact HB.out)) (IsS26.ge (Aside0.mk (show IsS26 w _ gb316 x317000_1 x317001_1 from And.intro BK316.out GE316.out)).out)); (case side5 => exact HC321_0.out); rintro e w20 ⟨rfl, hi, hb, hk⟩; refine ⟨_, rfl, ?_⟩; have n0_ := Aside0.mk (KeepBut.blk hk (g' := gb315) (o := .cells #[.int .u64 t319, .int .i64 t320] 26 (0, 0)) (by (with_reducible repeat (first | refine blk_drewN ?_ _ | refine blk_drew ?_ | refine blk_alloc ?_ _)); exact BK315.out) NB315_316.out (by simp)); have n1_ := Aside0.mk (hb); have n2_ := Aside0.mk (hi.1); clear BK315; clear HB; clear BK316; have BK315 := n0_; have HB := n1_; have BK316 := n2_; clear n0_ n1_ n2_; (try clear hb); (try clear hb2); (try clear hk); (try clear hi)))
          go_ret
          exact ⟨by first | rfl | (simp [errW_none, errW_some] <;> rfl) | (simp only [← hji11]; first | rfl | (simp [errW_none, errW_some] <;> rfl)) | (simp [*, errW_none, errW_some] <;> rfl), by repeat (first | (with_reducible first | exact HB.out | apply below_alloc | apply pw_below_drewN | apply below_drew1 | refine below_set ?_ GE315.out | refine below_set ?_ GE316.out) | exact HB.out)⟩
        ·
         rw [if_neg c15] at H
         have c15b0 : (t318 == 0) = false := beq_eq_false_iff_ne.mpr c15
         have c15b1 : (t318 != 0) = true := bne_iff_ne.mpr c15
         obtain rfl := Option.some.inj H
         have p317 : 0 ≤ (x7_1 : Int) := of_decide_eq_true (by first | (with_reducible assumption) | assumption)
         have q317 : x7_1 < (l0.length : Int) := of_decide_eq_true (by first | (with_reducible assumption) | assumption)
         obtain ⟨ad317, A317_0, c317_0, e317, hx317_0, hl317_0, hi317_0⟩ := at_L5 HR0.out x7_1 p317 q317
         cases e317
         replace hx317_0 := (HB.out.cell (World.block_lt_of_cell? w _ hx317_0)).trans hx317_0
         have HR317_0 := Aside0.mk hi317_0
         have HC317_0 := Aside0.mk hl317_0
         clear hi317_0 hl317_0
         replace p317 := eq_true p317
         replace q317 := eq_true q317
         go_wp2_with (first | ((with_reducible refine gate_callee (f := 14) rfl ?_); refine goesL_ (some 30) rfl rfl Tryd.func14 (by kernel_rfl) rfl #[.pointer (some ⟨gb315, 0, none⟩), .slice A317_0 (rd_L5 l0 x7_1).length c317_0] rfl (by (try simp only [List.map_toArray, List.map_cons, List.map_nil]); first | done | rfl | (simp only [List.length_drop, List.length_take]; rfl)) ?_; (with_reducible refine (rowcode_Digest_Add.calls k1 gb315 x316000_1 x316001_1 _ _ (rd_L5 l0 x7_1) t318 t319 t320 w _ ?side1 ?side2 ?side3 ?side4 ?side5 A10.out).mono ?_); (case side1 => exact HT.out); (case side2 => repeat (first | (with_reducible first | exact (Aside0.mk (show IsS26 w _ gb315 x316000_1 x316001_1 from And.intro BK315.out GE315.out)).out | apply IsS26.alloc | apply IsS26.drewN | apply IsS26.drew | apply IsS26.set_0 | apply IsS26.set_1 | refine IsS26.far ?_ NB315_316.out _) | exact (Aside0.mk (show IsS26 w _ gb315 x316000_1 x316001_1 from And.intro BK315.out GE315.out)).out)); (case side3 => repeat (first | (with_reducible first | exact HB.out | apply below_alloc | apply pw_below_drewN | apply below_drew1 | refine below_set ?_ (IsS26.ge (Aside0.mk (show IsS26 w _ gb315 x316000_1 x316001_1 from And.intro BK315.out GE315.out)).out) | refine below_set ?_ GE316.out) | exact HB.out)); (case side4 => exact Kd.C_foot_came k42_heap HR317_0.out (by repeat (first | (with_reducible first | exact HB.out | apply below_alloc | apply pw_below_drewN | apply below_drew1 | refine below_set ?_ (IsS26.ge (Aside0.mk (show IsS26 w _ gb315 x316000_1 x316001_1 from And.intro BK315.out GE315.out)).out) | refine below_set ?_ GE316.out) | exact HB.out)) (IsS26.ge (Aside0.mk (show IsS26 w _ gb315 x316000_1 x316001_1 from And.intro BK315.out GE315.out)).out)); (case side5 => exact HC317_0.out); rintro e w21 ⟨rfl, hi, hb, hk⟩; refine ⟨_, rfl, ?_⟩; have n0_ := Aside0.mk (KeepBut.blk hk (g' := gb316) (o := .cells #[.int .u64 x317000_1, .int .i64 x317001_1] 26 (0, 0)) (by (with_reducible repeat (first | refine blk_drewN ?_ _ | refine blk_drew ?_ | refine blk_alloc ?_ _)); exact BK316.out) NB316_315.out (by simp)); have n1_ := Aside0.mk (hb); have n2_ := Aside0.mk (hi.1); clear BK316; clear HB; clear BK315; have BK316 := n0_; have HB := n1_; have BK315 := n2_; clear n0_ n1_ n2_; (try clear hb); (try clear hb2); (try clear hk); (try clear hi); have p321 : 0 ≤ ((ji11) : Int) := of_decide_eq_true (by first | (with_reducible assumption) | assumption); have q321 : (ji11) < (l0.length : Int) := of_decide_eq_true (by first | (with_reducible assumption) | assumption); obtain ⟨ad321, A321_0, c321_0, e321, hx321_0, hl321_0, hi321_0⟩ := at_L5 HR0.out (ji11) p321 q321; obtain rfl : ad317 = ad321 := (by injection e321); replace hx321_0 := (HB.out.cell (World.block_lt_of_cell? w _ hx321_0)).trans hx321_0; have HR321_0 := Aside0.mk hi321_0; have HC321_0 := Aside0.mk hl321_0; clear hi321_0 hl321_0; replace p321 := eq_true p321; replace q321 := eq_true q321) | ((with_reducible refine gate_callee (f := 14) rfl ?_); refine goesL_ (some 40) rfl rfl Tryd.func14 (by kernel_rfl) rfl #[.pointer (some ⟨gb316, 0, none⟩), .slice A321_0 (rd_L5 l0 (ji11)).length c321_0] rfl (by (try simp only [List.map_toArray, List.map_cons, List.map_nil]); first | done | (simp only [hji11]; rfl) | rfl | (simp only [List.length_drop, List.length_take]; rfl)) ?_; (with_reducible refine (rowcode_Digest_Add.calls k1 gb316 x317000_1 x317001_1 _ _ (rd_L5 l0 (ji11)) t322 t323 t324 w _ ?side1 ?side2 ?side3 ?side4 ?side5 A14.out).mono ?_); (case side1 => exact HT.out); (case side2 => repeat (first | (with_reducible first | exact (Aside0.mk (show IsS26 w _ gb316 x317000_1 x317001_1 from And.intro BK316.out GE316.out)).out | apply IsS26.alloc | apply IsS26.drewN | apply IsS26.drew | apply IsS26.set_0 | apply IsS26.set_1 | refine IsS26.far ?_ NB316_315.out _) | exact (Aside0.mk (show IsS26 w _ gb316 x317000_1 x317001_1 from And.intro BK316.out GE316.out)).out)); (case side3 => repeat (first | (with_reducible first | exact HB.out | apply below_alloc | apply pw_below_drewN | apply below_drew1 | refine below_set ?_ (IsS26.ge (Aside0.mk (show IsS26 w _ gb316 x317000_1 x317001_1 from And.intro BK316.out GE316.out)).out) | refine below_set ?_ GE315.out) | exact HB.out)); (case side4 => exact Kd.C_foot_came k42_heap HR321_0.out (by repeat (first | (with_reducible first | exact HB.out | apply below_alloc | apply pw_below_drewN | apply below_drew1 | refine below_set ?_ (IsS26.ge (Aside0.mk (show IsS26 w _ gb316 x317000_1 x317001_1 from And.intro BK316.out GE316.out)).out) | refine below_set ?_ GE315.out) | exact HB.out)) (IsS26.ge (Aside0.mk (show IsS26 w _ gb316 x317000_1 x317001_1 from And.intro BK316.out GE316.out)).out)); (case side5 => exact HC321_0.out); rintro e w22 ⟨rfl, hi, hb, hk⟩; refine ⟨_, rfl, ?_⟩; have n0_ := Aside0.mk (KeepBut.blk hk (g' := gb315) (o := .cells #[.int .u64 t319, .int .i64 t320] 26 (0, 0)) (by (with_reducible repeat (first | refine blk_drewN ?_ _ | refine blk_drew ?_ | refine blk_alloc ?_ _)); exact BK315.out) NB315_316.out (by simp)); have n1_ := Aside0.mk (hb); have n2_ := Aside0.mk (hi.1); clear BK315; clear HB; clear BK316; have BK315 := n0_; have HB := n1_; have BK316 := n2_; clear n0_ n1_ n2_; (try clear hb); (try clear hb2); (try clear hk); (try clear hi)))
         go_ret
         exact ⟨by first | rfl | (simp [errW_none, errW_some] <;> rfl) | (simp only [← hji11]; first | rfl | (simp [errW_none, errW_some] <;> rfl)) | (simp [*, errW_none, errW_some] <;> rfl), by repeat (first | (with_reducible first | exact HB.out | apply below_alloc | apply pw_below_drewN | apply below_drew1 | refine below_set ?_ GE315.out | refine below_set ?_ GE316.out) | exact HB.out)⟩
       ·
        rw [if_neg c13] at H
        exact absurd H (by simp)
      ·
       rw [if_neg c12] at H
       exact absurd H (by simp)
     ·
      rw [if_neg c9] at H
      exact absurd H (by simp)
    ·
     rw [if_neg c8] at H
     have c8b0 : decide (x7_1 < (l0.length : Int)) = false := decide_eq_false c8
     clear c8
     have HC23 := Aside0.mk H
     clear H
     go_upto_region 11 with (fail)
     go_cut [65] (fun v65 wc => ∃ (kq : Nat) (x65_22 : Bool) (x316000_22 : Int) (x316001_22 : Int) (x317000_22 : Int) (x317001_22 : Int), v65 = .bool x65_22 ∧ Aside0 (locksteplaw02_RowcodeGoes.j1 kq l0 l1 x65_22 x316000_22 x316001_22 x317000_22 x317001_22 = some r) ∧ Aside0 (kq ≤ k1) ∧ Aside0 (wc.heap[gb315]? = some (.cells #[.int .u64 x316000_22, .int .i64 x316001_22] 26 (0, 0))) ∧ Aside0 (wc.heap[gb316]? = some (.cells #[.int .u64 x317000_22, .int .i64 x317001_22] 26 (0, 0))) ∧ Aside0 (Below w.heap.size w wc))
     case first =>
      have H := HC23.out
      clear HC23
      replace H := Option.bind_eq_some_iff.mp H
      obtain ⟨⟨t325, t326, t327⟩, A240, H⟩ := H
      replace H : ((rowcode_Digest_Sum.f x317000_1 x317001_1).bind fun bt328 => (if t325 = bt328.1 then ((rowcode_Digest_Len.f t326 t327).bind fun bt331 => (if bt331.1 = (l0.length : Int) then ((rowcode_Digest_Len.f bt328.2.1 bt328.2.2).bind fun bt334 => ((rowcode_Digest_Len.f bt331.2.1 bt331.2.2).bind fun bt337 => (locksteplaw02_RowcodeGoes.j1 k1 l0 l1 (bt334.1 != bt337.1) bt337.2.1 bt337.2.2 bt334.2.1 bt334.2.2))) else (locksteplaw02_RowcodeGoes.j1 k1 l0 l1 true bt331.2.1 bt331.2.2 bt328.2.1 bt328.2.2))) else (locksteplaw02_RowcodeGoes.j1 k1 l0 l1 true t326 t327 bt328.2.1 bt328.2.2))) = some r := H
      have A24 := Aside0.mk A240
      clear A240
      replace H := Option.bind_eq_some_iff.mp H
      obtain ⟨⟨t328, t329, t330⟩, A250, H⟩ := H
      replace H : (if t325 = t328 then ((rowcode_Digest_Len.f t326 t327).bind fun bt331 => (if bt331.1 = (l0.length : Int) then ((rowcode_Digest_Len.f t329 t330).bind fun bt334 => ((rowcode_Digest_Len.f bt331.2.1 bt331.2.2).bind fun bt337 => (locksteplaw02_RowcodeGoes.j1 k1 l0 l1 (bt334.1 != bt337.1) bt337.2.1 bt337.2.2 bt334.2.1 bt334.2.2))) else (locksteplaw02_RowcodeGoes.j1 k1 l0 l1 true bt331.2.1 bt331.2.2 t329 t330))) else (locksteplaw02_RowcodeGoes.j1 k1 l0 l1 true t326 t327 t329 t330)) = some r := H
      have A25 := Aside0.mk A250
      clear A250
      by_cases c26 : t325 = t328
      ·
       rw [if_pos c26] at H
       have c26b0 : (t325 == t328) = true := beq_iff_eq.mpr c26
       have c26b1 : (t325 != t328) = false := bne_eq_false_iff_eq.mpr c26
       clear c26
       (first | rw [c26b0] | (simp only [i64_w, i32_w]; rw [c26b0]) | skip)
       replace H := Option.bind_eq_some_iff.mp H
       obtain ⟨⟨t331, t332, t333⟩, A270, H⟩ := H
       replace H : (if t331 = (l0.length : Int) then ((rowcode_Digest_Len.f t329 t330).bind fun bt334 => ((rowcode_Digest_Len.f t332 t333).bind fun bt337 => (locksteplaw02_RowcodeGoes.j1 k1 l0 l1 (bt334.1 != bt337.1) bt337.2.1 bt337.2.2 bt334.2.1 bt334.2.2))) else (locksteplaw02_RowcodeGoes.j1 k1 l0 l1 true t332 t333 t329 t330)) = some r := H
       have A27 := Aside0.mk A270
       clear A270
       by_cases c28 : t331 = (l0.length : Int)
       ·
        rw [if_pos c28] at H
        have c28b0 : (t331 == (l0.length : Int)) = true := beq_iff_eq.mpr c28
        have c28b1 : (t331 != (l0.length : Int)) = false := bne_eq_false_iff_eq.mpr c28
        clear c28
        replace H := Option.bind_eq_some_iff.mp H
        obtain ⟨⟨t334, t335, t336⟩, A290, H⟩ := H
        replace H : ((rowcode_Digest_Len.f t332 t333).bind fun bt337 => (locksteplaw02_RowcodeGoes.j1 k1 l0 l1 (t334 != bt337.1) bt337.2.1 bt337.2.2 t335 t336)) = some r := H
        have A29 := Aside0.mk A290
        clear A290
        replace H := Option.bind_eq_some_iff.mp H
        obtain ⟨⟨t337, t338, t339⟩, A300, H⟩ := H
        replace H : (locksteplaw02_RowcodeGoes.j1 k1 l0 l1 (t334 != t337) t338 t339 t335 t336) = some r := H
        have A30 := Aside0.mk A300
        clear A300
        have H' := Aside0.mk H
        clear H
        go_wp2_with (first | ((with_reducible refine gate_callee (f := 10) rfl ?_); refine goesL_ (some 48) rfl rfl Tryd.func10 (by kernel_rfl) rfl #[.pointer (some ⟨gb315, 0, none⟩)] rfl (by (try simp only [List.map_toArray, List.map_cons, List.map_nil]); first | done | rfl | (simp only [List.length_drop, List.length_take]; rfl)) ?_; (with_reducible refine (rowcode_Digest_Sum.calls gb315 x316000_1 x316001_1 t325 t326 t327 w _ ?side1 ?side2 A24.out).mono ?_); (case side1 => repeat (first | (with_reducible first | exact (Aside0.mk (show IsS26 w _ gb315 x316000_1 x316001_1 from And.intro BK315.out GE315.out)).out | apply IsS26.alloc | apply IsS26.drewN | apply IsS26.drew | apply IsS26.set_0 | apply IsS26.set_1 | refine IsS26.far ?_ NB315_316.out _) | exact (Aside0.mk (show IsS26 w _ gb315 x316000_1 x316001_1 from And.intro BK315.out GE315.out)).out)); (case side2 => repeat (first | (with_reducible first | exact HB.out | apply below_alloc | apply pw_below_drewN | apply below_drew1 | refine below_set ?_ (IsS26.ge (Aside0.mk (show IsS26 w _ gb315 x316000_1 x316001_1 from And.intro BK315.out GE315.out)).out) | refine below_set ?_ GE316.out) | exact HB.out)); rintro e w31 ⟨rfl, hi, hb, hk⟩; refine ⟨_, rfl, ?_⟩; have n0_ := Aside0.mk (KeepBut.blk hk (g' := gb316) (o := .cells #[.int .u64 x317000_1, .int .i64 x317001_1] 26 (0, 0)) (by (with_reducible repeat (first | refine blk_drewN ?_ _ | refine blk_drew ?_ | refine blk_alloc ?_ _)); exact BK316.out) NB316_315.out (by simp)); have n1_ := Aside0.mk (hb); have n2_ := Aside0.mk (hi.1); clear BK316; clear HB; clear BK315; have BK316 := n0_; have HB := n1_; have BK315 := n2_; clear n0_ n1_ n2_; (try clear hb); (try clear hb2); (try clear hk); (try clear hi)) | ((with_reducible refine gate_callee (f := 10) rfl ?_); refine goesL_ (some 50) rfl rfl Tryd.func10 (by kernel_rfl) rfl #[.pointer (some ⟨gb316, 0, none⟩)] rfl (by (try simp only [List.map_toArray, List.map_cons, List.map_nil]); first | done | rfl | (simp only [List.length_drop, List.length_take]; rfl)) ?_; (with_reducible refine (rowcode_Digest_Sum.calls gb316 x317000_1 x317001_1 t328 t329 t330 w _ ?side1 ?side2 A25.out).mono ?_); (case side1 => repeat (first | (with_reducible first | exact (Aside0.mk (show IsS26 w _ gb316 x317000_1 x317001_1 from And.intro BK316.out GE316.out)).out | apply IsS26.alloc | apply IsS26.drewN | apply IsS26.drew | apply IsS26.set_0 | apply IsS26.set_1 | refine IsS26.far ?_ NB316_315.out _) | exact (Aside0.mk (show IsS26 w _ gb316 x317000_1 x317001_1 from And.intro BK316.out GE316.out)).out)); (case side2 => repeat (first | (with_reducible first | exact HB.out | apply below_alloc | apply pw_below_drewN | apply below_drew1 | refine below_set ?_ (IsS26.ge (Aside0.mk (show IsS26 w _ gb316 x317000_1 x317001_1 from And.intro BK316.out GE316.out)).out) | refine below_set ?_ GE315.out) | exact HB.out)); rintro e w32 ⟨rfl, hi, hb, hk⟩; refine ⟨_, rfl, ?_⟩; have n0_ := Aside0.mk (KeepBut.blk hk (g' := gb315) (o := .cells #[.int .u64 t326, .int .i64 t327] 26 (0, 0)) (by (with_reducible repeat (first | refine blk_drewN ?_ _ | refine blk_drew ?_ | refine blk_alloc ?_ _)); exact BK315.out) NB315_316.out (by simp)); have n1_ := Aside0.mk (hb); have n2_ := Aside0.mk (hi.1); clear BK315; clear HB; clear BK316; have BK315 := n0_; have HB := n1_; have BK316 := n2_; clear n0_ n1_ n2_; (try clear hb); (try clear hb2); (try clear hk); (try clear hi)) | (go_at_call 11; (with_reducible refine (rowcode_Digest_Len.calls gb315 t326 t327 t331 t332 t333 w _ ?side1 ?side2 A27.out).mono ?_); (case side1 => repeat (first | (with_reducible first | exact (Aside0.mk (show IsS26 w _ gb315 t326 t327 from And.intro BK315.out GE315.out)).out | apply IsS26.alloc | apply IsS26.drewN | apply IsS26.drew | apply IsS26.set_0 | apply IsS26.set_1 | refine IsS26.far ?_ NB315_316.out _) | exact (Aside0.mk (show IsS26 w _ gb315 t326 t327 from And.intro BK315.out GE315.out)).out)); (case side2 => repeat (first | (with_reducible first | exact HB.out | apply below_alloc | apply pw_below_drewN | apply below_drew1 | refine below_set ?_ (IsS26.ge (Aside0.mk (show IsS26 w _ gb315 t326 t327 from And.intro BK315.out GE315.out)).out) | refine below_set ?_ GE316.out) | exact HB.out)); rintro e w33 ⟨rfl, hi, hb, hk⟩; have n0_ := Aside0.mk (KeepBut.blk hk (g' := gb316) (o := .cells #[.int .u64 t329, .int .i64 t330] 26 (0, 0)) (by (with_reducible repeat (first | refine blk_drewN ?_ _ | refine blk_drew ?_ | refine blk_alloc ?_ _)); exact BK316.out) NB316_315.out (by simp)); have n1_ := Aside0.mk (hb); have n2_ := Aside0.mk (hi.1); clear BK316; clear HB; clear BK315; have BK316 := n0_; have HB := n1_; have BK315 := n2_; clear n0_ n1_ n2_; (try clear hb); (try clear hb2); (try clear hk); (try clear hi)) | (go_at_call 11; (with_reducible refine (rowcode_Digest_Len.calls gb316 t329 t330 t334 t335 t336 w _ ?side1 ?side2 A29.out).mono ?_); (case side1 => repeat (first | (with_reducible first | exact (Aside0.mk (show IsS26 w _ gb316 t329 t330 from And.intro BK316.out GE316.out)).out | apply IsS26.alloc | apply IsS26.drewN | apply IsS26.drew | apply IsS26.set_0 | apply IsS26.set_1 | refine IsS26.far ?_ NB316_315.out _) | exact (Aside0.mk (show IsS26 w _ gb316 t329 t330 from And.intro BK316.out GE316.out)).out)); (case side2 => repeat (first | (with_reducible first | exact HB.out | apply below_alloc | apply pw_below_drewN | apply below_drew1 | refine below_set ?_ (IsS26.ge (Aside0.mk (show IsS26 w _ gb316 t329 t330 from And.intro BK316.out GE316.out)).out) | refine below_set ?_ GE315.out) | exact HB.out)); rintro e w34 ⟨rfl, hi, hb, hk⟩; have n0_ := Aside0.mk (KeepBut.blk hk (g' := gb315) (o := .cells #[.int .u64 t332, .int .i64 t333] 26 (0, 0)) (by (with_reducible repeat (first | refine blk_drewN ?_ _ | refine blk_drew ?_ | refine blk_alloc ?_ _)); exact BK315.out) NB315_316.out (by simp)); have n1_ := Aside0.mk (hb); have n2_ := Aside0.mk (hi.1); clear BK315; clear HB; clear BK316; have BK315 := n0_; have HB := n1_; have BK316 := n2_; clear n0_ n1_ n2_; (try clear hb); (try clear hb2); (try clear hk); (try clear hi)) | (go_at_call 11; (with_reducible refine (rowcode_Digest_Len.calls gb315 t332 t333 t337 t338 t339 w _ ?side1 ?side2 A30.out).mono ?_); (case side1 => repeat (first | (with_reducible first | exact (Aside0.mk (show IsS26 w _ gb315 t332 t333 from And.intro BK315.out GE315.out)).out | apply IsS26.alloc | apply IsS26.drewN | apply IsS26.drew | apply IsS26.set_0 | apply IsS26.set_1 | refine IsS26.far ?_ NB315_316.out _) | exact (Aside0.mk (show IsS26 w _ gb315 t332 t333 from And.intro BK315.out GE315.out)).out)); (case side2 => repeat (first | (with_reducible first | exact HB.out | apply below_alloc | apply pw_below_drewN | apply below_drew1 | refine below_set ?_ (IsS26.ge (Aside0.mk (show IsS26 w _ gb315 t332 t333 from And.intro BK315.out GE315.out)).out) | refine below_set ?_ GE316.out) | exact HB.out)); rintro e w35 ⟨rfl, hi, hb, hk⟩; have n0_ := Aside0.mk (KeepBut.blk hk (g' := gb316) (o := .cells #[.int .u64 t335, .int .i64 t336] 26 (0, 0)) (by (with_reducible repeat (first | refine blk_drewN ?_ _ | refine blk_drew ?_ | refine blk_alloc ?_ _)); exact BK316.out) NB316_315.out (by simp)); have n1_ := Aside0.mk (hb); have n2_ := Aside0.mk (hi.1); clear BK316; clear HB; clear BK315; have BK316 := n0_; have HB := n1_; have BK315 := n2_; clear n0_ n1_ n2_; (try clear hb); (try clear hb2); (try clear hk); (try clear hi)))
        go_meet
        case rel => exact ⟨_, ((t334 != t337)), (t338), (t339), (t335), (t336), (by first | with_reducible rfl | (simp; done) | (simp [*]; done) | rfl), H', ⟨by have := HK1.out; first | omega | exact Nat.le_refl _⟩, ⟨by (with_reducible repeat (first | refine blk_drewN ?_ _ | refine blk_drew ?_ | refine blk_alloc ?_ _)); exact BK315.out⟩, ⟨by (with_reducible repeat (first | refine blk_drewN ?_ _ | refine blk_drew ?_ | refine blk_alloc ?_ _)); exact BK316.out⟩, ⟨by repeat (first | (with_reducible first | exact HB.out | apply below_alloc | apply pw_below_drewN | apply below_drew1 | refine below_set ?_ GE315.out | refine below_set ?_ GE316.out) | exact HB.out)⟩⟩
       ·
        rw [if_neg c28] at H
        have c28b0 : (t331 == (l0.length : Int)) = false := beq_eq_false_iff_ne.mpr c28
        have c28b1 : (t331 != (l0.length : Int)) = true := bne_iff_ne.mpr c28
        have H' := Aside0.mk H
        clear H
        go_wp2_with (first | ((with_reducible refine gate_callee (f := 10) rfl ?_); refine goesL_ (some 48) rfl rfl Tryd.func10 (by kernel_rfl) rfl #[.pointer (some ⟨gb315, 0, none⟩)] rfl (by (try simp only [List.map_toArray, List.map_cons, List.map_nil]); first | done | rfl | (simp only [List.length_drop, List.length_take]; rfl)) ?_; (with_reducible refine (rowcode_Digest_Sum.calls gb315 x316000_1 x316001_1 t325 t326 t327 w _ ?side1 ?side2 A24.out).mono ?_); (case side1 => repeat (first | (with_reducible first | exact (Aside0.mk (show IsS26 w _ gb315 x316000_1 x316001_1 from And.intro BK315.out GE315.out)).out | apply IsS26.alloc | apply IsS26.drewN | apply IsS26.drew | apply IsS26.set_0 | apply IsS26.set_1 | refine IsS26.far ?_ NB315_316.out _) | exact (Aside0.mk (show IsS26 w _ gb315 x316000_1 x316001_1 from And.intro BK315.out GE315.out)).out)); (case side2 => repeat (first | (with_reducible first | exact HB.out | apply below_alloc | apply pw_below_drewN | apply below_drew1 | refine below_set ?_ (IsS26.ge (Aside0.mk (show IsS26 w _ gb315 x316000_1 x316001_1 from And.intro BK315.out GE315.out)).out) | refine below_set ?_ GE316.out) | exact HB.out)); rintro e w36 ⟨rfl, hi, hb, hk⟩; refine ⟨_, rfl, ?_⟩; have n0_ := Aside0.mk (KeepBut.blk hk (g' := gb316) (o := .cells #[.int .u64 x317000_1, .int .i64 x317001_1] 26 (0, 0)) (by (with_reducible repeat (first | refine blk_drewN ?_ _ | refine blk_drew ?_ | refine blk_alloc ?_ _)); exact BK316.out) NB316_315.out (by simp)); have n1_ := Aside0.mk (hb); have n2_ := Aside0.mk (hi.1); clear BK316; clear HB; clear BK315; have BK316 := n0_; have HB := n1_; have BK315 := n2_; clear n0_ n1_ n2_; (try clear hb); (try clear hb2); (try clear hk); (try clear hi)) | ((with_reducible refine gate_callee (f := 10) rfl ?_); refine goesL_ (some 50) rfl rfl Tryd.func10 (by kernel_rfl) rfl #[.pointer (some ⟨gb316, 0, none⟩)] rfl (by (try simp only [List.map_toArray, List.map_cons, List.map_nil]); first | done | rfl | (simp only [List.length_drop, List.length_take]; rfl)) ?_; (with_reducible refine (rowcode_Digest_Sum.calls gb316 x317000_1 x317001_1 t328 t329 t330 w _ ?side1 ?side2 A25.out).mono ?_); (case side1 => repeat (first | (with_reducible first | exact (Aside0.mk (show IsS26 w _ gb316 x317000_1 x317001_1 from And.intro BK316.out GE316.out)).out | apply IsS26.alloc | apply IsS26.drewN | apply IsS26.drew | apply IsS26.set_0 | apply IsS26.set_1 | refine IsS26.far ?_ NB316_315.out _) | exact (Aside0.mk (show IsS26 w _ gb316 x317000_1 x317001_1 from And.intro BK316.out GE316.out)).out)); (case side2 => repeat (first | (with_reducible first | exact HB.out | apply below_alloc | apply pw_below_drewN | apply below_drew1 | refine below_set ?_ (IsS26.ge (Aside0.mk (show IsS26 w _ gb316 x317000_1 x317001_1 from And.intro BK316.out GE316.out)).out) | refine below_set ?_ GE315.out) | exact HB.out)); rintro e w37 ⟨rfl, hi, hb, hk⟩; refine ⟨_, rfl, ?_⟩; have n0_ := Aside0.mk (KeepBut.blk hk (g' := gb315) (o := .cells #[.int .u64 t326, .int .i64 t327] 26 (0, 0)) (by (with_reducible repeat (first | refine blk_drewN ?_ _ | refine blk_drew ?_ | refine blk_alloc ?_ _)); exact BK315.out) NB315_316.out (by simp)); have n1_ := Aside0.mk (hb); have n2_ := Aside0.mk (hi.1); clear BK315; clear HB; clear BK316; have BK315 := n0_; have HB := n1_; have BK316 := n2_; clear n0_ n1_ n2_; (try clear hb); (try clear hb2); (try clear hk); (try clear hi)) | (go_at_call 11; (with_reducible refine (rowcode_Digest_Len.calls gb315 t326 t327 t331 t332 t333 w _ ?side1 ?side2 A27.out).mono ?_); (case side1 => repeat (first | (with_reducible first | exact (Aside0.mk (show IsS26 w _ gb315 t326 t327 from And.intro BK315.out GE315.out)).out | apply IsS26.alloc | apply IsS26.drewN | apply IsS26.drew | apply IsS26.set_0 | apply IsS26.set_1 | refine IsS26.far ?_ NB315_316.out _) | exact (Aside0.mk (show IsS26 w _ gb315 t326 t327 from And.intro BK315.out GE315.out)).out)); (case side2 => repeat (first | (with_reducible first | exact HB.out | apply below_alloc | apply pw_below_drewN | apply below_drew1 | refine below_set ?_ (IsS26.ge (Aside0.mk (show IsS26 w _ gb315 t326 t327 from And.intro BK315.out GE315.out)).out) | refine below_set ?_ GE316.out) | exact HB.out)); rintro e w38 ⟨rfl, hi, hb, hk⟩; have n0_ := Aside0.mk (KeepBut.blk hk (g' := gb316) (o := .cells #[.int .u64 t329, .int .i64 t330] 26 (0, 0)) (by (with_reducible repeat (first | refine blk_drewN ?_ _ | refine blk_drew ?_ | refine blk_alloc ?_ _)); exact BK316.out) NB316_315.out (by simp)); have n1_ := Aside0.mk (hb); have n2_ := Aside0.mk (hi.1); clear BK316; clear HB; clear BK315; have BK316 := n0_; have HB := n1_; have BK315 := n2_; clear n0_ n1_ n2_; (try clear hb); (try clear hb2); (try clear hk); (try clear hi)))
        go_meet
        case rel => exact ⟨_, (true), (t332), (t333), (t329), (t330), (by first | with_reducible rfl | (simp; done) | (simp [*]; done) | rfl), H', ⟨by have := HK1.out; first | omega | exact Nat.le_refl _⟩, ⟨by (with_reducible repeat (first | refine blk_drewN ?_ _ | refine blk_drew ?_ | refine blk_alloc ?_ _)); exact BK315.out⟩, ⟨by (with_reducible repeat (first | refine blk_drewN ?_ _ | refine blk_drew ?_ | refine blk_alloc ?_ _)); exact BK316.out⟩, ⟨by repeat (first | (with_reducible first | exact HB.out | apply below_alloc | apply pw_below_drewN | apply below_drew1 | refine below_set ?_ GE315.out | refine below_set ?_ GE316.out) | exact HB.out)⟩⟩
      ·
       rw [if_neg c26] at H
       have c26b0 : (t325 == t328) = false := beq_eq_false_iff_ne.mpr c26
       have c26b1 : (t325 != t328) = true := bne_iff_ne.mpr c26
       (first | rw [c26b0] | (simp only [i64_w, i32_w]; rw [c26b0]) | skip)
       have H' := Aside0.mk H
       clear H
       go_wp2_with (first | ((with_reducible refine gate_callee (f := 10) rfl ?_); refine goesL_ (some 48) rfl rfl Tryd.func10 (by kernel_rfl) rfl #[.pointer (some ⟨gb315, 0, none⟩)] rfl (by (try simp only [List.map_toArray, List.map_cons, List.map_nil]); first | done | rfl | (simp only [List.length_drop, List.length_take]; rfl)) ?_; (with_reducible refine (rowcode_Digest_Sum.calls gb315 x316000_1 x316001_1 t325 t326 t327 w _ ?side1 ?side2 A24.out).mono ?_); (case side1 => repeat (first | (with_reducible first | exact (Aside0.mk (show IsS26 w _ gb315 x316000_1 x316001_1 from And.intro BK315.out GE315.out)).out | apply IsS26.alloc | apply IsS26.drewN | apply IsS26.drew | apply IsS26.set_0 | apply IsS26.set_1 | refine IsS26.far ?_ NB315_316.out _) | exact (Aside0.mk (show IsS26 w _ gb315 x316000_1 x316001_1 from And.intro BK315.out GE315.out)).out)); (case side2 => repeat (first | (with_reducible first | exact HB.out | apply below_alloc | apply pw_below_drewN | apply below_drew1 | refine below_set ?_ (IsS26.ge (Aside0.mk (show IsS26 w _ gb315 x316000_1 x316001_1 from And.intro BK315.out GE315.out)).out) | refine below_set ?_ GE316.out) | exact HB.out)); rintro e w39 ⟨rfl, hi, hb, hk⟩; refine ⟨_, rfl, ?_⟩; have n0_ := Aside0.mk (KeepBut.blk hk (g' := gb316) (o := .cells #[.int .u64 x317000_1, .int .i64 x317001_1] 26 (0, 0)) (by (with_reducible repeat (first | refine blk_drewN ?_ _ | refine blk_drew ?_ | refine blk_alloc ?_ _)); exact BK316.out) NB316_315.out (by simp)); have n1_ := Aside0.mk (hb); have n2_ := Aside0.mk (hi.1); clear BK316; clear HB; clear BK315; have BK316 := n0_; have HB := n1_; have BK315 := n2_; clear n0_ n1_ n2_; (try clear hb); (try clear hb2); (try clear hk); (try clear hi)) | ((with_reducible refine gate_callee (f := 10) rfl ?_); refine goesL_ (some 50) rfl rfl Tryd.func10 (by kernel_rfl) rfl #[.pointer (some ⟨gb316, 0, none⟩)] rfl (by (try simp only [List.map_toArray, List.map_cons, List.map_nil]); first | done | rfl | (simp only [List.length_drop, List.length_take]; rfl)) ?_; (with_reducible refine (rowcode_Digest_Sum.calls gb316 x317000_1 x317001_1 t328 t329 t330 w _ ?side1 ?side2 A25.out).mono ?_); (case side1 => repeat (first | (with_reducible first | exact (Aside0.mk (show IsS26 w _ gb316 x317000_1 x317001_1 from And.intro BK316.out GE316.out)).out | apply IsS26.alloc | apply IsS26.drewN | apply IsS26.drew | apply IsS26.set_0 | apply IsS26.set_1 | refine IsS26.far ?_ NB316_315.out _) | exact (Aside0.mk (show IsS26 w _ gb316 x317000_1 x317001_1 from And.intro BK316.out GE316.out)).out)); (case side2 => repeat (first | (with_reducible first | exact HB.out | apply below_alloc | apply pw_below_drewN | apply below_drew1 | refine below_set ?_ (IsS26.ge (Aside0.mk (show IsS26 w _ gb316 x317000_1 x317001_1 from And.intro BK316.out GE316.out)).out) | refine below_set ?_ GE315.out) | exact HB.out)); rintro e w40 ⟨rfl, hi, hb, hk⟩; refine ⟨_, rfl, ?_⟩; have n0_ := Aside0.mk (KeepBut.blk hk (g' := gb315) (o := .cells #[.int .u64 t326, .int .i64 t327] 26 (0, 0)) (by (with_reducible repeat (first | refine blk_drewN ?_ _ | refine blk_drew ?_ | refine blk_alloc ?_ _)); exact BK315.out) NB315_316.out (by simp)); have n1_ := Aside0.mk (hb); have n2_ := Aside0.mk (hi.1); clear BK315; clear HB; clear BK316; have BK315 := n0_; have HB := n1_; have BK316 := n2_; clear n0_ n1_ n2_; (try clear hb); (try clear hb2); (try clear hk); (try clear hi)))
       go_meet
       case rel => exact ⟨_, (true), (t326), (t327), (t329), (t330), (by first | with_reducible rfl | (simp; done) | (simp [*]; done) | rfl), H', ⟨by have := HK1.out; first | omega | exact Nat.le_refl _⟩, ⟨by (with_reducible repeat (first | refine blk_drewN ?_ _ | refine blk_drew ?_ | refine blk_alloc ?_ _)); exact BK315.out⟩, ⟨by (with_reducible repeat (first | refine blk_drewN ?_ _ | refine blk_drew ?_ | refine blk_alloc ?_ _)); exact BK316.out⟩, ⟨by repeat (first | (with_reducible first | exact HB.out | apply below_alloc | apply pw_below_drewN | apply below_drew1 | refine below_set ?_ GE315.out | refine below_set ?_ GE316.out) | exact HB.out)⟩⟩
     case rest =>
      clear HC23
      (try clear c1); (try clear c2); (try clear p2); (try clear c3); (try clear p3); (try clear q3); (try clear hx3); (try clear c4); (try clear p6); (try clear c8); (try clear c8b0); (try clear c9); (try clear c9b0); (try clear c10); (try clear c12); (try clear c12b0); (try clear c13); (try clear c13b0); (try clear c14); (try clear c15); (try clear c15b0); (try clear c15b1); (try clear c16); (try clear c16b0)
      (try clear c16b1); (try clear c17); (try clear c26); (try clear c26b0); (try clear c26b1); (try clear c28); (try clear c28b0); (try clear c28b1); (try clear c31); (try clear p31); (try clear q31); (try clear hx31); (try clear c32); (try clear p32); (try clear q32); (try clear hx32); (try clear hx317_0); (try clear hx321_0); (try clear p2); (try clear p317); (try clear p321); (try clear q317); (try clear q321)
      obtain ⟨kq, x65_22, x316000_22, x316001_22, x317000_22, x317001_22, rfl, HA, HJ22, BK315, BK316, HB⟩ := hcut
      cases kq with
      | zero => exact absurd HA.out (by simp [locksteplaw02_RowcodeGoes.j1])
      | succ kj22 =>
       have H := HA.out
       clear HA
       simp only [locksteplaw02_RowcodeGoes.j1] at H
       by_cases c41 : x65_22 = true
       ·
        subst c41
        have H1 : (some false) = some r := by rw [if_pos rfl] at H; exact H
        clear H
        have H := H1
        clear H1
        exact absurd (Option.some.inj H) (by rw [HR.out]; simp)
       ·
        replace c41 := Bool.eq_false_iff.mpr c41
        subst c41
        have H1 : ((rowcode_Digest_Drop.f kj22 x317000_22 x317001_22 l1).bind fun bt340 => ((rowcode_Digest_Add.f kj22 bt340.2.1 bt340.2.2 l1).bind fun bt343 => (if bt340.1 = bt343.1 then ((rowcode_Digest_Sum.f x316000_22 x316001_22).bind fun bt346 => ((rowcode_Digest_Sum.f bt343.2.1 bt343.2.2).bind fun bt349 => (if bt346.1 = bt349.1 then ((rowcode_Digest_Len.f bt346.2.1 bt346.2.2).bind fun bt352 => ((rowcode_Digest_Len.f bt349.2.1 bt349.2.2).bind fun bt355 => (locksteplaw02_RowcodeGoes.j2 kj22 l0 (bt352.1 != bt355.1) bt352.2.1 bt352.2.2))) else (locksteplaw02_RowcodeGoes.j2 kj22 l0 true bt346.2.1 bt346.2.2)))) else (locksteplaw02_RowcodeGoes.j2 kj22 l0 true x316000_22 x316001_22)))) = some r := by rw [if_neg (show ¬ (false = true) by decide)] at H; exact H
        clear H
        have H := H1
        clear H1
        replace H := Option.bind_eq_some_iff.mp H
        obtain ⟨⟨t340, t341, t342⟩, A420, H⟩ := H
        replace H : ((rowcode_Digest_Add.f kj22 t341 t342 l1).bind fun bt343 => (if t340 = bt343.1 then ((rowcode_Digest_Sum.f x316000_22 x316001_22).bind fun bt346 => ((rowcode_Digest_Sum.f bt343.2.1 bt343.2.2).bind fun bt349 => (if bt346.1 = bt349.1 then ((rowcode_Digest_Len.f bt346.2.1 bt346.2.2).bind fun bt352 => ((rowcode_Digest_Len.f bt349.2.1 bt349.2.2).bind fun bt355 => (locksteplaw02_RowcodeGoes.j2 kj22 l0 (bt352.1 != bt355.1) bt352.2.1 bt352.2.2))) else (locksteplaw02_RowcodeGoes.j2 kj22 l0 true bt346.2.1 bt346.2.2)))) else (locksteplaw02_RowcodeGoes.j2 kj22 l0 true x316000_22 x316001_22))) = some r := H
        have A42 := Aside0.mk A420
        clear A420
        replace H := Option.bind_eq_some_iff.mp H
        obtain ⟨⟨t343, t344, t345⟩, A430, H⟩ := H
        replace H : (if t340 = t343 then ((rowcode_Digest_Sum.f x316000_22 x316001_22).bind fun bt346 => ((rowcode_Digest_Sum.f t344 t345).bind fun bt349 => (if bt346.1 = bt349.1 then ((rowcode_Digest_Len.f bt346.2.1 bt346.2.2).bind fun bt352 => ((rowcode_Digest_Len.f bt349.2.1 bt349.2.2).bind fun bt355 => (locksteplaw02_RowcodeGoes.j2 kj22 l0 (bt352.1 != bt355.1) bt352.2.1 bt352.2.2))) else (locksteplaw02_RowcodeGoes.j2 kj22 l0 true bt346.2.1 bt346.2.2)))) else (locksteplaw02_RowcodeGoes.j2 kj22 l0 true x316000_22 x316001_22)) = some r := H
        have A43 := Aside0.mk A430
        clear A430
        have HC44 := Aside0.mk H
        clear H
        go_upto_region 15 with (first | ((with_reducible refine gate_callee (f := 13) rfl ?_); refine goesL_ (some 68) rfl rfl Tryd.func13 (by kernel_rfl) rfl #[.pointer (some ⟨gb316, 0, none⟩), .slice A1 l1.length c1] rfl (by (try simp only [List.map_toArray, List.map_cons, List.map_nil]); first | done | rfl | (simp only [List.length_drop, List.length_take]; rfl)) ?_; (with_reducible refine (rowcode_Digest_Drop.calls kj22 gb316 x317000_22 x317001_22 _ _ l1 t340 t341 t342 w _ ?side1 ?side2 ?side3 ?side4 ?side5 A42.out).mono ?_); (case side1 => exact HT.out); (case side2 => repeat (first | (with_reducible first | exact (Aside0.mk (show IsS26 w _ gb316 x317000_22 x317001_22 from And.intro BK316.out GE316.out)).out | apply IsS26.alloc | apply IsS26.drewN | apply IsS26.drew | apply IsS26.set_0 | apply IsS26.set_1 | refine IsS26.far ?_ NB316_315.out _) | exact (Aside0.mk (show IsS26 w _ gb316 x317000_22 x317001_22 from And.intro BK316.out GE316.out)).out)); (case side3 => repeat (first | (with_reducible first | exact HB.out | apply below_alloc | apply pw_below_drewN | apply below_drew1 | refine below_set ?_ (IsS26.ge (Aside0.mk (show IsS26 w _ gb316 x317000_22 x317001_22 from And.intro BK316.out GE316.out)).out) | refine below_set ?_ GE315.out) | exact HB.out)); (case side4 => exact Kd.C_foot_came k42_heap HR1.out (by repeat (first | (with_reducible first | exact HB.out | apply below_alloc | apply pw_below_drewN | apply below_drew1 | refine below_set ?_ (IsS26.ge (Aside0.mk (show IsS26 w _ gb316 x317000_22 x317001_22 from And.intro BK316.out GE316.out)).out) | refine below_set ?_ GE315.out) | exact HB.out)) (IsS26.ge (Aside0.mk (show IsS26 w _ gb316 x317000_22 x317001_22 from And.intro BK316.out GE316.out)).out)); (case side5 => exact HC1.out); rintro e w45 ⟨rfl, hi, hb, hk⟩; refine ⟨_, rfl, ?_⟩; have n0_ := Aside0.mk (KeepBut.blk hk (g' := gb315) (o := .cells #[.int .u64 x316000_22, .int .i64 x316001_22] 26 (0, 0)) (by (with_reducible repeat (first | refine blk_drewN ?_ _ | refine blk_drew ?_ | refine blk_alloc ?_ _)); exact BK315.out) NB315_316.out (by simp)); have n1_ := Aside0.mk (hb); have n2_ := Aside0.mk (hi.1); clear BK315; clear HB; clear BK316; have BK315 := n0_; have HB := n1_; have BK316 := n2_; clear n0_ n1_ n2_; (try clear hb); (try clear hb2); (try clear hk); (try clear hi)) | ((with_reducible refine gate_callee (f := 14) rfl ?_); refine goesL_ (some 71) rfl rfl Tryd.func14 (by kernel_rfl) rfl #[.pointer (some ⟨gb316, 0, none⟩), .slice A1 l1.length c1] rfl (by (try simp only [List.map_toArray, List.map_cons, List.map_nil]); first | done | rfl | (simp only [List.length_drop, List.length_take]; rfl)) ?_; (with_reducible refine (rowcode_Digest_Add.calls kj22 gb316 t341 t342 _ _ l1 t343 t344 t345 w _ ?side1 ?side2 ?side3 ?side4 ?side5 A43.out).mono ?_); (case side1 => exact HT.out); (case side2 => repeat (first | (with_reducible first | exact (Aside0.mk (show IsS26 w _ gb316 t341 t342 from And.intro BK316.out GE316.out)).out | apply IsS26.alloc | apply IsS26.drewN | apply IsS26.drew | apply IsS26.set_0 | apply IsS26.set_1 | refine IsS26.far ?_ NB316_315.out _) | exact (Aside0.mk (show IsS26 w _ gb316 t341 t342 from And.intro BK316.out GE316.out)).out)); (case side3 => repeat (first | (with_reducible first | exact HB.out | apply below_alloc | apply pw_below_drewN | apply below_drew1 | refine below_set ?_ (IsS26.ge (Aside0.mk (show IsS26 w _ gb316 t341 t342 from And.intro BK316.out GE316.out)).out) | refine below_set ?_ GE315.out) | exact HB.out)); (case side4 => exact Kd.C_foot_came k42_heap HR1.out (by repeat (first | (with_reducible first | exact HB.out | apply below_alloc | apply pw_below_drewN | apply below_drew1 | refine below_set ?_ (IsS26.ge (Aside0.mk (show IsS26 w _ gb316 t341 t342 from And.intro BK316.out GE316.out)).out) | refine below_set ?_ GE315.out) | exact HB.out)) (IsS26.ge (Aside0.mk (show IsS26 w _ gb316 t341 t342 from And.intro BK316.out GE316.out)).out)); (case side5 => exact HC1.out); rintro e w46 ⟨rfl, hi, hb, hk⟩; refine ⟨_, rfl, ?_⟩; have n0_ := Aside0.mk (KeepBut.blk hk (g' := gb315) (o := .cells #[.int .u64 x316000_22, .int .i64 x316001_22] 26 (0, 0)) (by (with_reducible repeat (first | refine blk_drewN ?_ _ | refine blk_drew ?_ | refine blk_alloc ?_ _)); exact BK315.out) NB315_316.out (by simp)); have n1_ := Aside0.mk (hb); have n2_ := Aside0.mk (hi.1); clear BK315; clear HB; clear BK316; have BK315 := n0_; have HB := n1_; have BK316 := n2_; clear n0_ n1_ n2_; (try clear hb); (try clear hb2); (try clear hk); (try clear hi)))
        (try simp only [Act.put, List.setIfInBounds_toArray, List.set_cons_zero, List.set_cons_succ])
        go_cut [88] (fun v88 wc => ∃ (kq : Nat) (x88_43 : Bool) (x316000_43 : Int) (x316001_43 : Int) (x317000_43 : Int) (x317001_43 : Int), v88 = .bool x88_43 ∧ Aside0 (locksteplaw02_RowcodeGoes.j2 kq l0 x88_43 x316000_43 x316001_43 = some r) ∧ Aside0 (kq ≤ kj22) ∧ Aside0 (wc.heap[gb315]? = some (.cells #[.int .u64 x316000_43, .int .i64 x316001_43] 26 (0, 0))) ∧ Aside0 (wc.heap[gb316]? = some (.cells #[.int .u64 x317000_43, .int .i64 x317001_43] 26 (0, 0))) ∧ Aside0 (Below w.heap.size w wc))
        case first =>
         have H := HC44.out
         clear HC44
         by_cases c47 : t340 = t343
         ·
          rw [if_pos c47] at H
          have c47b0 : (t340 == t343) = true := beq_iff_eq.mpr c47
          have c47b1 : (t340 != t343) = false := bne_eq_false_iff_eq.mpr c47
          clear c47
          (first | rw [c47b0] | (simp only [i64_w, i32_w]; rw [c47b0]) | skip)
          replace H := Option.bind_eq_some_iff.mp H
          obtain ⟨⟨t346, t347, t348⟩, A480, H⟩ := H
          replace H : ((rowcode_Digest_Sum.f t344 t345).bind fun bt349 => (if t346 = bt349.1 then ((rowcode_Digest_Len.f t347 t348).bind fun bt352 => ((rowcode_Digest_Len.f bt349.2.1 bt349.2.2).bind fun bt355 => (locksteplaw02_RowcodeGoes.j2 kj22 l0 (bt352.1 != bt355.1) bt352.2.1 bt352.2.2))) else (locksteplaw02_RowcodeGoes.j2 kj22 l0 true t347 t348))) = some r := H
          have A48 := Aside0.mk A480
          clear A480
          replace H := Option.bind_eq_some_iff.mp H
          obtain ⟨⟨t349, t350, t351⟩, A490, H⟩ := H
          replace H : (if t346 = t349 then ((rowcode_Digest_Len.f t347 t348).bind fun bt352 => ((rowcode_Digest_Len.f t350 t351).bind fun bt355 => (locksteplaw02_RowcodeGoes.j2 kj22 l0 (bt352.1 != bt355.1) bt352.2.1 bt352.2.2))) else (locksteplaw02_RowcodeGoes.j2 kj22 l0 true t347 t348)) = some r := H
          have A49 := Aside0.mk A490
          clear A490
          by_cases c50 : t346 = t349
          ·
           rw [if_pos c50] at H
           have c50b0 : (t346 == t349) = true := beq_iff_eq.mpr c50
           have c50b1 : (t346 != t349) = false := bne_eq_false_iff_eq.mpr c50
           clear c50
           replace H := Option.bind_eq_some_iff.mp H
           obtain ⟨⟨t352, t353, t354⟩, A510, H⟩ := H
           replace H : ((rowcode_Digest_Len.f t350 t351).bind fun bt355 => (locksteplaw02_RowcodeGoes.j2 kj22 l0 (t352 != bt355.1) t353 t354)) = some r := H
           have A51 := Aside0.mk A510
           clear A510
           replace H := Option.bind_eq_some_iff.mp H
           obtain ⟨⟨t355, t356, t357⟩, A520, H⟩ := H
           replace H : (locksteplaw02_RowcodeGoes.j2 kj22 l0 (t352 != t355) t353 t354) = some r := H
           have A52 := Aside0.mk A520
           clear A520
           have H' := Aside0.mk H
           clear H
           go_wp2_with (first | (go_at_call 10; (with_reducible refine (rowcode_Digest_Sum.calls gb315 x316000_22 x316001_22 t346 t347 t348 w _ ?side1 ?side2 A48.out).mono ?_); (case side1 => repeat (first | (with_reducible first | exact (Aside0.mk (show IsS26 w _ gb315 x316000_22 x316001_22 from And.intro BK315.out GE315.out)).out | apply IsS26.alloc | apply IsS26.drewN | apply IsS26.drew | apply IsS26.set_0 | apply IsS26.set_1 | refine IsS26.far ?_ NB315_316.out _) | exact (Aside0.mk (show IsS26 w _ gb315 x316000_22 x316001_22 from And.intro BK315.out GE315.out)).out)); (case side2 => repeat (first | (with_reducible first | exact HB.out | apply below_alloc | apply pw_below_drewN | apply below_drew1 | refine below_set ?_ (IsS26.ge (Aside0.mk (show IsS26 w _ gb315 x316000_22 x316001_22 from And.intro BK315.out GE315.out)).out) | refine below_set ?_ GE316.out) | exact HB.out)); rintro e w53 ⟨rfl, hi, hb, hk⟩; have n0_ := Aside0.mk (KeepBut.blk hk (g' := gb316) (o := .cells #[.int .u64 t344, .int .i64 t345] 26 (0, 0)) (by (with_reducible repeat (first | refine blk_drewN ?_ _ | refine blk_drew ?_ | refine blk_alloc ?_ _)); exact BK316.out) NB316_315.out (by simp)); have n1_ := Aside0.mk (hb); have n2_ := Aside0.mk (hi.1); clear BK316; clear HB; clear BK315; have BK316 := n0_; have HB := n1_; have BK315 := n2_; clear n0_ n1_ n2_; (try clear hb); (try clear hb2); (try clear hk); (try clear hi)) | (go_at_call 10; (with_reducible refine (rowcode_Digest_Sum.calls gb316 t344 t345 t349 t350 t351 w _ ?side1 ?side2 A49.out).mono ?_); (case side1 => repeat (first | (with_reducible first | exact (Aside0.mk (show IsS26 w _ gb316 t344 t345 from And.intro BK316.out GE316.out)).out | apply IsS26.alloc | apply IsS26.drewN | apply IsS26.drew | apply IsS26.set_0 | apply IsS26.set_1 | refine IsS26.far ?_ NB316_315.out _) | exact (Aside0.mk (show IsS26 w _ gb316 t344 t345 from And.intro BK316.out GE316.out)).out)); (case side2 => repeat (first | (with_reducible first | exact HB.out | apply below_alloc | apply pw_below_drewN | apply below_drew1 | refine below_set ?_ (IsS26.ge (Aside0.mk (show IsS26 w _ gb316 t344 t345 from And.intro BK316.out GE316.out)).out) | refine below_set ?_ GE315.out) | exact HB.out)); rintro e w54 ⟨rfl, hi, hb, hk⟩; have n0_ := Aside0.mk (KeepBut.blk hk (g' := gb315) (o := .cells #[.int .u64 t347, .int .i64 t348] 26 (0, 0)) (by (with_reducible repeat (first | refine blk_drewN ?_ _ | refine blk_drew ?_ | refine blk_alloc ?_ _)); exact BK315.out) NB315_316.out (by simp)); have n1_ := Aside0.mk (hb); have n2_ := Aside0.mk (hi.1); clear BK315; clear HB; clear BK316; have BK315 := n0_; have HB := n1_; have BK316 := n2_; clear n0_ n1_ n2_; (try clear hb); (try clear hb2); (try clear hk); (try clear hi)) | (go_at_call 11; (with_reducible refine (rowcode_Digest_Len.calls gb315 t347 t348 t352 t353 t354 w _ ?side1 ?side2 A51.out).mono ?_); (case side1 => repeat (first | (with_reducible first | exact (Aside0.mk (show IsS26 w _ gb315 t347 t348 from And.intro BK315.out GE315.out)).out | apply IsS26.alloc | apply IsS26.drewN | apply IsS26.drew | apply IsS26.set_0 | apply IsS26.set_1 | refine IsS26.far ?_ NB315_316.out _) | exact (Aside0.mk (show IsS26 w _ gb315 t347 t348 from And.intro BK315.out GE315.out)).out)); (case side2 => repeat (first | (with_reducible first | exact HB.out | apply below_alloc | apply pw_below_drewN | apply below_drew1 | refine below_set ?_ (IsS26.ge (Aside0.mk (show IsS26 w _ gb315 t347 t348 from And.intro BK315.out GE315.out)).out) | refine below_set ?_ GE316.out) | exact HB.out)); rintro e w55 ⟨rfl, hi, hb, hk⟩; have n0_ := Aside0.mk (KeepBut.blk hk (g' := gb316) (o := .cells #[.int .u64 t350, .int .i64 t351] 26 (0, 0)) (by (with_reducible repeat (first | refine blk_drewN ?_ _ | refine blk_drew ?_ | refine blk_alloc ?_ _)); exact BK316.out) NB316_315.out (by simp)); have n1_ := Aside0.mk (hb); have n2_ := Aside0.mk (hi.1); clear BK316; clear HB; clear BK315; have BK316 := n0_; have HB := n1_; have BK315 := n2_; clear n0_ n1_ n2_; (try clear hb); (try clear hb2); (try clear hk); (try clear hi)) | (go_at_call 11; (with_reducible refine (rowcode_Digest_Len.calls gb316 t350 t351 t355 t356 t357 w _ ?side1 ?side2 A52.out).mono ?_); (case side1 => repeat (first | (with_reducible first | exact (Aside0.mk (show IsS26 w _ gb316 t350 t351 from And.intro BK316.out GE316.out)).out | apply IsS26.alloc | apply IsS26.drewN | apply IsS26.drew | apply IsS26.set_0 | apply IsS26.set_1 | refine IsS26.far ?_ NB316_315.out _) | exact (Aside0.mk (show IsS26 w _ gb316 t350 t351 from And.intro BK316.out GE316.out)).out)); (case side2 => repeat (first | (with_reducible first | exact HB.out | apply below_alloc | apply pw_below_drewN | apply below_drew1 | refine below_set ?_ (IsS26.ge (Aside0.mk (show IsS26 w _ gb316 t350 t351 from And.intro BK316.out GE316.out)).out) | refine below_set ?_ GE315.out) | exact HB.out)); rintro e w56 ⟨rfl, hi, hb, hk⟩; have n0_ := Aside0.mk (KeepBut.blk hk (g' := gb315) (o := .cells #[.int .u64 t353, .int .i64 t354] 26 (0, 0)) (by (with_reducible repeat (first | refine blk_drewN ?_ _ | refine blk_drew ?_ | refine blk_alloc ?_ _)); exact BK315.out) NB315_316.out (by simp)); have n1_ := Aside0.mk (hb); have n2_ := Aside0.mk (hi.1); clear BK315; clear HB; clear BK316; have BK315 := n0_; have HB := n1_; have BK316 := n2_; clear n0_ n1_ n2_; (try clear hb); (try clear hb2); (try clear hk); (try clear hi)))
           go_meet
           case rel => exact ⟨_, ((t352 != t355)), (t353), (t354), (t356), (t357), (by first | with_reducible rfl | (simp; done) | (simp [*]; done) | rfl), H', ⟨by have := HK1.out; have := HJ22.out; first | omega | exact Nat.le_refl _⟩, ⟨by (with_reducible repeat (first | refine blk_drewN ?_ _ | refine blk_drew ?_ | refine blk_alloc ?_ _)); exact BK315.out⟩, ⟨by (with_reducible repeat (first | refine blk_drewN ?_ _ | refine blk_drew ?_ | refine blk_alloc ?_ _)); exact BK316.out⟩, ⟨by repeat (first | (with_reducible first | exact HB.out | apply below_alloc | apply pw_below_drewN | apply below_drew1 | refine below_set ?_ GE315.out | refine below_set ?_ GE316.out) | exact HB.out)⟩⟩
          ·
           rw [if_neg c50] at H
           have c50b0 : (t346 == t349) = false := beq_eq_false_iff_ne.mpr c50
           have c50b1 : (t346 != t349) = true := bne_iff_ne.mpr c50
           have H' := Aside0.mk H
           clear H
           go_wp2_with (first | (go_at_call 10; (with_reducible refine (rowcode_Digest_Sum.calls gb315 x316000_22 x316001_22 t346 t347 t348 w _ ?side1 ?side2 A48.out).mono ?_); (case side1 => repeat (first | (with_reducible first | exact (Aside0.mk (show IsS26 w _ gb315 x316000_22 x316001_22 from And.intro BK315.out GE315.out)).out | apply IsS26.alloc | apply IsS26.drewN | apply IsS26.drew | apply IsS26.set_0 | apply IsS26.set_1 | refine IsS26.far ?_ NB315_316.out _) | exact (Aside0.mk (show IsS26 w _ gb315 x316000_22 x316001_22 from And.intro BK315.out GE315.out)).out)); (case side2 => repeat (first | (with_reducible first | exact HB.out | apply below_alloc | apply pw_below_drewN | apply below_drew1 | refine below_set ?_ (IsS26.ge (Aside0.mk (show IsS26 w _ gb315 x316000_22 x316001_22 from And.intro BK315.out GE315.out)).out) | refine below_set ?_ GE316.out) | exact HB.out)); rintro e w57 ⟨rfl, hi, hb, hk⟩; have n0_ := Aside0.mk (KeepBut.blk hk (g' := gb316) (o := .cells #[.int .u64 t344, .int .i64 t345] 26 (0, 0)) (by (with_reducible repeat (first | refine blk_drewN ?_ _ | refine blk_drew ?_ | refine blk_alloc ?_ _)); exact BK316.out) NB316_315.out (by simp)); have n1_ := Aside0.mk (hb); have n2_ := Aside0.mk (hi.1); clear BK316; clear HB; clear BK315; have BK316 := n0_; have HB := n1_; have BK315 := n2_; clear n0_ n1_ n2_; (try clear hb); (try clear hb2); (try clear hk); (try clear hi)) | (go_at_call 10; (with_reducible refine (rowcode_Digest_Sum.calls gb316 t344 t345 t349 t350 t351 w _ ?side1 ?side2 A49.out).mono ?_); (case side1 => repeat (first | (with_reducible first | exact (Aside0.mk (show IsS26 w _ gb316 t344 t345 from And.intro BK316.out GE316.out)).out | apply IsS26.alloc | apply IsS26.drewN | apply IsS26.drew | apply IsS26.set_0 | apply IsS26.set_1 | refine IsS26.far ?_ NB316_315.out _) | exact (Aside0.mk (show IsS26 w _ gb316 t344 t345 from And.intro BK316.out GE316.out)).out)); (case side2 => repeat (first | (with_reducible first | exact HB.out | apply below_alloc | apply pw_below_drewN | apply below_drew1 | refine below_set ?_ (IsS26.ge (Aside0.mk (show IsS26 w _ gb316 t344 t345 from And.intro BK316.out GE316.out)).out) | refine below_set ?_ GE315.out) | exact HB.out)); rintro e w58 ⟨rfl, hi, hb, hk⟩; have n0_ := Aside0.mk (KeepBut.blk hk (g' := gb315) (o := .cells #[.int .u64 t347, .int .i64 t348] 26 (0, 0)) (by (with_reducible repeat (first | refine blk_drewN ?_ _ | refine blk_drew ?_ | refine blk_alloc ?_ _)); exact BK315.out) NB315_316.out (by simp)); have n1_ := Aside0.mk (hb); have n2_ := Aside0.mk (hi.1); clear BK315; clear HB; clear BK316; have BK315 := n0_; have HB := n1_; have BK316 := n2_; clear n0_ n1_ n2_; (try clear hb); (try clear hb2); (try clear hk); (try clear hi)))
           go_meet
           case rel => exact ⟨_, (true), (t347), (t348), (t350), (t351), (by first | with_reducible rfl | (simp; done) | (simp [*]; done) | rfl), H', ⟨by have := HK1.out; have := HJ22.out; first | omega | exact Nat.le_refl _⟩, ⟨by (with_reducible repeat (first | refine blk_drewN ?_ _ | refine blk_drew ?_ | refine blk_alloc ?_ _)); exact BK315.out⟩, ⟨by (with_reducible repeat (first | refine blk_drewN ?_ _ | refine blk_drew ?_ | refine blk_alloc ?_ _)); exact BK316.out⟩, ⟨by repeat (first | (with_reducible first | exact HB.out | apply below_alloc | apply pw_below_drewN | apply below_drew1 | refine below_set ?_ GE315.out | refine below_set ?_ GE316.out) | exact HB.out)⟩⟩
         ·
          rw [if_neg c47] at H
          have c47b0 : (t340 == t343) = false := beq_eq_false_iff_ne.mpr c47
          have c47b1 : (t340 != t343) = true := bne_iff_ne.mpr c47
          (first | rw [c47b0] | (simp only [i64_w, i32_w]; rw [c47b0]) | skip)
          have H' := Aside0.mk H
          clear H
          go_wp2
          go_meet
          case rel => exact ⟨_, (true), (x316000_22), (x316001_22), (t344), (t345), (by first | with_reducible rfl | (simp; done) | (simp [*]; done) | rfl), H', ⟨by have := HK1.out; have := HJ22.out; first | omega | exact Nat.le_refl _⟩, ⟨by (with_reducible repeat (first | refine blk_drewN ?_ _ | refine blk_drew ?_ | refine blk_alloc ?_ _)); exact BK315.out⟩, ⟨by (with_reducible repeat (first | refine blk_drewN ?_ _ | refine blk_drew ?_ | refine blk_alloc ?_ _)); exact BK316.out⟩, ⟨by repeat (first | (with_reducible first | exact HB.out | apply below_alloc | apply pw_below_drewN | apply below_drew1 | refine below_set ?_ GE315.out | refine below_set ?_ GE316.out) | exact HB.out)⟩⟩
        case rest =>
         clear HC44
         (try clear c1); (try clear c2); (try clear p2); (try clear c3); (try clear p3); (try clear q3); (try clear hx3); (try clear c4); (try clear c5); (try clear p6); (try clear c8); (try clear c8b0); (try clear c9); (try clear c9b0); (try clear c10); (try clear c12); (try clear c12b0); (try clear c13); (try clear c13b0); (try clear c14); (try clear c15); (try clear c15b0); (try clear c15b1); (try clear c16)
         (try clear c16b0); (try clear c16b1); (try clear c17); (try clear c26); (try clear c26b0); (try clear c26b1); (try clear c28); (try clear c28b0); (try clear c28b1); (try clear c31); (try clear p31); (try clear q31); (try clear hx31); (try clear c32); (try clear p32); (try clear q32); (try clear hx32); (try clear c41); (try clear c47); (try clear c47b0); (try clear c47b1); (try clear c50); (try clear c50b0)
         (try clear c50b1); (try clear hx317_0); (try clear hx321_0); (try clear p2); (try clear p3); (try clear p31); (try clear p317); (try clear p32); (try clear p321); (try clear p6); (try clear q3); (try clear q31); (try clear q317); (try clear q32); (try clear q321)
         obtain ⟨kq, x88_43, x316000_43, x316001_43, x317000_43, x317001_43, rfl, HA, HJ43, BK315, BK316, HB⟩ := hcut
         cases kq with
         | zero => exact absurd HA.out (by simp [locksteplaw02_RowcodeGoes.j2])
         | succ kj43 =>
          have H := HA.out
          clear HA
          simp only [locksteplaw02_RowcodeGoes.j2] at H
          by_cases c59 : x88_43 = true
          ·
           subst c59
           have H1 : (some false) = some r := by rw [if_pos rfl] at H; exact H
           clear H
           have H := H1
           clear H1
           exact absurd (Option.some.inj H) (by rw [HR.out]; simp)
          ·
           replace c59 := Bool.eq_false_iff.mpr c59
           subst c59
           have H1 : (locksteplaw02_RowcodeGoes.l1 kj43 l0 0 x316000_43 x316001_43) = some r := by rw [if_neg (show ¬ (false = true) by decide)] at H; exact H
           clear H
           have H := H1
           clear H1
           have H' := Aside0.mk H
           clear H
           go_wp2
           go_loopg [12] kj43 (fun kq v12 w' => ∃ (x12_4 : Int) (x316000_4 : Int) (x316001_4 : Int), v12 = .int .i64 x12_4 ∧ Aside0 (locksteplaw02_RowcodeGoes.l1 kq l0 x12_4 x316000_4 x316001_4 = some r) ∧ Aside0 (kq ≤ kj43) ∧ Aside0 (w'.heap[gb315]? = some (.cells #[.int .u64 x316000_4, .int .i64 x316001_4] 26 (0, 0))) ∧ Aside0 (w'.heap[gb316]? = some (.cells #[.int .u64 x317000_43, .int .i64 x317001_43] 26 (0, 0))) ∧ Aside0 (Below w.heap.size w w'))
           case atStart => exact ⟨(0), (x316000_43), (x316001_43), (by first | rfl | (simp; done) | (simp [*]; done)), H', ⟨Nat.le_refl _⟩, ⟨by (with_reducible repeat (first | refine blk_drewN ?_ _ | refine blk_drew ?_ | refine blk_alloc ?_ _)); exact BK315.out⟩, ⟨by (with_reducible repeat (first | refine blk_drewN ?_ _ | refine blk_drew ?_ | refine blk_alloc ?_ _)); exact BK316.out⟩, ⟨by repeat (first | (with_reducible first | exact HB.out | apply below_alloc | apply pw_below_drewN | apply below_drew1 | refine below_set ?_ GE315.out | refine below_set ?_ GE316.out) | exact HB.out)⟩⟩
           case round =>
            clear H'
            (try clear c1); (try clear c2); (try clear p2); (try clear c3); (try clear p3); (try clear q3); (try clear hx3); (try clear c4); (try clear c5); (try clear p6); (try clear c8); (try clear c8b0); (try clear c9); (try clear c9b0); (try clear c10); (try clear c12); (try clear c12b0); (try clear c13); (try clear c13b0); (try clear c14); (try clear c15); (try clear c15b0); (try clear c15b1); (try clear c16)
            (try clear c16b0); (try clear c16b1); (try clear c17); (try clear c26); (try clear c26b0); (try clear c26b1); (try clear c28); (try clear c28b0); (try clear c28b1); (try clear c31); (try clear p31); (try clear q31); (try clear hx31); (try clear c32); (try clear p32); (try clear q32); (try clear hx32); (try clear c41); (try clear c47); (try clear c47b0); (try clear c47b1); (try clear c50); (try clear c50b0)
            (try clear c50b1); (try clear c59); (try clear hx317_0); (try clear hx321_0); (try clear p2); (try clear p3); (try clear p31); (try clear p317); (try clear p32); (try clear p321); (try clear p6); (try clear q3); (try clear q31); (try clear q317); (try clear q32); (try clear q321)
            obtain ⟨x12_4, x316000_4, x316001_4, rfl, HA, HK4, BK315, BK316, HB⟩ := hrel
            cases gk with
            | zero => exact absurd HA.out (by simp [locksteplaw02_RowcodeGoes.l1])
            | succ k4 =>
             have H := HA.out
             clear HA
             simp only [locksteplaw02_RowcodeGoes.l1] at H
             by_cases c60 : x12_4 < (l0.length : Int)
             ·
              rw [if_pos c60] at H
              have c60b0 : decide (x12_4 < (l0.length : Int)) = true := decide_eq_true c60
              clear c60
              by_cases c61 : 0 ≤ x12_4
              ·
               rw [if_pos c61] at H
               have c61b0 : decide (0 ≤ x12_4) = true := decide_eq_true c61
               clear c61
               replace H := Option.bind_eq_some_iff.mp H
               obtain ⟨⟨t359, t360, t361⟩, A620, H⟩ := H
               replace H : (locksteplaw02_RowcodeGoes.l1 k4 l0 (wrap64 (x12_4 + 1)) t360 t361) = some r := H
               have A62 := Aside0.mk A620
               clear A620
               have H' := Aside0.mk H
               clear H
               have p358 : 0 ≤ (x12_4 : Int) := of_decide_eq_true (by first | (with_reducible assumption) | assumption)
               have q358 : x12_4 < (l0.length : Int) := of_decide_eq_true (by first | (with_reducible assumption) | assumption)
               obtain ⟨ad358, A358_0, c358_0, e358, hx358_0, hl358_0, hi358_0⟩ := at_L5 HR0.out x12_4 p358 q358
               cases e358
               replace hx358_0 := (HB.out.cell (World.block_lt_of_cell? w _ hx358_0)).trans hx358_0
               have HR358_0 := Aside0.mk hi358_0
               have HC358_0 := Aside0.mk hl358_0
               clear hi358_0 hl358_0
               replace p358 := eq_true p358
               replace q358 := eq_true q358
               go_wp2_with (first | ((with_reducible refine gate_callee (f := 13) rfl ?_); refine goesL_ (some 100) rfl rfl Tryd.func13 (by kernel_rfl) rfl #[.pointer (some ⟨gb315, 0, none⟩), .slice A358_0 (rd_L5 l0 x12_4).length c358_0] rfl (by (try simp only [List.map_toArray, List.map_cons, List.map_nil]); first | done | rfl | (simp only [List.length_drop, List.length_take]; rfl)) ?_; (with_reducible refine (rowcode_Digest_Drop.calls k4 gb315 x316000_4 x316001_4 _ _ (rd_L5 l0 x12_4) t359 t360 t361 w _ ?side1 ?side2 ?side3 ?side4 ?side5 A62.out).mono ?_); (case side1 => exact HT.out); (case side2 => repeat (first | (with_reducible first | exact (Aside0.mk (show IsS26 w _ gb315 x316000_4 x316001_4 from And.intro BK315.out GE315.out)).out | apply IsS26.alloc | apply IsS26.drewN | apply IsS26.drew | apply IsS26.set_0 | apply IsS26.set_1 | refine IsS26.far ?_ NB315_316.out _) | exact (Aside0.mk (show IsS26 w _ gb315 x316000_4 x316001_4 from And.intro BK315.out GE315.out)).out)); (case side3 => repeat (first | (with_reducible first | exact HB.out | apply below_alloc | apply pw_below_drewN | apply below_drew1 | refine below_set ?_ (IsS26.ge (Aside0.mk (show IsS26 w _ gb315 x316000_4 x316001_4 from And.intro BK315.out GE315.out)).out) | refine below_set ?_ GE316.out) | exact HB.out)); (case side4 => exact Kd.C_foot_came k42_heap HR358_0.out (by repeat (first | (with_reducible first | exact HB.out | apply below_alloc | apply pw_below_drewN | apply below_drew1 | refine below_set ?_ (IsS26.ge (Aside0.mk (show IsS26 w _ gb315 x316000_4 x316001_4 from And.intro BK315.out GE315.out)).out) | refine below_set ?_ GE316.out) | exact HB.out)) (IsS26.ge (Aside0.mk (show IsS26 w _ gb315 x316000_4 x316001_4 from And.intro BK315.out GE315.out)).out)); (case side5 => exact HC358_0.out); rintro e w63 ⟨rfl, hi, hb, hk⟩; refine ⟨_, rfl, ?_⟩; have n0_ := Aside0.mk (KeepBut.blk hk (g' := gb316) (o := .cells #[.int .u64 x317000_43, .int .i64 x317001_43] 26 (0, 0)) (by (with_reducible repeat (first | refine blk_drewN ?_ _ | refine blk_drew ?_ | refine blk_alloc ?_ _)); exact BK316.out) NB316_315.out (by simp)); have n1_ := Aside0.mk (hb); have n2_ := Aside0.mk (hi.1); clear BK316; clear HB; clear BK315; have BK316 := n0_; have HB := n1_; have BK315 := n2_; clear n0_ n1_ n2_; (try clear hb); (try clear hb2); (try clear hk); (try clear hi)))
               go_roundg k4
               case measure => have := HK1.out; have := HJ22.out; have := HJ43.out; have := HK4.out; omega
               case rel => exact ⟨(wrap64 (x12_4 + 1)), (t360), (t361), (by first | rfl | (simp; done) | (simp [*]; done)), H', ⟨by have := HK1.out; have := HJ22.out; have := HJ43.out; have := HK4.out; omega⟩, ⟨by (with_reducible repeat (first | refine blk_drewN ?_ _ | refine blk_drew ?_ | refine blk_alloc ?_ _)); exact BK315.out⟩, ⟨by (with_reducible repeat (first | refine blk_drewN ?_ _ | refine blk_drew ?_ | refine blk_alloc ?_ _)); exact BK316.out⟩, ⟨by repeat (first | (with_reducible first | exact HB.out | apply below_alloc | apply pw_below_drewN | apply below_drew1 | refine below_set ?_ GE315.out | refine below_set ?_ GE316.out) | exact HB.out)⟩⟩
              ·
               rw [if_neg c61] at H
               exact absurd H (by simp)
             ·
              rw [if_neg c60] at H
              have c60b0 : decide (x12_4 < (l0.length : Int)) = false := decide_eq_false c60
              clear c60
              replace H := Option.bind_eq_some_iff.mp H
              obtain ⟨⟨t362, t363, t364⟩, A640, H⟩ := H
              replace H : (if t362 = 0 then ((rowcode_Digest_Len.f t363 t364).bind fun bt365 => (some (bt365.1 == 0))) else (some false)) = some r := H
              have A64 := Aside0.mk A640
              clear A640
              by_cases c65 : t362 = 0
              ·
               rw [if_pos c65] at H
               have c65b0 : (t362 == 0) = true := beq_iff_eq.mpr c65
               have c65b1 : (t362 != 0) = false := bne_eq_false_iff_eq.mpr c65
               clear c65
               replace H := Option.bind_eq_some_iff.mp H
               obtain ⟨⟨t365, t366, t367⟩, A660, H⟩ := H
               replace H : (some (t365 == 0)) = some r := H
               have A66 := Aside0.mk A660
               clear A660
               obtain rfl := Option.some.inj H
               go_wp2_with (first | ((with_reducible refine gate_callee (f := 10) rfl ?_); refine goesL_ (some 102) rfl rfl Tryd.func10 (by kernel_rfl) rfl #[.pointer (some ⟨gb315, 0, none⟩)] rfl (by (try simp only [List.map_toArray, List.map_cons, List.map_nil]); first | done | rfl | (simp only [List.length_drop, List.length_take]; rfl)) ?_; (with_reducible refine (rowcode_Digest_Sum.calls gb315 x316000_4 x316001_4 t362 t363 t364 w _ ?side1 ?side2 A64.out).mono ?_); (case side1 => repeat (first | (with_reducible first | exact (Aside0.mk (show IsS26 w _ gb315 x316000_4 x316001_4 from And.intro BK315.out GE315.out)).out | apply IsS26.alloc | apply IsS26.drewN | apply IsS26.drew | apply IsS26.set_0 | apply IsS26.set_1 | refine IsS26.far ?_ NB315_316.out _) | exact (Aside0.mk (show IsS26 w _ gb315 x316000_4 x316001_4 from And.intro BK315.out GE315.out)).out)); (case side2 => repeat (first | (with_reducible first | exact HB.out | apply below_alloc | apply pw_below_drewN | apply below_drew1 | refine below_set ?_ (IsS26.ge (Aside0.mk (show IsS26 w _ gb315 x316000_4 x316001_4 from And.intro BK315.out GE315.out)).out) | refine below_set ?_ GE316.out) | exact HB.out)); rintro e w67 ⟨rfl, hi, hb, hk⟩; refine ⟨_, rfl, ?_⟩; have n0_ := Aside0.mk (KeepBut.blk hk (g' := gb316) (o := .cells #[.int .u64 x317000_43, .int .i64 x317001_43] 26 (0, 0)) (by (with_reducible repeat (first | refine blk_drewN ?_ _ | refine blk_drew ?_ | refine blk_alloc ?_ _)); exact BK316.out) NB316_315.out (by simp)); have n1_ := Aside0.mk (hb); have n2_ := Aside0.mk (hi.1); clear BK316; clear HB; clear BK315; have BK316 := n0_; have HB := n1_; have BK315 := n2_; clear n0_ n1_ n2_; (try clear hb); (try clear hb2); (try clear hk); (try clear hi)) | (go_at_call 11; (with_reducible refine (rowcode_Digest_Len.calls gb315 t363 t364 t365 t366 t367 w _ ?side1 ?side2 A66.out).mono ?_); (case side1 => repeat (first | (with_reducible first | exact (Aside0.mk (show IsS26 w _ gb315 t363 t364 from And.intro BK315.out GE315.out)).out | apply IsS26.alloc | apply IsS26.drewN | apply IsS26.drew | apply IsS26.set_0 | apply IsS26.set_1 | refine IsS26.far ?_ NB315_316.out _) | exact (Aside0.mk (show IsS26 w _ gb315 t363 t364 from And.intro BK315.out GE315.out)).out)); (case side2 => repeat (first | (with_reducible first | exact HB.out | apply below_alloc | apply pw_below_drewN | apply below_drew1 | refine below_set ?_ (IsS26.ge (Aside0.mk (show IsS26 w _ gb315 t363 t364 from And.intro BK315.out GE315.out)).out) | refine below_set ?_ GE316.out) | exact HB.out)); rintro e w68 ⟨rfl, hi, hb, hk⟩; have n0_ := Aside0.mk (KeepBut.blk hk (g' := gb316) (o := .cells #[.int .u64 x317000_43, .int .i64 x317001_43] 26 (0, 0)) (by (with_reducible repeat (first | refine blk_drewN ?_ _ | refine blk_drew ?_ | refine blk_alloc ?_ _)); exact BK316.out) NB316_315.out (by simp)); have n1_ := Aside0.mk (hb); have n2_ := Aside0.mk (hi.1); clear BK316; clear HB; clear BK315; have BK316 := n0_; have HB := n1_; have BK315 := n2_; clear n0_ n1_ n2_; (try clear hb); (try clear hb2); (try clear hk); (try clear hi)))
               go_ret
               exact ⟨by first | rfl | (simp [errW_none, errW_some] <;> rfl) | (simp [*, errW_none, errW_some] <;> rfl), by repeat (first | (with_reducible first | exact HB.out | apply below_alloc | apply pw_below_drewN | apply below_drew1 | refine below_set ?_ GE315.out | refine below_set ?_ GE316.out) | exact HB.out)⟩
              ·
               rw [if_neg c65] at H
               have c65b0 : (t362 == 0) = false := beq_eq_false_iff_ne.mpr c65
               have c65b1 : (t362 != 0) = true := bne_iff_ne.mpr c65
               exact absurd (Option.some.inj H) (by rw [HR.out]; simp)
 ·
  replace c4 := Bool.eq_false_iff.mpr c4
  subst c4
  have H1 : (some false) = some r := by rw [if_neg (show ¬ (false = true) by decide)] at H; exact H
  clear H
  have H := H1
  clear H1
  exact absurd (Option.some.inj H) (by rw [HR.out]; simp)
end Go.Proofs.YthghcpeedmconaaDoor.X
end
section
namespace Go.Proofs.YthghcpeedmconaaDoor.X
open Go.RowKit Go.Proofs.YthghcpeedmconaaDoorW.PrintWords
set_option linter.unusedVariables false
set_option linter.unusedSimpArgs false
namespace Dig
theorem w1 (i : Nat) (h : i < 9223372036854775807) : wrap64 ((i : Int) + 1) = ((i + 1 : Nat) : Int) := by unfold wrap64; omega
theorem codes_len : ∀ (r : List S42), (∀ v ∈ r, Can v) → (codes r).length ≤ 8195 * r.length + 1
  | [], _ => by simp [codes]
  | v :: r, h => by
    have h1 := code_len (h v List.mem_cons_self)
    have h2 := codes_len r (fun x hx => h x (List.mem_cons_of_mem _ hx))
    rw [codes, List.length_append, List.length_cons]
    omega
theorem rowOut_len (r : List S42) (hn : ∀ v ∈ r, I64 v.f1) : (rowOut r).1.length ≤ 131121 := by
  unfold rowOut
  by_cases h1 : 16 < r.length
  · rw [if_pos h1]; simp
  · rw [if_neg h1]
    by_cases h2 : rowErr r = 0
    · rw [if_pos h2]
      have := codes_len r (rowErr_can r hn h2)
      show (codes r).length ≤ _
      omega
    · rw [if_neg h2]; simp
noncomputable def hs (l : List Int) : Int := (rowcode_hash.f (l.length + 1) l).getD 0
theorem hash_up (l : List Int) {r : Int} (k : Nat) : ∀ d, rowcode_hash.f k l = some r → rowcode_hash.f (k + d) l = some r
  | 0, h => h
  | d + 1, h => rowcode_hash.mono _ _ _ (hash_up l k d h)
theorem hash_at (l : List Int) (hm : l.length ≤ 9223372036854775807) (k : Nat) (hk : l.length + 1 ≤ k) : rowcode_hash.f k l = some (hs l) ∧ lockstepref02_Hash.f k l = some (hs l) := by
  have e : ∀ m, l.length + 1 ≤ m → ∃ r, rowcode_hash.f m l = some r ∧ lockstepref02_Hash.f m l = some r := fun m hk => by
    obtain ⟨r, h1, h2⟩ := hash_eq l hm l.length 0 (by omega) 14695981039346656037 m hk
    refine ⟨r, ?_, h2⟩
    unfold rowcode_hash.f
    rw [show ((0 : Int)) = ((0 : Nat) : Int) from rfl, h1]
  obtain ⟨r0, h0, _⟩ := e (l.length + 1) (Nat.le_refl _)
  have hr : hs l = r0 := by unfold hs; rw [h0]; rfl
  obtain ⟨r1, h1, h2⟩ := e k hk
  have h3 := hash_up l (l.length + 1) (k - (l.length + 1)) h0
  rw [show l.length + 1 + (k - (l.length + 1)) = k by omega, h1] at h3
  injection h3 with h3
  rw [hr, ← h3]
  exact ⟨h1, h2⟩
noncomputable def hr (r : List S42) : Int := hs (rowOut r).1
noncomputable def addO (s n : Int) (r : List S42) : Int × Int × Int := if (rowOut r).2 = 0 then (0, IntKind.u64.wrap (s + hr r), wrap64 (n + 1)) else ((rowOut r).2, s, n)
noncomputable def dropO (s n : Int) (r : List S42) : Int × Int × Int := if (rowOut r).2 = 0 then (0, IntKind.u64.wrap (s - hr r), wrap64 (n - 1)) else ((rowOut r).2, s, n)
theorem add_eq (s n : Int) (r : List S42) (hn : ∀ v ∈ r, I64 v.f1) (k : Nat) (hk : 131130 ≤ k) : rowcode_Digest_Add.f k s n r = some (addO s n r) := by
  have hl := rowOut_len r hn
  unfold rowcode_Digest_Add.f addO hr
  rw [row_eq r hn k (by omega), Option.bind_some]
  by_cases h : (rowOut r).2 = 0
  · rw [if_pos h, if_pos h, (hash_at _ (by omega) k (by omega)).1, Option.bind_some, h]
  · rw [if_neg h, if_neg h]
theorem drop_eq (s n : Int) (r : List S42) (hn : ∀ v ∈ r, I64 v.f1) (k : Nat) (hk : 131130 ≤ k) : rowcode_Digest_Drop.f k s n r = some (dropO s n r) := by
  have hl := rowOut_len r hn
  unfold rowcode_Digest_Drop.f dropO hr
  rw [row_eq r hn k (by omega), Option.bind_some]
  by_cases h : (rowOut r).2 = 0
  · rw [if_pos h, if_pos h, (hash_at _ (by omega) k (by omega)).1, Option.bind_some, h]
  · rw [if_neg h, if_neg h]
end Dig
end Go.Proofs.YthghcpeedmconaaDoor.X
end
section
namespace Go.Proofs.YthghcpeedmconaaDoor.X
open Go.RowKit Go.Proofs.YthghcpeedmconaaDoorW.PrintWords
set_option linter.unusedVariables false
set_option linter.unusedSimpArgs false
namespace Dig
set_option maxRecDepth 100000 in
theorem lives60 : locksteplaw02_lives.f 60 = some true := by decide +kernel
theorem lives_up (d : Nat) : locksteplaw02_lives.f (60 + d) = some true := by
  induction d with
  | zero => exact lives60
  | succ d ih => exact locksteplaw02_lives.mono _ _ ih
def sm : List Int → Int
  | [] => 0
  | x :: l => x + sm l
theorem sm_append (a b : List Int) : sm (a ++ b) = sm a + sm b := by
  induction a with
  | nil => simp [sm]
  | cons x a ih => rw [List.cons_append, sm, sm, ih]; omega
theorem sm_reverse (a : List Int) : sm a.reverse = sm a := by
  induction a with
  | nil => rfl
  | cons x a ih => rw [List.reverse_cons, sm_append, ih, sm, sm, sm]; omega
theorem sm_take {a : List Int} {i : Nat} (hi : i < a.length) : sm (a.take (i + 1)) = sm (a.take i) + a[i] := by
  rw [List.take_succ_eq_append_getElem hi, sm_append, sm, sm]; omega
theorem uu (x y : Int) : IntKind.u64.wrap (IntKind.u64.wrap x + y) = IntKind.u64.wrap (x + y) := by simp only [IntKind.wrap_u64]; omega
theorem uum (x y : Int) : IntKind.u64.wrap (IntKind.u64.wrap x - y) = IntKind.u64.wrap (x - y) := by simp only [IntKind.wrap_u64]; omega
theorem rd5 {l : List (List S42)} {i : Nat} (hi : i < l.length) : rd_L5 l (i : Int) = l[i] := by
  unfold rd_L5
  rw [List.getD_eq_getElem?_getD, Int.toNat_natCast, List.getElem?_eq_getElem hi]
  rfl
theorem add_ok (s n : Int) {r : List S42} (h : (rowOut r).2 = 0) : addO s n r = (0, IntKind.u64.wrap (s + hr r), wrap64 (n + 1)) := by unfold addO; rw [if_pos h]
theorem drop_ok (s n : Int) {r : List S42} (h : (rowOut r).2 = 0) : dropO s n r = (0, IntKind.u64.wrap (s - hr r), wrap64 (n - 1)) := by unfold dropO; rw [if_pos h]
theorem add_no (s n : Int) {r : List S42} (h : ¬ (rowOut r).2 = 0) : addO s n r = ((rowOut r).2, s, n) := by unfold addO; rw [if_neg h]
theorem drop_no (s n : Int) {r : List S42} (h : ¬ (rowOut r).2 = 0) : dropO s n r = ((rowOut r).2, s, n) := by unfold dropO; rw [if_neg h]
section
variable (l : List (List S42)) (more : List S42) (hl : l.length < 9223372036854775807) (ha : ∀ r ∈ l, ∀ v ∈ r, I64 v.f1) (hm : ∀ v ∈ more, I64 v.f1)
include hl ha
theorem goes_l1 (hok : ∀ r ∈ l, (rowOut r).2 = 0) : ∀ (d i : Nat), i + d = l.length → ∀ (k : Nat), d + 131140 ≤ k →
    locksteplaw02_RowcodeGoes.l1 k l (i : Int) (IntKind.u64.wrap (sm (l.map hr) - sm ((l.map hr).take i))) ((d : Nat) : Int) = some true
  | 0, i, h, k, hk => by
    obtain ⟨k, rfl⟩ : ∃ m, k = m + 1 := ⟨k - 1, by omega⟩
    have e : (l.map hr).take i = l.map hr := List.take_of_length_le (by rw [List.length_map]; omega)
    rw [locksteplaw02_RowcodeGoes.l1, if_neg (by omega), e]
    unfold rowcode_Digest_Sum.f rowcode_Digest_Len.f
    rw [Option.bind_some, if_pos (by simp only [IntKind.wrap_u64]; omega), Option.bind_some]
    rfl
  | d + 1, i, h, k, hk => by
    obtain ⟨k, rfl⟩ : ∃ m, k = m + 1 := ⟨k - 1, by omega⟩
    have hi : i < l.length := by omega
    have hmem : l[i] ∈ l := List.getElem_mem hi
    have ht := sm_take (a := l.map hr) (i := i) (by rw [List.length_map]; exact hi)
    rw [List.getElem_map] at ht
    rw [locksteplaw02_RowcodeGoes.l1, if_pos (by omega), if_pos (by omega), rd5 hi, drop_eq _ _ _ (ha _ hmem) k (by omega), Option.bind_some, drop_ok _ _ (hok _ hmem), uum, w1 i (by omega)]
    have := goes_l1 hok d (i + 1) (by omega) k (by omega)
    rw [ht, show sm (l.map hr) - (sm ((l.map hr).take i) + hr l[i]) = sm (l.map hr) - sm ((l.map hr).take i) - hr l[i] by omega] at this
    rw [show wrap64 (((d + 1 : Nat) : Int) - 1) = ((d : Nat) : Int) by unfold wrap64; omega]
    exact this
include hm
theorem goes_j1 (hok : ∀ r ∈ l, (rowOut r).2 = 0) (k : Nat) (hk : l.length + 131150 ≤ k) :
    locksteplaw02_RowcodeGoes.j1 k l more ((l.length : Int) != (l.length : Int)) (IntKind.u64.wrap (sm (l.map hr))) (l.length : Int) (IntKind.u64.wrap (sm (l.map hr))) (l.length : Int) = some true := by
  obtain ⟨k, rfl⟩ : ∃ m, k = m + 2 := ⟨k - 2, by omega⟩
  have hb : ((l.length : Int) != (l.length : Int)) = false := by simp
  have h1 := goes_l1 l hl ha hok l.length 0 (by omega) k (by omega)
  rw [List.take_zero, sm, Int.sub_zero] at h1
  have h2 : locksteplaw02_RowcodeGoes.j2 (k + 1) l ((l.length : Int) != (l.length : Int)) (IntKind.u64.wrap (sm (l.map hr))) (l.length : Int) = some true := by
    rw [hb, locksteplaw02_RowcodeGoes.j2, if_neg (by decide)]
    exact h1
  rw [locksteplaw02_RowcodeGoes.j1, hb, if_neg (by decide), drop_eq _ _ _ hm (k + 1) (by omega), Option.bind_some, add_eq _ _ _ hm (k + 1) (by omega), Option.bind_some]
  by_cases h : (rowOut more).2 = 0
  · have e1 : IntKind.u64.wrap (IntKind.u64.wrap (IntKind.u64.wrap (sm (l.map hr)) - hr more) + hr more) = IntKind.u64.wrap (sm (l.map hr)) := by simp only [IntKind.wrap_u64]; omega
    have e2 : wrap64 (wrap64 ((l.length : Int) - 1) + 1) = (l.length : Int) := by unfold wrap64; omega
    rw [drop_ok _ _ h, add_ok _ _ h, if_pos rfl]
    unfold rowcode_Digest_Sum.f rowcode_Digest_Len.f
    rw [Option.bind_some, Option.bind_some, if_pos e1.symm, Option.bind_some, Option.bind_some, e2]
    exact h2
  · rw [drop_no _ _ h, add_no _ _ h, if_pos rfl]
    unfold rowcode_Digest_Sum.f rowcode_Digest_Len.f
    rw [Option.bind_some, Option.bind_some, if_pos rfl, Option.bind_some, Option.bind_some]
    exact h2
theorem goes_l0 : ∀ (d i : Nat), i + d = l.length → (∀ j (hj : j < l.length), j < i → (rowOut l[j]).2 = 0) → ∀ (k : Nat), d + l.length + 131160 ≤ k →
    locksteplaw02_RowcodeGoes.l0 k l more (i : Int) (IntKind.u64.wrap (sm ((l.map hr).take i))) (i : Int) (IntKind.u64.wrap (sm ((l.map hr).reverse.take i))) (i : Int) = some true
  | 0, i, h, hok, k, hk => by
    obtain ⟨k, rfl⟩ : ∃ m, k = m + 1 := ⟨k - 1, by omega⟩
    have hi : i = l.length := by omega
    subst hi
    have e : (l.map hr).take l.length = l.map hr := List.take_of_length_le (by rw [List.length_map]; omega)
    have e2 : (l.map hr).reverse.take l.length = (l.map hr).reverse := List.take_of_length_le (by rw [List.length_reverse, List.length_map]; omega)
    have hok' : ∀ r ∈ l, (rowOut r).2 = 0 := fun r hr' => by
      obtain ⟨j, hj, rfl⟩ := List.getElem_of_mem hr'
      exact hok j hj hj
    rw [locksteplaw02_RowcodeGoes.l0, if_neg (by omega), e, e2, sm_reverse]
    unfold rowcode_Digest_Sum.f rowcode_Digest_Len.f
    rw [Option.bind_some, Option.bind_some, if_pos rfl, Option.bind_some, if_pos rfl, Option.bind_some, Option.bind_some]
    exact goes_j1 l more hl ha hm hok' k (by omega)
  | d + 1, i, h, hok, k, hk => by
    obtain ⟨k, rfl⟩ : ∃ m, k = m + 1 := ⟨k - 1, by omega⟩
    have hi : i < l.length := by omega
    have hi2 : l.length - 1 - i < l.length := by omega
    have hmem : l[i] ∈ l := List.getElem_mem hi
    have hmem2 : l[l.length - 1 - i] ∈ l := List.getElem_mem hi2
    have hw : wrap64 (wrap64 ((l.length : Int) - 1) - (i : Int)) = ((l.length - 1 - i : Nat) : Int) := by unfold wrap64; omega
    rw [locksteplaw02_RowcodeGoes.l0, if_pos (by omega), if_pos (by omega), rd5 hi, add_eq _ _ _ (ha _ hmem) k (by omega), Option.bind_some, hw, if_pos (by omega), if_pos (by omega), rd5 hi2, add_eq _ _ _ (ha _ hmem2) k (by omega), Option.bind_some]
    by_cases h1 : (rowOut l[i]).2 = 0
    · by_cases h2 : (rowOut l[l.length - 1 - i]).2 = 0
      · have ht := sm_take (a := l.map hr) (i := i) (by rw [List.length_map]; exact hi)
        rw [List.getElem_map] at ht
        have ht2 := sm_take (a := (l.map hr).reverse) (i := i) (by rw [List.length_reverse, List.length_map]; exact hi)
        rw [List.getElem_reverse, List.getElem_map] at ht2
        simp only [List.length_map] at ht2
        rw [add_ok _ _ h1, add_ok _ _ h2, if_pos rfl, if_pos rfl, uu, uu, w1 i (by omega), ← ht, ← ht2]
        exact goes_l0 d (i + 1) (by omega) (fun j hj hji => by
          by_cases e : j = i
          · subst e; exact h1
          · exact hok j hj (by omega)) k (by omega)
      · rw [add_ok _ _ h1, add_no _ _ h2, if_pos rfl, if_neg h2]
    · rw [add_no _ _ h1, if_neg h1]
theorem RowcodeGoes_true : locksteplaw02_RowcodeGoes.f (2 * l.length + 131300) l more = some true := by
  unfold locksteplaw02_RowcodeGoes.f
  rw [show 2 * l.length + 131300 = 60 + (2 * l.length + 131240) by omega, lives_up, Option.bind_some, if_pos rfl]
  have := goes_l0 l more hl ha hm l.length 0 (by omega) (fun j _ hj => absurd hj (Nat.not_lt_zero _)) (60 + (2 * l.length + 131240)) (by omega)
  rw [List.take_zero, List.take_zero, sm] at this
  exact this
end
end Dig
end Go.Proofs.YthghcpeedmconaaDoor.X
end
section
namespace Go.Proofs.YthghcpeedmconaaDoorW.PrintWords
open Go Go.RowKit Go.ChangeShapes Go.WideShapes Go.Deep
set_option linter.unusedVariables false
set_option linter.unusedSimpArgs false
def Opens {α : Type} (P : Program) (d : Kd α) (t : TypeId) (g : α → Prop) : Prop :=
  ∀ {H : Type} (enc : TypeId × Value → H) (W : World) (base : Nat) (spare : Nat → Bool) (held : Bool) (fuel : Nat) (cs : List Value) (x : DataW H × List MemPlace),
    DataW.trod enc P W base spare held fuel t cs = some x → ∃ a, d.K W a cs ∧ g a
def inKind (k : IntKind) (n : Int) : Prop := k.min ≤ n ∧ n ≤ k.max
section
variable {P : Program} {α β : Type}
theorem opens_int {t : TypeId} {k : IntKind} (ht : P.underlying t = some (.int k)) : Opens P (Kd.int k) t (inKind k) := by
  intro H enc W base spare held fuel cs x h
  obtain ⟨n, rfl, _, hw⟩ := DataW.trod_int ht h
  refine ⟨n, rfl, ?_⟩
  simpa [Lit.wf, inKind] using hw
theorem opens_string {t : TypeId} (ht : P.underlying t = some .string) : Opens P Kd.string t (fun s => s.size ≤ 9223372036854775807) := by
  intro H enc W base spare held fuel cs x h
  obtain ⟨n, rfl, _, hw⟩ := DataW.trod_string ht h
  exact ⟨n, rfl, by simpa [maxLen] using hw⟩
theorem Opens.imp {d : Kd α} {t : TypeId} {g g' : α → Prop} (h : Opens P d t g) (hg : ∀ a, g a → g' a) : Opens P d t g' := by
  intro H enc W base spare held fuel cs x hx
  obtain ⟨a, h1, h2⟩ := h enc W base spare held fuel cs x hx
  exact ⟨a, h1, hg a h2⟩
theorem opens_iso {d : Kd α} {t : TypeId} {g : α → Prop} (h : Opens P d t g) (f : β → α) (b : α → β) (hf : ∀ a, f (b a) = a) : Opens P (Kd.iso d f) t (fun x => g (f x)) := by
  intro H enc W base spare held fuel cs x hx
  obtain ⟨a, h1, h2⟩ := h enc W base spare held fuel cs x hx
  exact ⟨b a, by show d.K W (f (b a)) cs; rw [hf]; exact h1, by show g (f (b a)); rw [hf]; exact h2⟩
theorem elems_of {γ : Type} {n : Nat} {p : Nat → γ → Prop} (h : ∀ i, i < n → ∃ a, p i a) : ∃ xs : List γ, xs.length = n ∧ ∀ i a, xs[i]? = some a → p i a := by
  induction n with
  | zero => exact ⟨[], rfl, fun i a h => by simp at h⟩
  | succ n ih =>
    obtain ⟨xs, hl, hx⟩ := ih (fun i hi => h i (by omega))
    obtain ⟨a, ha⟩ := h n (by omega)
    refine ⟨xs ++ [a], by simp [hl], fun i b hb => ?_⟩
    by_cases hi : i < xs.length
    · rw [List.getElem?_append_left hi] at hb
      exact hx i b hb
    · rw [List.getElem?_append_right (by omega)] at hb
      have : i = n := by
        have := (List.getElem?_eq_some_iff.1 hb).1
        simp at this
        omega
      subst this
      rw [hl, Nat.sub_self] at hb
      injection hb with hb
      exact hb ▸ ha
theorem opens_slice {d : Kd α} {t e : TypeId} {g : α → Prop} (ht : P.underlying t = some (.slice e)) (hs : P.cellsOf e = d.sz) (h : Opens P d e g) :
    Opens P (Kd.slice e d) t (fun xs => ∀ x ∈ xs, g x) := by
  intro H enc W base spare held fuel cs x hx
  rcases open_slice ht hx with ⟨rfl, rfl⟩ | ⟨a, len, cap, m, n, D, Pl, rfl, hb, hl, hm, hmm, rfl, hel⟩
  · exact ⟨[], ⟨none, 0, rfl, Nat.le_refl _, ⟨rfl, by simp, fun h => absurd h (by simp)⟩⟩, fun x hx => by simp at hx⟩
  · obtain ⟨xs, hlen, hxs⟩ := elems_of (n := len) (p := fun i y => ∃ cs', W.cells? base (a.add (i * P.cellsOf e)) (P.cellsOf e) = some cs' ∧ d.K W y cs' ∧ g y) (fun i hi => by
      obtain ⟨cs', h1, h2⟩ := hel i (by rw [hmm]; split <;> omega)
      obtain ⟨y, h3, h4⟩ := h enc W base spare held n cs' _ h2
      exact ⟨y, cs', h1, h3, h4⟩)
    refine ⟨xs, ⟨some a, cap, by rw [hlen], by rw [hlen]; exact hl, ⟨rfl, by rw [hlen]; simp only [maxLen] at hm; omega, fun hp => ⟨a, rfl, fun j p hj => ?_⟩⟩⟩, fun x hx => ?_⟩
    · obtain ⟨cs', h1, h2, _⟩ := hxs j p hj
      refine ⟨cs', d.K_len h2, h2, fun i u hu => ?_⟩
      obtain ⟨_, hcl, hcc⟩ := World.cells?_some h1
      have hi : i < cs'.length := (List.getElem?_eq_some_iff.1 hu).1
      have h5 := hcc i (by rw [← hcl]; exact hi)
      rw [hu, Addr.add_add, hs] at h5
      exact h5
    · obtain ⟨i, hi⟩ := List.getElem?_of_mem hx
      obtain ⟨_, _, _, h4⟩ := hxs i x hi
      exact h4
theorem open_arg_slice {d : Kd α} {t e : TypeId} {g : α → Prop} (ht : P.underlying t = some (.slice e)) (hs : P.cellsOf e = d.sz) (h : Opens P d e g) {H : Type} {enc : TypeId × Value → H} {W : World} {base b0 : Nat} {spare : Nat → Bool} {held : Bool} {r : Reach} {v : Value} {D : DataW H} {p : List MemPlace}
    (hv : Value.okWide P W r b0 t v) (hd : DataW.Trod enc P W base spare held t v D p) : ∃ A c xs, v = .slice A xs.length c ∧ xs.length ≤ c ∧ d.C W A xs.length xs ∧ ∀ x ∈ xs, g x := by
  obtain ⟨A, n, c, rfl⟩ := okWide_slice ht hv
  obtain ⟨fuel, hf⟩ := hd
  obtain ⟨xs, ⟨A', c', he, hl, hC⟩, hg⟩ := opens_slice ht hs h enc W base spare held fuel _ _ hf
  have he' : Value.slice A n c = .slice A' xs.length c' := by simpa [Value.cells] using he
  injection he' with h1 h2 h3
  subst h1 h2 h3
  exact ⟨A, c, xs, rfl, hl, hC, hg⟩
theorem opens_three {α β γ : Type} {a : Kd α} {b : Kd β} {c : Kd γ} {t : TypeId} {f0 f1 f2 : Field} {g0 : α → Prop} {g1 : β → Prop} {g2 : γ → Prop} (ht : P.underlying t = some (.struct #[f0, f1, f2]))
    (ho : f0.offset = 0 ∧ f1.offset = a.sz ∧ f2.offset = a.sz + b.sz) (hc : P.cellsOf t = a.sz + (b.sz + c.sz)) (h0 : P.cellsOf f0.type = a.sz) (h1 : P.cellsOf f1.type = b.sz) (h2 : P.cellsOf f2.type = c.sz)
    (k0 : Opens P a f0.type g0) (k1 : Opens P b f1.type g1) (k2 : Opens P c f2.type g2) : Opens P (Kd.pair a (Kd.pair b c)) t (fun x => g0 x.1 ∧ g1 x.2.1 ∧ g2 x.2.2) := by
  intro H enc W base spare held fuel cs x hx
  obtain ⟨y0, y1, y2, n, _, hl, e0, e1, e2⟩ := trod_struct3 ht hx
  rw [ho.1, h0, List.drop_zero] at e0
  rw [ho.2.1, h1] at e1
  rw [ho.2.2, h2] at e2
  obtain ⟨p0, q0, r0⟩ := k0 enc W base spare held n _ _ e0
  obtain ⟨p1, q1, r1⟩ := k1 enc W base spare held n _ _ e1
  obtain ⟨p2, q2, r2⟩ := k2 enc W base spare held n _ _ e2
  refine ⟨(p0, p1, p2), ⟨_, _, ?_, q0, ⟨_, _, rfl, q1, q2⟩⟩, r0, r1, r2⟩
  rw [hc] at hl
  rw [List.take_of_length_le (l := cs.drop (a.sz + b.sz)) (by rw [List.length_drop]; omega)]
  conv => lhs; rw [← List.take_append_drop a.sz cs]
  congr 1
  conv => lhs; rw [← List.take_append_drop b.sz (cs.drop a.sz)]
  rw [List.drop_drop]
end
end Go.Proofs.YthghcpeedmconaaDoorW.PrintWords
end
section
namespace Go.Proofs.YthghcpeedmconaaDoor.X
set_option linter.unusedVariables false
set_option linter.unusedSimpArgs false
open Go.RowKit Go.Lib Go.ChangeShapes Go.WideShapes Go.ChangeAt Go.Joins Go.Proofs.YthghcpeedmconaaDoorW.PrintWords
open Go.ChangeMaps (open_string shut_string)
set_option maxRecDepth 100000
theorem own : ownKnob Tryd.prog.godebug = none := by kernel_rfl
theorem u8extra : U8Extra Tryd.prog Tryd.laysValid_ren := ⟨by kernel_rfl, by kernel_rfl, by kernel_rfl, by kernel_rfl, by kernel_rfl, by kernel_rfl, by kernel_rfl⟩
theorem most_of {w : World} (h : w.ShapedOpen Tryd.prog) : ∃ m : Int, w.cell? ⟨2, 0, none⟩ = some (.int .i64 m) :=
  cell_of_shapedOpen_int (zero := #[.int .i64 0]) (t := 3) h (of_decide_eq_true (by kernel_rfl)) (by kernel_rfl) rfl (by kernel_rfl) (by kernel_rfl) Tryd.underlying3
def two : List (String × DataW Unit) := [("unicode/utf8.acceptRanges", Rows.laid_unicode_utf8_acceptRanges), ("unicode/utf8.first", Rows.laid_unicode_utf8_first)]
theorem tabs_of {w : World} (h : laidMetH Tryd.prog two w) (hs : w.ShapedOpen Tryd.prog) : Tabs w := by
  have h' : laidMet Tryd.prog two w := h
  refine ⟨?_, most_of hs⟩
  have h3 := Go.Lib.laidMet.reads h' (n := "unicode/utf8.first") (d := Rows.laid_unicode_utf8_first) (by simp [two])
  have h4 := Go.Lib.laidMet.reads h' (n := "unicode/utf8.acceptRanges") (d := Rows.laid_unicode_utf8_acceptRanges) (by simp [two])
  rw [show (Rows.laid_unicode_utf8_first : DataW Unit) = firstData by kernel_rfl] at h3
  rw [show (Rows.laid_unicode_utf8_acceptRanges : DataW Unit) = acceptData by kernel_rfl] at h4
  exact utf8Tabs_of_readsT (U8Types.of196 Tryd.laysValid) u8extra h3 h4
theorem laidOut : laidOutB Tryd.prog = true := by kernel_rfl
theorem i64_of {n : Int} (h : inKind .i64 n) : I64 n := by
  unfold inKind at h
  simp only [IntKind.min, IntKind.max, IntKind.signed, IntKind.bits, if_true] at h
  exact ⟨by omega, by omega⟩
def okV (x : S42) : Prop := I64 x.f0 ∧ I64 x.f1 ∧ x.f2.size ≤ 9223372036854775807
theorem opens_value : Opens Tryd.prog k42 42 okV :=
  Opens.imp (opens_iso (opens_three Tryd.underlying42 ⟨rfl, rfl, rfl⟩ (by kernel_rfl) (by kernel_rfl) (by kernel_rfl) (by kernel_rfl) (opens_int Tryd.underlying3) (opens_int Tryd.underlying2) (opens_string Tryd.underlying9)) (fun x : S42 => (x.f0, (x.f1, x.f2))) (fun p => ⟨p.1, p.2.1, p.2.2⟩) (fun _ => rfl))
    (fun x h => ⟨i64_of h.1, i64_of h.2.1, h.2.2⟩)
section
variable {H : Type} {enc : TypeId × Value → H} {W : World} {base b0 : Nat} {spare : Nat → Bool} {held : Bool} {r : Reach} {v : Value} {D : DataW H} {p : List MemPlace}
theorem open_vrow (hv : Value.okWide Tryd.prog W r b0 33 v) (hd : DataW.Trod enc Tryd.prog W base spare held 33 v D p) : ∃ A c xs, v = .slice A xs.length c ∧ xs.length ≤ c ∧ k42.C W A xs.length xs ∧ ∀ x ∈ xs, okV x :=
  open_arg_slice Tryd.underlying33 (by kernel_rfl) opens_value hv hd
end
noncomputable def laidWorld (os : Os) : World :=
  { World.doorLaid Tryd.prog 200 os with heap := (World.doorLaid Tryd.prog 200 os).heap.modify 0 fun
      | .cells _ t frozen => .cells (Go.Pinned.utf8FirstZ.map fun (n : Nat) => Value.int .u8 (n : Int)).toArray t frozen
      | o => o }
theorem laid_met (os : Os) (args : Array Value) : laidMetH Tryd.prog two ((laidWorld os).forCall (fun _ _ => 0) ⟨#[], args, []⟩).memory :=
  laidMet_of_run' 8 (by kernel_rfl) (by kernel_rfl)
end Go.Proofs.YthghcpeedmconaaDoor.X
end
section
namespace Go.Proofs.YthghcpeedmconaaDoorW.PrintWords
open Go Go.RowKit Go.ChangeShapes Go.WideShapes Go.Deep
set_option linter.unusedVariables false
set_option linter.unusedSimpArgs false
def OpensS {α : Type} (P : Program) (d : Kd α) (t : TypeId) (g : α → Prop) : Prop :=
  ∀ {H : Type} (enc : TypeId × Value → H) (W : World) (base : Nat) (spare : Nat → Bool) (held : Bool) (fuel : Nat) (cs : List Value) (x : DataW H × List MemPlace),
    DataW.trod enc P W base spare held fuel t cs = some x → (∀ n ∈ x.1.weights P t, n ≤ reachBytes) → ∃ a, d.K W a cs ∧ g a
section
variable {P : Program} {α β : Type}
theorem opensS_of {d : Kd α} {t : TypeId} {g : α → Prop} (h : Opens P d t g) : OpensS P d t g := by
  intro H enc W base spare held fuel cs x hx _
  exact h enc W base spare held fuel cs x hx
theorem weights_mem_all {H : Type} {e : TypeId} : ∀ {l : List (DataW H)} {d : DataW H}, d ∈ l → ∀ n ∈ d.weights P e, n ∈ DataW.weightsAll P e l
  | [], _, h, _, _ => by simp at h
  | a :: l, d, h, n, hn => by
    simp only [DataW.weightsAll, List.mem_append]
    rcases List.mem_cons.1 h with rfl | h
    · exact .inl hn
    · exact .inr (weights_mem_all h n hn)
theorem opensS_slice {d : Kd α} {t e : TypeId} {g : α → Prop} (ht : P.underlying t = some (.slice e)) (hs : P.cellsOf e = d.sz) (h : OpensS P d e g) :
    OpensS P (Kd.slice e d) t (fun xs => xs.length * P.bytesOf e ≤ reachBytes ∧ ∀ x ∈ xs, g x) := by
  intro H enc W base spare held fuel cs x hx hw
  rcases open_slice ht hx with ⟨rfl, rfl⟩ | ⟨a, len, cap, m, n, D, Pl, rfl, hb, hl, hm, hmm, rfl, hel⟩
  · exact ⟨[], ⟨none, 0, rfl, Nat.le_refl _, ⟨rfl, by simp, fun h => absurd h (by simp)⟩⟩, by simp, fun x hx => by simp at hx⟩
  · simp only [DataW.weights, ht] at hw
    have hw0 := hw _ List.mem_cons_self
    obtain ⟨xs, hlen, hxs⟩ := elems_of (n := len) (p := fun i y => ∃ cs', W.cells? base (a.add (i * P.cellsOf e)) (P.cellsOf e) = some cs' ∧ d.K W y cs' ∧ g y) (fun i hi => by
      obtain ⟨cs', h1, h2⟩ := hel i (by rw [hmm]; split <;> omega)
      obtain ⟨y, h3, h4⟩ := h enc W base spare held n cs' _ h2 (fun k hk => hw k (List.mem_cons_of_mem _ (List.mem_append_left _ (weights_mem_all (List.mem_map.2 ⟨i, List.mem_range.2 hi, rfl⟩) k hk))))
      exact ⟨y, cs', h1, h3, h4⟩)
    refine ⟨xs, ⟨some a, cap, by rw [hlen], by rw [hlen]; exact hl, ⟨rfl, by rw [hlen]; simp only [maxLen] at hm; omega, fun hp => ⟨a, rfl, fun j p hj => ?_⟩⟩⟩, ?_, fun x hx => ?_⟩
    · obtain ⟨cs', h1, h2, _⟩ := hxs j p hj
      refine ⟨cs', d.K_len h2, h2, fun i u hu => ?_⟩
      obtain ⟨_, hcl, hcc⟩ := World.cells?_some h1
      have hi : i < cs'.length := (List.getElem?_eq_some_iff.1 hu).1
      have h5 := hcc i (by rw [← hcl]; exact hi)
      rw [hu, Addr.add_add, hs] at h5
      exact h5
    · rw [hlen]
      exact Nat.le_trans (Nat.mul_le_mul_right _ (by simp)) hw0
    · obtain ⟨i, hi⟩ := List.getElem?_of_mem hx
      obtain ⟨_, _, _, h4⟩ := hxs i x hi
      exact h4
theorem open_arg_sliceS {d : Kd α} {t e : TypeId} {g : α → Prop} (ht : P.underlying t = some (.slice e)) (hs : P.cellsOf e = d.sz) (h : OpensS P d e g) {H : Type} {enc : TypeId × Value → H} {W : World} {base b0 : Nat} {spare : Nat → Bool} {held : Bool} {r : Reach} {v : Value} {D : DataW H} {p : List MemPlace}
    {ts : List TypeId} {ds : List (DataW H)} {j : Nat} (hsz : (DataW.weightsEach P ts ds).all (· ≤ reachBytes) = true) (htj : ts[j]? = some t) (hdj : ds[j]? = some D)
    (hv : Value.okWide P W r b0 t v) (hd : DataW.Trod enc P W base spare held t v D p) : ∃ A c xs, v = .slice A xs.length c ∧ xs.length ≤ c ∧ d.C W A xs.length xs ∧ xs.length * P.bytesOf e ≤ reachBytes ∧ ∀ x ∈ xs, g x := by
  obtain ⟨A, n, c, rfl⟩ := okWide_slice ht hv
  obtain ⟨fuel, hf⟩ := hd
  obtain ⟨xs, ⟨A', c', he, hl, hC⟩, hg⟩ := opensS_slice ht hs h enc W base spare held fuel _ _ hf (fun n hn => by
    have := List.all_eq_true.1 hsz _ (DataW.weights_mem_each htj hdj n hn)
    simpa using this)
  have he' : Value.slice A n c = .slice A' xs.length c' := by simpa [Value.cells] using he
  injection he' with h1 h2 h3
  subst h1 h2 h3
  exact ⟨A, c, xs, rfl, hl, hC, hg⟩
end
end Go.Proofs.YthghcpeedmconaaDoorW.PrintWords
end
section
namespace Go.Proofs.YthghcpeedmconaaDoor.X
open Go.ChangeShapes Go.WideShapes Go.RowKit Go.Proofs.YthghcpeedmconaaDoorW.PrintWords
set_option linter.unusedVariables false
section
variable {H : Type} {enc : TypeId × Value → H} {W : World} {base b0 : Nat} {spare : Nat → Bool} {held : Bool} {r : Reach} {v : Value} {D : DataW H} {p : List MemPlace}
set_option maxRecDepth 100000 in
set_option linter.constructorNameAsVariable false in
theorem open_vlistS {ts : List TypeId} {ds : List (DataW H)} {j : Nat} (hsz : (DataW.weightsEach Tryd.prog ts ds).all (· ≤ reachBytes) = true) (htj : ts[j]? = some 44) (hdj : ds[j]? = some D)
    (hv : Value.okWide Tryd.prog W r b0 44 v) (hd : DataW.Trod enc Tryd.prog W base spare held 44 v D p) : ∃ A c xs, v = .slice A xs.length c ∧ xs.length ≤ c ∧ (Kd.slice 42 k42).C W A xs.length xs ∧
      (xs.length * 24 ≤ 140737488351232 ∧ ∀ x ∈ xs, x.length * 32 ≤ 140737488351232 ∧ ∀ v ∈ x, okV v) := by
  obtain ⟨A, c, xs, h1, h2, h3, h4, h5⟩ := open_arg_sliceS Tryd.underlying44 (by kernel_rfl) (opensS_slice Tryd.underlying33 (by kernel_rfl) (opensS_of opens_value)) hsz htj hdj hv hd
  rw [show Tryd.prog.bytesOf 33 = 24 by kernel_rfl] at h4
  rw [show Tryd.prog.bytesOf 42 = 32 by kernel_rfl] at h5
  exact ⟨A, c, xs, h1, h2, h3, h4, h5⟩
end
end Go.Proofs.YthghcpeedmconaaDoor.X
end
section
namespace Go.Proofs.YthghcpeedmconaaDoor.rowcodeGoes
open Go.ChangeShapes Go.WideShapes Go.ChangeAt Go.RowKit Go.Proofs.YthghcpeedmconaaDoor.X Go.Proofs.YthghcpeedmconaaDoorW.PrintWords
open Go.ChangeMaps (open_string shut_string)
set_option linter.unusedVariables false
set_option linter.unusedSimpArgs false
set_option maxRecDepth 100000 in
theorem reads (os : Os) {H : Type} (enc : TypeId × Value → H) : ∃ places, DataW.whole enc Tryd.prog ((laidWorld os).forCall (fun _ _ => 0) ⟨#[], #[.slice none 0 0, .slice none 0 0], []⟩).memory Tryd.f4.params.toList Rows.rowcodeGoesSpec.vars false
    #[Value.slice none 0 0, .slice none 0 0].toList 8 =
    some ([.nil, .nil], [], places) :=
  ⟨[], by kernel_rfl⟩
set_option maxRecDepth 100000 in
theorem lifted (os : Os) (started : os.Started) (H : Type) (enc : TypeId × Value → H) (F : Stop.Interp) :
    ReturnsInHanded {} Tryd.checked os 4 .any ((OpenSpec.ofChange Rows.rowcodeGoesSpec).preRow enc Tryd.prog Tryd.f4 Rows.rowcodeGoesRow.domain false Rows.rowcodeGoesRow.laid) (((OpenSpec.ofChange Rows.rowcodeGoesSpec).at F).post enc Tryd.prog Tryd.f4 false true false false) := by
  obtain ⟨places, hx⟩ := reads os enc
  refine returnsInHanded_of_row (C := Tryd.checked) (s := (OpenSpec.ofChange Rows.rowcodeGoesSpec)) own started (by kernel_rfl) Tryd.func4
    (witness_row_at (enc := enc) (C := Tryd.checked) false (laidWorld os) #[.slice none 0 0, .slice none 0 0] rfl (by kernel_rfl) (by kernel_rfl) (by kernel_rfl)
      (OpenSpec.preRow_of_cond 8 hx (by kernel_rfl) (fun k hk => by cases hk) (by kernel_rfl) (laid_met os _))) ?_
  intro W base args ds gs before hval0 hW _ hcond hsz0 hL hsh _
  have hT : Tabs W := tabs_of hL hsh
  have hval : ∀ (j : Nat) t v, Tryd.f4.params[j]? = some t → args[j]? = some v → Value.okWide Tryd.prog W .any base t v := hval0
  have hW' := hW
  have hlt0 := fun x hx => hW'.lt x hx
  obtain ⟨p, q, hA0, hV, rfl, hfz, hnd⟩ := hW
  have hA : DataW.TrodAll enc Tryd.prog W 0 (fun _ => true) true Tryd.f4.params.toList args.toList ds p := hA0
  rw [Tryd.params4] at hA hval
  obtain ⟨v0, vs0, d0, ds0, p0, q0, hargs, rfl, rfl, h0, r0⟩ := trodAll_cons hA
  obtain ⟨v1, vs1, d1, ds1, p1, q1, rfl, rfl, rfl, h1, r1⟩ := trodAll_cons r0
  obtain ⟨rfl, rfl, rfl⟩ := trodAll_nil r1
  obtain rfl : args = #[v0, v1] := by cases args; simp_all
  obtain ⟨rfl, rfl⟩ := trodVars_none hV
  have k0 := h0
  have lt0 : ∀ x ∈ p0, x.block < W.heap.size := fun x hx => by have := hlt0 x (by simp [hx]); simpa using this
  obtain ⟨A0, c0, a0, rfl, hc0, hr0, g0⟩ := open_vlistS (j := 0) hsz0 rfl rfl (hval 0 44 v0 rfl rfl) h0
  have k1 := h1
  have lt1 : ∀ x ∈ p1, x.block < W.heap.size := fun x hx => by have := hlt0 x (by simp [hx]); simpa using this
  obtain ⟨A1, c1, a1, rfl, hc1, hr1, g1⟩ := open_vrow (hval 1 33 v1 rfl rfl) h1
  clear hA0 hval0
  refine (locksteplaw02_RowcodeGoes.calls (2 * a0.length + 131300) A0 c0 a0 A1 c1 a1 true W hT hr0 hc0 hr1 hc1 (Dig.RowcodeGoes_true a0 a1 (by have := g0.1; omega) (fun r hr v hv => ((g0.2 r hr).2 v hv).2.1) (fun v hv => (g1 v hv).2.1)) rfl).mono fun e W' ⟨he, bel⟩ => ?_
  subst he
  exact ⟨_, rfl, _, _, _, [], _, [], hW', trodAll_mk1 (shut_bool Tryd.underlying4 _), (trodAll_cons_mk (Below.trod laidOut (by kernel_rfl) (of_decide_eq_true (by kernel_rfl)) k0 bel lt0) (trodAll_cons_mk (Below.trod laidOut (by kernel_rfl) (of_decide_eq_true (by kernel_rfl)) k1 bel lt1) trodAll_mk0)), rfl, bel.frame _, fun h => by cases h⟩
theorem said : Rows.RowcodeGoesSaid :=
  OpenClaim.holds_of_cond 4 Tryd.f4 rfl rfl rfl rfl rfl rfl rfl ⟨rfl, rfl, rfl, rfl, rfl⟩ rfl rfl rfl rfl rfl (by kernel_rfl) Tryd.func4 (by kernel_rfl)
    (of_decide_eq_true (by kernel_rfl)) (by unfold Func.isWrapper; first | (rw [if_pos (by decide +kernel)]; kernel_rfl) | (rw [if_neg (by decide +kernel)]; exact ⟨rfl, rfl⟩))
    (fun os started H enc _ F => by rw [OpenClaim.pre_eq_preRow]; exact lifted os started H enc F)
theorem plain (f : FuncId) (fn : Func) (hf : Tryd.pinned.checked.prog.funcNamed "lockstep/locksteplaw02.RowcodeGoes" = some f) (hfn : Tryd.pinned.checked.prog.funcs[f]? = some fn) :
    false = Tryd.pinned.checked.prog.looks [] ∧ ∀ (j : Nat) t, fn.params[j]? = some t → Tryd.pinned.checked.prog.wantsStandIn t = false := by
  obtain rfl : f = 4 := Option.some.inj ((show Tryd.prog.funcNamed "lockstep/locksteplaw02.RowcodeGoes" = some 4 by kernel_rfl).symm.trans hf) |>.symm
  obtain rfl : fn = Tryd.f4 := (Option.some.inj (Tryd.func4.symm.trans hfn)).symm
  refine ⟨by kernel_rfl, fun j t ht => ?_⟩
  rw [Tryd.params4] at ht
  have hm := Array.mem_of_getElem? ht
  have ht' : t = 44 ∨ t = 33 := by simpa using hm
  rcases ht' with rfl | rfl
  · exact (show Tryd.prog.wantsStandIn 44 = false by kernel_rfl)
  · exact (show Tryd.prog.wantsStandIn 33 = false by kernel_rfl)
theorem card : Rows.RowcodeGoesCardSaid :=
  Claim7.holds_tied_plain_at .later [] _ _ _ _ said (fun _ h => by cases h) (by kernel_rfl) (fun _ h => by cases h) rowcodeGoes_row_tie rfl ⟨rfl, rfl⟩ (by kernel_rfl) rfl plain (by kernel_rfl)
end Go.Proofs.YthghcpeedmconaaDoor.rowcodeGoes
end

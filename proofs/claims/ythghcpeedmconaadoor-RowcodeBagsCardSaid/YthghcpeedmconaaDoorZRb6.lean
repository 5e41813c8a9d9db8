/- Part 6 of a claim of this seat: texts merged by a program of the claim's session (wip/bundle.py). -/
import Derived.Test.YthghcpeedmconaaDoorZRb1
import Derived.Test.YthghcpeedmconaaDoorZRb3
import Derived.Test.YthghcpeedmconaaDoorZRb5
import Derived.Shelf.SlSortCmp.Whole1
import Derived.Shelf.Bytes.SlJoin
import Derived.Ground.SlsfProg
import Derived.Ground.SlbNamesProg
import Derived.Test.YthghcpeedmconaaDoorProg
import Derived.Lib.Bytealg
import Derived.Lib.BytesEntry
import Derived.Shelf.SlSortCmp.NoneTotal
import Derived.Laws.Bits64b
section
namespace Go.Proofs.YthghcpeedmconaaDoor.X
open Go.RowKit Go.Proofs.YthghcpeedmconaaDoorW.PrintWords Go.Proofs.YthghcpeedmconaaDoorW.PrintLast Go.Proofs.YthghcpeedmconaaDoorW.PrintMore
attribute [local go_sem] max2_int min2_int max_two min_two max_three min_three max_four min_four
set_option linter.unusedVariables false
set_option linter.unusedSimpArgs false
def locksteplaw02_own.f (l0 : List Int) : Option (List Int) := if 0 ≤ (wrap64 ((l0.length : Int) + 2)) then (if (wrap64 ((l0.length : Int) + 2) : Int).toNat ≤ 281474976710656 then ((some (([] : List Int) : List Int)).bind fun y447 => (if y447.length + l0.length < 140737488355328 then (some (y447 ++ l0)) else (none))) else (none)) else (none)
set_option maxHeartbeats 8000000 in
set_option maxRecDepth 100000 in
theorem locksteplaw02_own.calls (A0 : Option Addr) (c0 : Nat) (l0 : List Int) (r : List Int) (w : World) (hr0 : Kd.C (Kd.int .u8) w A0 l0.length l0) (hc0 : l0.length ≤ c0) (h : locksteplaw02_own.f l0 = some r) :
  Calls Tryd.prog 25 #[.slice A0 l0.length c0] w fun e w' => ∃ v0_ : Value, e = .returned (v0_) ∧ Kd.R (Kd.int .u8) 5 w' w.heap.size (fun _ => True) v0_ r ∧ Below w.heap.size w w' := by
 have HR0 := Aside0.mk hr0
 have HC0 := Aside0.mk hc0
 clear hr0 hc0
 have HB := Aside0.mk (Below.refl w.heap.size w)
 have H : (if 0 ≤ (wrap64 ((l0.length : Int) + 2)) then (if (wrap64 ((l0.length : Int) + 2) : Int).toNat ≤ 281474976710656 then ((some (([] : List Int) : List Int)).bind fun y447 => (if y447.length + l0.length < 140737488355328 then (some (y447 ++ l0)) else (none))) else (none)) else (none)) = some r := h
 clear h
 obtain ⟨ji2, hji2⟩ : ∃ j_ : Int, (wrap64 ((l0.length : Int) + 2)) = j_ := ⟨_, rfl⟩
 replace H : (if 0 ≤ (ji2) then (if (ji2 : Int).toNat ≤ 281474976710656 then ((some (([] : List Int) : List Int)).bind fun y447 => (if y447.length + l0.length < 140737488355328 then (some (y447 ++ l0)) else (none))) else (none)) else (none)) = some r := by first | (rw [hji2] at H; exact H) | (simp only [hji2] at H ⊢; exact H)
 have hji2w : (IntKind.i64.wrap ((l0.length : Int) + 2)) = ji2 := (i64_w _).trans hji2
 by_cases c3 : 0 ≤ (ji2)
 ·
  rw [if_pos c3] at H
  have c3b0 := eq_true c3
  have c3b1 : decide (0 ≤ (ji2)) = true := decide_eq_true c3
  clear c3
  by_cases c4 : (ji2 : Int).toNat ≤ 281474976710656
  ·
   rw [if_pos c4] at H
   have c4b0 := eq_true c4
   have c4b1 : decide ((ji2 : Int).toNat ≤ 281474976710656) = true := decide_eq_true c4
   clear c4
   obtain ⟨y447, hy447⟩ : ∃ y_ : List Int, y_ = (([] : List Int)) := ⟨_, rfl⟩
   replace H : (if y447.length + l0.length < 140737488355328 then (some (y447 ++ l0)) else (none)) = some r := by first | (rw [hy447]; with_reducible exact H) | (have H2_ := (Option.bind_some _ _).symm.trans H; rw [hy447]; with_reducible exact H2_) | (have H2_ := (Option.bind_some _ _).symm.trans H; with_reducible exact H2_) | with_reducible exact H | (rw [hy447]; exact H) | exact H
   have Ny447 := Aside0.mk hy447
   clear hy447
   by_cases c5 : y447.length + l0.length < 140737488355328
   ·
    rw [if_pos c5] at H
    have LMc5 := Aside0.mk c5
    clear c5
    obtain ⟨y450, hy450⟩ : ∃ y_ : List Int, y_ = (y447 ++ l0) := ⟨_, rfl⟩
    replace H : (some y450) = some r := by first | (rw [hy450]; with_reducible exact H) | (have H2_ := (Option.bind_some _ _).symm.trans H; rw [hy450]; with_reducible exact H2_) | (have H2_ := (Option.bind_some _ _).symm.trans H; with_reducible exact H2_) | with_reducible exact H | (rw [hy450]; exact H) | exact H
    have Ny450 := Aside0.mk hy450
    clear hy450
    obtain rfl := Option.some.inj H
    go_enter Tryd.func25, Tryd.ntmps25
    go_wp2_with (first | ((with_reducible refine gate_dst (N := 6) rfl ?_); refine Kd.R_make0 (Kd.int .u8) _ 5 rfl (N := 6) rfl 47 _ _ rfl ji2 rfl rfl Tryd.underlying47 (.int .u8 0) 1 info5 rfl (by decide) (by omega) 0 (ok := fun _ => True) (okp := fun _ => True) rfl (fun _ hk => hk) trivial (of_decide_eq_true (by first | (with_reducible assumption) | assumption)) (Nat.le_trans (Nat.mul_le_mul_right _ (of_decide_eq_true (by first | (with_reducible assumption) | assumption) : ji2.toNat ≤ 281474976710656)) (by omega)) (Below.refl _ _) (Nat.le_refl _) ?_; intro v448 w6 ho7 hb hg_ hnew_; clear hg_ hnew_; (first | rw [← Ny447.out] at ho7 | (simp only [Int.reduceToNat] at ho7; rw [← Ny447.out] at ho7)); have n0_ := Aside0.mk (Kd.R_lower ho7 (below_size (by repeat (first | (with_reducible first | exact HB.out | apply below_alloc | apply pw_below_drewN | apply below_drew1) | exact HB.out)))); have n1_ := Aside0.mk (below_step (by repeat (first | (with_reducible first | exact HB.out | apply below_alloc | apply pw_below_drewN | apply below_drew1) | exact HB.out)) hb); clear HB; have HO449 := n0_; have HB := n1_; clear n0_ n1_; clear hb ho7) | ((with_reducible refine gate_builtin (b := .append) (xs := #[.tmp 6, .tmp 7]) rfl ?_); at_builtin; refine Kd.R_append_rows (Kd.int .u8) (w0 := w) w.heap.size rfl (.tmp 6) (.tmp 7) 47 5 (.int .u8 0) 1 rfl Tryd.underlying47 info5 rfl (by decide) (by omega) v448 y447 l0 _ _ _ (fun _ => True) (fun _ => False) rfl rfl ?aO ?aR (fun _ _ h => h) (fun _ h => h.elim) ?aF ?aB ?aS ?aL ?_; (case aR => repeat (first | exact (Kd.C_below HR0.out HB.out) | (with_reducible refine Kd.C_alloc ?_ _) | (with_reducible refine Kd.C_drewN ?_ _) | (with_reducible refine Kd.C_drew ?_))); (case aB => exact (by repeat (first | (with_reducible first | exact HB.out | apply below_alloc | apply pw_below_drewN | apply below_drew1) | exact HB.out))); (case aF => exact (fun _ _ => trivial)); (case aO => exact (by (with_reducible repeat (first | apply Kd.R_alloc | apply Kd.R_drewN | apply Kd.R_drew)); exact HO449.out)); (case aS => exact (below_size (by repeat (first | (with_reducible first | exact HB.out | apply below_alloc | apply pw_below_drewN | apply below_drew1) | exact HB.out)))); (case aL => have := LMc5.out; omega); intro v451 w8 ho hb hg hat; rw [← Ny450.out] at ho; have n0_ := Aside0.mk (hb); have n1_ := Aside0.mk (ho); clear HB; clear HO449; have HB := n0_; have HO452 := n1_; clear n0_ n1_; clear ho hb hg hat))
    go_ret
    exact ⟨_, by first | rfl | (simp [errW_none, errW_some] <;> rfl) | (simp only [← hji2]; first | rfl | (simp [errW_none, errW_some] <;> rfl)) | (simp [*, errW_none, errW_some] <;> rfl), by (with_reducible repeat (first | apply Kd.R_alloc | apply Kd.R_drewN | apply Kd.R_drew)); exact HO452.out, by repeat (first | (with_reducible first | exact HB.out | apply below_alloc | apply pw_below_drewN | apply below_drew1) | exact HB.out)⟩
   ·
    rw [if_neg c5] at H
    exact absurd H (by simp)
  ·
   rw [if_neg c4] at H
   exact absurd H (by simp)
 ·
  rw [if_neg c3] at H
  exact absurd H (by simp)
end Go.Proofs.YthghcpeedmconaaDoor.X
end
section
namespace Go.Proofs.YthghcpeedmconaaDoor.X
open Go.RowKit Go.Proofs.YthghcpeedmconaaDoorW.PrintWords Go.Proofs.YthghcpeedmconaaDoorW.PrintLast Go.Proofs.YthghcpeedmconaaDoorW.PrintMore
attribute [local go_sem] max2_int min2_int max_two min_two max_three min_three max_four min_four
end Go.Proofs.YthghcpeedmconaaDoor.X
end
section
namespace Go.Proofs.YthghcpeedmconaaDoor.X
open Go.RowKit Go.Proofs.YthghcpeedmconaaDoorW.PrintWords Go.Proofs.YthghcpeedmconaaDoorW.PrintLast Go.Proofs.YthghcpeedmconaaDoorW.PrintMore
attribute [local go_sem] max2_int min2_int max_two min_two max_three min_three max_four min_four
set_option linter.unusedVariables false
set_option linter.unusedSimpArgs false
def rowcode_readRow.l0 : Nat → List Int → List (S42) → Option ((List (S42)) × List Int × Int)
 | 0, _, _ => none
 | k + 1, x0, x5 => if (x0.length : Int) = 0 then (some (([] : List (S42)), ([] : List Int), 4)) else (if 0 < (x0.length : Int) then (if (rd x0 0) = 0 then (if 1 ≤ (x0.length : Int) then (some (x5, (x0.drop 1), 0)) else (none)) else (if (x5.length : Int) = 16 then (some (([] : List (S42)), ([] : List Int), 20)) else ((rowcode_read.f k x0).bind fun bt624 => (if bt624.2.2.2.2 = 0 then (if x5.length < 4398046511104 then (rowcode_readRow.l0 k bt624.2.2.2.1 (x5 ++ [(⟨bt624.1, bt624.2.1, bt624.2.2.1⟩ : S42)])) else (none)) else (some (([] : List (S42)), ([] : List Int), bt624.2.2.2.2)))))) else (none))
def rowcode_readRow.f (k : Nat) (l0 : List Int) : Option ((List (S42)) × List Int × Int) := rowcode_readRow.l0 k l0 ([] : List (S42))
theorem rowcode_readRow.mono_l : ∀ k, (∀ y0 y1, LeO (rowcode_readRow.l0 k y0 y1) (rowcode_readRow.l0 (k + 1) y0 y1))
 | 0 => fun _ _ r h => by simp [rowcode_readRow.l0] at h
 | k + 1 => by
  have ih0 := rowcode_readRow.mono_l k
  ·
   intro y0 y1
   unfold rowcode_readRow.l0
   repeat' first
   | (with_reducible exact ih0 _ _)
   | (with_reducible exact rowcode_read.mono _ _)
   | (with_reducible exact LeO.refl _)
   | (with_reducible exact LeO.none _)
   | (with_reducible refine LeO.ite ?_ ?_)
   | (with_reducible refine LeO.bind ?_ (fun _ => ?_))
   | exact ih0 _ _
   | exact rowcode_read.mono _ _
   | exact LeO.none _
   | refine LeO.ite ?_ ?_
   | refine LeO.bind ?_ (fun _ => ?_)
theorem rowcode_readRow.mono : ∀ a0 k, LeO (rowcode_readRow.f k a0) (rowcode_readRow.f (k + 1) a0) := by
 intro a0 k
 have ih0 := rowcode_readRow.mono_l k
 unfold rowcode_readRow.f
 repeat' first
   | (with_reducible exact ih0 _ _)
   | (with_reducible exact rowcode_read.mono _ _)
   | (with_reducible exact LeO.refl _)
   | (with_reducible exact LeO.none _)
   | (with_reducible refine LeO.ite ?_ ?_)
   | (with_reducible refine LeO.bind ?_ (fun _ => ?_))
   | exact ih0 _ _
   | exact rowcode_read.mono _ _
   | exact LeO.none _
   | refine LeO.ite ?_ ?_
   | refine LeO.bind ?_ (fun _ => ?_)
set_option maxHeartbeats 8000000 in
set_option maxRecDepth 100000 in
theorem rowcode_readRow.calls (k : Nat) (P0_ : Nat → Prop) (A0 : Option Addr) (c0 : Nat) (l0 : List Int) (r1 : List (S42)) (r2 : List Int) (r3 : Int) (w : World) (hT : Tabs w) (hs0 : Kd.V (Kd.int .u8) 5 w w.heap.size (fun k_ => P0_ k_) (.slice A0 l0.length c0) l0) (h : rowcode_readRow.f k l0 = some (r1, r2, r3)) :
  Calls Tryd.prog 60 #[.slice A0 l0.length c0] w fun e w' => ∃ v0_ v1_ : Value, e = .returned (.tuple #[v0_, v1_, .int .i64 r3]) ∧ Kd.R k42 42 w' w.heap.size (fun k_ => (w.heap.size ≤ k_)) v0_ r1 ∧ Kd.V (Kd.int .u8) 5 w' w.heap.size (fun k_ => (P0_ k_ ∨ w.heap.size ≤ k_) ∧ some k_ ≠ (v0_ : Value).ownBlock) v1_ r2 ∧ Below w.heap.size w w' := by
 have hu42 := Tryd.underlying42
 have HT := Aside0.mk hT
 clear hT
 have HO0 := Aside0.mk (show Kd.V (Kd.int .u8) 5 w w.heap.size (fun k_ => (P0_ k_ ∨ w.heap.size ≤ k_)) (.slice A0 l0.length c0) l0 from Kd.V_mono hs0 (fun k_ hk => .inl hk))
 have HB := Aside0.mk (Below.refl w.heap.size w)
 have H : (rowcode_readRow.l0 k l0 ([] : List (S42))) = some (r1, r2, r3) := h
 clear h
 have H' := Aside0.mk H
 clear H
 go_enter Tryd.func60, Tryd.ntmps60
 go_wp2
 repeat ((with_reducible refine at_region ?_); go_quiet (fail); try go_wp2)
 go_loopg [0, 5] k (fun kq v0 v5 w' => ∃ (x0_1 : List Int) (x5_1 : List (S42)), Aside0 (rowcode_readRow.l0 kq x0_1 x5_1 = some (r1, r2, r3)) ∧ Aside0 (kq ≤ k) ∧ Aside0 (Kd.V (Kd.int .u8) 5 w' w.heap.size (fun k_ => (P0_ k_ ∨ w.heap.size ≤ k_) ∧ some k_ ≠ (v5 : Value).ownBlock) v0 x0_1) ∧ Aside0 (Kd.R k42 42 w' w.heap.size (fun k_ => (w.heap.size ≤ k_)) v5 x5_1) ∧ Aside0 (Below w.heap.size w w'))
 case atStart => exact ⟨(l0), (([] : List (S42))), H', ⟨Nat.le_refl _⟩, ⟨by (with_reducible repeat (first | apply Kd.V_alloc | apply Kd.V_drewN | apply Kd.V_drew)); exact Kd.V_mono HO0.out (fun _ hk => ⟨hk, (by simp [Value.ownBlock])⟩)⟩, ⟨by first | exact Kd.R_nil _ _ _ _ _ | exact Kd.N_nil _ _ _ _ _ | exact Kd.V_nil _ _ _ _ _ | exact Kd.Q_nil _ _ _ _ _ | exact Kd.S_nil _ _ _ _ _⟩, ⟨by repeat (first | (with_reducible first | exact HB.out | apply below_alloc | apply pw_below_drewN | apply below_drew1) | exact HB.out)⟩⟩
 case round =>
  clear H'
  obtain ⟨x0_1, x5_1, HA, HK1, HO_0, HO_5, HB⟩ := hrel
  cases gk with
  | zero => exact absurd HA.out (by simp [rowcode_readRow.l0])
  | succ k1 =>
   have H := HA.out
   clear HA
   simp only [rowcode_readRow.l0] at H
   by_cases c2 : (x0_1.length : Int) = 0
   ·
    rw [if_pos c2] at H
    have c2b0 : ((x0_1.length : Int) == 0) = true := beq_iff_eq.mpr c2
    have c2b1 : ((x0_1.length : Int) != 0) = false := bne_eq_false_iff_eq.mpr c2
    clear c2
    simp only [Option.some.injEq, Prod.mk.injEq] at H
    obtain ⟨rfl, rfl, rfl⟩ := H
    obtain ⟨Ao3, co3, eo3⟩ := Kd.V_slice HO_0.out
    subst eo3
    go_wp2
    repeat ((with_reducible refine at_region ?_); go_quiet (fail); try go_wp2)
    go_ret3
    exact ⟨_, _, by first | rfl | (simp [errW_none, errW_some] <;> rfl) | (simp [*, errW_none, errW_some] <;> rfl), by first | exact Kd.R_nil _ _ _ _ _ | exact Kd.N_nil _ _ _ _ _ | exact Kd.V_nil _ _ _ _ _ | exact Kd.Q_nil _ _ _ _ _ | exact Kd.S_nil _ _ _ _ _, Kd.V_nil _ _ _ _ _, by repeat (first | (with_reducible first | exact HB.out | apply below_alloc | apply pw_below_drewN | apply below_drew1) | exact HB.out)⟩
   ·
    rw [if_neg c2] at H
    have c2b0 : ((x0_1.length : Int) == 0) = false := beq_eq_false_iff_ne.mpr c2
    have c2b1 : ((x0_1.length : Int) != 0) = true := bne_iff_ne.mpr c2
    have c2b2 : ¬ (x0_1 = []) := fun h_ => c2 (by rw [h_]; rfl)
    by_cases c4 : 0 < (x0_1.length : Int)
    ·
     rw [if_pos c4] at H
     have c4b0 : decide (0 < (x0_1.length : Int)) = true := decide_eq_true c4
     have c4b1 : decide (0 < x0_1.length) = true := decide_eq_true (by omega)
     clear c4
     by_cases c5 : (rd x0_1 0) = 0
     ·
      rw [if_pos c5] at H
      have c5b0 : ((rd x0_1 0) == 0) = true := beq_iff_eq.mpr c5
      have c5b1 : ((rd x0_1 0) != 0) = false := bne_eq_false_iff_eq.mpr c5
      clear c5
      by_cases c6 : 1 ≤ (x0_1.length : Int)
      ·
       rw [if_pos c6] at H
       have c6b0 := eq_true c6
       have c6b1 : decide (1 ≤ (x0_1.length : Int)) = true := decide_eq_true c6
       clear c6
       obtain ⟨y619, hy619⟩ : ∃ y_ : List Int, y_ = (x0_1.drop 1) := ⟨_, rfl⟩
       replace H : (some (x5_1, y619, 0)) = some (r1, r2, r3) := by first | (rw [hy619]; with_reducible exact H) | (have H2_ := (Option.bind_some _ _).symm.trans H; rw [hy619]; with_reducible exact H2_) | (have H2_ := (Option.bind_some _ _).symm.trans H; with_reducible exact H2_) | with_reducible exact H | (rw [hy619]; exact H) | exact H
       have Ny619 := Aside0.mk hy619
       clear hy619
       simp only [Option.some.injEq, Prod.mk.injEq] at H
       obtain ⟨rfl, rfl, rfl⟩ := H
       obtain ⟨Ao7, co7, eo7⟩ := Kd.V_slice HO_0.out
       subst eo7
       have p618 : 0 ≤ (0 : Int) := (by omega)
       have q618 : 0 < (x0_1.length : Int) := of_decide_eq_true (by first | (with_reducible assumption) | assumption)
       obtain ⟨ad618, e618, hx618_0⟩ := Kd.at_int (Kd.V_reads' HO_0.out).2.2 0 p618 q618
       cases e618
       have qi618 : (0 < x0_1.length) = True := eq_true (by omega)
       (try rw [show ((0 : Int)).toNat = 0 from rfl] at hx618_0)
       (try rw [Addr.add_zero'] at hx618_0)
       replace p618 := eq_true p618
       replace q618 := eq_true q618
       have q8 : (1 : Int) ≤ ((x0_1.length : Int) : Int) := of_decide_eq_true (by first | (with_reducible assumption) | assumption)
       obtain ⟨i08, hi08, _, hsz8, _⟩ := info_parts info5
       have hroom8 : x0_1.length ≤ co7 := (Kd.V_reads' HO_0.out).2.1
       have hC8 : Kd.F (Kd.int .u8) _ _ (some ad618) x0_1.length x0_1 := (Kd.V_at (base := w.heap.size) HO_0.out).2.2
       have hcut8 := cut_from (P := Tryd.prog) 47 5 .i64 Tryd.underlying47 hi08 1 hsz8 (some ad618) x0_1.length co7 1 (by omega) q8
       have hr8 := Kd.F_cut (m := (1 : Int).toNat) (c := co7) hC8 (by omega) hroom8
       obtain ⟨A8, hA8⟩ : ∃ A1, A1 = (if co7 = (1 : Int).toNat then (some ad618) else ((some ad618) : Option Addr).map (·.add ((1 : Int).toNat * 1))) := ⟨_, rfl⟩
       obtain ⟨c8, hc8⟩ : ∃ c1, c1 = co7 - (1 : Int).toNat := ⟨_, rfl⟩
       have hy8 : y619.length = x0_1.length - (1 : Int).toNat := (by rw [Ny619.out, List.length_drop] <;> omega)
       rw [show (x0_1).drop (1 : Int).toNat = y619 from Ny619.out.symm] at hr8
       replace hr8 : Kd.F (Kd.int .u8) _ _ A8 y619.length y619 := (by rw [hA8]; exact hr8)
       rw [← hy8, ← hA8, ← hc8] at hcut8
       have HO623 := Aside0.mk (show Kd.V (Kd.int .u8) 5 _ w.heap.size _ (.slice A8 y619.length c8) y619 from Kd.V_mk (by rw [hy8, hc8]; exact Nat.sub_le_sub_right hroom8 _) hr8)
       have HC623 := Aside0.mk (show y619.length ≤ c8 from by rw [hy8, hc8]; exact Nat.sub_le_sub_right hroom8 _)
       clear hr8 hC8 hroom8 hi08 hsz8 hc8
       have KY8 := Aside0.mk hy8
       have KA8 := Aside0.mk hA8
       clear hy8 hA8
       replace q8 := eq_true q8
       go_wp2
       repeat ((with_reducible refine at_region ?_); go_quiet (fail); try go_wp2)
       go_ret3
       exact ⟨_, _, by first | rfl | (simp [errW_none, errW_some] <;> rfl) | (simp [*, errW_none, errW_some] <;> rfl), by (with_reducible repeat (first | apply Kd.R_alloc | apply Kd.R_drewN | apply Kd.R_drew)); exact HO_5.out, by (with_reducible repeat (first | apply Kd.V_alloc | apply Kd.V_drewN | apply Kd.V_drew)); exact HO623.out, by repeat (first | (with_reducible first | exact HB.out | apply below_alloc | apply pw_below_drewN | apply below_drew1) | exact HB.out)⟩
      ·
       rw [if_neg c6] at H
       exact absurd H (by simp)
     ·
      rw [if_neg c5] at H
      have c5b0 : ((rd x0_1 0) == 0) = false := beq_eq_false_iff_ne.mpr c5
      have c5b1 : ((rd x0_1 0) != 0) = true := bne_iff_ne.mpr c5
      by_cases c9 : (x5_1.length : Int) = 16
      ·
       rw [if_pos c9] at H
       have c9b0 : ((x5_1.length : Int) == 16) = true := beq_iff_eq.mpr c9
       have c9b1 : ((x5_1.length : Int) != 16) = false := bne_eq_false_iff_eq.mpr c9
       clear c9
       simp only [Option.some.injEq, Prod.mk.injEq] at H
       obtain ⟨rfl, rfl, rfl⟩ := H
       obtain ⟨Ao10, co10, eo10⟩ := Kd.V_slice HO_0.out
       subst eo10
       have p618 : 0 ≤ (0 : Int) := (by omega)
       have q618 : 0 < (x0_1.length : Int) := of_decide_eq_true (by first | (with_reducible assumption) | assumption)
       obtain ⟨ad618, e618, hx618_0⟩ := Kd.at_int (Kd.V_reads' HO_0.out).2.2 0 p618 q618
       cases e618
       have qi618 : (0 < x0_1.length) = True := eq_true (by omega)
       (try rw [show ((0 : Int)).toNat = 0 from rfl] at hx618_0)
       (try rw [Addr.add_zero'] at hx618_0)
       replace p618 := eq_true p618
       replace q618 := eq_true q618
       obtain ⟨Ao11, co11, eo11⟩ := Kd.R_slice HO_5.out
       subst eo11
       go_wp2
       repeat ((with_reducible refine at_region ?_); go_quiet (fail); try go_wp2)
       go_ret3
       exact ⟨_, _, by first | rfl | (simp [errW_none, errW_some] <;> rfl) | (simp [*, errW_none, errW_some] <;> rfl), by first | exact Kd.R_nil _ _ _ _ _ | exact Kd.N_nil _ _ _ _ _ | exact Kd.V_nil _ _ _ _ _ | exact Kd.Q_nil _ _ _ _ _ | exact Kd.S_nil _ _ _ _ _, Kd.V_nil _ _ _ _ _, by repeat (first | (with_reducible first | exact HB.out | apply below_alloc | apply pw_below_drewN | apply below_drew1) | exact HB.out)⟩
      ·
       rw [if_neg c9] at H
       have c9b0 : ((x5_1.length : Int) == 16) = false := beq_eq_false_iff_ne.mpr c9
       have c9b1 : ((x5_1.length : Int) != 16) = true := bne_iff_ne.mpr c9
       replace H := Option.bind_eq_some_iff.mp H
       obtain ⟨⟨t624, t625, t626, t627, t630⟩, A120, H⟩ := H
       replace H : (if t630 = 0 then (if x5_1.length < 4398046511104 then (rowcode_readRow.l0 k1 t627 (x5_1 ++ [(⟨t624, t625, t626⟩ : S42)])) else (none)) else (some (([] : List (S42)), ([] : List Int), t630))) = some (r1, r2, r3) := H
       have A12 := Aside0.mk A120
       clear A120
       by_cases c13 : t630 = 0
       ·
        rw [if_pos c13] at H
        have c13b0 : (t630 == 0) = true := beq_iff_eq.mpr c13
        have c13b1 : (t630 != 0) = false := bne_eq_false_iff_eq.mpr c13
        clear c13
        by_cases c14 : x5_1.length < 4398046511104
        ·
         rw [if_pos c14] at H
         have LMc14 := Aside0.mk c14
         clear c14
         obtain ⟨y632, hy632⟩ : ∃ y_ : List (S42), y_ = (x5_1 ++ [(⟨t624, t625, t626⟩ : S42)]) := ⟨_, rfl⟩
         replace H : (rowcode_readRow.l0 k1 t627 y632) = some (r1, r2, r3) := by first | (rw [hy632]; with_reducible exact H) | (have H2_ := (Option.bind_some _ _).symm.trans H; rw [hy632]; with_reducible exact H2_) | (have H2_ := (Option.bind_some _ _).symm.trans H; with_reducible exact H2_) | with_reducible exact H | (rw [hy632]; exact H) | exact H
         have Ny632 := Aside0.mk hy632
         clear hy632
         have H' := Aside0.mk H
         clear H
         obtain ⟨Ao15, co15, eo15⟩ := Kd.V_slice HO_0.out
         subst eo15
         have p618 : 0 ≤ (0 : Int) := (by omega)
         have q618 : 0 < (x0_1.length : Int) := of_decide_eq_true (by first | (with_reducible assumption) | assumption)
         obtain ⟨ad618, e618, hx618_0⟩ := Kd.at_int (Kd.V_reads' HO_0.out).2.2 0 p618 q618
         cases e618
         have qi618 : (0 < x0_1.length) = True := eq_true (by omega)
         (try rw [show ((0 : Int)).toNat = 0 from rfl] at hx618_0)
         (try rw [Addr.add_zero'] at hx618_0)
         replace p618 := eq_true p618
         replace q618 := eq_true q618
         obtain ⟨Ao16, co16, eo16⟩ := Kd.R_slice HO_5.out
         subst eo16
         go_wp2_with (first | (go_at_call 57; (with_reducible refine (rowcode_read.calls k1 (fun k_ => ((P0_ k_ ∨ w.heap.size ≤ k_) ∧ some k_ ≠ (.slice Ao16 x5_1.length co16 : Value).ownBlock)) _ _ x0_1 t624 t625 t626 t627 t630 _ ?side1 ?side2 A12.out).mono ?_); (case side1 => exact Tabs.below HT.out (by repeat (first | (with_reducible first | exact HB.out | apply below_alloc | apply pw_below_drewN | apply below_drew1) | exact HB.out))); (case side2 => exact HO_0.out); rintro e w17 ⟨v628, rfl, ho0, hb⟩; have n0_ := Aside0.mk (Kd.V_below (by (with_reducible repeat (first | apply Kd.V_alloc | apply Kd.V_drewN | apply Kd.V_drew)); exact HO_0.out) hb); have n1_ := Aside0.mk (Kd.R_below (by (with_reducible repeat (first | apply Kd.R_alloc | apply Kd.R_drewN | apply Kd.R_drew)); exact HO_5.out) hb); have n2_ := Aside0.mk (Kd.V_lower (Kd.V_mono (ok' := fun k_ => (P0_ k_ ∨ w.heap.size ≤ k_) ∧ some k_ ≠ (.slice Ao16 x5_1.length co16 : Value).ownBlock) ho0 (fun k_ hk_ => ⟨Or.elim hk_ (fun hs_ => hs_.1) (fun hn_ => (.inr (Nat.le_trans (below_size (by repeat (first | (with_reducible first | exact HB.out | apply below_alloc | apply pw_below_drewN | apply below_drew1) | exact HB.out))) hn_))), Or.elim hk_ (fun hs_ => hs_.2) (fun hn_ => (Kd.fresh' (Kd.R_lt (by (with_reducible repeat (first | apply Kd.R_alloc | apply Kd.R_drewN | apply Kd.R_drew)); exact HO_5.out)) k_ hn_))⟩)) (below_size (by repeat (first | (with_reducible first | exact HB.out | apply below_alloc | apply pw_below_drewN | apply below_drew1) | exact HB.out)))); have n3_ := Aside0.mk (below_step (by repeat (first | (with_reducible first | exact HB.out | apply below_alloc | apply pw_below_drewN | apply below_drew1) | exact HB.out)) hb); clear HO_0; clear HO_5; clear HB; have HO_0 := n0_; have HO_5 := n1_; have HO629 := n2_; have HB := n3_; clear n0_ n1_ n2_ n3_; (try clear hb); (try clear hb2); (try clear hk); (try clear hi); (try clear ho0)) | ((with_reducible refine gate_dst (N := 6) rfl ?_); refine box_event ?hg (N := 6) ?hd (cs := #[.int .i64 0, .int .i64 0, .string (⟨#[]⟩ : ByteArray)]) (t := 42) ?hr ?_; (case hd => rfl); (case hg => rfl); (case hr => first | (go_simp; done) | (go_simp; rfl)); intro gb631 hg w18 hbox hb; have n0_ := Aside0.mk (Kd.V_below (Kd.V_elderB (by (with_reducible repeat (first | apply Kd.V_alloc | apply Kd.V_drewN | apply Kd.V_drew)); exact HO_0.out) gb631 (Nat.le_of_eq hg.symm)) hb); have n1_ := Aside0.mk (Kd.R_below (Kd.R_elderB (by (with_reducible repeat (first | apply Kd.R_alloc | apply Kd.R_drewN | apply Kd.R_drew)); exact HO_5.out) gb631 (Nat.le_of_eq hg.symm)) hb); have n2_ := Aside0.mk (Kd.V_below (Kd.V_elderB (by (with_reducible repeat (first | apply Kd.V_alloc | apply Kd.V_drewN | apply Kd.V_drew)); exact HO629.out) gb631 (Nat.le_of_eq hg.symm)) hb); have n3_ := Aside0.mk (below_step (by repeat (first | (with_reducible first | exact HB.out | apply below_alloc | apply pw_below_drewN | apply below_drew1) | exact HB.out)) hb); have n4_ := Aside0.mk (hbox); have n5_ := Aside0.mk ((by rw [hg]; exact (below_size (by repeat (first | (with_reducible first | exact HB.out | apply below_alloc | apply pw_below_drewN | apply below_drew1) | exact HB.out))) : w.heap.size ≤ gb631)); have n6_ := Aside0.mk ((by rw [hg]; exact (below_size (by repeat (first | (with_reducible first | exact HB.out | apply below_alloc | apply pw_below_drewN | apply below_drew1) | exact HB.out))) : w.heap.size ≤ gb631)); clear HO_0; clear HO_5; clear HO629; clear HB; have HO_0 := n0_; have HO_5 := n1_; have HO629 := n2_; have HB := n3_; have BK631 := n4_; have GW631 := n5_; have GE631 := n6_; clear n0_ n1_ n2_ n3_ n4_ n5_ n6_; clear hb hbox hg; have hcz19_0 : w18.cell? ⟨gb631, 0, none⟩ = some (.int .i64 0) := (blk_cell BK631.out 0).trans rfl; have hcz19_1 : w18.cell? ⟨gb631, 1, none⟩ = some (.int .i64 0) := (blk_cell BK631.out 1).trans rfl; have hcz19_2 : w18.cell? ⟨gb631, 2, none⟩ = some (.string (⟨#[]⟩ : ByteArray)) := (blk_cell BK631.out 2).trans rfl; have hfz19_0 := blk_frozen BK631.out 0; have hfz19_1 := blk_frozen BK631.out 1; have hfz19_2 := blk_frozen BK631.out 2) | ((with_reducible refine gate_builtin (b := .append) (xs := #[.tmp 31, .tmp 33]) rfl ?_); at_builtin; refine Kd.R_append k42 (w0 := w) w.heap.size rfl (.tmp 31) (.tmp 33) 33 42 (.agg #[(.int .i64 0), (.int .i64 0), (.string ⟨#[]⟩)]) 32 rfl Tryd.underlying33 info42 rfl (by decide) (by omega) (.slice Ao16 x5_1.length co16) x5_1 (⟨t624, t625, t626⟩ : S42) [.int .i64 t624, .int .i64 t625, .string t626] (fun k_ => (w.heap.size ≤ k_) ∧ k_ ≠ gb631) (fun _ => False) rfl (by first | (go_simp; done) | (go_simp; rfl)) ?aP (fun _ hk => hk.elim) ?aF ?aO ?aB ?aS ?aL ?_; (case aP => exact k42_mkM _ _ _ (⟨t624, t625, t626⟩ : S42)); (case aB => exact (by repeat (first | (with_reducible first | exact HB.out | apply below_alloc | apply pw_below_drewN | apply below_drew1 | refine below_set ?_ GE631.out) | exact HB.out))); (case aF => exact (fun k_ hk => ⟨(Nat.le_trans (below_size (by repeat (first | (with_reducible first | exact HB.out | apply below_alloc | apply pw_below_drewN | apply below_drew1 | refine below_set ?_ GE631.out) | exact HB.out))) hk), Kd.freshB (g := gb631) (o := .cells #[.int .i64 t624, .int .i64 t625, .string t626] 42 (0, 0)) (by (with_reducible repeat (first | refine blk_drewN ?_ _ | refine blk_drew ?_ | refine blk_alloc ?_ _)); refine blk_put (cs := #[.int .i64 t624, .int .i64 t625, .string (⟨#[]⟩ : ByteArray)]) ?_ 2 _ rfl; (with_reducible repeat (first | refine blk_drewN ?_ _ | refine blk_drew ?_ | refine blk_alloc ?_ _)); refine blk_put (cs := #[.int .i64 t624, .int .i64 0, .string (⟨#[]⟩ : ByteArray)]) ?_ 1 _ rfl; (with_reducible repeat (first | refine blk_drewN ?_ _ | refine blk_drew ?_ | refine blk_alloc ?_ _)); refine blk_put (cs := #[.int .i64 0, .int .i64 0, .string (⟨#[]⟩ : ByteArray)]) ?_ 0 _ rfl; (with_reducible repeat (first | refine blk_drewN ?_ _ | refine blk_drew ?_ | refine blk_alloc ?_ _)); exact BK631.out) k_ hk⟩)); (case aO => exact (by (with_reducible repeat (first | apply Kd.R_alloc | apply Kd.R_drewN | apply Kd.R_drew)); exact Kd.R_mono (Kd.R_far (p := ⟨gb631, 2, none⟩) (Kd.R_far (p := ⟨gb631, 1, none⟩) (Kd.R_far (p := ⟨gb631, 0, none⟩) (Kd.R_mono HO_5.out (fun k_ hk => (⟨hk, hk.2⟩ : _ ∧ k_ ≠ gb631))) (fun _ hk => hk.2) (.int .i64 t624)) (fun _ hk => hk.2) (.int .i64 t625)) (fun _ hk => hk.2) (.string t626)) (fun _ hk => ⟨hk.1.1, hk.1.2⟩))); (case aS => exact (below_size (by repeat (first | (with_reducible first | exact HB.out | apply below_alloc | apply pw_below_drewN | apply below_drew1 | refine below_set ?_ GE631.out) | exact HB.out)))); (case aL => have := LMc14.out; omega); intro v633 w20 ho hb hg hat; rw [← Ny632.out] at ho; have n0_ := Aside0.mk (Kd.V_afterv (ok := (fun k_ => (P0_ k_ ∨ w.heap.size ≤ k_) ∧ k_ ≠ gb631)) (by (with_reducible repeat (first | apply Kd.V_alloc | apply Kd.V_drewN | apply Kd.V_drew)); exact Kd.V_mono (Kd.V_far (p := ⟨gb631, 2, none⟩) (Kd.V_far (p := ⟨gb631, 1, none⟩) (Kd.V_far (p := ⟨gb631, 0, none⟩) (Kd.V_mono HO_0.out (fun k_ hk => (⟨hk, hk.2⟩ : _ ∧ k_ ≠ gb631))) (fun _ hk => hk.2) (.int .i64 t624)) (fun _ hk => hk.2) (.int .i64 t625)) (fun _ hk => hk.2) (.string t626)) (fun _ hk => ⟨⟨hk.1.1.1, hk.1.2⟩, hk.1.1.2⟩)) hg hat); have n1_ := Aside0.mk (Kd.V_afterv (ok := (fun k_ => (P0_ k_ ∨ w.heap.size ≤ k_) ∧ k_ ≠ gb631)) (by (with_reducible repeat (first | apply Kd.V_alloc | apply Kd.V_drewN | apply Kd.V_drew)); exact Kd.V_mono (Kd.V_far (p := ⟨gb631, 2, none⟩) (Kd.V_far (p := ⟨gb631, 1, none⟩) (Kd.V_far (p := ⟨gb631, 0, none⟩) (Kd.V_mono HO629.out (fun k_ hk => (⟨hk, hk.2⟩ : _ ∧ k_ ≠ gb631))) (fun _ hk => hk.2) (.int .i64 t624)) (fun _ hk => hk.2) (.int .i64 t625)) (fun _ hk => hk.2) (.string t626)) (fun _ hk => ⟨⟨hk.1.1.1, hk.1.2⟩, hk.1.1.2⟩)) hg hat); have n2_ := Aside0.mk (blk_grown (g := gb631) (o := .cells #[.int .i64 t624, .int .i64 t625, .string t626] 42 (0, 0)) (by (with_reducible repeat (first | refine blk_drewN ?_ _ | refine blk_drew ?_ | refine blk_alloc ?_ _)); refine blk_put (cs := #[.int .i64 t624, .int .i64 t625, .string (⟨#[]⟩ : ByteArray)]) ?_ 2 _ rfl; (with_reducible repeat (first | refine blk_drewN ?_ _ | refine blk_drew ?_ | refine blk_alloc ?_ _)); refine blk_put (cs := #[.int .i64 t624, .int .i64 0, .string (⟨#[]⟩ : ByteArray)]) ?_ 1 _ rfl; (with_reducible repeat (first | refine blk_drewN ?_ _ | refine blk_drew ?_ | refine blk_alloc ?_ _)); refine blk_put (cs := #[.int .i64 0, .int .i64 0, .string (⟨#[]⟩ : ByteArray)]) ?_ 0 _ rfl; (with_reducible repeat (first | refine blk_drewN ?_ _ | refine blk_drew ?_ | refine blk_alloc ?_ _)); exact BK631.out) hg (Kd.R_away HO_5.out (fun _ hk => hk.2))); have n3_ := Aside0.mk (hb); have n4_ := Aside0.mk (ho); clear HO_0; clear HO629; clear BK631; clear HB; clear HO_5; have HO_0 := n0_; have HO629 := n1_; have BK631 := n2_; have HB := n3_; have HO634 := n4_; clear n0_ n1_ n2_ n3_ n4_; clear ho hb hg hat))
         repeat ((with_reducible refine at_region ?_); go_quiet (first | (go_at_call 57; (with_reducible refine (rowcode_read.calls k1 (fun k_ => ((P0_ k_ ∨ w.heap.size ≤ k_) ∧ some k_ ≠ (.slice Ao16 x5_1.length co16 : Value).ownBlock)) _ _ x0_1 t624 t625 t626 t627 t630 _ ?side1 ?side2 A12.out).mono ?_); (case side1 => exact Tabs.below HT.out (by repeat (first | (with_reducible first | exact HB.out | apply below_alloc | apply pw_below_drewN | apply below_drew1) | exact HB.out))); (case side2 => exact HO_0.out); rintro e w17 ⟨v628, rfl, ho0, hb⟩; have n0_ := Aside0.mk (Kd.V_below (by (with_reducible repeat (first | apply Kd.V_alloc | apply Kd.V_drewN | apply Kd.V_drew)); exact HO_0.out) hb); have n1_ := Aside0.mk (Kd.R_below (by (with_reducible repeat (first | apply Kd.R_alloc | apply Kd.R_drewN | apply Kd.R_drew)); exact HO_5.out) hb); have n2_ := Aside0.mk (Kd.V_lower (Kd.V_mono (ok' := fun k_ => (P0_ k_ ∨ w.heap.size ≤ k_) ∧ some k_ ≠ (.slice Ao16 x5_1.length co16 : Value).ownBlock) ho0 (fun k_ hk_ => ⟨Or.elim hk_ (fun hs_ => hs_.1) (fun hn_ => (.inr (Nat.le_trans (below_size (by repeat (first | (with_reducible first | exact HB.out | apply below_alloc | apply pw_below_drewN | apply below_drew1) | exact HB.out))) hn_))), Or.elim hk_ (fun hs_ => hs_.2) (fun hn_ => (Kd.fresh' (Kd.R_lt (by (with_reducible repeat (first | apply Kd.R_alloc | apply Kd.R_drewN | apply Kd.R_drew)); exact HO_5.out)) k_ hn_))⟩)) (below_size (by repeat (first | (with_reducible first | exact HB.out | apply below_alloc | apply pw_below_drewN | apply below_drew1) | exact HB.out)))); have n3_ := Aside0.mk (below_step (by repeat (first | (with_reducible first | exact HB.out | apply below_alloc | apply pw_below_drewN | apply below_drew1) | exact HB.out)) hb); clear HO_0; clear HO_5; clear HB; have HO_0 := n0_; have HO_5 := n1_; have HO629 := n2_; have HB := n3_; clear n0_ n1_ n2_ n3_; (try clear hb); (try clear hb2); (try clear hk); (try clear hi); (try clear ho0)) | ((with_reducible refine gate_dst (N := 6) rfl ?_); refine box_event ?hg (N := 6) ?hd (cs := #[.int .i64 0, .int .i64 0, .string (⟨#[]⟩ : ByteArray)]) (t := 42) ?hr ?_; (case hd => rfl); (case hg => rfl); (case hr => first | (go_simp; done) | (go_simp; rfl)); intro gb631 hg w18 hbox hb; have n0_ := Aside0.mk (Kd.V_below (Kd.V_elderB (by (with_reducible repeat (first | apply Kd.V_alloc | apply Kd.V_drewN | apply Kd.V_drew)); exact HO_0.out) gb631 (Nat.le_of_eq hg.symm)) hb); have n1_ := Aside0.mk (Kd.R_below (Kd.R_elderB (by (with_reducible repeat (first | apply Kd.R_alloc | apply Kd.R_drewN | apply Kd.R_drew)); exact HO_5.out) gb631 (Nat.le_of_eq hg.symm)) hb); have n2_ := Aside0.mk (Kd.V_below (Kd.V_elderB (by (with_reducible repeat (first | apply Kd.V_alloc | apply Kd.V_drewN | apply Kd.V_drew)); exact HO629.out) gb631 (Nat.le_of_eq hg.symm)) hb); have n3_ := Aside0.mk (below_step (by repeat (first | (with_reducible first | exact HB.out | apply below_alloc | apply pw_below_drewN | apply below_drew1) | exact HB.out)) hb); have n4_ := Aside0.mk (hbox); have n5_ := Aside0.mk ((by rw [hg]; exact (below_size (by repeat (first | (with_reducible first | exact HB.out | apply below_alloc | apply pw_below_drewN | apply below_drew1) | exact HB.out))) : w.heap.size ≤ gb631)); have n6_ := Aside0.mk ((by rw [hg]; exact (below_size (by repeat (first | (with_reducible first | exact HB.out | apply below_alloc | apply pw_below_drewN | apply below_drew1) | exact HB.out))) : w.heap.size ≤ gb631)); clear HO_0; clear HO_5; clear HO629; clear HB; have HO_0 := n0_; have HO_5 := n1_; have HO629 := n2_; have HB := n3_; have BK631 := n4_; have GW631 := n5_; have GE631 := n6_; clear n0_ n1_ n2_ n3_ n4_ n5_ n6_; clear hb hbox hg; have hcz19_0 : w18.cell? ⟨gb631, 0, none⟩ = some (.int .i64 0) := (blk_cell BK631.out 0).trans rfl; have hcz19_1 : w18.cell? ⟨gb631, 1, none⟩ = some (.int .i64 0) := (blk_cell BK631.out 1).trans rfl; have hcz19_2 : w18.cell? ⟨gb631, 2, none⟩ = some (.string (⟨#[]⟩ : ByteArray)) := (blk_cell BK631.out 2).trans rfl; have hfz19_0 := blk_frozen BK631.out 0; have hfz19_1 := blk_frozen BK631.out 1; have hfz19_2 := blk_frozen BK631.out 2) | ((with_reducible refine gate_builtin (b := .append) (xs := #[.tmp 31, .tmp 33]) rfl ?_); at_builtin; refine Kd.R_append k42 (w0 := w) w.heap.size rfl (.tmp 31) (.tmp 33) 33 42 (.agg #[(.int .i64 0), (.int .i64 0), (.string ⟨#[]⟩)]) 32 rfl Tryd.underlying33 info42 rfl (by decide) (by omega) (.slice Ao16 x5_1.length co16) x5_1 (⟨t624, t625, t626⟩ : S42) [.int .i64 t624, .int .i64 t625, .string t626] (fun k_ => (w.heap.size ≤ k_) ∧ k_ ≠ gb631) (fun _ => False) rfl (by first | (go_simp; done) | (go_simp; rfl)) ?aP (fun _ hk => hk.elim) ?aF ?aO ?aB ?aS ?aL ?_; (case aP => exact k42_mkM _ _ _ (⟨t624, t625, t626⟩ : S42)); (case aB => exact (by repeat (first | (with_reducible first | exact HB.out | apply below_alloc | apply pw_below_drewN | apply below_drew1 | refine below_set ?_ GE631.out) | exact HB.out))); (case aF => exact (fun k_ hk => ⟨(Nat.le_trans (below_size (by repeat (first | (with_reducible first | exact HB.out | apply below_alloc | apply pw_below_drewN | apply below_drew1 | refine below_set ?_ GE631.out) | exact HB.out))) hk), Kd.freshB (g := gb631) (o := .cells #[.int .i64 t624, .int .i64 t625, .string t626] 42 (0, 0)) (by (with_reducible repeat (first | refine blk_drewN ?_ _ | refine blk_drew ?_ | refine blk_alloc ?_ _)); refine blk_put (cs := #[.int .i64 t624, .int .i64 t625, .string (⟨#[]⟩ : ByteArray)]) ?_ 2 _ rfl; (with_reducible repeat (first | refine blk_drewN ?_ _ | refine blk_drew ?_ | refine blk_alloc ?_ _)); refine blk_put (cs := #[.int .i64 t624, .int .i64 0, .string (⟨#[]⟩ : ByteArray)]) ?_ 1 _ rfl; (with_reducible repeat (first | refine blk_drewN ?_ _ | refine blk_drew ?_ | refine blk_alloc ?_ _)); refine blk_put (cs := #[.int .i64 0, .int .i64 0, .string (⟨#[]⟩ : ByteArray)]) ?_ 0 _ rfl; (with_reducible repeat (first | refine blk_drewN ?_ _ | refine blk_drew ?_ | refine blk_alloc ?_ _)); exact BK631.out) k_ hk⟩)); (case aO => exact (by (with_reducible repeat (first | apply Kd.R_alloc | apply Kd.R_drewN | apply Kd.R_drew)); exact Kd.R_mono (Kd.R_far (p := ⟨gb631, 2, none⟩) (Kd.R_far (p := ⟨gb631, 1, none⟩) (Kd.R_far (p := ⟨gb631, 0, none⟩) (Kd.R_mono HO_5.out (fun k_ hk => (⟨hk, hk.2⟩ : _ ∧ k_ ≠ gb631))) (fun _ hk => hk.2) (.int .i64 t624)) (fun _ hk => hk.2) (.int .i64 t625)) (fun _ hk => hk.2) (.string t626)) (fun _ hk => ⟨hk.1.1, hk.1.2⟩))); (case aS => exact (below_size (by repeat (first | (with_reducible first | exact HB.out | apply below_alloc | apply pw_below_drewN | apply below_drew1 | refine below_set ?_ GE631.out) | exact HB.out)))); (case aL => have := LMc14.out; omega); intro v633 w20 ho hb hg hat; rw [← Ny632.out] at ho; have n0_ := Aside0.mk (Kd.V_afterv (ok := (fun k_ => (P0_ k_ ∨ w.heap.size ≤ k_) ∧ k_ ≠ gb631)) (by (with_reducible repeat (first | apply Kd.V_alloc | apply Kd.V_drewN | apply Kd.V_drew)); exact Kd.V_mono (Kd.V_far (p := ⟨gb631, 2, none⟩) (Kd.V_far (p := ⟨gb631, 1, none⟩) (Kd.V_far (p := ⟨gb631, 0, none⟩) (Kd.V_mono HO_0.out (fun k_ hk => (⟨hk, hk.2⟩ : _ ∧ k_ ≠ gb631))) (fun _ hk => hk.2) (.int .i64 t624)) (fun _ hk => hk.2) (.int .i64 t625)) (fun _ hk => hk.2) (.string t626)) (fun _ hk => ⟨⟨hk.1.1.1, hk.1.2⟩, hk.1.1.2⟩)) hg hat); have n1_ := Aside0.mk (Kd.V_afterv (ok := (fun k_ => (P0_ k_ ∨ w.heap.size ≤ k_) ∧ k_ ≠ gb631)) (by (with_reducible repeat (first | apply Kd.V_alloc | apply Kd.V_drewN | apply Kd.V_drew)); exact Kd.V_mono (Kd.V_far (p := ⟨gb631, 2, none⟩) (Kd.V_far (p := ⟨gb631, 1, none⟩) (Kd.V_far (p := ⟨gb631, 0, none⟩) (Kd.V_mono HO629.out (fun k_ hk => (⟨hk, hk.2⟩ : _ ∧ k_ ≠ gb631))) (fun _ hk => hk.2) (.int .i64 t624)) (fun _ hk => hk.2) (.int .i64 t625)) (fun _ hk => hk.2) (.string t626)) (fun _ hk => ⟨⟨hk.1.1.1, hk.1.2⟩, hk.1.1.2⟩)) hg hat); have n2_ := Aside0.mk (blk_grown (g := gb631) (o := .cells #[.int .i64 t624, .int .i64 t625, .string t626] 42 (0, 0)) (by (with_reducible repeat (first | refine blk_drewN ?_ _ | refine blk_drew ?_ | refine blk_alloc ?_ _)); refine blk_put (cs := #[.int .i64 t624, .int .i64 t625, .string (⟨#[]⟩ : ByteArray)]) ?_ 2 _ rfl; (with_reducible repeat (first | refine blk_drewN ?_ _ | refine blk_drew ?_ | refine blk_alloc ?_ _)); refine blk_put (cs := #[.int .i64 t624, .int .i64 0, .string (⟨#[]⟩ : ByteArray)]) ?_ 1 _ rfl; (with_reducible repeat (first | refine blk_drewN ?_ _ | refine blk_drew ?_ | refine blk_alloc ?_ _)); refine blk_put (cs := #[.int .i64 0, .int .i64 0, .string (⟨#[]⟩ : ByteArray)]) ?_ 0 _ rfl; (with_reducible repeat (first | refine blk_drewN ?_ _ | refine blk_drew ?_ | refine blk_alloc ?_ _)); exact BK631.out) hg (Kd.R_away HO_5.out (fun _ hk => hk.2))); have n3_ := Aside0.mk (hb); have n4_ := Aside0.mk (ho); clear HO_0; clear HO629; clear BK631; clear HB; clear HO_5; have HO_0 := n0_; have HO629 := n1_; have BK631 := n2_; have HB := n3_; have HO634 := n4_; clear n0_ n1_ n2_ n3_ n4_; clear ho hb hg hat)); try go_wp2_with (first | (go_at_call 57; (with_reducible refine (rowcode_read.calls k1 (fun k_ => ((P0_ k_ ∨ w.heap.size ≤ k_) ∧ some k_ ≠ (.slice Ao16 x5_1.length co16 : Value).ownBlock)) _ _ x0_1 t624 t625 t626 t627 t630 _ ?side1 ?side2 A12.out).mono ?_); (case side1 => exact Tabs.below HT.out (by repeat (first | (with_reducible first | exact HB.out | apply below_alloc | apply pw_below_drewN | apply below_drew1) | exact HB.out))); (case side2 => exact HO_0.out); rintro e w17 ⟨v628, rfl, ho0, hb⟩; have n0_ := Aside0.mk (Kd.V_below (by (with_reducible repeat (first | apply Kd.V_alloc | apply Kd.V_drewN | apply Kd.V_drew)); exact HO_0.out) hb); have n1_ := Aside0.mk (Kd.R_below (by (with_reducible repeat (first | apply Kd.R_alloc | apply Kd.R_drewN | apply Kd.R_drew)); exact HO_5.out) hb); have n2_ := Aside0.mk (Kd.V_lower (Kd.V_mono (ok' := fun k_ => (P0_ k_ ∨ w.heap.size ≤ k_) ∧ some k_ ≠ (.slice Ao16 x5_1.length co16 : Value).ownBlock) ho0 (fun k_ hk_ => ⟨Or.elim hk_ (fun hs_ => hs_.1) (fun hn_ => (.inr (Nat.le_trans (below_size (by repeat (first | (with_reducible first | exact HB.out | apply below_alloc | apply pw_below_drewN | apply below_drew1) | exact HB.out))) hn_))), Or.elim hk_ (fun hs_ => hs_.2) (fun hn_ => (Kd.fresh' (Kd.R_lt (by (with_reducible repeat (first | apply Kd.R_alloc | apply Kd.R_drewN | apply Kd.R_drew)); exact HO_5.out)) k_ hn_))⟩)) (below_size (by repeat (first | (with_reducible first | exact HB.out | apply below_alloc | apply pw_below_drewN | apply below_drew1) | exact HB.out)))); have n3_ := Aside0.mk (below_step (by repeat (first | (with_reducible first | exact HB.out | apply below_alloc | apply pw_below_drewN | apply below_drew1) | exact HB.out)) hb); clear HO_0; clear HO_5; clear HB; have HO_0 := n0_; have HO_5 := n1_; have HO629 := n2_; have HB := n3_; clear n0_ n1_ n2_ n3_; (try clear hb); (try clear hb2); (try clear hk); (try clear hi); (try clear ho0)) | ((with_reducible refine gate_dst (N := 6) rfl ?_); refine box_event ?hg (N := 6) ?hd (cs := #[.int .i64 0, .int .i64 0, .string (⟨#[]⟩ : ByteArray)]) (t := 42) ?hr ?_; (case hd => rfl); (case hg => rfl); (case hr => first | (go_simp; done) | (go_simp; rfl)); intro gb631 hg w18 hbox hb; have n0_ := Aside0.mk (Kd.V_below (Kd.V_elderB (by (with_reducible repeat (first | apply Kd.V_alloc | apply Kd.V_drewN | apply Kd.V_drew)); exact HO_0.out) gb631 (Nat.le_of_eq hg.symm)) hb); have n1_ := Aside0.mk (Kd.R_below (Kd.R_elderB (by (with_reducible repeat (first | apply Kd.R_alloc | apply Kd.R_drewN | apply Kd.R_drew)); exact HO_5.out) gb631 (Nat.le_of_eq hg.symm)) hb); have n2_ := Aside0.mk (Kd.V_below (Kd.V_elderB (by (with_reducible repeat (first | apply Kd.V_alloc | apply Kd.V_drewN | apply Kd.V_drew)); exact HO629.out) gb631 (Nat.le_of_eq hg.symm)) hb); have n3_ := Aside0.mk (below_step (by repeat (first | (with_reducible first | exact HB.out | apply below_alloc | apply pw_below_drewN | apply below_drew1) | exact HB.out)) hb); have n4_ := Aside0.mk (hbox); have n5_ := Aside0.mk ((by rw [hg]; exact (below_size (by repeat (first | (with_reducible first | exact HB.out | apply below_alloc | apply pw_below_drewN | apply below_drew1) | exact HB.out))) : w.heap.size ≤ gb631)); have n6_ := Aside0.mk ((by rw [hg]; exact (below_size (by repeat (first | (with_reducible first | exact HB.out | apply below_alloc | apply pw_below_drewN | apply below_drew1) | exact HB.out))) : w.heap.size ≤ gb631)); clear HO_0; clear HO_5; clear HO629; clear HB; have HO_0 := n0_; have HO_5 := n1_; have HO629 := n2_; have HB := n3_; have BK631 := n4_; have GW631 := n5_; have GE631 := n6_; clear n0_ n1_ n2_ n3_ n4_ n5_ n6_; clear hb hbox hg; have hcz19_0 : w18.cell? ⟨gb631, 0, none⟩ = some (.int .i64 0) := (blk_cell BK631.out 0).trans rfl; have hcz19_1 : w18.cell? ⟨gb631, 1, none⟩ = some (.int .i64 0) := (blk_cell BK631.out 1).trans rfl; have hcz19_2 : w18.cell? ⟨gb631, 2, none⟩ = some (.string (⟨#[]⟩ : ByteArray)) := (blk_cell BK631.out 2).trans rfl; have hfz19_0 := blk_frozen BK631.out 0; have hfz19_1 := blk_frozen BK631.out 1; have hfz19_2 := blk_frozen BK631.out 2) | ((with_reducible refine gate_builtin (b := .append) (xs := #[.tmp 31, .tmp 33]) rfl ?_); at_builtin; refine Kd.R_append k42 (w0 := w) w.heap.size rfl (.tmp 31) (.tmp 33) 33 42 (.agg #[(.int .i64 0), (.int .i64 0), (.string ⟨#[]⟩)]) 32 rfl Tryd.underlying33 info42 rfl (by decide) (by omega) (.slice Ao16 x5_1.length co16) x5_1 (⟨t624, t625, t626⟩ : S42) [.int .i64 t624, .int .i64 t625, .string t626] (fun k_ => (w.heap.size ≤ k_) ∧ k_ ≠ gb631) (fun _ => False) rfl (by first | (go_simp; done) | (go_simp; rfl)) ?aP (fun _ hk => hk.elim) ?aF ?aO ?aB ?aS ?aL ?_; (case aP => exact k42_mkM _ _ _ (⟨t624, t625, t626⟩ : S42)); (case aB => exact (by repeat (first | (with_reducible first | exact HB.out | apply below_alloc | apply pw_below_drewN | apply below_drew1 | refine below_set ?_ GE631.out) | exact HB.out))); (case aF => exact (fun k_ hk => ⟨(Nat.le_trans (below_size (by repeat (first | (with_reducible first | exact HB.out | apply below_alloc | apply pw_below_drewN | apply below_drew1 | refine below_set ?_ GE631.out) | exact HB.out))) hk), Kd.freshB (g := gb631) (o := .cells #[.int .i64 t624, .int .i64 t625, .string t626] 42 (0, 0)) (by (with_reducible repeat (first | refine blk_drewN ?_ _ | refine blk_drew ?_ | refine blk_alloc ?_ _)); refine blk_put (cs := #[.int .i64 t624, .int .i64 t625, .string (⟨#[]⟩ : ByteArray)]) ?_ 2 _ rfl; (with_reducible repeat (first | refine blk_drewN ?_ _ | refine blk_drew ?_ | refine blk_alloc ?_ _)); refine blk_put (cs := #[.int .i64 t624, .int .i64 0, .string (⟨#[]⟩ : ByteArray)]) ?_ 1 _ rfl; (with_reducible repeat (first | refine blk_drewN ?_ _ | refine blk_drew ?_ | refine blk_alloc ?_ _)); refine blk_put (cs := #[.int .i64 0, .int .i64 0, .string (⟨#[]⟩ : ByteArray)]) ?_ 0 _ rfl; (with_reducible repeat (first | refine blk_drewN ?_ _ | refine blk_drew ?_ | refine blk_alloc ?_ _)); exact BK631.out) k_ hk⟩)); (case aO => exact (by (with_reducible repeat (first | apply Kd.R_alloc | apply Kd.R_drewN | apply Kd.R_drew)); exact Kd.R_mono (Kd.R_far (p := ⟨gb631, 2, none⟩) (Kd.R_far (p := ⟨gb631, 1, none⟩) (Kd.R_far (p := ⟨gb631, 0, none⟩) (Kd.R_mono HO_5.out (fun k_ hk => (⟨hk, hk.2⟩ : _ ∧ k_ ≠ gb631))) (fun _ hk => hk.2) (.int .i64 t624)) (fun _ hk => hk.2) (.int .i64 t625)) (fun _ hk => hk.2) (.string t626)) (fun _ hk => ⟨hk.1.1, hk.1.2⟩))); (case aS => exact (below_size (by repeat (first | (with_reducible first | exact HB.out | apply below_alloc | apply pw_below_drewN | apply below_drew1 | refine below_set ?_ GE631.out) | exact HB.out)))); (case aL => have := LMc14.out; omega); intro v633 w20 ho hb hg hat; rw [← Ny632.out] at ho; have n0_ := Aside0.mk (Kd.V_afterv (ok := (fun k_ => (P0_ k_ ∨ w.heap.size ≤ k_) ∧ k_ ≠ gb631)) (by (with_reducible repeat (first | apply Kd.V_alloc | apply Kd.V_drewN | apply Kd.V_drew)); exact Kd.V_mono (Kd.V_far (p := ⟨gb631, 2, none⟩) (Kd.V_far (p := ⟨gb631, 1, none⟩) (Kd.V_far (p := ⟨gb631, 0, none⟩) (Kd.V_mono HO_0.out (fun k_ hk => (⟨hk, hk.2⟩ : _ ∧ k_ ≠ gb631))) (fun _ hk => hk.2) (.int .i64 t624)) (fun _ hk => hk.2) (.int .i64 t625)) (fun _ hk => hk.2) (.string t626)) (fun _ hk => ⟨⟨hk.1.1.1, hk.1.2⟩, hk.1.1.2⟩)) hg hat); have n1_ := Aside0.mk (Kd.V_afterv (ok := (fun k_ => (P0_ k_ ∨ w.heap.size ≤ k_) ∧ k_ ≠ gb631)) (by (with_reducible repeat (first | apply Kd.V_alloc | apply Kd.V_drewN | apply Kd.V_drew)); exact Kd.V_mono (Kd.V_far (p := ⟨gb631, 2, none⟩) (Kd.V_far (p := ⟨gb631, 1, none⟩) (Kd.V_far (p := ⟨gb631, 0, none⟩) (Kd.V_mono HO629.out (fun k_ hk => (⟨hk, hk.2⟩ : _ ∧ k_ ≠ gb631))) (fun _ hk => hk.2) (.int .i64 t624)) (fun _ hk => hk.2) (.int .i64 t625)) (fun _ hk => hk.2) (.string t626)) (fun _ hk => ⟨⟨hk.1.1.1, hk.1.2⟩, hk.1.1.2⟩)) hg hat); have n2_ := Aside0.mk (blk_grown (g := gb631) (o := .cells #[.int .i64 t624, .int .i64 t625, .string t626] 42 (0, 0)) (by (with_reducible repeat (first | refine blk_drewN ?_ _ | refine blk_drew ?_ | refine blk_alloc ?_ _)); refine blk_put (cs := #[.int .i64 t624, .int .i64 t625, .string (⟨#[]⟩ : ByteArray)]) ?_ 2 _ rfl; (with_reducible repeat (first | refine blk_drewN ?_ _ | refine blk_drew ?_ | refine blk_alloc ?_ _)); refine blk_put (cs := #[.int .i64 t624, .int .i64 0, .string (⟨#[]⟩ : ByteArray)]) ?_ 1 _ rfl; (with_reducible repeat (first | refine blk_drewN ?_ _ | refine blk_drew ?_ | refine blk_alloc ?_ _)); refine blk_put (cs := #[.int .i64 0, .int .i64 0, .string (⟨#[]⟩ : ByteArray)]) ?_ 0 _ rfl; (with_reducible repeat (first | refine blk_drewN ?_ _ | refine blk_drew ?_ | refine blk_alloc ?_ _)); exact BK631.out) hg (Kd.R_away HO_5.out (fun _ hk => hk.2))); have n3_ := Aside0.mk (hb); have n4_ := Aside0.mk (ho); clear HO_0; clear HO629; clear BK631; clear HB; clear HO_5; have HO_0 := n0_; have HO629 := n1_; have BK631 := n2_; have HB := n3_; have HO634 := n4_; clear n0_ n1_ n2_ n3_ n4_; clear ho hb hg hat)))
         go_roundg k1
         case measure => have := HK1.out; omega
         case rel => exact ⟨(t627), (y632), H', ⟨by have := HK1.out; omega⟩, ⟨by (with_reducible repeat (first | apply Kd.V_alloc | apply Kd.V_drewN | apply Kd.V_drew)); exact Kd.V_mono HO629.out (fun _ hk => ⟨hk.1.1, hk.2⟩)⟩, ⟨by (with_reducible repeat (first | apply Kd.R_alloc | apply Kd.R_drewN | apply Kd.R_drew)); exact Kd.R_mono HO634.out (fun _ hk => hk.1)⟩, ⟨by repeat (first | (with_reducible first | exact HB.out | apply below_alloc | apply pw_below_drewN | apply below_drew1 | refine below_set ?_ GE631.out) | exact HB.out)⟩⟩
        ·
         rw [if_neg c14] at H
         exact absurd H (by simp)
       ·
        rw [if_neg c13] at H
        have c13b0 : (t630 == 0) = false := beq_eq_false_iff_ne.mpr c13
        have c13b1 : (t630 != 0) = true := bne_iff_ne.mpr c13
        simp only [Option.some.injEq, Prod.mk.injEq] at H
        obtain ⟨rfl, rfl, rfl⟩ := H
        obtain ⟨Ao21, co21, eo21⟩ := Kd.V_slice HO_0.out
        subst eo21
        have p618 : 0 ≤ (0 : Int) := (by omega)
        have q618 : 0 < (x0_1.length : Int) := of_decide_eq_true (by first | (with_reducible assumption) | assumption)
        obtain ⟨ad618, e618, hx618_0⟩ := Kd.at_int (Kd.V_reads' HO_0.out).2.2 0 p618 q618
        cases e618
        have qi618 : (0 < x0_1.length) = True := eq_true (by omega)
        (try rw [show ((0 : Int)).toNat = 0 from rfl] at hx618_0)
        (try rw [Addr.add_zero'] at hx618_0)
        replace p618 := eq_true p618
        replace q618 := eq_true q618
        obtain ⟨Ao22, co22, eo22⟩ := Kd.R_slice HO_5.out
        subst eo22
        go_wp2_with (first | (go_at_call 57; (with_reducible refine (rowcode_read.calls k1 (fun k_ => ((P0_ k_ ∨ w.heap.size ≤ k_) ∧ some k_ ≠ (.slice Ao22 x5_1.length co22 : Value).ownBlock)) _ _ x0_1 t624 t625 t626 t627 t630 _ ?side1 ?side2 A12.out).mono ?_); (case side1 => exact Tabs.below HT.out (by repeat (first | (with_reducible first | exact HB.out | apply below_alloc | apply pw_below_drewN | apply below_drew1) | exact HB.out))); (case side2 => exact HO_0.out); rintro e w23 ⟨v628, rfl, ho0, hb⟩; have n0_ := Aside0.mk (Kd.V_below (by (with_reducible repeat (first | apply Kd.V_alloc | apply Kd.V_drewN | apply Kd.V_drew)); exact HO_0.out) hb); have n1_ := Aside0.mk (Kd.R_below (by (with_reducible repeat (first | apply Kd.R_alloc | apply Kd.R_drewN | apply Kd.R_drew)); exact HO_5.out) hb); have n2_ := Aside0.mk (Kd.V_lower (Kd.V_mono (ok' := fun k_ => (P0_ k_ ∨ w.heap.size ≤ k_) ∧ some k_ ≠ (.slice Ao22 x5_1.length co22 : Value).ownBlock) ho0 (fun k_ hk_ => ⟨Or.elim hk_ (fun hs_ => hs_.1) (fun hn_ => (.inr (Nat.le_trans (below_size (by repeat (first | (with_reducible first | exact HB.out | apply below_alloc | apply pw_below_drewN | apply below_drew1) | exact HB.out))) hn_))), Or.elim hk_ (fun hs_ => hs_.2) (fun hn_ => (Kd.fresh' (Kd.R_lt (by (with_reducible repeat (first | apply Kd.R_alloc | apply Kd.R_drewN | apply Kd.R_drew)); exact HO_5.out)) k_ hn_))⟩)) (below_size (by repeat (first | (with_reducible first | exact HB.out | apply below_alloc | apply pw_below_drewN | apply below_drew1) | exact HB.out)))); have n3_ := Aside0.mk (below_step (by repeat (first | (with_reducible first | exact HB.out | apply below_alloc | apply pw_below_drewN | apply below_drew1) | exact HB.out)) hb); clear HO_0; clear HO_5; clear HB; have HO_0 := n0_; have HO_5 := n1_; have HO629 := n2_; have HB := n3_; clear n0_ n1_ n2_ n3_; (try clear hb); (try clear hb2); (try clear hk); (try clear hi); (try clear ho0)) | ((with_reducible refine gate_dst (N := 6) rfl ?_); refine box_event ?hg (N := 6) ?hd (cs := #[.int .i64 0, .int .i64 0, .string (⟨#[]⟩ : ByteArray)]) (t := 42) ?hr ?_; (case hd => rfl); (case hg => rfl); (case hr => first | (go_simp; done) | (go_simp; rfl)); intro gb631 hg w24 hbox hb; have n0_ := Aside0.mk (Kd.V_below (Kd.V_elderB (by (with_reducible repeat (first | apply Kd.V_alloc | apply Kd.V_drewN | apply Kd.V_drew)); exact HO_0.out) gb631 (Nat.le_of_eq hg.symm)) hb); have n1_ := Aside0.mk (Kd.R_below (Kd.R_elderB (by (with_reducible repeat (first | apply Kd.R_alloc | apply Kd.R_drewN | apply Kd.R_drew)); exact HO_5.out) gb631 (Nat.le_of_eq hg.symm)) hb); have n2_ := Aside0.mk (Kd.V_below (Kd.V_elderB (by (with_reducible repeat (first | apply Kd.V_alloc | apply Kd.V_drewN | apply Kd.V_drew)); exact HO629.out) gb631 (Nat.le_of_eq hg.symm)) hb); have n3_ := Aside0.mk (below_step (by repeat (first | (with_reducible first | exact HB.out | apply below_alloc | apply pw_below_drewN | apply below_drew1) | exact HB.out)) hb); have n4_ := Aside0.mk (hbox); have n5_ := Aside0.mk ((by rw [hg]; exact (below_size (by repeat (first | (with_reducible first | exact HB.out | apply below_alloc | apply pw_below_drewN | apply below_drew1) | exact HB.out))) : w.heap.size ≤ gb631)); have n6_ := Aside0.mk ((by rw [hg]; exact (below_size (by repeat (first | (with_reducible first | exact HB.out | apply below_alloc | apply pw_below_drewN | apply below_drew1) | exact HB.out))) : w.heap.size ≤ gb631)); clear HO_0; clear HO_5; clear HO629; clear HB; have HO_0 := n0_; have HO_5 := n1_; have HO629 := n2_; have HB := n3_; have BK631 := n4_; have GW631 := n5_; have GE631 := n6_; clear n0_ n1_ n2_ n3_ n4_ n5_ n6_; clear hb hbox hg; have hcz25_0 : w24.cell? ⟨gb631, 0, none⟩ = some (.int .i64 0) := (blk_cell BK631.out 0).trans rfl; have hcz25_1 : w24.cell? ⟨gb631, 1, none⟩ = some (.int .i64 0) := (blk_cell BK631.out 1).trans rfl; have hcz25_2 : w24.cell? ⟨gb631, 2, none⟩ = some (.string (⟨#[]⟩ : ByteArray)) := (blk_cell BK631.out 2).trans rfl; have hfz25_0 := blk_frozen BK631.out 0; have hfz25_1 := blk_frozen BK631.out 1; have hfz25_2 := blk_frozen BK631.out 2))
        repeat ((with_reducible refine at_region ?_); go_quiet (first | (go_at_call 57; (with_reducible refine (rowcode_read.calls k1 (fun k_ => ((P0_ k_ ∨ w.heap.size ≤ k_) ∧ some k_ ≠ (.slice Ao22 x5_1.length co22 : Value).ownBlock)) _ _ x0_1 t624 t625 t626 t627 t630 _ ?side1 ?side2 A12.out).mono ?_); (case side1 => exact Tabs.below HT.out (by repeat (first | (with_reducible first | exact HB.out | apply below_alloc | apply pw_below_drewN | apply below_drew1) | exact HB.out))); (case side2 => exact HO_0.out); rintro e w23 ⟨v628, rfl, ho0, hb⟩; have n0_ := Aside0.mk (Kd.V_below (by (with_reducible repeat (first | apply Kd.V_alloc | apply Kd.V_drewN | apply Kd.V_drew)); exact HO_0.out) hb); have n1_ := Aside0.mk (Kd.R_below (by (with_reducible repeat (first | apply Kd.R_alloc | apply Kd.R_drewN | apply Kd.R_drew)); exact HO_5.out) hb); have n2_ := Aside0.mk (Kd.V_lower (Kd.V_mono (ok' := fun k_ => (P0_ k_ ∨ w.heap.size ≤ k_) ∧ some k_ ≠ (.slice Ao22 x5_1.length co22 : Value).ownBlock) ho0 (fun k_ hk_ => ⟨Or.elim hk_ (fun hs_ => hs_.1) (fun hn_ => (.inr (Nat.le_trans (below_size (by repeat (first | (with_reducible first | exact HB.out | apply below_alloc | apply pw_below_drewN | apply below_drew1) | exact HB.out))) hn_))), Or.elim hk_ (fun hs_ => hs_.2) (fun hn_ => (Kd.fresh' (Kd.R_lt (by (with_reducible repeat (first | apply Kd.R_alloc | apply Kd.R_drewN | apply Kd.R_drew)); exact HO_5.out)) k_ hn_))⟩)) (below_size (by repeat (first | (with_reducible first | exact HB.out | apply below_alloc | apply pw_below_drewN | apply below_drew1) | exact HB.out)))); have n3_ := Aside0.mk (below_step (by repeat (first | (with_reducible first | exact HB.out | apply below_alloc | apply pw_below_drewN | apply below_drew1) | exact HB.out)) hb); clear HO_0; clear HO_5; clear HB; have HO_0 := n0_; have HO_5 := n1_; have HO629 := n2_; have HB := n3_; clear n0_ n1_ n2_ n3_; (try clear hb); (try clear hb2); (try clear hk); (try clear hi); (try clear ho0)) | ((with_reducible refine gate_dst (N := 6) rfl ?_); refine box_event ?hg (N := 6) ?hd (cs := #[.int .i64 0, .int .i64 0, .string (⟨#[]⟩ : ByteArray)]) (t := 42) ?hr ?_; (case hd => rfl); (case hg => rfl); (case hr => first | (go_simp; done) | (go_simp; rfl)); intro gb631 hg w24 hbox hb; have n0_ := Aside0.mk (Kd.V_below (Kd.V_elderB (by (with_reducible repeat (first | apply Kd.V_alloc | apply Kd.V_drewN | apply Kd.V_drew)); exact HO_0.out) gb631 (Nat.le_of_eq hg.symm)) hb); have n1_ := Aside0.mk (Kd.R_below (Kd.R_elderB (by (with_reducible repeat (first | apply Kd.R_alloc | apply Kd.R_drewN | apply Kd.R_drew)); exact HO_5.out) gb631 (Nat.le_of_eq hg.symm)) hb); have n2_ := Aside0.mk (Kd.V_below (Kd.V_elderB (by (with_reducible repeat (first | apply Kd.V_alloc | apply Kd.V_drewN | apply Kd.V_drew)); exact HO629.out) gb631 (Nat.le_of_eq hg.symm)) hb); have n3_ := Aside0.mk (below_step (by repeat (first | (with_reducible first | exact HB.out | apply below_alloc | apply pw_below_drewN | apply below_drew1) | exact HB.out)) hb); have n4_ := Aside0.mk (hbox); have n5_ := Aside0.mk ((by rw [hg]; exact (below_size (by repeat (first | (with_reducible first | exact HB.out | apply below_alloc | apply pw_below_drewN | apply below_drew1) | exact HB.out))) : w.heap.size ≤ gb631)); have n6_ := Aside0.mk ((by rw [hg]; exact (below_size (by repeat (first | (with_reducible first | exact HB.out | apply below_alloc | apply pw_below_drewN | apply below_drew1) | exact HB.out))) : w.heap.size ≤ gb631)); clear HO_0; clear HO_5; clear HO629; clear HB; have HO_0 := n0_; have HO_5 := n1_; have HO629 := n2_; have HB := n3_; have BK631 := n4_; have GW631 := n5_; have GE631 := n6_; clear n0_ n1_ n2_ n3_ n4_ n5_ n6_; clear hb hbox hg; have hcz25_0 : w24.cell? ⟨gb631, 0, none⟩ = some (.int .i64 0) := (blk_cell BK631.out 0).trans rfl; have hcz25_1 : w24.cell? ⟨gb631, 1, none⟩ = some (.int .i64 0) := (blk_cell BK631.out 1).trans rfl; have hcz25_2 : w24.cell? ⟨gb631, 2, none⟩ = some (.string (⟨#[]⟩ : ByteArray)) := (blk_cell BK631.out 2).trans rfl; have hfz25_0 := blk_frozen BK631.out 0; have hfz25_1 := blk_frozen BK631.out 1; have hfz25_2 := blk_frozen BK631.out 2)); try go_wp2_with (first | (go_at_call 57; (with_reducible refine (rowcode_read.calls k1 (fun k_ => ((P0_ k_ ∨ w.heap.size ≤ k_) ∧ some k_ ≠ (.slice Ao22 x5_1.length co22 : Value).ownBlock)) _ _ x0_1 t624 t625 t626 t627 t630 _ ?side1 ?side2 A12.out).mono ?_); (case side1 => exact Tabs.below HT.out (by repeat (first | (with_reducible first | exact HB.out | apply below_alloc | apply pw_below_drewN | apply below_drew1) | exact HB.out))); (case side2 => exact HO_0.out); rintro e w23 ⟨v628, rfl, ho0, hb⟩; have n0_ := Aside0.mk (Kd.V_below (by (with_reducible repeat (first | apply Kd.V_alloc | apply Kd.V_drewN | apply Kd.V_drew)); exact HO_0.out) hb); have n1_ := Aside0.mk (Kd.R_below (by (with_reducible repeat (first | apply Kd.R_alloc | apply Kd.R_drewN | apply Kd.R_drew)); exact HO_5.out) hb); have n2_ := Aside0.mk (Kd.V_lower (Kd.V_mono (ok' := fun k_ => (P0_ k_ ∨ w.heap.size ≤ k_) ∧ some k_ ≠ (.slice Ao22 x5_1.length co22 : Value).ownBlock) ho0 (fun k_ hk_ => ⟨Or.elim hk_ (fun hs_ => hs_.1) (fun hn_ => (.inr (Nat.le_trans (below_size (by repeat (first | (with_reducible first | exact HB.out | apply below_alloc | apply pw_below_drewN | apply below_drew1) | exact HB.out))) hn_))), Or.elim hk_ (fun hs_ => hs_.2) (fun hn_ => (Kd.fresh' (Kd.R_lt (by (with_reducible repeat (first | apply Kd.R_alloc | apply Kd.R_drewN | apply Kd.R_drew)); exact HO_5.out)) k_ hn_))⟩)) (below_size (by repeat (first | (with_reducible first | exact HB.out | apply below_alloc | apply pw_below_drewN | apply below_drew1) | exact HB.out)))); have n3_ := Aside0.mk (below_step (by repeat (first | (with_reducible first | exact HB.out | apply below_alloc | apply pw_below_drewN | apply below_drew1) | exact HB.out)) hb); clear HO_0; clear HO_5; clear HB; have HO_0 := n0_; have HO_5 := n1_; have HO629 := n2_; have HB := n3_; clear n0_ n1_ n2_ n3_; (try clear hb); (try clear hb2); (try clear hk); (try clear hi); (try clear ho0)) | ((with_reducible refine gate_dst (N := 6) rfl ?_); refine box_event ?hg (N := 6) ?hd (cs := #[.int .i64 0, .int .i64 0, .string (⟨#[]⟩ : ByteArray)]) (t := 42) ?hr ?_; (case hd => rfl); (case hg => rfl); (case hr => first | (go_simp; done) | (go_simp; rfl)); intro gb631 hg w24 hbox hb; have n0_ := Aside0.mk (Kd.V_below (Kd.V_elderB (by (with_reducible repeat (first | apply Kd.V_alloc | apply Kd.V_drewN | apply Kd.V_drew)); exact HO_0.out) gb631 (Nat.le_of_eq hg.symm)) hb); have n1_ := Aside0.mk (Kd.R_below (Kd.R_elderB (by (with_reducible repeat (first | apply Kd.R_alloc | apply Kd.R_drewN | apply Kd.R_drew)); exact HO_5.out) gb631 (Nat.le_of_eq hg.symm)) hb); have n2_ := Aside0.mk (Kd.V_below (Kd.V_elderB (by (with_reducible repeat (first | apply Kd.V_alloc | apply Kd.V_drewN | apply Kd.V_drew)); exact HO629.out) gb631 (Nat.le_of_eq hg.symm)) hb); have n3_ := Aside0.mk (below_step (by repeat (first | (with_reducible first | exact HB.out | apply below_alloc | apply pw_below_drewN | apply below_drew1) | exact HB.out)) hb); have n4_ := Aside0.mk (hbox); have n5_ := Aside0.mk ((by rw [hg]; exact (below_size (by repeat (first | (with_reducible first | exact HB.out | apply below_alloc | apply pw_below_drewN | apply below_drew1) | exact HB.out))) : w.heap.size ≤ gb631)); have n6_ := Aside0.mk ((by rw [hg]; exact (below_size (by repeat (first | (with_reducible first | exact HB.out | apply below_alloc | apply pw_below_drewN | apply below_drew1) | exact HB.out))) : w.heap.size ≤ gb631)); clear HO_0; clear HO_5; clear HO629; clear HB; have HO_0 := n0_; have HO_5 := n1_; have HO629 := n2_; have HB := n3_; have BK631 := n4_; have GW631 := n5_; have GE631 := n6_; clear n0_ n1_ n2_ n3_ n4_ n5_ n6_; clear hb hbox hg; have hcz25_0 : w24.cell? ⟨gb631, 0, none⟩ = some (.int .i64 0) := (blk_cell BK631.out 0).trans rfl; have hcz25_1 : w24.cell? ⟨gb631, 1, none⟩ = some (.int .i64 0) := (blk_cell BK631.out 1).trans rfl; have hcz25_2 : w24.cell? ⟨gb631, 2, none⟩ = some (.string (⟨#[]⟩ : ByteArray)) := (blk_cell BK631.out 2).trans rfl; have hfz25_0 := blk_frozen BK631.out 0; have hfz25_1 := blk_frozen BK631.out 1; have hfz25_2 := blk_frozen BK631.out 2)))
        go_ret3
        exact ⟨_, _, by first | rfl | (simp [errW_none, errW_some] <;> rfl) | (simp [*, errW_none, errW_some] <;> rfl), by first | exact Kd.R_nil _ _ _ _ _ | exact Kd.N_nil _ _ _ _ _ | exact Kd.V_nil _ _ _ _ _ | exact Kd.Q_nil _ _ _ _ _ | exact Kd.S_nil _ _ _ _ _, Kd.V_nil _ _ _ _ _, by repeat (first | (with_reducible first | exact HB.out | apply below_alloc | apply pw_below_drewN | apply below_drew1 | refine below_set ?_ GE631.out) | exact HB.out)⟩
    ·
     rw [if_neg c4] at H
     exact absurd H (by simp)
end Go.Proofs.YthghcpeedmconaaDoor.X
end
section
namespace Go.Proofs.YthghcpeedmconaaDoor.X
open Go.RowKit Go.Proofs.YthghcpeedmconaaDoorW.PrintWords Go.Proofs.YthghcpeedmconaaDoorW.PrintLast Go.Proofs.YthghcpeedmconaaDoorW.PrintMore
attribute [local go_sem] max2_int min2_int max_two min_two max_three min_three max_four min_four
end Go.Proofs.YthghcpeedmconaaDoor.X
end
section
namespace Go.Proofs.YthghcpeedmconaaDoor.X
open Go.RowKit Go.Proofs.YthghcpeedmconaaDoorW.PrintWords Go.Proofs.YthghcpeedmconaaDoorW.PrintLast Go.Proofs.YthghcpeedmconaaDoorW.PrintMore
attribute [local go_sem] max2_int min2_int max_two min_two max_three min_three max_four min_four
end Go.Proofs.YthghcpeedmconaaDoor.X
end
section
namespace Go.Proofs.YthghcpeedmconaaDoor.X
open Go.RowKit Go.Proofs.YthghcpeedmconaaDoorW.PrintWords Go.Proofs.YthghcpeedmconaaDoorW.PrintLast Go.Proofs.YthghcpeedmconaaDoorW.PrintMore
attribute [local go_sem] max2_int min2_int max_two min_two max_three min_three max_four min_four
end Go.Proofs.YthghcpeedmconaaDoor.X
end
section
namespace Go.Proofs.YthghcpeedmconaaDoor.X
open Go.RowKit Go.Proofs.YthghcpeedmconaaDoorW.PrintWords Go.Proofs.YthghcpeedmconaaDoorW.PrintLast Go.Proofs.YthghcpeedmconaaDoorW.PrintMore
attribute [local go_sem] max2_int min2_int max_two min_two max_three min_three max_four min_four
end Go.Proofs.YthghcpeedmconaaDoor.X
end
section
namespace Go.Proofs.YthghcpeedmconaaDoor.X
open Go.RowKit Go.Proofs.YthghcpeedmconaaDoorW.PrintWords Go.Proofs.YthghcpeedmconaaDoorW.PrintLast Go.Proofs.YthghcpeedmconaaDoorW.PrintMore
attribute [local go_sem] max2_int min2_int max_two min_two max_three min_three max_four min_four
end Go.Proofs.YthghcpeedmconaaDoor.X
end
section
namespace Go.Proofs.YthghcpeedmconaaDoor.X
set_option linter.unusedVariables false
set_option linter.unusedSimpArgs false
open Go.RowKit Go.Proofs.YthghcpeedmconaaDoorW.PrintWords Go.Proofs.YthghcpeedmconaaDoorW.PrintLast Go.Proofs.YthghcpeedmconaaDoorW.PrintMore
open Num
def tl : List Int → Nat
  | [] => 0
  | x :: l => if x ≠ 0 then tl l + 1 else match l with
    | [] => 0
    | y :: m => if y = 255 then tl m + 1 else 0
theorem tl_ne {x : Int} (h : x ≠ 0) (l : List Int) : tl (x :: l) = tl l + 1 := by
  conv => lhs; unfold tl
  exact if_pos h
theorem tl_two (y : Int) (m : List Int) : tl (0 :: y :: m) = if y = 255 then tl m + 1 else 0 := by
  conv => lhs; unfold tl
  exact if_neg (by simp)
theorem tl_pass : ∀ (p q : List Int), (∀ x ∈ p, x ≠ 0) → tl (p ++ q) = p.length + tl q
  | [], q, _ => by rw [List.nil_append, List.length_nil, Nat.zero_add]
  | x :: p, q, h => by
    rw [List.cons_append, tl_ne (h x List.mem_cons_self), tl_pass p q (fun y hy => h y (List.mem_cons_of_mem _ hy)), List.length_cons]
    omega
theorem tl_code : ∀ (t : List UInt8) (z : List Int), tl (escB t ++ 0 :: 0 :: z) = t.length
  | [], z => by show tl (0 :: 0 :: z) = 0; rw [tl_two, if_neg (by decide)]
  | b :: t, z => by
    by_cases h : b = 0
    · subst h; rw [escB_z, List.cons_append, List.cons_append, tl_two, if_pos rfl, tl_code t]; rfl
    · rw [escB_n h, List.cons_append, tl_ne (by have := u8_pos h; omega), tl_code t]; rfl
theorem text_loop2 : ∀ (n : Nat) (l : List Int), l.length ≤ n → isB l → ∀ (acc : List Int) (k : Nat), acc.length + tl l < 140737488355328 → l.length ≤ 1152921504606846976 → 2 * n + 10 ≤ k →
    rowcode_text.l0 k l acc = some (txtRead acc l)
  | n, l, hn, hB, acc, k, hl, hm, hk => by
    obtain ⟨k, rfl⟩ : ∃ m, k = m + 2 := ⟨k - 2, by omega⟩
    rw [rowcode_text.l0]
    unfold bytes_IndexByte.f
    rw [Option.bind_some]
    rcases idx_split l hB with ⟨i1, i2⟩ | ⟨p, q, rfl, i2, i3⟩
    · rw [i1, if_pos (by decide), rowcode_text.j1, if_pos rfl, txt_all l acc i2]; rfl
    · rw [i3, if_neg (by omega)]
      have hlen : (p ++ 0 :: q).length = p.length + q.length + 1 := by simp; omega
      rw [rowcode_text.j1]
      have w1 : wrap64 ((p.length : Int) + 1) = ((p.length + 1 : Nat) : Int) := by unfold wrap64; omega
      have w2 : wrap64 ((p.length : Int) + 2) = ((p.length + 2 : Nat) : Int) := by unfold wrap64; omega
      rw [w1, w2, hlen, txt_pass p acc _ i2]
      cases q with
      | nil =>
        rw [if_pos (by simp), txt_one]; rfl
      | cons y m =>
        have hy := isB_head (isB_tail (fun x hx => hB x (List.mem_append_right _ hx)) : isB (y :: m))
        simp only [List.length_cons] at hlen hm hn ⊢
        rw [tl_pass p _ i2, tl_two] at hl
        rw [if_neg (by simp; omega), if_pos (by omega), if_pos (by omega), Option.bind_some]
        have ht : (p ++ 0 :: y :: m).take ((p.length : Int).toNat) = p := by rw [Int.toNat_natCast, List.take_left]
        rw [ht, if_pos (by omega), Option.bind_some, if_pos (by omega), if_pos (by omega), if_pos (by omega), if_pos (by omega)]
        have hd : (p ++ 0 :: y :: m).drop (((p.length + 2 : Nat) : Int).toNat) = m := by
          rw [Int.toNat_natCast, List.drop_append, Nat.add_sub_cancel_left, List.drop_eq_nil_of_le (by omega)]; rfl
        have hr : rd (p ++ 0 :: y :: m) ((p.length + 1 : Nat) : Int) = y := by
          have := rd_app (p ++ [0]) m y
          rw [List.append_assoc, List.length_append] at this
          exact this
        rw [hd, hr, Option.bind_some, txt_two]
        by_cases y255 : y = 255
        · rw [if_pos y255] at hl
          rw [if_pos y255, if_pos (by rw [List.length_append]; omega), if_pos y255]
          cases n with
          | zero => omega
          | succ n =>
            exact text_loop2 n m (by omega) (fun x hx => hB x (List.mem_append_right _ (List.mem_cons_of_mem _ (List.mem_cons_of_mem _ hx)))) _ k (by rw [List.length_append, List.length_append]; simp only [List.length_cons, List.length_nil]; omega) (by omega) (by omega)
        · rw [if_neg y255, if_neg y255]
          by_cases y0 : y = 0
          · rw [if_pos y0, if_pos y0]
            obtain ⟨k, rfl⟩ : ∃ m, k = m + 1 := ⟨k - 1, by omega⟩
            rw [value_Check.eq, Option.bind_some]
            split <;> rfl
          · rw [if_neg y0, if_neg y0]; rfl
theorem text_eq2 (l : List Int) (hB : isB l) (hl : l.length ≤ 1152921504606846976) (ht : tl l < 140737488355328) (k : Nat) (hk : 2 * l.length + 10 ≤ k) : rowcode_text.f k l = some (txtRead [] l) :=
  text_loop2 l.length l (Nat.le_refl _) hB [] k (by simpa using ht) hl hk
theorem read_eq2 (l : List Int) (hB : isB l) (hl : l.length ≤ 1152921504606846976) (ht : tl l.tail < 140737488355328) (k : Nat) (hk : 2 * l.length + 60 ≤ k) : rowcode_read.f k l = some (valRead l) := by
  unfold rowcode_read.f
  cases l with
  | nil => rfl
  | cons tag y =>
    simp only [List.length_cons] at hl hk ⊢
    have hy := isB_tail hB
    rw [if_neg (by omega), if_pos (by omega), if_pos (by omega), Option.bind_some]
    have hr : rd (tag :: y) 0 = tag := rfl
    have hd : (tag :: y).drop 1 = y := rfl
    rw [hr, hd]
    rw [valRead_cons]
    by_cases t1 : tag = 1
    · rw [if_pos t1, if_pos t1]
    rw [if_neg t1, if_neg t1]
    by_cases t2 : tag = 2
    · rw [if_pos t2, if_pos t2, number_eq y hy (by omega) k (by omega), Option.bind_some]
    rw [if_neg t2, if_neg t2]
    by_cases t3 : tag = 3
    · rw [if_pos t3, if_pos t3, text_eq2 y hy (by omega) ht k (by omega), Option.bind_some]
    rw [if_neg t3, if_neg t3]
    by_cases t4 : tag = 4
    · rw [if_pos t4, if_pos t4]
      cases y with
      | nil => rfl
      | cons b m =>
        have hb := isB_head hy
        have hr2 : rd (b :: m) 0 = b := rfl
        rw [hr2]
        simp only [List.length_cons]
        rw [if_neg (by omega), if_pos (by omega)]
        rw [show boolRead (b :: m) = if b > 1 then bad 20 else (4, b, (⟨#[]⟩ : ByteArray), m, 0) from rfl]
        by_cases b1 : b > 1
        · rw [if_pos b1, if_pos b1]; rfl
        · rw [if_neg b1, if_neg b1, if_pos (by omega)]
          rw [show wrap64 b = b by unfold wrap64; omega]
          rfl
    · rw [if_neg t4, if_neg t4]; rfl
theorem read_tag (tag : Int) (y : List Int) (h3 : tag ≠ 3) (hB : isB (tag :: y)) (hl : (tag :: y).length ≤ 1152921504606846976) (k : Nat) (hk : 2 * (tag :: y).length + 60 ≤ k) : rowcode_read.f k (tag :: y) = some (valRead (tag :: y)) := by
  unfold rowcode_read.f
  simp only [List.length_cons] at hl hk ⊢
  have hy := isB_tail hB
  rw [if_neg (by omega), if_pos (by omega), if_pos (by omega), Option.bind_some]
  have hr : rd (tag :: y) 0 = tag := rfl
  have hd : (tag :: y).drop 1 = y := rfl
  rw [hr, hd, valRead_cons]
  by_cases t1 : tag = 1
  · rw [if_pos t1, if_pos t1]
  rw [if_neg t1, if_neg t1]
  by_cases t2 : tag = 2
  · rw [if_pos t2, if_pos t2, number_eq y hy (by omega) k (by omega), Option.bind_some]
  rw [if_neg t2, if_neg t2, if_neg h3, if_neg h3]
  by_cases t4 : tag = 4
  · rw [if_pos t4, if_pos t4]
    cases y with
    | nil => rfl
    | cons b m =>
      have hb := isB_head hy
      have hr2 : rd (b :: m) 0 = b := rfl
      rw [hr2]
      simp only [List.length_cons]
      rw [if_neg (by omega), if_pos (by omega)]
      rw [show boolRead (b :: m) = if b > 1 then bad 20 else (4, b, (⟨#[]⟩ : ByteArray), m, 0) from rfl]
      by_cases b1 : b > 1
      · rw [if_pos b1, if_pos b1]; rfl
      · rw [if_neg b1, if_neg b1, if_pos (by omega)]
        rw [show wrap64 b = b by unfold wrap64; omega]
        rfl
  · rw [if_neg t4, if_neg t4]; rfl
theorem livesUp : ∀ n, locksteplaw02_lives.f (60 + n) = some true
  | 0 => lives60
  | n + 1 => locksteplaw02_lives.mono (60 + n) true (livesUp n)
theorem code_ne {v : S42} (h : Can v) : ∃ c l, code v = c :: l ∧ c ≠ 0 := by
  obtain ⟨l, e⟩ := code_tag h
  refine ⟨_, l, e, ?_⟩
  unfold cls
  split
  · decide
  split
  · decide
  split
  · decide
  split <;> decide
theorem read_code {v : S42} (h : Can v) (z : List Int) (hz : isB z) (hl : (code v ++ z).length ≤ 1152921504606846976) (k : Nat) (hk : 2 * (code v ++ z).length + 60 ≤ k) :
    rowcode_read.f k (code v ++ z) = some ((plainV v).f0, (plainV v).f1, (plainV v).f2, z, 0) := by
  have hB : isB (code v ++ z) := isB_append (code_isB v) hz
  by_cases h3 : v.f0 = 3
  · rw [read_eq2 _ hB hl ?_ k hk, valRead_code h]
    have hs : v.f2.size ≤ 4096 := by rcases h.typ with e | e | e | e <;> first | omega | exact e.2
    rw [code_text h3, List.cons_append, List.tail_cons, List.append_assoc]
    have := tl_code v.f2.data.toList z
    rw [show ([0, 0] : List Int) ++ z = 0 :: 0 :: z from rfl, this]
    have hl : v.f2.data.toList.length = v.f2.size := by simp
    omega
  · have hc := valRead_code h z
    rw [← hc]
    obtain ⟨c, l, e, h0⟩ := code_ne h
    have hc3 : c ≠ 3 := by
      intro h3'
      rcases h.typ with q | q | q | q
      · rw [code_null q] at e; injection e with e _; omega
      · rw [code_num q] at e; injection e with e _; omega
      · omega
      · rw [code_bool q.1] at e; injection e with e _; omega
    rw [e, List.cons_append] at hB hl hk ⊢
    exact read_tag c (l ++ z) hc3 hB hl k hk
theorem codes_cons (v : S42) (r : List S42) : codes (v :: r) = code v ++ codes r := rfl
theorem readRow_code (z : List Int) (hz : isB z) : ∀ (r : List S42), (∀ v ∈ r, Can v) → ∀ (acc : List S42) (k : Nat), acc.length + r.length ≤ 16 → (codes r ++ z).length ≤ 1152921504606846976 → 2 * (codes r ++ z).length + r.length + 61 ≤ k →
    rowcode_readRow.l0 k (codes r ++ z) acc = some (acc ++ r.map plainV, z, 0)
  | [], _, acc, k, _, hl, hk => by
    obtain ⟨k, rfl⟩ : ∃ m, k = m + 1 := ⟨k - 1, by omega⟩
    show rowcode_readRow.l0 (k + 1) (0 :: z) acc = _
    rw [rowcode_readRow.l0]
    have hlen : (0 :: z : List Int).length = z.length + 1 := rfl
    rw [if_neg (by omega), if_pos (by omega), if_pos (show rd (0 :: z) 0 = 0 from rfl), if_pos (by omega), List.map_nil, List.append_nil]
    rfl
  | v :: r, hr, acc, k, ha, hl, hk => by
    obtain ⟨k, rfl⟩ : ∃ m, k = m + 1 := ⟨k - 1, by omega⟩
    have hv := hr v List.mem_cons_self
    rw [codes_cons, List.append_assoc] at hl hk ⊢
    simp only [List.length_cons] at ha hk
    have hrest : isB (codes r ++ z) := isB_append (codes_isB r) hz
    have hread := read_code hv (codes r ++ z) hrest hl k (by omega)
    obtain ⟨c, l, e, h0⟩ := code_ne hv
    have hlen : (code v ++ (codes r ++ z)).length = (codes r ++ z).length + l.length + 1 := by rw [e, List.length_append, List.length_cons]; omega
    have hrd : rd (code v ++ (codes r ++ z)) 0 = c := by rw [e]; rfl
    rw [rowcode_readRow.l0, if_neg (by omega), if_pos (by omega), hrd, if_neg h0, if_neg (by omega), hread, Option.bind_some, if_pos (by rfl), if_pos (by omega)]
    show rowcode_readRow.l0 k (codes r ++ z) (acc ++ [plainV v]) = _
    rw [readRow_code z hz r (fun w hw => hr w (List.mem_cons_of_mem _ hw)) (acc ++ [plainV v]) k (by rw [List.length_append]; simp; omega) (by omega) (by omega), List.append_assoc]
    rfl
theorem readRow_back : ∀ (n : Nat) (l : List Int), l.length ≤ n → isB l → ∀ (acc : List S42) (k : Nat), acc.length ≤ 16 → l.length < 140737488355328 → 3 * n + 100 ≤ k →
    ∃ row rest err, rowcode_readRow.l0 k l acc = some (row, rest, err) ∧ ((err ≠ 0 ∧ row = []) ∨ (err = 0 ∧ ∃ r, row = acc ++ r ∧ (∀ v ∈ r, Can v) ∧ acc.length + r.length ≤ 16 ∧ l = codes r ++ rest))
  | n, l, hn, hB, acc, k, ha, hl, hk => by
    obtain ⟨k, rfl⟩ : ∃ m, k = m + 1 := ⟨k - 1, by omega⟩
    rw [rowcode_readRow.l0]
    cases l with
    | nil => exact ⟨_, _, _, rfl, Or.inl ⟨by decide, rfl⟩⟩
    | cons c y =>
      have hlen : (c :: y).length = y.length + 1 := rfl
      rw [if_neg (by omega), if_pos (by omega), show rd (c :: y) 0 = c from rfl]
      by_cases h0 : c = 0
      · rw [if_pos h0, if_pos (by omega), h0]
        exact ⟨_, _, _, rfl, Or.inr ⟨rfl, [], by rw [List.append_nil], fun v hv => by simp at hv, by simpa using ha, rfl⟩⟩
      · rw [if_neg h0]
        by_cases h16 : (acc.length : Int) = 16
        · rw [if_pos h16]
          exact ⟨_, _, _, rfl, Or.inl ⟨by decide, rfl⟩⟩
        · rw [if_neg h16, read_eq _ hB hl k (by omega), Option.bind_some]
          have hback := valRead_back (c :: y) hB
          generalize valRead (c :: y) = x at *
          obtain ⟨t, m, s, rest, e⟩ := x
          simp only [] at hback ⊢
          by_cases he : e = 0
          · subst he
            obtain ⟨hcan, hcode⟩ := hback t m s rest rfl
            rw [if_pos rfl, if_pos (by omega)]
            obtain ⟨c', l', e', _⟩ := code_ne hcan
            have hl2 : y.length + 1 = l'.length + 1 + rest.length := by rw [← hlen, hcode, e', List.length_append, List.length_cons]
            cases n with
            | zero => omega
            | succ n =>
              have hBr : isB rest := fun x hx => hB x (by rw [hcode]; exact List.mem_append_right _ hx)
              obtain ⟨row, rest2, err, q1, q2⟩ := readRow_back n rest (by omega) hBr (acc ++ [⟨t, m, s⟩]) k (by rw [List.length_append]; simp; omega) (by omega) (by omega)
              refine ⟨row, rest2, err, q1, ?_⟩
              rcases q2 with q2 | ⟨q2, r, q3, q4, q5, q6⟩
              · exact Or.inl q2
              · refine Or.inr ⟨q2, ⟨t, m, s⟩ :: r, by rw [q3, List.append_assoc]; rfl, fun v hv => ?_, ?_, ?_⟩
                · rcases List.mem_cons.mp hv with hv | hv
                  · rw [hv]; exact hcan
                  · exact q4 v hv
                · rw [List.length_append] at q5
                  simp only [List.length_cons, List.length_nil] at q5 ⊢
                  omega
                · rw [hcode, q6, codes_cons, List.append_assoc]
          · rw [if_neg he]
            exact ⟨_, _, _, rfl, Or.inl ⟨he, rfl⟩⟩
theorem codes_len : ∀ (r : List S42), (∀ v ∈ r, Can v) → 1 ≤ (codes r).length ∧ (codes r).length ≤ 8195 * r.length + 1
  | [], _ => ⟨Nat.le_refl _, Nat.le_refl _⟩
  | v :: r, h => by
    obtain ⟨h1, h2⟩ := codes_len r (fun w hw => h w (List.mem_cons_of_mem _ hw))
    have := code_len (h v List.mem_cons_self)
    rw [codes_cons, List.length_append, List.length_cons]
    omega
theorem own_eq2 (l : List Int) (hl : l.length < 140737488355328) : locksteplaw02_own.f l = some l := by
  unfold locksteplaw02_own.f
  have hw : wrap64 ((l.length : Int) + 2) = (l.length : Int) + 2 := by unfold wrap64; omega
  rw [hw, if_pos (by omega), if_pos (by omega), Option.bind_some, if_pos (by simpa using hl), List.nil_append]
theorem rowErr_zero : ∀ (r : List S42), (∀ v ∈ r, Can v) → rowErr r = 0
  | [], _ => rfl
  | v :: r, h => by
    unfold rowErr
    rw [if_pos (h v List.mem_cons_self).chk]
    exact rowErr_zero r (fun w hw => h w (List.mem_cons_of_mem _ hw))
end Go.Proofs.YthghcpeedmconaaDoor.X
end
section
namespace Go.Proofs.YthghcpeedmconaaDoor.X
open Go.RowKit Go.Proofs.YthghcpeedmconaaDoorW.PrintWords Go.Proofs.YthghcpeedmconaaDoorW.PrintLast Go.Proofs.YthghcpeedmconaaDoorW.PrintMore
attribute [local go_sem] max2_int min2_int max_two min_two max_three min_three max_four min_four
end Go.Proofs.YthghcpeedmconaaDoor.X
end
section
namespace Go.Proofs.YthghcpeedmconaaDoor.X
open Go.RowKit Go.Proofs.YthghcpeedmconaaDoorW.PrintWords Go.Proofs.YthghcpeedmconaaDoorW.PrintLast Go.Proofs.YthghcpeedmconaaDoorW.PrintMore
attribute [local go_sem] max2_int min2_int max_two min_two max_three min_three max_four min_four
end Go.Proofs.YthghcpeedmconaaDoor.X
end
section
namespace Go.Proofs.YthghcpeedmconaaDoor.X
open Go.RowKit Go.Proofs.YthghcpeedmconaaDoorW.PrintWords Go.Proofs.YthghcpeedmconaaDoorW.PrintLast Go.Proofs.YthghcpeedmconaaDoorW.PrintMore
attribute [local go_sem] max2_int min2_int max_two min_two max_three min_three max_four min_four
end Go.Proofs.YthghcpeedmconaaDoor.X
end
section
namespace Go.Proofs.YthghcpeedmconaaDoor.X
open Go.RowKit Go.Proofs.YthghcpeedmconaaDoorW.PrintWords Go.Proofs.YthghcpeedmconaaDoorW.PrintLast Go.Proofs.YthghcpeedmconaaDoorW.PrintMore
attribute [local go_sem] max2_int min2_int max_two min_two max_three min_three max_four min_four
end Go.Proofs.YthghcpeedmconaaDoor.X
end
section
namespace Go.Proofs.YthghcpeedmconaaDoor.X
open Go.RowKit Go.Proofs.YthghcpeedmconaaDoorW.PrintWords Go.Proofs.YthghcpeedmconaaDoorW.PrintLast Go.Proofs.YthghcpeedmconaaDoorW.PrintMore
attribute [local go_sem] max2_int min2_int max_two min_two max_three min_three max_four min_four
end Go.Proofs.YthghcpeedmconaaDoor.X
end
section
namespace Go.Proofs.YthghcpeedmconaaDoor.X
open Go.RowKit Go.Proofs.YthghcpeedmconaaDoorW.PrintWords Go.Proofs.YthghcpeedmconaaDoorW.PrintLast Go.Proofs.YthghcpeedmconaaDoorW.PrintMore
attribute [local go_sem] max2_int min2_int max_two min_two max_three min_three max_four min_four
end Go.Proofs.YthghcpeedmconaaDoor.X
end
section
namespace Go.Proofs.YthghcpeedmconaaDoor.X
open Go.RowKit Go.Proofs.YthghcpeedmconaaDoorW.PrintWords Go.Proofs.YthghcpeedmconaaDoorW.PrintLast Go.Proofs.YthghcpeedmconaaDoorW.PrintMore
attribute [local go_sem] max2_int min2_int max_two min_two max_three min_three max_four min_four
end Go.Proofs.YthghcpeedmconaaDoor.X
end
section
namespace Go.Proofs.YthghcpeedmconaaDoor.X
open Go.RowKit Go.Proofs.YthghcpeedmconaaDoorW.PrintWords Go.Proofs.YthghcpeedmconaaDoorW.PrintLast Go.Proofs.YthghcpeedmconaaDoorW.PrintMore
attribute [local go_sem] max2_int min2_int max_two min_two max_three min_three max_four min_four
end Go.Proofs.YthghcpeedmconaaDoor.X
end
section
namespace Go.Proofs.YthghcpeedmconaaDoor.X
open Go.RowKit Go.Proofs.YthghcpeedmconaaDoorW.PrintWords Go.Proofs.YthghcpeedmconaaDoorW.PrintLast Go.Proofs.YthghcpeedmconaaDoorW.PrintMore
attribute [local go_sem] max2_int min2_int max_two min_two max_three min_three max_four min_four
end Go.Proofs.YthghcpeedmconaaDoor.X
end
section
namespace Go.Proofs.YthghcpeedmconaaDoor.X
open Go.RowKit Go.Proofs.YthghcpeedmconaaDoorW.PrintWords Go.Proofs.YthghcpeedmconaaDoorW.PrintLast Go.Proofs.YthghcpeedmconaaDoorW.PrintMore
attribute [local go_sem] max2_int min2_int max_two min_two max_three min_three max_four min_four
end Go.Proofs.YthghcpeedmconaaDoor.X
end
section
namespace Go.Proofs.YthghcpeedmconaaDoor.X
open Go.RowKit Go.Proofs.YthghcpeedmconaaDoorW.PrintWords Go.Proofs.YthghcpeedmconaaDoorW.PrintLast Go.Proofs.YthghcpeedmconaaDoorW.PrintMore
attribute [local go_sem] max2_int min2_int max_two min_two max_three min_three max_four min_four
end Go.Proofs.YthghcpeedmconaaDoor.X
end
section
namespace Go.Proofs.YthghcpeedmconaaDoor.X
open Go.RowKit Go.Proofs.YthghcpeedmconaaDoorW.PrintWords Go.Proofs.YthghcpeedmconaaDoorW.PrintLast Go.Proofs.YthghcpeedmconaaDoorW.PrintMore
attribute [local go_sem] max2_int min2_int max_two min_two max_three min_three max_four min_four
end Go.Proofs.YthghcpeedmconaaDoor.X
end
section
namespace Go.Proofs
open Go.Shelf
def Tryd.sortB_ren : Go.Shelf.Ren := ⟨fun | 6 => 61 | 15 => 81 | 14 => 80 | 28 => 99 | 29 => 100 | 20 => 91 | 21 => 92 | 22 => 93 | 23 => 94 | 24 => 95 | 25 => 96 | 26 => 97 | 27 => 98 | 46 => 110 | 47 => 111 | 48 => 112 | 49 => 113 | 50 => 114 | 57 => 122 | n => n, fun | 22 => 87 | 24 => 47 | 25 => 50 | 3 => 3 | 39 => 89 | 0 => 0 | 53 => 92 | 55 => 24 | 4 => 4 | 46 => 122 | 45 => 121 | 50 => 126 | 5 => 5 | 9 => 9 | 66 => 142 | 70 => 145 | 76 => 150 | 77 => 151 | n => n, fun | n => n⟩
theorem Tryd.sortB : Go.Proofs.SlLaysF.n6 Tryd.prog Tryd.sortB_ren := {
  mixed := by kernel_rfl
  f6 := ⟨Tryd.f61.name, by decide, Tryd.func61.trans (congrArg some (by kernel_rfl))⟩
  f14 := ⟨Tryd.f80.name, by decide, Tryd.func80.trans (congrArg some (by kernel_rfl))⟩
  f15 := Tryd.func81.trans (congrArg some (by kernel_rfl))
  f20 := ⟨Tryd.f91.name, by decide, Tryd.func91.trans (congrArg some (by kernel_rfl))⟩
  f21 := ⟨Tryd.f92.name, by decide, Tryd.func92.trans (congrArg some (by kernel_rfl))⟩
  f22 := ⟨Tryd.f93.name, by decide, Tryd.func93.trans (congrArg some (by kernel_rfl))⟩
  f23 := ⟨Tryd.f94.name, by decide, Tryd.func94.trans (congrArg some (by kernel_rfl))⟩
  f24 := ⟨Tryd.f95.name, by decide, Tryd.func95.trans (congrArg some (by kernel_rfl))⟩
  f25 := ⟨Tryd.f96.name, by decide, Tryd.func96.trans (congrArg some (by kernel_rfl))⟩
  f26 := ⟨Tryd.f97.name, by decide, Tryd.func97.trans (congrArg some (by kernel_rfl))⟩
  f27 := ⟨Tryd.f98.name, by decide, Tryd.func98.trans (congrArg some (by kernel_rfl))⟩
  f28 := Tryd.func99.trans (congrArg some (by kernel_rfl))
  f29 := Tryd.func100.trans (congrArg some (by kernel_rfl))
  f46 := ⟨Tryd.f110.name, by decide, Tryd.func110.trans (congrArg some (by kernel_rfl))⟩
  f47 := Tryd.func111.trans (congrArg some (by kernel_rfl))
  f48 := Tryd.func112.trans (congrArg some (by kernel_rfl))
  f49 := ⟨Tryd.f113.name, by decide, Tryd.func113.trans (congrArg some (by kernel_rfl))⟩
  f50 := ⟨Tryd.f114.name, by decide, Tryd.func114.trans (congrArg some (by kernel_rfl))⟩
  f57 := ⟨Tryd.f122.name, by decide, Tryd.func122.trans (congrArg some (by kernel_rfl))⟩
  t0 := Tryd.underlying0
  a0 := Tryd.isAgg0
  z0 := Tryd.sizeOf0
  v0 := Tryd.zeroValue0
  t3 := Tryd.underlying3
  a3 := Tryd.isAgg3
  z3 := Tryd.sizeOf3
  v3 := Tryd.zeroValue3
  t4 := Tryd.underlying4
  a4 := Tryd.isAgg4
  z4 := Tryd.sizeOf4
  v4 := Tryd.zeroValue4
  t5 := Tryd.underlying5
  a5 := Tryd.isAgg5
  z5 := Tryd.sizeOf5
  v5 := Tryd.zeroValue5
  t9 := Tryd.underlying9
  a9 := Tryd.isAgg9
  z9 := Tryd.sizeOf9
  v9 := Tryd.zeroValue9
  t22 := Tryd.underlying87
  a22 := Tryd.isAgg87
  z22 := Tryd.sizeOf87
  v22 := Tryd.zeroValue87
  a24 := Tryd.isAgg47
  z24 := Tryd.sizeOf47
  t25 := Tryd.underlying50
  a25 := Tryd.isAgg50
  z25 := Tryd.sizeOf50
  v25 := Tryd.zeroValue50
  t39 := Tryd.underlying89
  a39 := Tryd.isAgg89
  z39 := Tryd.sizeOf89
  v39 := Tryd.zeroValue89
  t45 := Tryd.underlying121
  a45 := Tryd.isAgg121
  z45 := Tryd.sizeOf121
  v45 := Tryd.zeroValue121
  t46 := Tryd.underlying122
  a46 := Tryd.isAgg122
  z46 := Tryd.sizeOf122
  v46 := Tryd.zeroValue122
  t50 := Tryd.underlying126
  a50 := Tryd.isAgg126
  z50 := Tryd.sizeOf126
  v50 := Tryd.zeroValue126
  t53 := Tryd.underlying92
  a53 := Tryd.isAgg92
  z53 := Tryd.sizeOf92
  v53 := Tryd.zeroValue92
  t55 := Tryd.underlying24
  a55 := Tryd.isAgg24
  z55 := Tryd.sizeOf24
  v55 := Tryd.zeroValue24
  t66 := Tryd.underlying142
  a66 := Tryd.isAgg142
  z66 := Tryd.sizeOf142
  v66 := Tryd.zeroValue142
  t70 := Tryd.underlying145
  a70 := Tryd.isAgg145
  z70 := Tryd.sizeOf145
  v70 := Tryd.zeroValue145
  t76 := Tryd.underlying150
  a76 := Tryd.isAgg150
  z76 := Tryd.sizeOf150
  v76 := Tryd.zeroValue150
  t77 := Tryd.underlying151
  a77 := Tryd.isAgg151
  z77 := Tryd.sizeOf151
  v77 := Tryd.zeroValue151 }
def Tryd.joinB_ren : Go.Shelf.Ren := ⟨fun | 14 => 63 | 15 => 83 | n => n, fun | 26 => 87 | 22 => 47 | 3 => 3 | 4 => 4 | 0 => 0 | 9 => 9 | 20 => 20 | 5 => 5 | n => n, fun | n => n⟩
theorem Tryd.joinB : Go.Proofs.SlLaysJ.n14 Tryd.prog Tryd.joinB_ren := {
  mixed := by kernel_rfl
  f14 := Tryd.func63.trans (congrArg some (by kernel_rfl))
  f15 := Tryd.func83.trans (congrArg some (by kernel_rfl))
  t0 := Tryd.underlying0
  a0 := Tryd.isAgg0
  z0 := Tryd.sizeOf0
  v0 := Tryd.zeroValue0
  t3 := Tryd.underlying3
  a3 := Tryd.isAgg3
  z3 := Tryd.sizeOf3
  v3 := Tryd.zeroValue3
  t4 := Tryd.underlying4
  a4 := Tryd.isAgg4
  z4 := Tryd.sizeOf4
  v4 := Tryd.zeroValue4
  t9 := Tryd.underlying9
  a9 := Tryd.isAgg9
  z9 := Tryd.sizeOf9
  v9 := Tryd.zeroValue9
  t20 := Tryd.underlying20
  a20 := Tryd.isAgg20
  z20 := Tryd.sizeOf20
  v20 := Tryd.zeroValue20
  t22 := Tryd.underlying47
  a22 := Tryd.isAgg47
  z22 := Tryd.sizeOf47
  v22 := Tryd.zeroValue47
  t26 := Tryd.underlying87
  a26 := Tryd.isAgg87
  z26 := Tryd.sizeOf87
  v26 := Tryd.zeroValue87
  t5 := Tryd.underlying5
  z5 := Tryd.sizeOf5
  i5 := by kernel_rfl }
end Go.Proofs
end
section
namespace Go.Proofs.YthghcpeedmconaaDoor.X
open Go.RowKit Go.Proofs.YthghcpeedmconaaDoorW.PrintWords
set_option linter.unusedVariables false
set_option linter.unusedSimpArgs false
theorem cb_cons (a b : UInt8) (l m : List UInt8) : Lib.compareBytes (a :: l) (b :: m) = if a.toNat < b.toNat then -1 else if b.toNat < a.toNat then 1 else Lib.compareBytes l m := by
  simp only [Lib.compareBytes, UInt8.lt_iff_toNat_lt]
theorem cb_self : ∀ l, Lib.compareBytes l l = 0
  | [] => rfl
  | a :: l => by rw [cb_cons, if_neg (Nat.lt_irrefl _), if_neg (Nat.lt_irrefl _)]; exact cb_self l
theorem cb_trans : ∀ a b c, Lib.compareBytes a b < 0 → Lib.compareBytes b c < 0 → Lib.compareBytes a c < 0
  | [], [], _, h, _ => by simp [Lib.compareBytes] at h
  | [], _ :: _, [], _, h => by simp [Lib.compareBytes] at h
  | [], _ :: _, _ :: _, _, _ => by simp [Lib.compareBytes]
  | _ :: _, [], _, h, _ => by simp [Lib.compareBytes] at h
  | _ :: _, _ :: _, [], _, h => by simp [Lib.compareBytes] at h
  | x :: a, y :: b, z :: c, h, k => by
    have ih := cb_trans a b c
    rw [cb_cons] at h k ⊢
    by_cases h1 : x.toNat < y.toNat
    · by_cases h2 : y.toNat < z.toNat
      · rw [if_pos (by omega)]; decide
      · rw [if_neg h2] at k
        by_cases h3 : z.toNat < y.toNat
        · rw [if_pos h3] at k; omega
        · rw [if_pos (by omega)]; decide
    · rw [if_neg h1] at h
      by_cases h3 : y.toNat < x.toNat
      · rw [if_pos h3] at h; omega
      · rw [if_neg h3] at h
        by_cases h2 : y.toNat < z.toNat
        · rw [if_pos (by omega)]; decide
        · rw [if_neg h2] at k
          by_cases h4 : z.toNat < y.toNat
          · rw [if_pos h4] at k; omega
          · rw [if_neg h4] at k
            rw [if_neg (by omega), if_neg (by omega)]
            exact ih h k
theorem cb_ntrans : ∀ a b c, ¬ Lib.compareBytes a b < 0 → ¬ Lib.compareBytes b c < 0 → ¬ Lib.compareBytes a c < 0
  | [], [], _, _, h => h
  | [], _ :: _, _, h, _ => by simp [Lib.compareBytes] at h
  | _ :: _, _, [], _, _ => by simp [Lib.compareBytes]
  | _ :: _, [], _ :: _, _, h => by simp [Lib.compareBytes] at h
  | x :: a, y :: b, z :: c, h, k => by
    have ih := cb_ntrans a b c
    rw [cb_cons] at h k ⊢
    by_cases h1 : x.toNat < y.toNat
    · rw [if_pos h1] at h; omega
    · rw [if_neg h1] at h
      by_cases h2 : y.toNat < z.toNat
      · rw [if_pos h2] at k; omega
      · rw [if_neg h2] at k
        rw [if_neg (by omega)]
        by_cases h3 : z.toNat < x.toNat
        · rw [if_pos h3]; decide
        · rw [if_neg h3]
          rw [if_neg (by omega)] at h
          rw [if_neg (by omega)] at k
          exact ih h k
theorem cb_anti : ∀ a b, ¬ Lib.compareBytes a b < 0 → ¬ Lib.compareBytes b a < 0 → a = b
  | [], [], _, _ => rfl
  | [], _ :: _, h, _ => by simp [Lib.compareBytes] at h
  | _ :: _, [], _, h => by simp [Lib.compareBytes] at h
  | x :: a, y :: b, h, k => by
    have ih := cb_anti a b
    rw [cb_cons] at h k
    by_cases h1 : x.toNat < y.toNat
    · rw [if_pos h1] at h; omega
    · rw [if_neg h1] at h
      by_cases h2 : y.toNat < x.toNat
      · rw [if_pos h2] at k; omega
      · rw [if_neg h2] at h
        rw [if_neg h2, if_neg h1] at k
        rw [ih h k, show x = y from UInt8.toNat_inj.1 (by omega)]
def areB (l : List Int) : Bool := l.all fun b => decide (0 ≤ b ∧ b < 256)
theorem areB_iff {l : List Int} : areB l = true ↔ ∀ b ∈ l, 0 ≤ b ∧ b < 256 := by simp [areB]
theorem bytesOf_inj : ∀ {l m : List Int}, areB l = true → areB m = true → Lib.bytesOf l = Lib.bytesOf m → l = m
  | [], [], _, _, _ => rfl
  | [], _ :: _, _, _, h => by simp [Lib.bytesOf] at h
  | _ :: _, [], _, _, h => by simp [Lib.bytesOf] at h
  | x :: l, y :: m, hl, hm, h => by
    simp only [Lib.bytesOf, List.map_cons, List.cons.injEq] at h
    obtain ⟨h1, h2⟩ := h
    simp only [areB, List.all_cons, Bool.and_eq_true, decide_eq_true_eq] at hl hm
    have := bytesOf_inj (l := l) (m := m) hl.2 hm.2 h2
    have e : x.toNat = y.toNat := by
      have h3 := congrArg UInt8.toNat h1
      rw [UInt8.toNat_ofNat', UInt8.toNat_ofNat', Nat.mod_eq_of_lt (show x.toNat < 2 ^ 8 by omega), Nat.mod_eq_of_lt (show y.toNat < 2 ^ 8 by omega)] at h3
      exact h3
    rw [this, show x = y by omega]
def cmpL (a b : List Int) : Int := Lib.compareBytes (Lib.bytesOf a) (Lib.bytesOf b)
def leL (a b : List Int) : Bool := !decide (cmpL b a < 0)
def srt (l : List (List Int)) : List (List Int) := l.mergeSort leL
theorem leL_iff {a b : List Int} : leL a b = true ↔ ¬ cmpL b a < 0 := by simp [leL]
theorem leL_trans (a b c : List Int) (h : leL a b = true) (k : leL b c = true) : leL a c = true := leL_iff.2 (cb_ntrans _ _ _ (leL_iff.1 k) (leL_iff.1 h))
theorem leL_total (a b : List Int) : (leL a b || leL b a) = true := by
  by_cases h : cmpL b a < 0
  · have : ¬ cmpL a b < 0 := fun k => by have := cb_trans _ _ _ h k; rw [cb_self] at this; omega
    simp [leL, this]
  · simp [leL, h]
theorem srt_perm (l : List (List Int)) : (srt l).Perm l := List.mergeSort_perm l leL
theorem srt_pw (l : List (List Int)) : (srt l).Pairwise (fun a b => ¬ cmpL b a < 0) := (List.pairwise_mergeSort (le := leL) leL_trans leL_total l).imp (fun h => leL_iff.1 h)
theorem srt_uniq {l ys : List (List Int)} (hB : ∀ x ∈ l, areB x = true) (hp : ys.Perm l) (hs : ys.Pairwise (fun a b => ¬ cmpL b a < 0)) : ys = srt l :=
  List.Perm.eq_of_pairwise (le := fun a b => ¬ cmpL b a < 0) (fun a b ha hb h k => bytesOf_inj (hB a (hp.mem_iff.1 ha)) (hB b ((srt_perm l).mem_iff.1 hb)) (cb_anti _ _ k h)) hs (srt_pw l) (hp.trans (srt_perm l).symm)
theorem srt_mem {l : List (List Int)} {x : List Int} : x ∈ srt l ↔ x ∈ l := (srt_perm l).mem_iff
theorem srt_len (l : List (List Int)) : (srt l).length = l.length := (srt_perm l).length_eq
end Go.Proofs.YthghcpeedmconaaDoor.X
end
section
namespace Go.Proofs.YthghcpeedmconaaDoor.X
open Go.RowKit Go.Proofs.YthghcpeedmconaaDoorW.PrintWords
set_option linter.unusedVariables false
set_option linter.unusedSimpArgs false
abbrev El {α : Type} (d : Kd α) (w : World) (base : Nat) (ok : Nat → Prop) : Type := { p : Value × α // d.M w base ok p.2 [p.1] }
theorem els_of {α : Type} (d : Kd α) (hz : d.sz = 1) (w : World) (base : Nat) (ok : Nat → Prop) : ∀ (xs : List α) (cs : List Value), Reps (d.M w base ok) d.sz xs cs →
    ∃ els : List (El d w base ok), els.map (fun x => x.1.1) = cs ∧ els.map (fun x => x.1.2) = xs := by
  intro xs cs h
  rw [hz] at h
  obtain ⟨hl, hr⟩ := h
  have hl' : cs.length = xs.length := by omega
  refine ⟨List.ofFn (fun j : Fin xs.length => ⟨(cs[j.1]'(by omega), xs[j.1]), ?_⟩), ?_, ?_⟩
  · have := hr j.1 xs[j.1] (by simp)
    have e : (cs.drop (j.1 * 1)).take 1 = [cs[j.1]'(by omega)] := by
      rw [Nat.mul_one, List.drop_eq_getElem_cons (by omega)]
      rfl
    rwa [e] at this
  · apply List.ext_getElem
    · simp; omega
    · intro i h1 h2; simp
  · apply List.ext_getElem
    · simp
    · intro i h1 h2; simp
theorem reps_of {α : Type} (d : Kd α) (hz : d.sz = 1) (w w1 : World) (base : Nat) (ok : Nat → Prop) (hm : ∀ k, ok k → k < w.heap.size → w1.heap[k]? = w.heap[k]?) (els : List (El d w base ok)) :
    Reps (d.M w1 base ok) d.sz (els.map (fun x => x.1.2)) (els.map (fun x => x.1.1)) := by
  rw [hz]
  refine ⟨by simp, fun j p hp => ?_⟩
  simp only [List.getElem?_map, Option.map_eq_some_iff] at hp
  obtain ⟨x, hx, rfl⟩ := hp
  have hj : j < els.length := (List.getElem?_eq_some_iff.1 hx).1
  have hx' : els[j] = x := (List.getElem?_eq_some_iff.1 hx).2
  have e : ((els.map (fun x => x.1.1)).drop (j * 1)).take 1 = [x.1.1] := by
    rw [Nat.mul_one, List.drop_eq_getElem_cons (by simpa using hj)]
    show [_] = _
    rw [List.getElem_map, hx']
  rw [e]
  exact Kd.M_step x.2 hm
theorem heap_mapBlock (w : World) (blk : Nat) (f : Array Value → Array Value) (k : Nat) (h : k ≠ blk) : (Sort.mapBlock w blk f).heap[k]? = w.heap[k]? := by
  simp [Sort.mapBlock, Array.getElem?_modify, Ne.symm h]
theorem heap_mapBlock_self (w : World) (blk : Nat) (f : Array Value → Array Value) {c : Array Value} {e : TypeId} {fr : Nat × Nat} (hb : w.heap[blk]? = some (.cells c e fr)) :
    (Sort.mapBlock w blk f).heap[blk]? = some (.cells (f c) e fr) := by
  simp [Sort.mapBlock, Array.getElem?_modify, hb, Sort.onCells]
theorem heap_sortWorld {β : Type} [Inhabited β] (enc : β → Value) (w : World) (blk m : Nat) (dk : Array β) (os : Array Obj) (k : Nat) (hk : k < w.heap.size) (h : k ≠ blk) :
    (sortWorld enc w blk 0 m dk os).heap[k]? = w.heap[k]? := by
  unfold sortWorld
  show (_ ++ os)[k]? = _
  rw [Array.getElem?_append_left (by show k < (Sort.putRow enc (Sort.ahead w m) blk 0 dk).heap.size; rw [Sort.size_putRow]; exact hk)]
  exact heap_mapBlock _ _ _ _ h
theorem heap_sortWorld_self {β : Type} [Inhabited β] (enc : β → Value) (w : World) (blk m : Nat) (dk : Array β) (os : Array Obj) (hk : blk < w.heap.size) {c : Array Value} {e : TypeId} {fr : Nat × Nat} (hb : w.heap[blk]? = some (.cells c e fr)) :
    (sortWorld enc w blk 0 m dk os).heap[blk]? = some (.cells (Sort.putCells enc 0 dk c) e fr) := by
  unfold sortWorld
  show (_ ++ os)[blk]? = _
  rw [Array.getElem?_append_left (by show blk < (Sort.putRow enc (Sort.ahead w m) blk 0 dk).heap.size; rw [Sort.size_putRow]; exact hk)]
  exact heap_mapBlock_self _ _ _ hb
theorem putCells_take {β : Type} [Inhabited β] (enc : β → Value) (d : Array β) (c : Array Value) (h : d.size ≤ c.size) : (Sort.putCells enc 0 d c).toList.take d.size = d.toList.map enc := by
  apply List.ext_getElem
  · simp [Sort.putCells]; omega
  · intro i h1 h2
    have hi : i < d.size := by simpa using h2
    simp [Sort.putCells, hi, getElem!_pos d i hi]
theorem sort_own {P : Program} {ρ : Go.Shelf.Ren} (L : SlLaysF.n6 P ρ) {α : Type} (d : Kd α) (hz : d.sz = 1) (F : Nat) (cf : α → α → Int)
    (hI : ∀ x, cf x x = 0) (hT : ∀ x y z, cf x y < 0 → cf y z < 0 → cf x z < 0) (hN : ∀ x y z, ¬ cf x y < 0 → ¬ cf y z < 0 → ¬ cf x z < 0)
    (eg : ∀ args w, (callFunc F args).run P w = .ok (.enter F args) w) (e : TypeId) (w : World) (base : Nat) (ok : Nat → Prop) (g n c : Nat) (xs : List α)
    (dc : Value) (dx : α) (hdf : ∀ ok', d.M w base ok' dx [dc])
    (ho : d.R e w base ok (.slice (some ⟨g, 0, none⟩) n c) xs) (hn : n = xs.length) (hsz : n < 4611686018427387904)
    (hcmp : ∀ W x y cx cy, (∀ k, k ≠ g → k < w.heap.size → W.heap[k]? = w.heap[k]?) → d.M W base (fun k => ok k ∧ k ≠ g) x [cx] → d.M W base (fun k => ok k ∧ k ≠ g) y [cy] →
      Calls P F #[cx, cy] W fun e w' => e = .returned (.int .i64 (cf x y)) ∧ ∃ q, w' = W.drewN q) :
    Calls P (ρ.f 6) #[.slice (some ⟨g, 0, none⟩) n c, .func (.func F) #[] #[]] w fun r w' => r = .returned (.tuple #[]) ∧ ∃ ys, ys.Perm xs ∧ ys.Pairwise (fun a b => ¬ cf b a < 0) ∧
      d.R e w' base ok (.slice (some ⟨g, 0, none⟩) n c) ys ∧ w.grownBy w' (some g) := by
  obtain ⟨h0, inner, hown, hreps⟩ := ho
  have hokg : ok g := h0 g (by simp [Value.ownBlock])
  obtain ⟨hlen, hown⟩ := hown
  rw [hz] at hlen hown
  rcases hown with ⟨hv, _⟩ | ⟨g', cap, cur, hv, hbg, hh, h1, h2, h3, h4⟩
  · simp at hv
  obtain ⟨rfl, hn', rfl⟩ : g = g' ∧ n = xs.length ∧ c = cap := by
    injection hv with a b c'
    injection a with a
    injection a with a
    exact ⟨a, b, c'⟩
  have hgl : g < w.heap.size := (Array.getElem?_eq_some_iff.1 hh).1
  have hok' : (fun k => ok k ∧ some k ≠ (Value.slice (some ⟨g, 0, none⟩) n c).ownBlock) = fun k => ok k ∧ k ≠ g := by funext k; simp [Value.ownBlock]
  rw [hok'] at hreps
  obtain ⟨els, he1, he2⟩ := els_of d hz w base _ xs inner hreps
  letI : Inhabited (El d w base (fun k => ok k ∧ k ≠ g)) := ⟨⟨(dc, dx), hdf _⟩⟩
  have hel : els.length = n := by rw [← List.length_map (f := fun x : El d w base _ => x.1.2), he2]; exact hn'.symm
  have hsz' : els.toArray.size = n := by simpa using hel
  have hI' : ∀ k, inner[k]? = if k < n then cur[k]? else none := by
    intro k
    rw [← h4, List.getElem?_take]
    simp [hn']
  have hH : Sort.Holds (fun x : El d w base (fun k => ok k ∧ k ≠ g) => x.1.1) w g 0 els.toArray := by
    intro j hj
    have hj' : j < els.length := by simpa using hj
    have hc : cur[j]? = some (els[j]).1.1 := by
      have := hI' j
      rw [if_pos (by omega)] at this
      rw [← this, ← he1]
      simp [hj']
    constructor
    · have : w.cell? ⟨g, 0 + j, none⟩ = cur[j]? := by simp [World.cell?, hh]
      rw [this, hc]
      simp [getElem!_pos els.toArray j hj]
    · simp [World.frozen?, hh]
  have hO : Sort.SWO (ltOf fun x y : El d w base (fun k => ok k ∧ k ≠ g) => cf x.1.2 y.1.2) :=
    { irrefl := fun x => by simp [ltOf, hI]
      trans := fun x y z a b => by simp only [ltOf, decide_eq_true_eq] at *; exact hT _ _ _ a b
      ntrans := fun x y z a b => by simp only [ltOf, decide_eq_false_iff_not] at *; exact hN _ _ _ a b }
  have hcon := Any.slices_SortFunc L (fun x : El d w base (fun k => ok k ∧ k ≠ g) => x.1.1) (fun x => d.K_one (d.K_of_M x.2) _ (by simp)) (fun x y => cf x.1.2 y.1.2) hO F #[] g 0 c els.toArray w eg
    (by
      intro m os dk hs x y
      have hkk : ∀ k, k ≠ g → k < w.heap.size → (sortWorld (fun x : El d w base (fun k => ok k ∧ k ≠ g) => x.1.1) w g 0 m dk os).heap[k]? = w.heap[k]? := fun k h1 h2 => heap_sortWorld _ w g m dk os k h2 h1
      refine (hcmp _ x.1.2 y.1.2 x.1.1 y.1.1 hkk (Kd.M_step x.2 (fun k hk hl => hkk k hk.2 hl)) (Kd.M_step y.2 (fun k hk hl => hkk k hk.2 hl))).mono ?_
      rintro _ _ ⟨rfl, q, rfl⟩
      exact ⟨rfl, q, #[], by simp⟩) hH hgl (by omega)
  rw [hsz'] at hcon
  refine hcon.mono ?_
  rintro _ _ ⟨rfl, d', m, os, hp, hs, rfl⟩
  obtain ⟨hps, -, hpp⟩ := hp
  rw [hsz'] at hps
  have hx1 : (d'.extract 0 n).toList = d'.toList := by simp [← hps]
  have hx2 : (els.toArray.extract 0 n).toList = els := by simp [← hsz']
  rw [hx1, hx2] at hpp
  have hdl : d'.toList.length = n := by simpa using hps
  refine ⟨rfl, d'.toList.map (fun x => x.1.2), ?_, ?_, ⟨h0, d'.toList.map (fun x => x.1.1), ⟨?_, .inr ⟨g, c, Sort.putCells (fun x => x.1.1) 0 d' cur, ?_, hbg, heap_sortWorld_self _ w g m d' os hgl hh, ?_, h2, ?_, ?_⟩⟩, ?_⟩, ?_⟩
  · rw [← he2]; exact hpp.map _
  · rw [List.pairwise_map, List.pairwise_iff_getElem]
    intro i j hi hj hij
    have := hs i j (Nat.zero_le _) hij (by omega)
    have hi' : i < d'.size := by simpa using hi
    have hj' : j < d'.size := by simpa using hj
    simp only [ltOf, decide_eq_false_iff_not, getElem!_pos d' i hi', getElem!_pos d' j hj'] at this
    simpa using this
  · simp [hz, hdl]
  · simp [hdl]
  · simp only [List.length_map, hdl]; omega
  · simp [Sort.putCells, hz] at h3 ⊢; omega
  · rw [List.length_map, hdl, hz, Nat.mul_one, ← hps]
    exact putCells_take _ d' cur (by rw [hz] at *; omega)
  · rw [hok']
    exact reps_of d hz w _ base _ (fun k hk hl => heap_sortWorld _ w g m d' os k hl hk.2) d'.toList
  · exact ⟨rfl, rfl, rfl, by unfold sortWorld; show w.heap.size ≤ (_ ++ os).size; rw [Array.size_append, Sort.size_putRow]; exact Nat.le_add_right _ _, fun i hi hne => heap_sortWorld _ w g m d' os i hi (fun e => hne (by rw [e]))⟩
end Go.Proofs.YthghcpeedmconaaDoor.X
end
section
namespace Go.Proofs.YthghcpeedmconaaDoor.X
open Go.RowKit Go.Proofs.YthghcpeedmconaaDoorW.PrintWords
set_option linter.unusedVariables false
set_option linter.unusedSimpArgs false
def bytes_Join.f (l : List (List Int)) (sep : List Int) : Option (List Int) :=
  if sep = [] ∧ (l.all areB) = true ∧ (l.all fun x => !x.isEmpty) = true ∧ l.flatten.length ≤ 140737488355328 then some l.flatten else none
theorem holds_of {w : World} {A : Option Addr} {c : Nat} {xs : List Int} (h : Kd.C (Kd.int .u8) w A xs.length xs) (hB : areB xs = true) : Lib.HoldsBytes w (.slice A xs.length c) (Lib.bytesOf xs) := by
  refine ⟨A, c, by simp [Lib.bytesOf], fun e => ?_, fun a e i x hx => ?_⟩
  · cases xs with
    | nil => rfl
    | cons y l =>
      obtain ⟨ad, ha, _⟩ := h.2.2 (by simp)
      rw [e] at ha
      exact absurd ha (by simp)
  · simp only [Lib.bytesOf, List.getElem?_map, Option.map_eq_some_iff] at hx
    obtain ⟨b, hb, rfl⟩ := hx
    have hl : i < xs.length := (List.getElem?_eq_some_iff.1 hb).1
    obtain ⟨ad, ha, hc⟩ := h.2.2 (by omega)
    rw [e] at ha
    obtain rfl := Option.some.inj ha
    obtain ⟨cs, -, hcs, hcell⟩ := hc i b hb
    have := areB_iff.1 hB b (List.mem_of_getElem? hb)
    have e1 : cs = [.int .u8 b] := hcs
    have e2 := hcell 0 (.int .u8 b) (by rw [e1]; rfl)
    rw [Nat.add_zero, show (Kd.int .u8).sz = 1 from rfl, Nat.mul_one] at e2
    rw [e2]
    have : ((UInt8.ofNat b.toNat).toNat : Int) = b := by
      rw [UInt8.toNat_ofNat', Nat.mod_eq_of_lt (show b.toNat < 2 ^ 8 by omega)]
      omega
    rw [this]
theorem lens_eq (l : List (List Int)) : Lib.lens (l.map Lib.bytesOf) = l.flatten.length := by
  induction l with
  | nil => rfl
  | cons x l ih => rw [List.map_cons, Lib.lens_cons, ih]; simp [Lib.bytesOf]
theorem bytesOf_append (l m : List Int) : Lib.bytesOf (l ++ m) = Lib.bytesOf l ++ Lib.bytesOf m := by simp [Lib.bytesOf]
theorem bytesOf_flatten (l : List (List Int)) : Lib.bytesOf l.flatten = (l.map Lib.bytesOf).flatten := by
  induction l with
  | nil => rfl
  | cons x l ih => rw [List.flatten_cons, bytesOf_append, ih, List.map_cons, List.flatten_cons]
theorem join_flat (l : List (List UInt8)) : Lib.join l [] = l.flatten := by
  cases l with
  | nil => rfl
  | cons x r =>
    rw [Lib.join_cons]
    simp [Lib.joinTail]
theorem len_flatten {l : List (List Int)} (h : (l.all fun x => !x.isEmpty) = true) : l.length ≤ l.flatten.length := by
  induction l with
  | nil => simp
  | cons x l ih =>
    simp only [List.all_cons, Bool.and_eq_true] at h
    have := ih h.2
    have : 0 < x.length := by
      cases x with
      | nil => simp at h
      | cons => simp
    rw [List.flatten_cons, List.length_append, List.length_cons]; omega
theorem areB_flatten {l : List (List Int)} (h : (l.all areB) = true) : areB l.flatten = true := by
  rw [areB_iff]
  intro b hb
  obtain ⟨x, hx, hbx⟩ := List.mem_flatten.1 hb
  exact areB_iff.1 (List.all_eq_true.1 h x hx) b hbx
theorem parts_of {w : World} {ad : Addr} {xs : List (List Int)} (h : Kd.C (Kd.slice 5 (Kd.int .u8)) w (some ad) xs.length xs) (hB : (xs.all areB) = true) :
    ∃ vs, Lib.PartsAt w ad vs (xs.map Lib.bytesOf) := by
  have hx : ∀ j : Fin xs.length, ∃ v, w.cell? (ad.add j.1) = some v ∧ Lib.HoldsBytes w v (Lib.bytesOf xs[j.1]) := by
    intro j
    obtain ⟨ad', ha, hc⟩ := h.2.2 (by have := j.2; omega)
    obtain rfl := Option.some.inj ha
    obtain ⟨cs, -, ⟨A, c, rfl, hl, hC⟩, hcell⟩ := hc j.1 xs[j.1] (by simp)
    have e2 := hcell 0 _ rfl
    rw [Nat.add_zero, show (Kd.slice 5 (Kd.int .u8)).sz = 1 from rfl, Nat.mul_one] at e2
    exact ⟨_, e2, holds_of hC (List.all_eq_true.1 hB _ (List.getElem_mem _))⟩
  refine ⟨List.ofFn (fun j : Fin xs.length => (hx j).choose), by simp, fun i v hi => ?_, fun i v l hi hl => ?_⟩
  · obtain ⟨hlt, rfl⟩ := List.getElem?_eq_some_iff.1 hi
    have := (hx ⟨i, by simpa using hlt⟩).choose_spec.1
    simpa using this
  · obtain ⟨hlt, rfl⟩ := List.getElem?_eq_some_iff.1 hi
    obtain ⟨hlt2, rfl⟩ := List.getElem?_eq_some_iff.1 hl
    have := (hx ⟨i, by simpa using hlt⟩).choose_spec.2
    simpa using this
theorem fresh_C {B : Nat} {w' : World} {v' : Value} {t : List Int} (hB : areB t = true) (hm : t.length ≤ 9223372036854775807) (h : Lib.FreshBytes B w' v' (Lib.bytesOf t)) :
    ∃ A c, v' = .slice A t.length c ∧ t.length ≤ c ∧ Kd.C (Kd.int .u8) w' A t.length t := by
  obtain ⟨g, cap, zs, rfl, -, h1, -, h2, h3, h4, h5, -⟩ := h
  have hl : (Lib.bytesOf t).length = t.length := by simp [Lib.bytesOf]
  rw [hl] at h1 h4 ⊢
  have ht : zs.take t.length = t := bytesOf_inj (areB_iff.2 fun b hb => h3 b (List.mem_of_mem_take hb)) hB h4
  refine ⟨_, cap, rfl, h1, rfl, hm, fun hp => ⟨_, rfl, fun j p hj => ⟨[.int .u8 p], rfl, rfl, fun i u hi => ?_⟩⟩⟩
  have hlt : j < t.length := (List.getElem?_eq_some_iff.1 hj).1
  cases i with
  | succ i => simp at hi
  | zero =>
    simp only [List.getElem?_cons_zero, Option.some.injEq] at hi
    subst hi
    rw [Nat.add_zero, show (Kd.int .u8).sz = 1 from rfl, Nat.mul_one, add_plain]
    have := h5 j (by omega)
    rw [this]
    have e : zs.getD j 0 = p := by
      rw [← ht, List.getElem?_take, if_pos hlt] at hj
      rw [List.getD_eq_getElem?_getD, hj]
      rfl
    rw [e]
theorem join_fact {l : List (List Int)} {t : List Int} (h : bytes_Join.f l [] = some t) : (l.all areB) = true ∧ (l.all fun x => !x.isEmpty) = true ∧ l.flatten.length ≤ 140737488355328 ∧ t = l.flatten := by
  unfold bytes_Join.f at h
  split at h
  · rename_i hc
    exact ⟨hc.2.1, hc.2.2.1, hc.2.2.2, (Option.some.inj h).symm⟩
  · exact absurd h (by simp)
theorem srt_fact {l : List (List Int)} {t : List Int} (h : bytes_Join.f (srt l) [] = some t) : (l.all areB) = true ∧ l.length < 4611686018427387904 := by
  obtain ⟨h1, h2, h3, -⟩ := join_fact h
  exact ⟨List.all_eq_true.2 fun x hx => List.all_eq_true.1 h1 x (srt_mem.2 hx), by have := len_flatten h2; rw [srt_len] at this; omega⟩
theorem bytes_Join.calls (base : Nat) (ok : Nat → Prop) (v : Value) (xs : List (List Int)) (t : List Int) (w : World) (HO : (Kd.slice 5 (Kd.int .u8)).R 47 w base ok v xs) (h : bytes_Join.f xs [] = some t) :
    Calls Tryd.prog 63 #[v, .slice none 0 0] w fun e w' => ∃ A c, e = .returned (.slice A t.length c) ∧ t.length ≤ c ∧ Kd.C (Kd.int .u8) w' A t.length t ∧ Below w.heap.size w w' := by
  obtain ⟨hB, hE, hL, rfl⟩ := join_fact h
  have hBf := areB_flatten hB
  obtain ⟨A, c, rfl, hlc, hC⟩ := Kd.R_reads HO
  match xs, hB, hE, hL, hBf, HO, hlc, hC with
  | [], hB, hE, hL, hBf, HO, hlc, hC =>
    refine (Any.bytes_Join_none Tryd.joinB A c _ w).mono ?_
    rintro e w' ⟨rfl, rfl⟩
    exact ⟨_, _, rfl, Nat.le_refl _, ⟨rfl, by simp, fun h => absurd h (by simp)⟩, below_alloc (Below.refl _ _) _⟩
  | [x], hB, hE, hL, hBf, HO, hlc, hC =>
    obtain ⟨ad, rfl, hc⟩ := hC.2.2 (by simp)
    obtain ⟨cs, -, ⟨A, c1, rfl, hl, hCx⟩, hcell⟩ := hc 0 x rfl
    have e2 := hcell 0 _ rfl
    rw [Nat.add_zero, Nat.zero_mul] at e2
    have hbx : areB x = true := by simpa using hB
    have hx47 : x.length ≤ 140737488355328 := by simpa using hL
    have hx0 : 0 < x.length := by cases x with | nil => simp at hE | cons => simp
    obtain ⟨p, cap, e3, hn, hcc⟩ := holds_of (c := c1) hCx hbx
    obtain ⟨ad0, rfl, -⟩ := hCx.2.2 hx0
    injection e3 with e4 e5 e6
    subst e4
    have hlen : (Lib.bytesOf x).length = x.length := by simp [Lib.bytesOf]
    obtain ⟨g, hg⟩ : ∃ g, ad = ⟨g, 0, none⟩ := by
      obtain ⟨_, inner, ⟨_, hown⟩, _⟩ := HO
      rcases hown with ⟨hv, _⟩ | ⟨g, cap, cur, hv, _⟩
      · simp at hv
      · injection hv with a b c'
        injection a with a
        exact ⟨g, a⟩
    subst hg
    rw [add_plain] at e2
    have hj := Any.bytes_Join_one Tryd.joinB g 0 c ad0 c1 (Lib.bytesOf x) (.slice none 0 0) w (by rw [hlen]; exact e2) (fun i y hy => hcc ad0 rfl i y hy) (by omega) (by rw [hlen]; simpa using hL)
    refine hj.mono ?_
    rintro e w' ⟨v', rfl, hf, hb⟩
    have hxx : [x].flatten = x := by simp
    rw [hxx]
    obtain ⟨A', c', rfl, hl', hC'⟩ := fresh_C hbx (by omega) hf
    exact ⟨A', c', rfl, hl', hC', hb⟩
  | x :: y :: l, hB, hE, hL, hBf, HO, hlc, hC =>
    obtain ⟨ad, rfl, -⟩ := hC.2.2 (by simp)
    obtain ⟨vs, hP⟩ := parts_of hC hB
    obtain ⟨g, hg⟩ : ∃ g, ad = ⟨g, 0, none⟩ := by
      obtain ⟨_, inner, ⟨_, hown⟩, _⟩ := HO
      rcases hown with ⟨hv, _⟩ | ⟨g, cap, cur, hv, _⟩
      · simp at hv
      · injection hv with a b c'
        injection a with a
        exact ⟨g, a⟩
    subst hg
    have hle := len_flatten hE
    have hj := Any.bytes_Join_many Tryd.joinB g 0 (x :: y :: l).length c vs ((x :: y :: l).map Lib.bytesOf) (.slice none 0 0) [] w (by simp) (by simp) hP hlc ⟨none, 0, rfl, fun _ => rfl, fun a h => absurd h (by simp)⟩ (by omega) (by rw [lens_eq]; simpa using hL)
    refine hj.mono ?_
    rintro e w' ⟨v', rfl, hf, hb⟩
    rw [join_flat, ← bytesOf_flatten] at hf
    obtain ⟨A', c', rfl, hl', hC'⟩ := fresh_C hBf (by omega) hf
    exact ⟨A', c', rfl, hl', hC', hb⟩
set_option maxRecDepth 100000 in
theorem bytes_Compare.same (A0 : Option Addr) (c0 : Nat) (l0 : List Int) (A1 : Option Addr) (c1 : Nat) (l1 : List Int) (w : World) (hr0 : Kd.C (Kd.int .u8) w A0 l0.length l0) (hr1 : Kd.C (Kd.int .u8) w A1 l1.length l1) :
    Calls Tryd.prog 62 #[.slice A0 l0.length c0, .slice A1 l1.length c1] w fun e w' => e = .returned (.int .i64 (cmpL l0 l1)) ∧ w' = w := by
  have hrun : (Extern.BytealgCompare.compare #[.slice A0 l0.length c0, .slice A1 l1.length c1]).run Tryd.prog w = .ok (.int .i64 (cmpL l0 l1)) w := by
    change Sem.run Tryd.prog (do pure (goInt (Extern.BytealgCompare.cmp (← Extern.Bytes.bytesOf (.slice A0 l0.length c0)) (← Extern.Bytes.bytesOf (.slice A1 l1.length c1))))) w = _
    simp only [Sem.run_bind, Sem.run_pure, bytesOf_read hr0, bytesOf_read hr1, Result.andThen]
    rw [Lib.cmp_eq]
    rfl
  clear hr0 hr1
  go_enter Tryd.func62, Tryd.ntmps62
  go_wp2
  rw [run_callFunc_extern Tryd.func82 (by kernel_rfl) (by kernel_rfl) (by kernel_rfl) (e := Extern.BytealgCompare.compare) (by kernel_rfl), hrun]
  simp only [Result.andThen]
  rw [Oper.upon_value]
  go_wp2
  go_ret
  exact ⟨rfl, rfl⟩
theorem sort_calls (base : Nat) (ok : Nat → Prop) (v : Value) (xs : List (List Int)) (w : World) (HO : (Kd.slice 5 (Kd.int .u8)).R 47 w base ok v xs) (hB : (xs.all areB) = true) (hn : xs.length < 4611686018427387904) :
    Calls Tryd.prog 61 #[v, .func (.func 62) #[] #[]] w fun e w' => e = .returned (.tuple #[]) ∧ (Kd.slice 5 (Kd.int .u8)).R 47 w' base ok v (srt xs) ∧ w.grownBy w' v.ownBlock := by
  have HO' := HO
  obtain ⟨_, inner, ⟨hlen, hown⟩, hreps⟩ := HO
  rcases hown with ⟨rfl, hx⟩ | ⟨g, cap, cur, rfl, _⟩
  · obtain rfl := List.length_eq_zero_iff.1 hx
    refine (AnyF.slices_SortFunc_none (P := Tryd.prog) { Tryd.sortB with } none 0 _ w).mono ?_
    rintro e w' ⟨rfl, rfl⟩
    exact ⟨rfl, (by rw [show srt [] = [] by simp [srt]]; exact HO'), ⟨rfl, rfl, rfl, Nat.le_refl _, fun _ _ _ => rfl⟩⟩
  · have eg : ∀ args w, (callFunc 62 args).run Tryd.prog w = .ok (.enter 62 args) w := enters_of Tryd.func62 (by kernel_rfl) rfl
    refine (sort_own Tryd.sortB (Kd.slice 5 (Kd.int .u8)) rfl 62 cmpL (fun x => cb_self _) (fun x y z => cb_trans _ _ _) (fun x y z => cb_ntrans _ _ _) eg 47 w base ok g xs.length cap xs (.slice none 0 0) [] (fun ok' => ⟨_, rfl, Kd.R_nil _ _ _ _ _⟩) HO' rfl hn ?_).mono ?_
    · intro W x y cx cy hk hx hy
      obtain ⟨A, c, e1, hl, hC⟩ := (Kd.slice 5 (Kd.int .u8)).K_of_M hx
      obtain ⟨A2, c2, e2, hl2, hC2⟩ := (Kd.slice 5 (Kd.int .u8)).K_of_M hy
      injection e1 with e1
      injection e2 with e2
      subst e1 e2
      refine (bytes_Compare.same A c x A2 c2 y W hC hC2).mono ?_
      rintro e w' ⟨rfl, rfl⟩
      exact ⟨rfl, 0, rfl⟩
    · rintro e w' ⟨rfl, ys, hp, hs, hR, hg⟩
      rw [srt_uniq (fun x hx => List.all_eq_true.1 hB x hx) hp hs] at hR
      exact ⟨rfl, hR, hg⟩
end Go.Proofs.YthghcpeedmconaaDoor.X
end
section
namespace Go.Proofs.YthghcpeedmconaaDoor.X
open Go.RowKit Go.Proofs.YthghcpeedmconaaDoorW.PrintWords Go.Proofs.YthghcpeedmconaaDoorW.PrintLast Go.Proofs.YthghcpeedmconaaDoorW.PrintMore
attribute [local go_sem] max2_int min2_int max_two min_two max_three min_three max_four min_four
set_option linter.unusedVariables false
set_option linter.unusedSimpArgs false
def rowcode_Bag.l0 : Nat → List (List (S42)) → List (List Int) → List (List (S42)) → Int → Int → Option (List Int × Int)
  | 0, _, _, _, _, _ => none
  | k + 1, x0, x4, x13, x14, x15 => if x15 < x14 then (if 0 ≤ x15 then (if x15 < (x13.length : Int) then ((rowcode_row.f k (rd_L5 x13 x15)).bind fun bt720 => (if bt720.2 = 0 then (if x4.length < 5864062014805 then (rowcode_Bag.l0 k x0 (x4 ++ [bt720.1]) x13 x14 (wrap64 (x15 + 1))) else (none)) else (some (([] : List Int), bt720.2)))) else (none)) else (none)) else ((some (([((x0.length : Int) / 16777216) % 256, ((x0.length : Int) / 65536) % 256, ((x0.length : Int) / 256) % 256, ((x0.length : Int)) % 256] : List Int) : List Int)).bind fun y727 => ((bytes_Join.f (srt x4) ([] : List Int)).bind fun t730 => (if y727.length + t730.length < 140737488355328 then (some ((y727 ++ t730), 0)) else (none))))
def rowcode_Bag.f (k : Nat) (l0 : List (List (S42))) : Option (List Int × Int) := if (l0.length : Int) > 65536 then (some (([] : List Int), 2)) else (rowcode_Bag.l0 k l0 ([] : List (List Int)) l0 (l0.length : Int) 0)
theorem rowcode_Bag.mono_l : ∀ k, (∀ y0 y1 y2 y3 y4, LeO (rowcode_Bag.l0 k y0 y1 y2 y3 y4) (rowcode_Bag.l0 (k + 1) y0 y1 y2 y3 y4))
  | 0 => fun _ _ _ _ _ r h => by simp [rowcode_Bag.l0] at h
  | k + 1 => by
    have ih0 := rowcode_Bag.mono_l k
    · intro y0 y1 y2 y3 y4
      unfold rowcode_Bag.l0
      repeat' first
      | (with_reducible exact ih0 _ _ _ _ _)
      | (with_reducible exact rowcode_row.mono _ _)
      | (with_reducible exact LeO.refl _)
      | (with_reducible exact LeO.none _)
      | (with_reducible refine LeO.ite ?_ ?_)
      | (with_reducible refine LeO.bind ?_ (fun _ => ?_))
      | exact ih0 _ _ _ _ _
      | exact rowcode_row.mono _ _
      | exact LeO.none _
      | refine LeO.ite ?_ ?_
      | refine LeO.bind ?_ (fun _ => ?_)
theorem rowcode_Bag.mono : ∀ a0 k, LeO (rowcode_Bag.f k a0) (rowcode_Bag.f (k + 1) a0) := by
  intro a0 k
  have ih0 := rowcode_Bag.mono_l k
  unfold rowcode_Bag.f
  repeat' first
      | (with_reducible exact ih0 _ _ _ _ _)
      | (with_reducible exact rowcode_row.mono _ _)
      | (with_reducible exact LeO.refl _)
      | (with_reducible exact LeO.none _)
      | (with_reducible refine LeO.ite ?_ ?_)
      | (with_reducible refine LeO.bind ?_ (fun _ => ?_))
      | exact ih0 _ _ _ _ _
      | exact rowcode_row.mono _ _
      | exact LeO.none _
      | refine LeO.ite ?_ ?_
      | refine LeO.bind ?_ (fun _ => ?_)
set_option maxHeartbeats 8000000 in
set_option maxRecDepth 100000 in
theorem rowcode_Bag.calls (k : Nat) (A0 : Option Addr) (c0 : Nat) (l0 : List (List (S42))) (r1 : List Int) (r2 : Int) (w : World) (hT : Tabs w) (hr0 : Kd.C (Kd.slice 42 k42) w A0 l0.length l0) (hc0 : l0.length ≤ c0) (h : rowcode_Bag.f k l0 = some (r1, r2)) :
    Calls Tryd.prog 39 #[.slice A0 l0.length c0] w fun e w' => ∃ v0_ : Value, e = .returned (.tuple #[v0_, .int .i64 r2]) ∧ Kd.R (Kd.int .u8) 5 w' w.heap.size (fun _ => True) v0_ r1 ∧ Below w.heap.size w w' := by
  have HT := Aside0.mk hT
  clear hT
  have HR0 := Aside0.mk hr0
  have HC0 := Aside0.mk hc0
  clear hr0 hc0
  have HB := Aside0.mk (Below.refl w.heap.size w)
  have H : (if (l0.length : Int) > 65536 then (some (([] : List Int), 2)) else (rowcode_Bag.l0 k l0 ([] : List (List Int)) l0 (l0.length : Int) 0)) = some (r1, r2) := h
  clear h
  by_cases c2 : (l0.length : Int) > 65536
  · rw [if_pos c2] at H
    have c2b0 : decide (65536 < (l0.length : Int)) = true := decide_eq_true c2
    have c2b1 : decide (65536 < l0.length) = true := decide_eq_true (by omega)
    clear c2
    simp only [Option.some.injEq, Prod.mk.injEq] at H
    obtain ⟨rfl, rfl⟩ := H
    go_enter Tryd.func39, Tryd.ntmps39
    go_wp2
    go_ret2
    exact ⟨_, by first | rfl | (simp [errW_none, errW_some] <;> rfl) | (simp [*, errW_none, errW_some] <;> rfl), by first | exact Kd.R_nil _ _ _ _ _ | exact Kd.N_nil _ _ _ _ _ | exact Kd.V_nil _ _ _ _ _ | exact Kd.Q_nil _ _ _ _ _ | exact Kd.S_nil _ _ _ _ _, by repeat (first | (with_reducible first | exact HB.out | apply below_alloc | apply pw_below_drewN | apply below_drew1) | exact HB.out)⟩
  · rw [if_neg c2] at H
    have c2b0 : decide (65536 < (l0.length : Int)) = false := decide_eq_false c2
    have c2b1 : decide (65536 < l0.length) = false := decide_eq_false (by omega)
    clear c2
    have H' := Aside0.mk H
    clear H
    go_enter Tryd.func39, Tryd.ntmps39
    go_wp2
    go_loopg [4, 15] k (fun kq v4 v15 w' => ∃ (x4_1 : List (List Int)) (x15_1 : Int), v15 = .int .i64 x15_1 ∧ Aside0 (rowcode_Bag.l0 kq l0 x4_1 l0 (l0.length : Int) x15_1 = some (r1, r2)) ∧ Aside0 (kq ≤ k) ∧ Aside0 (Kd.S (Kd.slice 5 (Kd.int .u8)) 47 w' w.heap.size (fun _ => True) v4 x4_1) ∧ Aside0 (Below w.heap.size w w'))
    case atStart => exact ⟨(([] : List (List Int))), (0), (by first | rfl | (simp; done) | (simp [*]; done)), H', ⟨Nat.le_refl _⟩, ⟨by first | exact Kd.S_nil _ _ _ _ _ | exact Kd.N_nil _ _ _ _ _ | exact Kd.V_nil _ _ _ _ _ | exact Kd.Q_nil _ _ _ _ _ | exact Kd.R_nil _ _ _ _ _⟩, ⟨by repeat (first | (with_reducible first | exact HB.out | apply below_alloc | apply pw_below_drewN | apply below_drew1) | exact HB.out)⟩⟩
    case round =>
      clear H'
      try clear c2
      try clear c2b0
      try clear c2b1
      try clear p2
      obtain ⟨x4_1, x15_1, rfl, HA, HK1, HO_4, HB⟩ := hrel
      cases gk with
      | zero => exact absurd HA.out (by simp [rowcode_Bag.l0])
      | succ k1 =>
        have H := HA.out
        clear HA
        simp only [rowcode_Bag.l0] at H
        by_cases c3 : x15_1 < (l0.length : Int)
        · rw [if_pos c3] at H
          have c3b0 : decide (x15_1 < (l0.length : Int)) = true := decide_eq_true c3
          clear c3
          by_cases c4 : 0 ≤ x15_1
          · rw [if_pos c4] at H
            have c4b0 : decide (0 ≤ x15_1) = true := decide_eq_true c4
            clear c4
            by_cases c5 : x15_1 < (l0.length : Int)
            · rw [if_pos c5] at H
              have c5b0 : decide (x15_1 < (l0.length : Int)) = true := decide_eq_true c5
              clear c5
              replace H := Option.bind_eq_some_iff.mp H
              obtain ⟨⟨t720, t721⟩, A60, H⟩ := H
              replace H : (if t721 = 0 then (if x4_1.length < 5864062014805 then (rowcode_Bag.l0 k1 l0 (x4_1 ++ [t720]) l0 (l0.length : Int) (wrap64 (x15_1 + 1))) else (none)) else (some (([] : List Int), t721))) = some (r1, r2) := H
              have A6 := Aside0.mk A60
              clear A60
              by_cases c7 : t721 = 0
              · rw [if_pos c7] at H
                have c7b0 : (t721 == 0) = true := beq_iff_eq.mpr c7
                have c7b1 : (t721 != 0) = false := bne_eq_false_iff_eq.mpr c7
                clear c7
                by_cases c8 : x4_1.length < 5864062014805
                · rw [if_pos c8] at H
                  have LMc8 := Aside0.mk c8
                  clear c8
                  obtain ⟨y724, hy724⟩ : ∃ y_ : List (List Int), y_ = (x4_1 ++ [t720]) := ⟨_, rfl⟩
                  replace H : (rowcode_Bag.l0 k1 l0 y724 l0 (l0.length : Int) (wrap64 (x15_1 + 1))) = some (r1, r2) := by first | (rw [hy724]; with_reducible exact H) | (have H2_ := (Option.bind_some _ _).symm.trans H; rw [hy724]; with_reducible exact H2_) | (have H2_ := (Option.bind_some _ _).symm.trans H; with_reducible exact H2_) | with_reducible exact H | (rw [hy724]; exact H) | exact H
                  have Ny724 := Aside0.mk hy724
                  clear hy724
                  have H' := Aside0.mk H
                  clear H
                  have p719 : 0 ≤ (x15_1 : Int) := of_decide_eq_true (by first | (with_reducible assumption) | assumption)
                  have q719 : x15_1 < (l0.length : Int) := of_decide_eq_true (by first | (with_reducible assumption) | assumption)
                  obtain ⟨ad719, A719_0, c719_0, e719, hx719_0, hl719_0, hi719_0⟩ := at_L5 HR0.out x15_1 p719 q719
                  cases e719
                  replace hx719_0 := (HB.out.cell (World.block_lt_of_cell? w _ hx719_0)).trans hx719_0
                  have HR719_0 := Aside0.mk hi719_0
                  have HC719_0 := Aside0.mk hl719_0
                  clear hi719_0 hl719_0
                  replace p719 := eq_true p719
                  replace q719 := eq_true q719
                  go_wp2_with (first | ((with_reducible refine gate_callee (f := 45) rfl ?_); refine goesL_ (some 21) rfl rfl Tryd.func45 (by kernel_rfl) rfl #[.slice A719_0 (rd_L5 l0 x15_1).length c719_0] rfl (by (try simp only [List.map_toArray, List.map_cons, List.map_nil]); first | done | rfl | (simp only [List.length_drop, List.length_take]; rfl)) ?_; (with_reducible refine (rowcode_row.calls k1 _ _ (rd_L5 l0 x15_1) t720 t721 _ ?side1 ?side2 ?side3 A6.out).mono ?_); (case side1 => exact Tabs.below HT.out (by repeat (first | (with_reducible first | exact HB.out | apply below_alloc | apply pw_below_drewN | apply below_drew1) | exact HB.out))); (case side2 => repeat (first | exact (Kd.C_below HR719_0.out HB.out) | (with_reducible refine Kd.C_alloc ?_ _) | (with_reducible refine Kd.C_drewN ?_ _) | (with_reducible refine Kd.C_drew ?_))); (case side3 => exact HC719_0.out); rintro e w9 ⟨v722, rfl, ho0, hb⟩; refine ⟨_, rfl, ?_⟩; have n0_ := Aside0.mk (Kd.S_elder' (by (with_reducible repeat (first | apply Kd.S_alloc | apply Kd.S_drewN | apply Kd.S_drew)); exact HO_4.out) (Kd.R_base ho0) hb); have n1_ := Aside0.mk (Kd.R_lower ho0 (below_size (by repeat (first | (with_reducible first | exact HB.out | apply below_alloc | apply pw_below_drewN | apply below_drew1) | exact HB.out)))); have n2_ := Aside0.mk (below_step (by repeat (first | (with_reducible first | exact HB.out | apply below_alloc | apply pw_below_drewN | apply below_drew1) | exact HB.out)) hb); clear HO_4; clear HB; have HO_4 := n0_; have HO723 := n1_; have HB := n2_; clear n0_ n1_ n2_; (try clear hb); (try clear hb2); (try clear hk); (try clear hi); (try clear ho0); obtain ⟨Ao11, co11, eo11⟩ := Kd.R_slice HO723.out; subst eo11) | ((with_reducible refine gate_builtin (b := .append) (xs := #[.tmp 27, .tmp 29]) rfl ?_); at_builtin; refine Kd.S_append (Kd.slice 5 (Kd.int .u8)) (w0 := w) w.heap.size rfl (.tmp 27) (.tmp 29) 87 47 (.slice none 0 0) 24 rfl Tryd.underlying87 info47 rfl (by decide) (by omega) u4 x4_1 t720 [.slice Ao11 t720.length co11] (fun _ => True) (fun k_ => some k_ = (.slice Ao11 t720.length co11 : Value).ownBlock) rfl rfl ?aP (fun k_ hk_ => ((Kd.R_mono (ok' := fun k_ => ((fun _ => True)) k_ ∧ some k_ ≠ (u4 : Value).ownBlock) (Kd.R_apart' (HO723.out) (Kd.S_typed HO_4.out) (by decide)) (fun k_ hk => ⟨trivial, hk.2⟩))).1 k_ hk_.symm) ?aF ?aO ?aB ?aS ?aL ?_; (case aP => exact Kd.M_row (Kd.R_mono (Kd.R_tight rfl (Kd.R_mono (ok' := fun k_ => ((fun _ => True)) k_ ∧ some k_ ≠ (u4 : Value).ownBlock) (Kd.R_apart' (HO723.out) (Kd.S_typed HO_4.out) (by decide)) (fun k_ hk => ⟨trivial, hk.2⟩))) (fun _ h_ => h_))); (case aB => exact (by repeat (first | (with_reducible first | exact HB.out | apply below_alloc | apply pw_below_drewN | apply below_drew1) | exact HB.out))); (case aF => exact (fun _ _ => trivial)); (case aO => exact (by (with_reducible repeat (first | apply Kd.S_alloc | apply Kd.S_drewN | apply Kd.S_drew)); exact Kd.S_mono HO_4.out (fun k_ hk => ⟨trivial, fun e_ => hk.2 e_⟩))); (case aS => exact (below_size (by repeat (first | (with_reducible first | exact HB.out | apply below_alloc | apply pw_below_drewN | apply below_drew1) | exact HB.out)))); (case aL => have := LMc8.out; omega); intro v725 w10 ho hb hg hat; rw [← Ny724.out] at ho; have n0_ := Aside0.mk (hb); have n1_ := Aside0.mk (ho); clear HB; clear HO_4; clear HO723; have HB := n0_; have HO726 := n1_; clear n0_ n1_; clear ho hb hg hat))
                  go_roundg k1
                  case measure => have := HK1.out; omega
                  case rel => exact ⟨(y724), (wrap64 (x15_1 + 1)), (by first | rfl | (simp; done) | (simp [*]; done)), H', ⟨by have := HK1.out; omega⟩, ⟨by (with_reducible repeat (first | apply Kd.S_alloc | apply Kd.S_drewN | apply Kd.S_drew)); exact HO726.out⟩, ⟨by repeat (first | (with_reducible first | exact HB.out | apply below_alloc | apply pw_below_drewN | apply below_drew1) | exact HB.out)⟩⟩
                · rw [if_neg c8] at H
                  exact absurd H (by simp)
              · rw [if_neg c7] at H
                have c7b0 : (t721 == 0) = false := beq_eq_false_iff_ne.mpr c7
                have c7b1 : (t721 != 0) = true := bne_iff_ne.mpr c7
                simp only [Option.some.injEq, Prod.mk.injEq] at H
                obtain ⟨rfl, rfl⟩ := H
                have p719 : 0 ≤ (x15_1 : Int) := of_decide_eq_true (by first | (with_reducible assumption) | assumption)
                have q719 : x15_1 < (l0.length : Int) := of_decide_eq_true (by first | (with_reducible assumption) | assumption)
                obtain ⟨ad719, A719_0, c719_0, e719, hx719_0, hl719_0, hi719_0⟩ := at_L5 HR0.out x15_1 p719 q719
                cases e719
                replace hx719_0 := (HB.out.cell (World.block_lt_of_cell? w _ hx719_0)).trans hx719_0
                have HR719_0 := Aside0.mk hi719_0
                have HC719_0 := Aside0.mk hl719_0
                clear hi719_0 hl719_0
                replace p719 := eq_true p719
                replace q719 := eq_true q719
                go_wp2_with (first | ((with_reducible refine gate_callee (f := 45) rfl ?_); refine goesL_ (some 21) rfl rfl Tryd.func45 (by kernel_rfl) rfl #[.slice A719_0 (rd_L5 l0 x15_1).length c719_0] rfl (by (try simp only [List.map_toArray, List.map_cons, List.map_nil]); first | done | rfl | (simp only [List.length_drop, List.length_take]; rfl)) ?_; (with_reducible refine (rowcode_row.calls k1 _ _ (rd_L5 l0 x15_1) t720 t721 _ ?side1 ?side2 ?side3 A6.out).mono ?_); (case side1 => exact Tabs.below HT.out (by repeat (first | (with_reducible first | exact HB.out | apply below_alloc | apply pw_below_drewN | apply below_drew1) | exact HB.out))); (case side2 => repeat (first | exact (Kd.C_below HR719_0.out HB.out) | (with_reducible refine Kd.C_alloc ?_ _) | (with_reducible refine Kd.C_drewN ?_ _) | (with_reducible refine Kd.C_drew ?_))); (case side3 => exact HC719_0.out); rintro e w12 ⟨v722, rfl, ho0, hb⟩; refine ⟨_, rfl, ?_⟩; have n0_ := Aside0.mk (Kd.S_elder' (by (with_reducible repeat (first | apply Kd.S_alloc | apply Kd.S_drewN | apply Kd.S_drew)); exact HO_4.out) (Kd.R_base ho0) hb); have n1_ := Aside0.mk (Kd.R_lower ho0 (below_size (by repeat (first | (with_reducible first | exact HB.out | apply below_alloc | apply pw_below_drewN | apply below_drew1) | exact HB.out)))); have n2_ := Aside0.mk (below_step (by repeat (first | (with_reducible first | exact HB.out | apply below_alloc | apply pw_below_drewN | apply below_drew1) | exact HB.out)) hb); clear HO_4; clear HB; have HO_4 := n0_; have HO723 := n1_; have HB := n2_; clear n0_ n1_ n2_; (try clear hb); (try clear hb2); (try clear hk); (try clear hi); (try clear ho0)))
                go_ret2
                exact ⟨_, by first | rfl | (simp [errW_none, errW_some] <;> rfl) | (simp [*, errW_none, errW_some] <;> rfl), by first | exact Kd.R_nil _ _ _ _ _ | exact Kd.N_nil _ _ _ _ _ | exact Kd.V_nil _ _ _ _ _ | exact Kd.Q_nil _ _ _ _ _ | exact Kd.S_nil _ _ _ _ _, by repeat (first | (with_reducible first | exact HB.out | apply below_alloc | apply pw_below_drewN | apply below_drew1) | exact HB.out)⟩
            · rw [if_neg c5] at H
              exact absurd H (by simp)
          · rw [if_neg c4] at H
            exact absurd H (by simp)
        · rw [if_neg c3] at H
          have c3b0 : decide (x15_1 < (l0.length : Int)) = false := decide_eq_false c3
          clear c3
          obtain ⟨y727, hy727⟩ : ∃ y_ : List Int, y_ = (([((l0.length : Int) / 16777216) % 256, ((l0.length : Int) / 65536) % 256, ((l0.length : Int) / 256) % 256, ((l0.length : Int)) % 256] : List Int)) := ⟨_, rfl⟩
          replace H : ((bytes_Join.f (srt x4_1) ([] : List Int)).bind fun t730 => (if y727.length + t730.length < 140737488355328 then (some ((y727 ++ t730), 0)) else (none))) = some (r1, r2) := by first | (rw [hy727]; with_reducible exact H) | (have H2_ := (Option.bind_some _ _).symm.trans H; rw [hy727]; with_reducible exact H2_) | (have H2_ := (Option.bind_some _ _).symm.trans H; with_reducible exact H2_) | with_reducible exact H | (rw [hy727]; exact H) | exact H
          have Ny727 := Aside0.mk hy727
          clear hy727
          replace H := Option.bind_eq_some_iff.mp H
          obtain ⟨t730, A130, H⟩ := H
          replace H : (if y727.length + t730.length < 140737488355328 then (some ((y727 ++ t730), 0)) else (none)) = some (r1, r2) := H
          have A13 := Aside0.mk A130
          clear A130
          by_cases c14 : y727.length + t730.length < 140737488355328
          · rw [if_pos c14] at H
            have LMc14 := Aside0.mk c14
            clear c14
            obtain ⟨y733, hy733⟩ : ∃ y_ : List Int, y_ = (y727 ++ t730) := ⟨_, rfl⟩
            replace H : (some (y733, 0)) = some (r1, r2) := by first | (rw [hy733]; with_reducible exact H) | (have H2_ := (Option.bind_some _ _).symm.trans H; rw [hy733]; with_reducible exact H2_) | (have H2_ := (Option.bind_some _ _).symm.trans H; with_reducible exact H2_) | with_reducible exact H | (rw [hy733]; exact H) | exact H
            have Ny733 := Aside0.mk hy733
            clear hy733
            simp only [Option.some.injEq, Prod.mk.injEq] at H
            obtain ⟨rfl, rfl⟩ := H
            go_wp2_with (first | ((with_reducible refine gate_callee (f := 61) rfl ?_); refine goesL_ (some 33) rfl rfl Tryd.func61 (by kernel_rfl) rfl #[u4, .func (.func 62) #[] #[]] rfl (by (try simp only [List.map_toArray, List.map_cons, List.map_nil]); first | done | rfl) ?_; (refine (sort_calls w.heap.size (fun _ => True) u4 x4_1 _ (Kd.S_R (by (with_reducible repeat (first | apply Kd.S_alloc | apply Kd.S_drewN | apply Kd.S_drew)); exact HO_4.out)) (srt_fact A13.out).1 (srt_fact A13.out).2).mono ?_); rintro e wS ⟨rfl, hR, hg⟩; refine ⟨_, rfl, ?_⟩; have n0_ := Aside0.mk hR; have n1_ := Aside0.mk (pw_below_grown (by repeat (first | (with_reducible first | exact HB.out | apply below_alloc | apply pw_below_drewN | apply below_drew1) | exact HB.out)) _ (below_size (by repeat (first | (with_reducible first | exact HB.out | apply below_alloc | apply pw_below_drewN | apply below_drew1) | exact HB.out))) hg (fun k_ hk_ => Kd.R_base hR k_ hk_)); clear HO_4; clear HB; have HO_4 := n0_; have HB := n1_; clear n0_ n1_; clear hR hg) | ((with_reducible refine gate_dst (N := 47) rfl ?_); refine Kd.R_lit (Kd.int .u8) _ 5 ?hg (N := 47) ?hd (xs := ([((l0.length : Int) / 16777216) % 256, ((l0.length : Int) / 65536) % 256, ((l0.length : Int) / 256) % 256, ((l0.length : Int)) % 256] : List Int)) (inner := [.int .u8 (((l0.length : Int) / 16777216) % 256), .int .u8 (((l0.length : Int) / 65536) % 256), .int .u8 (((l0.length : Int) / 256) % 256), .int .u8 (((l0.length : Int)) % 256)]) (ok := fun _ => True) (okp := fun _ => True) ?hr ?hp (fun _ hk => hk) trivial (Below.refl _ _) (Nat.le_refl _) (by simp) ?_; (case hd => rfl); (case hg => rfl); (case hr => first | (go_simp; done) | (go_simp; rfl)); (case hp => exact (Reps.one (show Kd.M (Kd.int .u8) _ _ _ (((l0.length : Int) / 16777216) % 256) [.int .u8 (((l0.length : Int) / 16777216) % 256)] from rfl) (Reps.one (show Kd.M (Kd.int .u8) _ _ _ (((l0.length : Int) / 65536) % 256) [.int .u8 (((l0.length : Int) / 65536) % 256)] from rfl) (Reps.one (show Kd.M (Kd.int .u8) _ _ _ (((l0.length : Int) / 256) % 256) [.int .u8 (((l0.length : Int) / 256) % 256)] from rfl) (Reps.one (show Kd.M (Kd.int .u8) _ _ _ (((l0.length : Int)) % 256) [.int .u8 (((l0.length : Int)) % 256)] from rfl) (Reps.none _ _)))))); intro v728 w15 ho16 hb hg_ hnew_; clear hg_ hnew_; (first | rw [← Ny727.out] at ho16 | (simp only [Int.reduceToNat] at ho16; rw [← Ny727.out] at ho16)); have n0_ := Aside0.mk (Kd.R_below (by (with_reducible repeat (first | apply Kd.R_alloc | apply Kd.R_drewN | apply Kd.R_drew)); exact HO_4.out) hb); have n1_ := Aside0.mk (Kd.R_lower ho16 (below_size (by repeat (first | (with_reducible first | exact HB.out | apply below_alloc | apply pw_below_drewN | apply below_drew1) | exact HB.out)))); have n2_ := Aside0.mk (below_step (by repeat (first | (with_reducible first | exact HB.out | apply below_alloc | apply pw_below_drewN | apply below_drew1) | exact HB.out)) hb); clear HO_4; clear HB; have HO_4 := n0_; have HO729 := n1_; have HB := n2_; clear n0_ n1_ n2_; clear hb ho16) | ((with_reducible refine gate_callee (f := 63) rfl ?_); refine goesL_ (some 49) rfl rfl Tryd.func63 (by kernel_rfl) rfl #[u4, .slice none 0 0] rfl (by (try simp only [List.map_toArray, List.map_cons, List.map_nil]); first | done | rfl) ?_; (refine (bytes_Join.calls w.heap.size (fun _ => True) u4 (srt x4_1) t730 _ (by (with_reducible repeat (first | apply Kd.R_alloc | apply Kd.R_drewN | apply Kd.R_drew)); exact HO_4.out) A13.out).mono ?_); rintro e w18 ⟨AJ, cJ, rfl, hlJ, hCJ, hb⟩; refine ⟨_, rfl, ?_⟩; have n1_ := Aside0.mk (Kd.R_below (by (with_reducible repeat (first | apply Kd.R_alloc | apply Kd.R_drewN | apply Kd.R_drew)); exact HO729.out) hb); have n2_ := Aside0.mk hCJ; have n3_ := Aside0.mk (below_step (by repeat (first | (with_reducible first | exact HB.out | apply below_alloc | apply pw_below_drewN | apply below_drew1) | exact HB.out)) hb); clear HO_4; clear HO729; clear HB; have HO729 := n1_; have HCJ := n2_; have HB := n3_; clear n1_ n2_ n3_; clear hb hCJ) | ((with_reducible refine gate_builtin (b := .append) (xs := #[.tmp 47, .tmp 49]) rfl ?_); at_builtin; refine Kd.R_append_rows (Kd.int .u8) (w0 := w) w.heap.size rfl (.tmp 47) (.tmp 49) 47 5 (.int .u8 0) 1 rfl Tryd.underlying47 info5 rfl (by decide) (by omega) v728 y727 t730 _ _ _ (fun _ => True) (fun _ => False) rfl rfl ?aO ?aR (fun _ _ h => h) (fun _ h => h.elim) ?aF ?aB ?aS ?aL ?_; (case aR => exact (by (with_reducible repeat (first | apply Kd.C_alloc | apply Kd.C_drewN | apply Kd.C_drew)); exact HCJ.out)); (case aB => exact (by repeat (first | (with_reducible first | exact HB.out | apply below_alloc | apply pw_below_drewN | apply below_drew1) | exact HB.out))); (case aF => exact fun _ _ => trivial); (case aO => exact (by (with_reducible repeat (first | apply Kd.R_alloc | apply Kd.R_drewN | apply Kd.R_drew)); exact HO729.out)); (case aS => exact (below_size (by repeat (first | (with_reducible first | exact HB.out | apply below_alloc | apply pw_below_drewN | apply below_drew1) | exact HB.out)))); (case aL => have := LMc14.out; omega); intro v734 w19 ho hb hg hat; rw [← Ny733.out] at ho; have n2_ := Aside0.mk hb; have n3_ := Aside0.mk ho; clear HO729; clear HB; have HB := n2_; have HO735 := n3_; clear n2_ n3_; clear ho hb hg hat))
            go_ret2
            exact ⟨_, by first | rfl | (simp [errW_none, errW_some] <;> rfl) | (simp [*, errW_none, errW_some] <;> rfl), by (with_reducible repeat (first | apply Kd.R_alloc | apply Kd.R_drewN | apply Kd.R_drew)); exact Kd.R_mono HO735.out (fun _ hk => trivial), by repeat (first | (with_reducible first | exact HB.out | apply below_alloc | apply pw_below_drewN | apply below_drew1) | exact HB.out)⟩
          · rw [if_neg c14] at H
            exact absurd H (by simp)
end Go.Proofs.YthghcpeedmconaaDoor.X
end
section
namespace Go.Proofs.YthghcpeedmconaaDoor.X
open Go.RowKit Go.Proofs.YthghcpeedmconaaDoorW.PrintWords Go.Proofs.YthghcpeedmconaaDoorW.PrintLast Go.Proofs.YthghcpeedmconaaDoorW.PrintMore
attribute [local go_sem] max2_int min2_int max_two min_two max_three min_three max_four min_four
end Go.Proofs.YthghcpeedmconaaDoor.X
end
section
namespace Go.Proofs.YthghcpeedmconaaDoor.X
open Go.RowKit Go.Proofs.YthghcpeedmconaaDoorW.PrintWords Go.Proofs.YthghcpeedmconaaDoorW.PrintLast Go.Proofs.YthghcpeedmconaaDoorW.PrintMore
attribute [local go_sem] max2_int min2_int max_two min_two max_three min_three max_four min_four
end Go.Proofs.YthghcpeedmconaaDoor.X
end
section
namespace Go.Proofs.YthghcpeedmconaaDoor.X
open Go.RowKit Go.Proofs.YthghcpeedmconaaDoorW.PrintWords Go.Proofs.YthghcpeedmconaaDoorW.PrintLast Go.Proofs.YthghcpeedmconaaDoorW.PrintMore
attribute [local go_sem] max2_int min2_int max_two min_two max_three min_three max_four min_four
end Go.Proofs.YthghcpeedmconaaDoor.X
end
section
namespace Go.Proofs.YthghcpeedmconaaDoor.X
open Go.RowKit Go.Proofs.YthghcpeedmconaaDoorW.PrintWords Go.Proofs.YthghcpeedmconaaDoorW.PrintLast Go.Proofs.YthghcpeedmconaaDoorW.PrintMore
attribute [local go_sem] max2_int min2_int max_two min_two max_three min_three max_four min_four
end Go.Proofs.YthghcpeedmconaaDoor.X
end
section
namespace Go.Proofs.YthghcpeedmconaaDoor.X
open Go.RowKit Go.Proofs.YthghcpeedmconaaDoorW.PrintWords
set_option linter.unusedVariables false
theorem less_cb : ∀ x y : List UInt8, Op.bytesLess x y = decide (Lib.compareBytes x y < 0)
  | [], [] => rfl
  | [], _ :: _ => rfl
  | _ :: _, [] => rfl
  | a :: x, b :: y => by
    have hd : Op.bytesLess (a :: x) (b :: y) = (decide (a < b) || (a == b && Op.bytesLess x y)) := rfl
    rw [hd, less_cb x y, cb_cons]
    by_cases h1 : a.toNat < b.toNat
    · rw [if_pos h1, decide_eq_true (UInt8.lt_iff_toNat_lt.2 h1)]; rfl
    · rw [if_neg h1, decide_eq_false (fun h => h1 (UInt8.lt_iff_toNat_lt.1 h))]
      by_cases h2 : b.toNat < a.toNat
      · rw [if_pos h2, beq_eq_false_iff_ne.2 (fun h => by rw [h] at h2; omega)]; rfl
      · rw [if_neg h2, beq_iff_eq.2 (UInt8.toNat_inj.1 (by omega))]; simp
theorem w1 (i : Nat) (h : i < 9223372036854775807) : wrap64 ((i : Int) + 1) = ((i + 1 : Nat) : Int) := by unfold wrap64; omega
def bagErr : List (List S42) → Int
  | [] => 0
  | r :: l => if (rowOut r).2 = 0 then bagErr l else (rowOut r).2
def hdr (n : Nat) : List Int := [((n : Int) / 16777216) % 256, ((n : Int) / 65536) % 256, ((n : Int) / 256) % 256, ((n : Int)) % 256]
def bagOut (l : List (List S42)) : List Int × Int := if 65536 < l.length then ([], 2) else if bagErr l = 0 then (hdr l.length ++ (srt (l.map codes)).flatten, 0) else ([], bagErr l)
structure Fine (r : List S42) : Prop where
  out : rowOut r = (codes r, 0)
  len : r.length ≤ 16
  can : ∀ v ∈ r, Can v
theorem fine_of {r : List S42} (hn : ∀ v ∈ r, I64 v.f1) (h : (rowOut r).2 = 0) : Fine r := by
  unfold rowOut at h
  by_cases h1 : 16 < r.length
  · rw [if_pos h1] at h; exact absurd h (by decide)
  · rw [if_neg h1] at h
    by_cases h2 : rowErr r = 0
    · exact ⟨by unfold rowOut; rw [if_neg h1, if_pos h2], by omega, rowErr_can r hn h2⟩
    · rw [if_neg h2] at h; exact absurd h h2
theorem Fine.code_len {r : List S42} (h : Fine r) : 1 ≤ (codes r).length ∧ (codes r).length ≤ 140000 := by
  have := codes_len r h.can
  have := h.len
  omega
theorem codes_areB (r : List S42) : areB (codes r) = true := areB_iff.2 (codes_isB r)
theorem fine_all : ∀ {l : List (List S42)}, (∀ r ∈ l, ∀ v ∈ r, I64 v.f1) → bagErr l = 0 → ∀ r ∈ l, Fine r
  | [], _, _ => fun r hr => by simp at hr
  | a :: l, hn, h => by
    unfold bagErr at h
    by_cases hc : (rowOut a).2 = 0
    · rw [if_pos hc] at h
      intro r hr
      rcases List.mem_cons.1 hr with rfl | hr
      · exact fine_of (hn _ List.mem_cons_self) hc
      · exact fine_all (fun r hr => hn r (List.mem_cons_of_mem _ hr)) h r hr
    · rw [if_neg hc] at h; exact absurd h hc
theorem drop5 {l : List (List S42)} {i : Nat} (hi : i < l.length) : l.drop i = rd_L5 l (i : Int) :: l.drop (i + 1) := by
  unfold rd_L5
  rw [List.drop_eq_getElem_cons hi, List.getD_eq_getElem?_getD, Int.toNat_natCast, List.getElem?_eq_getElem hi]
  rfl
theorem mem5 {l : List (List S42)} {i : Nat} (hi : i < l.length) : rd_L5 l (i : Int) ∈ l := by
  unfold rd_L5
  rw [List.getD_eq_getElem?_getD, Int.toNat_natCast, List.getElem?_eq_getElem hi]
  exact List.getElem_mem hi
theorem flat_len {x : List (List Int)} (h : ∀ y ∈ x, y.length ≤ 140000) : x.flatten.length ≤ 140000 * x.length := by
  induction x with
  | nil => simp
  | cons a x ih =>
    have := ih (fun y hy => h y (List.mem_cons_of_mem _ hy))
    have := h a List.mem_cons_self
    rw [List.flatten_cons, List.length_append, List.length_cons]; omega
theorem hdr_len (n : Nat) : (hdr n).length = 4 := rfl
theorem join_srt (l : List (List S42)) (hl : l.length ≤ 65536) (hf : ∀ r ∈ l, Fine r) : bytes_Join.f (srt (l.map codes)) [] = some (srt (l.map codes)).flatten := by
  unfold bytes_Join.f
  have hlen : (srt (l.map codes)).length = l.length := by rw [srt_len, List.length_map]
  refine if_pos ⟨rfl, ?_, ?_, ?_⟩
  · rw [List.all_eq_true]
    intro x hx
    obtain ⟨r, -, rfl⟩ := List.mem_map.1 (srt_mem.1 hx)
    exact codes_areB r
  · rw [List.all_eq_true]
    intro x hx
    obtain ⟨r, hr, rfl⟩ := List.mem_map.1 (srt_mem.1 hx)
    have := (hf r hr).code_len.1
    cases h : codes r with
    | nil => rw [h] at this; simp at this
    | cons => rfl
  · have := flat_len (x := srt (l.map codes)) (fun y hy => by obtain ⟨r, hr, rfl⟩ := List.mem_map.1 (srt_mem.1 hy); exact (hf r hr).code_len.2)
    omega
theorem pBag_loop (l : List (List S42)) (hl : l.length ≤ 65536) (hn : ∀ r ∈ l, ∀ v ∈ r, I64 v.f1) : ∀ (d i : Nat), i + d = l.length → bagErr (l.take i) = 0 → ∀ (k : Nat), d + 40 ≤ k →
    rowcode_Bag.l0 k l ((l.take i).map codes) l (l.length : Int) (i : Int) = some (if bagErr (l.drop i) = 0 then (hdr l.length ++ (srt (l.map codes)).flatten, 0) else ([], bagErr (l.drop i)))
  | 0, i, h, hz, k, hk => by
    obtain ⟨k, rfl⟩ : ∃ m, k = m + 1 := ⟨k - 1, by omega⟩
    have ht : l.take i = l := List.take_of_length_le (by omega)
    rw [ht] at hz ⊢
    have hf := fine_all hn hz
    have hlen : (srt (l.map codes)).length = l.length := by rw [srt_len, List.length_map]
    have hfl := flat_len (x := srt (l.map codes)) (fun y hy => by obtain ⟨r, hr, rfl⟩ := List.mem_map.1 (srt_mem.1 hy); exact (hf r hr).code_len.2)
    rw [rowcode_Bag.l0, if_neg (by omega), List.drop_eq_nil_of_le (by omega), show bagErr ([] : List (List S42)) = 0 from rfl, if_pos rfl, Option.bind_some, join_srt l hl hf, Option.bind_some]
    show (if (hdr l.length).length + (srt (l.map codes)).flatten.length < 140737488355328 then some (hdr l.length ++ (srt (l.map codes)).flatten, (0 : Int)) else none) = _
    rw [if_pos (by rw [hdr_len]; omega)]
  | d + 1, i, h, hz, k, hk => by
    obtain ⟨k, rfl⟩ : ∃ m, k = m + 1 := ⟨k - 1, by omega⟩
    have hi : i < l.length := by omega
    rw [rowcode_Bag.l0, if_pos (by omega), if_pos (by omega), if_pos (by omega), row_eq _ (hn _ (mem5 hi)) k (by omega), Option.bind_some, drop5 hi]
    unfold bagErr
    by_cases hc : (rowOut (rd_L5 l (i : Int))).2 = 0
    · have hf := fine_of (hn _ (mem5 hi)) hc
      have ht : l.take (i + 1) = l.take i ++ [rd_L5 l (i : Int)] := by
        rw [List.take_add_one]
        unfold rd_L5
        rw [List.getD_eq_getElem?_getD, Int.toNat_natCast, List.getElem?_eq_getElem hi]
        rfl
      have hz' : bagErr (l.take (i + 1)) = 0 := by
        rw [ht]
        have : ∀ (a : List (List S42)) (r : List S42), bagErr a = 0 → (rowOut r).2 = 0 → bagErr (a ++ [r]) = 0 := by
          intro a r ha hr
          induction a with
          | nil => simp [bagErr, hr]
          | cons b a ih =>
            rw [List.cons_append]
            unfold bagErr at ha ⊢
            by_cases hb : (rowOut b).2 = 0
            · rw [if_pos hb] at ha ⊢; exact ih ha
            · rw [if_neg hb] at ha; exact absurd ha hb
        exact this _ _ hz hc
      rw [if_pos hc, if_pos hc, if_pos (by rw [List.length_map, List.length_take]; omega), w1 i (by omega), hf.out]
      have := pBag_loop l hl hn d (i + 1) (by omega) hz' k (by omega)
      rw [ht, List.map_append] at this
      exact this
    · rw [if_neg hc, if_neg hc, if_neg hc]
theorem pBag_eq (l : List (List S42)) (hn : ∀ r ∈ l, ∀ v ∈ r, I64 v.f1) (k : Nat) (hk : 65536 + 40 ≤ k) : rowcode_Bag.f k l = some (bagOut l) := by
  unfold rowcode_Bag.f bagOut
  by_cases h : 65536 < l.length
  · rw [if_pos (by omega), if_pos h]
  · rw [if_neg (by omega), if_neg h]
    exact pBag_loop l (by omega) hn l.length 0 (by omega) rfl k (by omega)
end Go.Proofs.YthghcpeedmconaaDoor.X
end
section
namespace Go.Proofs.YthghcpeedmconaaDoor.X
open Go.RowKit Go.Proofs.YthghcpeedmconaaDoorW.PrintWords
set_option linter.unusedVariables false
theorem bits_or_u32_nat (a b : Nat) (ha : a < 4294967296) (hb : b < 4294967296) : Go.bits .or .u32 (a : Int) (b : Int) = ((a ||| b : Nat) : Int) := by
  have hx : a ||| b < 2 ^ 32 := Nat.or_lt_two_pow (by omega) (by omega)
  have h1 : (BitVec.ofInt 32 (a : Int)).toNat = a := by
    rw [BitVec.ofInt_natCast, BitVec.toNat_ofNat]; exact Nat.mod_eq_of_lt (by omega)
  have h2 : (BitVec.ofInt 32 (b : Int)).toNat = b := by
    rw [BitVec.ofInt_natCast, BitVec.toNat_ofNat]; exact Nat.mod_eq_of_lt (by omega)
  show IntKind.u32.wrap ((BitVec.ofInt 32 (a : Int) ||| BitVec.ofInt 32 (b : Int)).toNat : Int) = _
  rw [BitVec.toNat_or, h1, h2]
  show ((a ||| b : Nat) : Int) % 4294967296 = _
  omega
theorem or_low (i a b : Nat) (h : b < 2 ^ i) : (2 ^ i * a) ||| b = 2 ^ i * a + b := (Nat.two_pow_add_eq_or_of_lt h a).symm
theorem or_four (a b c d : Nat) (ha : a < 256) (hb : b < 256) (hc : c < 256) (hd : d < 256) : (((a * 16777216 ||| b * 65536) ||| c * 256) ||| d) = ((a * 256 + b) * 256 + c) * 256 + d := by
  have h1 : a * 16777216 ||| b * 65536 = (a * 256 + b) * 65536 := by
    have := or_low 24 a (b * 65536) (by omega)
    rw [Nat.mul_comm a, show (16777216 : Nat) = 2 ^ 24 from rfl, this]
    omega
  have h2 : (a * 256 + b) * 65536 ||| c * 256 = ((a * 256 + b) * 256 + c) * 256 := by
    have := or_low 16 (a * 256 + b) (c * 256) (by omega)
    rw [Nat.mul_comm _ 65536, show (65536 : Nat) = 2 ^ 16 from rfl, this]
    omega
  have h3 : ((a * 256 + b) * 256 + c) * 256 ||| d = ((a * 256 + b) * 256 + c) * 256 + d := by
    have := or_low 8 ((a * 256 + b) * 256 + c) d (by omega)
    rw [Nat.mul_comm _ 256, show (256 : Nat) = 2 ^ 8 from rfl, this]
  rw [h1, h2, h3]
def headN (a b c d : Int) : Int := ((a * 256 + b) * 256 + c) * 256 + d
theorem head_u32 (a b c d : Int) (ha : 0 ≤ a ∧ a < 256) (hb : 0 ≤ b ∧ b < 256) (hc : 0 ≤ c ∧ c < 256) (hd : 0 ≤ d ∧ d < 256) :
    Go.bits .or .u32 (Go.bits .or .u32 (Go.bits .or .u32 (((a % 4294967296) * 16777216) % 4294967296) (((b % 4294967296) * 65536) % 4294967296)) (((c % 4294967296) * 256) % 4294967296)) (d % 4294967296) = headN a b c d := by
  obtain ⟨a, rfl⟩ := Int.eq_ofNat_of_zero_le ha.1
  obtain ⟨b, rfl⟩ := Int.eq_ofNat_of_zero_le hb.1
  obtain ⟨c, rfl⟩ := Int.eq_ofNat_of_zero_le hc.1
  obtain ⟨d, rfl⟩ := Int.eq_ofNat_of_zero_le hd.1
  rw [show (((a : Int) % 4294967296) * 16777216) % 4294967296 = ((a * 16777216 : Nat) : Int) by omega, show (((b : Int) % 4294967296) * 65536) % 4294967296 = ((b * 65536 : Nat) : Int) by omega,
    show (((c : Int) % 4294967296) * 256) % 4294967296 = ((c * 256 : Nat) : Int) by omega, show ((d : Int) % 4294967296) = ((d : Nat) : Int) by omega]
  have e := or_four a b c d (by omega) (by omega) (by omega) (by omega)
  have l1 : a * 16777216 ||| b * 65536 < 2 ^ 32 := Nat.or_lt_two_pow (by omega) (by omega)
  have l2 : (a * 16777216 ||| b * 65536) ||| c * 256 < 2 ^ 32 := Nat.or_lt_two_pow l1 (by omega)
  rw [bits_or_u32_nat _ _ (by omega) (by omega), bits_or_u32_nat _ _ (by omega) (by omega), bits_or_u32_nat _ _ (by omega) (by omega), e]
  unfold headN
  omega
end Go.Proofs.YthghcpeedmconaaDoor.X
end
section
namespace Go.Proofs.YthghcpeedmconaaDoor.X
open Go.RowKit Go.Proofs.YthghcpeedmconaaDoorW.PrintWords Go.Proofs.YthghcpeedmconaaDoorW.PrintLast Go.Proofs.YthghcpeedmconaaDoorW.PrintMore
attribute [local go_sem] max2_int min2_int max_two min_two max_three min_three max_four min_four
set_option linter.unusedVariables false
set_option linter.unusedSimpArgs false
def locksteplaw02_Own.f (l0 : List (S42)) : Option ((List (S42))) := if 0 ≤ (wrap64 ((l0.length : Int) + 1)) then (if (wrap64 ((l0.length : Int) + 1) : Int).toNat ≤ 8796093022208 then ((some (([] : List (S42)) : List (S42))).bind fun y101 => (if y101.length + l0.length < 4398046511104 then (some (y101 ++ l0)) else (none))) else (none)) else (none)
set_option maxHeartbeats 8000000 in
set_option maxRecDepth 100000 in
theorem locksteplaw02_Own.calls (A0 : Option Addr) (c0 : Nat) (l0 : List (S42)) (r : List (S42)) (w : World) (hr0 : Kd.C k42 w A0 l0.length l0) (hc0 : l0.length ≤ c0) (h : locksteplaw02_Own.f l0 = some r) :
  Calls Tryd.prog 12 #[.slice A0 l0.length c0] w fun e w' => ∃ v0_ : Value, e = .returned (v0_) ∧ Kd.R k42 42 w' w.heap.size (fun _ => True) v0_ r ∧ Below w.heap.size w w' := by
 have HR0 := Aside0.mk hr0
 have HC0 := Aside0.mk hc0
 clear hr0 hc0
 have HB := Aside0.mk (Below.refl w.heap.size w)
 have H : (if 0 ≤ (wrap64 ((l0.length : Int) + 1)) then (if (wrap64 ((l0.length : Int) + 1) : Int).toNat ≤ 8796093022208 then ((some (([] : List (S42)) : List (S42))).bind fun y101 => (if y101.length + l0.length < 4398046511104 then (some (y101 ++ l0)) else (none))) else (none)) else (none)) = some r := h
 clear h
 obtain ⟨ji2, hji2⟩ : ∃ j_ : Int, (wrap64 ((l0.length : Int) + 1)) = j_ := ⟨_, rfl⟩
 replace H : (if 0 ≤ (ji2) then (if (ji2 : Int).toNat ≤ 8796093022208 then ((some (([] : List (S42)) : List (S42))).bind fun y101 => (if y101.length + l0.length < 4398046511104 then (some (y101 ++ l0)) else (none))) else (none)) else (none)) = some r := by first | (rw [hji2] at H; exact H) | (simp only [hji2] at H ⊢; exact H)
 have hji2w : (IntKind.i64.wrap ((l0.length : Int) + 1)) = ji2 := (i64_w _).trans hji2
 by_cases c3 : 0 ≤ (ji2)
 ·
  rw [if_pos c3] at H
  have c3b0 := eq_true c3
  have c3b1 : decide (0 ≤ (ji2)) = true := decide_eq_true c3
  clear c3
  by_cases c4 : (ji2 : Int).toNat ≤ 8796093022208
  ·
   rw [if_pos c4] at H
   have c4b0 := eq_true c4
   have c4b1 : decide ((ji2 : Int).toNat ≤ 8796093022208) = true := decide_eq_true c4
   clear c4
   obtain ⟨y101, hy101⟩ : ∃ y_ : List (S42), y_ = (([] : List (S42))) := ⟨_, rfl⟩
   replace H : (if y101.length + l0.length < 4398046511104 then (some (y101 ++ l0)) else (none)) = some r := by first | (rw [hy101]; with_reducible exact H) | (have H2_ := (Option.bind_some _ _).symm.trans H; rw [hy101]; with_reducible exact H2_) | (have H2_ := (Option.bind_some _ _).symm.trans H; with_reducible exact H2_) | with_reducible exact H | (rw [hy101]; exact H) | exact H
   have Ny101 := Aside0.mk hy101
   clear hy101
   by_cases c5 : y101.length + l0.length < 4398046511104
   ·
    rw [if_pos c5] at H
    have LMc5 := Aside0.mk c5
    clear c5
    obtain ⟨y104, hy104⟩ : ∃ y_ : List (S42), y_ = (y101 ++ l0) := ⟨_, rfl⟩
    replace H : (some y104) = some r := by first | (rw [hy104]; with_reducible exact H) | (have H2_ := (Option.bind_some _ _).symm.trans H; rw [hy104]; with_reducible exact H2_) | (have H2_ := (Option.bind_some _ _).symm.trans H; with_reducible exact H2_) | with_reducible exact H | (rw [hy104]; exact H) | exact H
    have Ny104 := Aside0.mk hy104
    clear hy104
    obtain rfl := Option.some.inj H
    go_enter Tryd.func12, Tryd.ntmps12
    go_wp2_with (first | ((with_reducible refine gate_dst (N := 6) rfl ?_); refine Kd.R_make0 k42 _ 42 rfl (N := 6) rfl 33 _ _ rfl ji2 rfl rfl Tryd.underlying33 (.agg #[(.int .i64 0), (.int .i64 0), (.string ⟨#[]⟩)]) 32 info42 rfl (by decide) (by omega) z42 (ok := fun _ => True) (okp := fun _ => True) (k42_mkM _ _ _ z42 ) (fun _ hk => hk) trivial (of_decide_eq_true (by first | (with_reducible assumption) | assumption)) (Nat.le_trans (Nat.mul_le_mul_right _ (of_decide_eq_true (by first | (with_reducible assumption) | assumption) : ji2.toNat ≤ 8796093022208)) (by omega)) (Below.refl _ _) (Nat.le_refl _) ?_; intro v102 w6 ho7 hb hg_ hnew_; clear hg_ hnew_; (first | rw [← Ny101.out] at ho7 | (simp only [Int.reduceToNat] at ho7; rw [← Ny101.out] at ho7)); have n0_ := Aside0.mk (Kd.R_lower ho7 (below_size (by repeat (first | (with_reducible first | exact HB.out | apply below_alloc | apply pw_below_drewN | apply below_drew1) | exact HB.out)))); have n1_ := Aside0.mk (below_step (by repeat (first | (with_reducible first | exact HB.out | apply below_alloc | apply pw_below_drewN | apply below_drew1) | exact HB.out)) hb); clear HB; have HO103 := n0_; have HB := n1_; clear n0_ n1_; clear hb ho7) | ((with_reducible refine gate_builtin (b := .append) (xs := #[.tmp 6, .tmp 7]) rfl ?_); at_builtin; refine Kd.R_append_rows k42 (w0 := w) w.heap.size rfl (.tmp 6) (.tmp 7) 33 42 (.agg #[(.int .i64 0), (.int .i64 0), (.string ⟨#[]⟩)]) 32 rfl Tryd.underlying33 info42 rfl (by decide) (by omega) v102 y101 l0 _ _ _ (fun _ => True) (fun _ => False) rfl rfl ?aO ?aR (fun _ _ h => h) (fun _ h => h.elim) ?aF ?aB ?aS ?aL ?_; (case aR => repeat (first | exact (Kd.C_below HR0.out HB.out) | (with_reducible refine Kd.C_alloc ?_ _) | (with_reducible refine Kd.C_drewN ?_ _) | (with_reducible refine Kd.C_drew ?_))); (case aB => exact (by repeat (first | (with_reducible first | exact HB.out | apply below_alloc | apply pw_below_drewN | apply below_drew1) | exact HB.out))); (case aF => exact (fun _ _ => trivial)); (case aO => exact (by (with_reducible repeat (first | apply Kd.R_alloc | apply Kd.R_drewN | apply Kd.R_drew)); exact HO103.out)); (case aS => exact (below_size (by repeat (first | (with_reducible first | exact HB.out | apply below_alloc | apply pw_below_drewN | apply below_drew1) | exact HB.out)))); (case aL => have := LMc5.out; omega); intro v105 w8 ho hb hg hat; rw [← Ny104.out] at ho; have n0_ := Aside0.mk (hb); have n1_ := Aside0.mk (ho); clear HB; clear HO103; have HB := n0_; have HO106 := n1_; clear n0_ n1_; clear ho hb hg hat))
    go_ret
    exact ⟨_, by first | rfl | (simp [errW_none, errW_some] <;> rfl) | (simp only [← hji2]; first | rfl | (simp [errW_none, errW_some] <;> rfl)) | (simp [*, errW_none, errW_some] <;> rfl), by (with_reducible repeat (first | apply Kd.R_alloc | apply Kd.R_drewN | apply Kd.R_drew)); exact HO106.out, by repeat (first | (with_reducible first | exact HB.out | apply below_alloc | apply pw_below_drewN | apply below_drew1) | exact HB.out)⟩
   ·
    rw [if_neg c5] at H
    exact absurd H (by simp)
  ·
   rw [if_neg c4] at H
   exact absurd H (by simp)
 ·
  rw [if_neg c3] at H
  exact absurd H (by simp)
end Go.Proofs.YthghcpeedmconaaDoor.X
end
section
namespace Go.Proofs.YthghcpeedmconaaDoor.X
open Go.RowKit Go.Proofs.YthghcpeedmconaaDoorW.PrintWords Go.Proofs.YthghcpeedmconaaDoorW.PrintLast Go.Proofs.YthghcpeedmconaaDoorW.PrintMore
attribute [local go_sem] max2_int min2_int max_two min_two max_three min_three max_four min_four
set_option linter.unusedVariables false
set_option linter.unusedSimpArgs false
def locksteplaw02_Owned.l0 : Nat → List (List (S42)) → List (List (S42)) → Int → Option ((List (List (S42))))
 | 0, _, _, _ => none
 | k + 1, x0, x3, x4 => if x4 < (x0.length : Int) then (if 0 ≤ x4 then ((locksteplaw02_Own.f (rd_L5 x0 x4)).bind fun t713 => (if x3.length < 5864062014805 then (locksteplaw02_Owned.l0 k x0 (x3 ++ [t713]) (wrap64 (x4 + 1))) else (none))) else (none)) else (some x3)
def locksteplaw02_Owned.f (k : Nat) (l0 : List (List (S42))) : Option ((List (List (S42)))) := if 0 ≤ (wrap64 ((l0.length : Int) + 1)) then (if (wrap64 ((l0.length : Int) + 1) : Int).toNat ≤ 11728124029610 then (locksteplaw02_Owned.l0 k l0 (([] : List (List (S42)))) 0) else (none)) else (none)
theorem locksteplaw02_Owned.mono_l : ∀ k, (∀ y0 y1 y2, LeO (locksteplaw02_Owned.l0 k y0 y1 y2) (locksteplaw02_Owned.l0 (k + 1) y0 y1 y2))
 | 0 => fun _ _ _ r h => by simp [locksteplaw02_Owned.l0] at h
 | k + 1 => by
  have ih0 := locksteplaw02_Owned.mono_l k
  ·
   intro y0 y1 y2
   unfold locksteplaw02_Owned.l0
   repeat' first
   | (with_reducible exact ih0 _ _ _)
   | (with_reducible exact LeO.refl _)
   | (with_reducible exact LeO.none _)
   | (with_reducible refine LeO.ite ?_ ?_)
   | (with_reducible refine LeO.bind ?_ (fun _ => ?_))
   | exact ih0 _ _ _
   | exact LeO.none _
   | refine LeO.ite ?_ ?_
   | refine LeO.bind ?_ (fun _ => ?_)
theorem locksteplaw02_Owned.mono : ∀ a0 k, LeO (locksteplaw02_Owned.f k a0) (locksteplaw02_Owned.f (k + 1) a0) := by
 intro a0 k
 have ih0 := locksteplaw02_Owned.mono_l k
 unfold locksteplaw02_Owned.f
 repeat' first
   | (with_reducible exact ih0 _ _ _)
   | (with_reducible exact LeO.refl _)
   | (with_reducible exact LeO.none _)
   | (with_reducible refine LeO.ite ?_ ?_)
   | (with_reducible refine LeO.bind ?_ (fun _ => ?_))
   | exact ih0 _ _ _
   | exact LeO.none _
   | refine LeO.ite ?_ ?_
   | refine LeO.bind ?_ (fun _ => ?_)
set_option maxHeartbeats 8000000 in
set_option maxRecDepth 100000 in
theorem locksteplaw02_Owned.calls (k : Nat) (A0 : Option Addr) (c0 : Nat) (l0 : List (List (S42))) (r : List (List (S42))) (w : World) (hr0 : Kd.C (Kd.slice 42 k42) w A0 l0.length l0) (hc0 : l0.length ≤ c0) (h : locksteplaw02_Owned.f k l0 = some r) :
  Calls Tryd.prog 37 #[.slice A0 l0.length c0] w fun e w' => ∃ v0_ : Value, e = .returned (v0_) ∧ Kd.S (Kd.slice 42 k42) 33 w' w.heap.size (fun _ => True) v0_ r ∧ Below w.heap.size w w' := by
 have HR0 := Aside0.mk hr0
 have HC0 := Aside0.mk hc0
 clear hr0 hc0
 have HB := Aside0.mk (Below.refl w.heap.size w)
 have H : (if 0 ≤ (wrap64 ((l0.length : Int) + 1)) then (if (wrap64 ((l0.length : Int) + 1) : Int).toNat ≤ 11728124029610 then (locksteplaw02_Owned.l0 k l0 (([] : List (List (S42)))) 0) else (none)) else (none)) = some r := h
 clear h
 obtain ⟨ji2, hji2⟩ : ∃ j_ : Int, (wrap64 ((l0.length : Int) + 1)) = j_ := ⟨_, rfl⟩
 replace H : (if 0 ≤ (ji2) then (if (ji2 : Int).toNat ≤ 11728124029610 then (locksteplaw02_Owned.l0 k l0 (([] : List (List (S42)))) 0) else (none)) else (none)) = some r := by first | (rw [hji2] at H; exact H) | (simp only [hji2] at H ⊢; exact H)
 have hji2w : (IntKind.i64.wrap ((l0.length : Int) + 1)) = ji2 := (i64_w _).trans hji2
 by_cases c3 : 0 ≤ (ji2)
 ·
  rw [if_pos c3] at H
  have c3b0 := eq_true c3
  have c3b1 : decide (0 ≤ (ji2)) = true := decide_eq_true c3
  clear c3
  by_cases c4 : (ji2 : Int).toNat ≤ 11728124029610
  ·
   rw [if_pos c4] at H
   have c4b0 := eq_true c4
   have c4b1 : decide ((ji2 : Int).toNat ≤ 11728124029610) = true := decide_eq_true c4
   clear c4
   obtain ⟨y709, hy709⟩ : ∃ y_ : List (List (S42)), y_ = (([] : List (List (S42)))) := ⟨_, rfl⟩
   replace H : (locksteplaw02_Owned.l0 k l0 y709 0) = some r := by first | (rw [hy709]; with_reducible exact H) | (have H2_ := (Option.bind_some _ _).symm.trans H; rw [hy709]; with_reducible exact H2_) | (have H2_ := (Option.bind_some _ _).symm.trans H; with_reducible exact H2_) | with_reducible exact H | (rw [hy709]; exact H) | exact H
   have Ny709 := Aside0.mk hy709
   clear hy709
   have H' := Aside0.mk H
   clear H
   go_enter Tryd.func37, Tryd.ntmps37
   go_wp2_with (first | ((with_reducible refine gate_dst (N := 8) rfl ?_); refine Kd.S_make0 (Kd.slice 42 k42) _ 33 rfl (N := 8) rfl 44 _ _ rfl ji2 rfl rfl Tryd.underlying44 (.slice none 0 0) 24 info33 rfl (by decide) (by omega) [] (ok := fun _ => True) (okp := fun _ => True) ⟨_, rfl, Kd.R_nil _ _ _ _ _⟩ (fun _ hk => hk) trivial (of_decide_eq_true (by first | (with_reducible assumption) | assumption)) (Nat.le_trans (Nat.mul_le_mul_right _ (of_decide_eq_true (by first | (with_reducible assumption) | assumption) : ji2.toNat ≤ 11728124029610)) (by omega)) (Below.refl _ _) (Nat.le_refl _) ?_; intro v710 w5 ho6 hb hg_ hnew_; clear hg_ hnew_; (first | rw [← Ny709.out] at ho6 | (simp only [Int.reduceToNat] at ho6; rw [← Ny709.out] at ho6)); have n0_ := Aside0.mk (Kd.S_lower ho6 (below_size (by repeat (first | (with_reducible first | exact HB.out | apply below_alloc | apply pw_below_drewN | apply below_drew1) | exact HB.out)))); have n1_ := Aside0.mk (below_step (by repeat (first | (with_reducible first | exact HB.out | apply below_alloc | apply pw_below_drewN | apply below_drew1) | exact HB.out)) hb); clear HB; have HO711 := n0_; have HB := n1_; clear n0_ n1_; clear hb ho6))
   go_loopg [3, 4] k (fun kq v3 v4 w' => ∃ (x3_1 : List (List (S42))) (x4_1 : Int), v4 = .int .i64 x4_1 ∧ Aside0 (locksteplaw02_Owned.l0 kq l0 x3_1 x4_1 = some r) ∧ Aside0 (kq ≤ k) ∧ Aside0 (Kd.S (Kd.slice 42 k42) 33 w' w.heap.size (fun _ => True) v3 x3_1) ∧ Aside0 (Below w.heap.size w w'))
   case atStart => exact ⟨(y709), (0), (by first | rfl | (simp; done) | (simp [*]; done)), H', ⟨Nat.le_refl _⟩, ⟨by (with_reducible repeat (first | apply Kd.S_alloc | apply Kd.S_drewN | apply Kd.S_drew)); exact HO711.out⟩, ⟨by repeat (first | (with_reducible first | exact HB.out | apply below_alloc | apply pw_below_drewN | apply below_drew1) | exact HB.out)⟩⟩
   case round =>
    clear H'
    (try clear p2); (try clear c3); (try clear c3b0); (try clear c3b1); (try clear c4); (try clear c4b0); (try clear c4b1); (try clear p6)
    obtain ⟨x3_1, x4_1, rfl, HA, HK1, HO_3, HB⟩ := hrel
    cases gk with
    | zero => exact absurd HA.out (by simp [locksteplaw02_Owned.l0])
    | succ k1 =>
     have H := HA.out
     clear HA
     simp only [locksteplaw02_Owned.l0] at H
     by_cases c7 : x4_1 < (l0.length : Int)
     ·
      rw [if_pos c7] at H
      have c7b0 : decide (x4_1 < (l0.length : Int)) = true := decide_eq_true c7
      clear c7
      by_cases c8 : 0 ≤ x4_1
      ·
       rw [if_pos c8] at H
       have c8b0 : decide (0 ≤ x4_1) = true := decide_eq_true c8
       clear c8
       replace H := Option.bind_eq_some_iff.mp H
       obtain ⟨t713, A90, H⟩ := H
       replace H : (if x3_1.length < 5864062014805 then (locksteplaw02_Owned.l0 k1 l0 (x3_1 ++ [t713]) (wrap64 (x4_1 + 1))) else (none)) = some r := H
       have A9 := Aside0.mk A90
       clear A90
       by_cases c10 : x3_1.length < 5864062014805
       ·
        rw [if_pos c10] at H
        have LMc10 := Aside0.mk c10
        clear c10
        obtain ⟨y716, hy716⟩ : ∃ y_ : List (List (S42)), y_ = (x3_1 ++ [t713]) := ⟨_, rfl⟩
        replace H : (locksteplaw02_Owned.l0 k1 l0 y716 (wrap64 (x4_1 + 1))) = some r := by first | (rw [hy716]; with_reducible exact H) | (have H2_ := (Option.bind_some _ _).symm.trans H; rw [hy716]; with_reducible exact H2_) | (have H2_ := (Option.bind_some _ _).symm.trans H; with_reducible exact H2_) | with_reducible exact H | (rw [hy716]; exact H) | exact H
        have Ny716 := Aside0.mk hy716
        clear hy716
        have H' := Aside0.mk H
        clear H
        have p712 : 0 ≤ (x4_1 : Int) := of_decide_eq_true (by first | (with_reducible assumption) | assumption)
        have q712 : x4_1 < (l0.length : Int) := of_decide_eq_true (by first | (with_reducible assumption) | assumption)
        obtain ⟨ad712, A712_0, c712_0, e712, hx712_0, hl712_0, hi712_0⟩ := at_L5 HR0.out x4_1 p712 q712
        cases e712
        replace hx712_0 := (HB.out.cell (World.block_lt_of_cell? w _ hx712_0)).trans hx712_0
        have HR712_0 := Aside0.mk hi712_0
        have HC712_0 := Aside0.mk hl712_0
        clear hi712_0 hl712_0
        replace p712 := eq_true p712
        replace q712 := eq_true q712
        go_wp2_with (first | ((with_reducible refine gate_callee (f := 12) rfl ?_); refine goesL_ (some 20) rfl rfl Tryd.func12 (by kernel_rfl) rfl #[.slice A712_0 (rd_L5 l0 x4_1).length c712_0] rfl (by (try simp only [List.map_toArray, List.map_cons, List.map_nil]); first | done | rfl | (simp only [List.length_drop, List.length_take]; rfl)) ?_; (with_reducible refine (locksteplaw02_Own.calls _ _ (rd_L5 l0 x4_1) t713 _ ?side1 ?side2 A9.out).mono ?_); (case side1 => repeat (first | exact (Kd.C_below HR712_0.out HB.out) | (with_reducible refine Kd.C_alloc ?_ _) | (with_reducible refine Kd.C_drewN ?_ _) | (with_reducible refine Kd.C_drew ?_))); (case side2 => exact HC712_0.out); rintro e w11 ⟨v714, rfl, ho0, hb⟩; refine ⟨_, rfl, ?_⟩; have n0_ := Aside0.mk (Kd.S_elder' (by (with_reducible repeat (first | apply Kd.S_alloc | apply Kd.S_drewN | apply Kd.S_drew)); exact HO_3.out) (Kd.R_base ho0) hb); have n1_ := Aside0.mk (Kd.R_lower ho0 (below_size (by repeat (first | (with_reducible first | exact HB.out | apply below_alloc | apply pw_below_drewN | apply below_drew1) | exact HB.out)))); have n2_ := Aside0.mk (below_step (by repeat (first | (with_reducible first | exact HB.out | apply below_alloc | apply pw_below_drewN | apply below_drew1) | exact HB.out)) hb); clear HO_3; clear HB; have HO_3 := n0_; have HO715 := n1_; have HB := n2_; clear n0_ n1_ n2_; (try clear hb); (try clear hb2); (try clear hk); (try clear hi); (try clear ho0); obtain ⟨Ao13, co13, eo13⟩ := Kd.R_slice HO715.out; subst eo13) | ((with_reducible refine gate_builtin (b := .append) (xs := #[.tmp 15, .tmp 21]) rfl ?_); at_builtin; refine Kd.S_append (Kd.slice 42 k42) (w0 := w) w.heap.size rfl (.tmp 15) (.tmp 21) 44 33 (.slice none 0 0) 24 rfl Tryd.underlying44 info33 rfl (by decide) (by omega) u3 x3_1 t713 [.slice Ao13 t713.length co13] (fun _ => True) (fun k_ => some k_ = (.slice Ao13 t713.length co13 : Value).ownBlock) rfl rfl ?aP (fun k_ hk_ => ((Kd.R_mono (ok' := fun k_ => ((fun _ => True)) k_ ∧ some k_ ≠ (u3 : Value).ownBlock) (Kd.R_apart' (HO715.out) (Kd.S_typed HO_3.out) (by decide)) (fun k_ hk => ⟨trivial, hk.2⟩))).1 k_ hk_.symm) ?aF ?aO ?aB ?aS ?aL ?_; (case aP => exact Kd.M_row (Kd.R_mono (Kd.R_tight rfl (Kd.R_mono (ok' := fun k_ => ((fun _ => True)) k_ ∧ some k_ ≠ (u3 : Value).ownBlock) (Kd.R_apart' (HO715.out) (Kd.S_typed HO_3.out) (by decide)) (fun k_ hk => ⟨trivial, hk.2⟩))) (fun _ h_ => h_))); (case aB => exact (by repeat (first | (with_reducible first | exact HB.out | apply below_alloc | apply pw_below_drewN | apply below_drew1) | exact HB.out))); (case aF => exact (fun _ _ => trivial)); (case aO => exact (by (with_reducible repeat (first | apply Kd.S_alloc | apply Kd.S_drewN | apply Kd.S_drew)); exact Kd.S_mono HO_3.out (fun k_ hk => ⟨trivial, fun e_ => hk.2 e_⟩))); (case aS => exact (below_size (by repeat (first | (with_reducible first | exact HB.out | apply below_alloc | apply pw_below_drewN | apply below_drew1) | exact HB.out)))); (case aL => have := LMc10.out; omega); intro v717 w12 ho hb hg hat; rw [← Ny716.out] at ho; have n0_ := Aside0.mk (hb); have n1_ := Aside0.mk (ho); clear HB; clear HO_3; clear HO715; have HB := n0_; have HO718 := n1_; clear n0_ n1_; clear ho hb hg hat))
        go_roundg k1
        case measure => have := HK1.out; omega
        case rel => exact ⟨(y716), (wrap64 (x4_1 + 1)), (by first | rfl | (simp; done) | (simp [*]; done)), H', ⟨by have := HK1.out; omega⟩, ⟨by (with_reducible repeat (first | apply Kd.S_alloc | apply Kd.S_drewN | apply Kd.S_drew)); exact HO718.out⟩, ⟨by repeat (first | (with_reducible first | exact HB.out | apply below_alloc | apply pw_below_drewN | apply below_drew1) | exact HB.out)⟩⟩
       ·
        rw [if_neg c10] at H
        exact absurd H (by simp)
      ·
       rw [if_neg c8] at H
       exact absurd H (by simp)
     ·
      rw [if_neg c7] at H
      have c7b0 : decide (x4_1 < (l0.length : Int)) = false := decide_eq_false c7
      clear c7
      obtain rfl := Option.some.inj H
      go_wp2
      go_ret
      exact ⟨_, by first | rfl | (simp [errW_none, errW_some] <;> rfl) | (simp only [← hji2]; first | rfl | (simp [errW_none, errW_some] <;> rfl)) | (simp [*, errW_none, errW_some] <;> rfl), by (with_reducible repeat (first | apply Kd.S_alloc | apply Kd.S_drewN | apply Kd.S_drew)); exact HO_3.out, by repeat (first | (with_reducible first | exact HB.out | apply below_alloc | apply pw_below_drewN | apply below_drew1) | exact HB.out)⟩
  ·
   rw [if_neg c4] at H
   exact absurd H (by simp)
 ·
  rw [if_neg c3] at H
  exact absurd H (by simp)
end Go.Proofs.YthghcpeedmconaaDoor.X
end
section
namespace Go.Proofs.YthghcpeedmconaaDoor.X
open Go.RowKit Go.Proofs.YthghcpeedmconaaDoorW.PrintWords Go.Proofs.YthghcpeedmconaaDoorW.PrintLast Go.Proofs.YthghcpeedmconaaDoorW.PrintMore
attribute [local go_sem] max2_int min2_int max_two min_two max_three min_three max_four min_four
end Go.Proofs.YthghcpeedmconaaDoor.X
end
section
namespace Go.Proofs.YthghcpeedmconaaDoor.X
open Go.RowKit Go.Proofs.YthghcpeedmconaaDoorW.PrintWords Go.Proofs.YthghcpeedmconaaDoorW.PrintLast Go.Proofs.YthghcpeedmconaaDoorW.PrintMore
attribute [local go_sem] max2_int min2_int max_two min_two max_three min_three max_four min_four
end Go.Proofs.YthghcpeedmconaaDoor.X
end

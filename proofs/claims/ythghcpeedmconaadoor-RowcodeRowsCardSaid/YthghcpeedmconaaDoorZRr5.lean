/- Part 5 of a claim of this seat: texts merged by a program of the claim's session (wip/bundle.py). -/
import Derived.Test.YthghcpeedmconaaDoorZRr1
import Derived.Test.YthghcpeedmconaaDoorZRr2
import Derived.Test.YthghcpeedmconaaDoorZRr3
import Derived.Test.YthghcpeedmconaaDoorZRr4
import Derived.Shelf.SlSortCmp.Whole1
import Derived.Shelf.Bytes.SlJoin
import Derived.Ground.SlsfProg
import Derived.Ground.SlbNamesProg
import Derived.Test.YthghcpeedmconaaDoorProg
import Derived.Lib.Bytealg
import Derived.Lib.BytesEntry
import Derived.Shelf.SlSortCmp.NoneTotal
section
namespace Go.Proofs.YthghcpeedmconaaDoor.X
open Go.RowKit Go.Proofs.YthghcpeedmconaaDoorW.PrintWords Go.Proofs.YthghcpeedmconaaDoorW.PrintLast Go.Proofs.YthghcpeedmconaaDoorW.PrintMore
attribute [local go_sem] max2_int min2_int max_two min_two max_three min_three max_four min_four
set_option linter.unusedVariables false
set_option linter.unusedSimpArgs false
mutual
def lockstepref02_bytes.j0 : Nat → Int → Bool → Int → Int → ByteArray → Option (List Int)
 | 0, _, _, _, _, _ => none
 | k + 1, x6, x10, x185000, x185001, x185002 => if x10 = true then ((some (([2] : List Int) : List Int)).bind fun y188 => ((lockstepref02_number.f k x185000 x185001 x185002).bind fun t191 => (if y188.length + t191.length < 140737488355328 then ((some (y188 ++ t191 : List Int)).bind fun y194 => ((some (([(x185000) % 256] : List Int) : List Int)).bind fun y197 => (if y194.length + y197.length < 140737488355328 then (some (y194 ++ y197)) else (none)))) else (none)))) else (if x6 = 4 then (some (([4, (x185001) % 256] : List Int))) else (lockstepref02_bytes.l0 k (([3] : List Int)) 0 x185000 x185001 x185002))
def lockstepref02_bytes.l0 : Nat → List Int → Int → Int → Int → ByteArray → Option (List Int)
 | 0, _, _, _, _, _ => none
 | k + 1, x3, x4, x185000, x185001, x185002 => if x4 < (x185002.size : Int) then (if 0 ≤ x4 then ((some (([bt x185002 x4] : List Int) : List Int)).bind fun y209 => (if x3.length + y209.length < 140737488355328 then ((some (x3 ++ y209 : List Int)).bind fun y212 => (if (bt x185002 x4) = 0 then ((some (([255] : List Int) : List Int)).bind fun y215 => (if y212.length + y215.length < 140737488355328 then (lockstepref02_bytes.l0 k (y212 ++ y215) (wrap64 (x4 + 1)) x185000 x185001 x185002) else (none))) else (lockstepref02_bytes.l0 k y212 (wrap64 (x4 + 1)) x185000 x185001 x185002))) else (none))) else (none)) else ((some (([0, 0] : List Int) : List Int)).bind fun y221 => (if x3.length + y221.length < 140737488355328 then (some (x3 ++ y221)) else (none)))
end
def lockstepref02_bytes.f (k : Nat) (a0_0 : Int) (a0_1 : Int) (a0_2 : ByteArray) : Option (List Int) := if a0_0 = 0 then (some (([1] : List Int))) else (if a0_0 = 1 then (lockstepref02_bytes.j0 k a0_0 (a0_0 == 1) a0_0 a0_1 a0_2) else (lockstepref02_bytes.j0 k a0_0 (a0_0 == 2) a0_0 a0_1 a0_2))
def lockstepref02_bytes.T6 : Bool × List (List Nat × List Nat) := (true, [([], []), ([], []), ([1], [1]), ([0, 2, 2], [0, 2]), ([], []), ([4], [4]), ([5], [5]), ([6], [6]), ([3, 7, 3], [3, 7]), ([8, 8, 0, 1, 2, 3, 4, 5, 6, 7, 8], [8])])
def lockstepref02_bytes.B6 : List Nat := [0, 0, 2, 7, 0, 16, 48, 112, 255, 511]
theorem lockstepref02_bytes.tab6 : rtab .any (opsOf Tryd.f56 6) = lockstepref02_bytes.T6 := by kernel_rfl
theorem lockstepref02_bytes.bits6 : waitsOk lockstepref02_bytes.T6.2 lockstepref02_bytes.B6 = true := by kernel_rfl
set_option maxHeartbeats 8000000 in
set_option maxRecDepth 100000 in
theorem lockstepref02_bytes.calls (k : Nat) (a0_0 : Int) (a0_1 : Int) (a0_2 : ByteArray) (r : List Int) (w : World) (h : lockstepref02_bytes.f k a0_0 a0_1 a0_2 = some r) :
  Calls Tryd.prog 56 #[.agg #[.int .i64 a0_0, .int .i64 a0_1, .string a0_2]] w fun e w' => ∃ v0_ : Value, e = .returned (v0_) ∧ Kd.R (Kd.int .u8) 5 w' w.heap.size (fun _ => True) v0_ r ∧ Below w.heap.size w w' := by
 have hu42 := Tryd.underlying42
 have HB := am (Below.refl w.heap.size w)
 have H : (if a0_0 = 0 then (some (([1] : List Int))) else (if a0_0 = 1 then (lockstepref02_bytes.j0 k a0_0 (a0_0 == 1) a0_0 a0_1 a0_2) else (lockstepref02_bytes.j0 k a0_0 (a0_0 == 2) a0_0 a0_1 a0_2))) = some r := h
 clear h
 by_cases c2 : a0_0 = 0
 ·
  rw [if_pos c2] at H
  have c2b0 : (a0_0 == 0) = true := beq_iff_eq.mpr c2
  have c2b1 : (a0_0 != 0) = false := bne_eq_false_iff_eq.mpr c2
  clear c2
  obtain ⟨y185, hy185⟩ : ∃ y_ : List Int, y_ = (([1] : List Int)) := ⟨_, rfl⟩
  replace H : (some y185) = some r := by (rw [hy185]; with_reducible exact H)
  have Ny185 := am hy185
  clear hy185
  obtain rfl := Option.some.inj H
  go_enter Tryd.func56, Tryd.ntmps56
  go_wp2_with (first | ((with_reducible refine gate_dst (N := 1) rfl ?_); refine box_event ?hg (N := 1) ?hd (cs := #[.int .i64 a0_0, .int .i64 a0_1, .string a0_2]) (t := 42) ?hr ?_; (case hd => rfl); (case hg => rfl); (case hr => (go_simp; done)); intro gb184 hg w3 hbox hb; have BK184 := am (hbox); have GW184 := am ((by rw [hg]; exact (below_size HB.out) : w.heap.size ≤ gb184)); have GE184 := am ((by rw [hg]; exact (below_size HB.out) : w.heap.size ≤ gb184)); replace HB := am (below_step HB.out hb); clear hb hbox hg; have hcz4_0 : w3.cell? ⟨gb184, 0, none⟩ = some (.int .i64 a0_0) := (blk_cell BK184.out 0).trans rfl; have hcz4_1 : w3.cell? ⟨gb184, 1, none⟩ = some (.int .i64 a0_1) := (blk_cell BK184.out 1).trans rfl; have hcz4_2 : w3.cell? ⟨gb184, 2, none⟩ = some (.string a0_2) := (blk_cell BK184.out 2).trans rfl; have hfz4_0 := blk_frozen BK184.out 0; have hfz4_1 := blk_frozen BK184.out 1; have hfz4_2 := blk_frozen BK184.out 2) | ((with_reducible refine gate_dst (N := 9) rfl ?_); refine Kd.R_lit (Kd.int .u8) _ 5 ?hg (N := 9) ?hd (xs := ([1] : List Int)) (inner := [.int .u8 1]) (ok := fun _ => True) (okp := fun _ => True) ?hr ?hp (fun _ hk => hk) trivial (Below.refl _ _) (Nat.le_refl _) (by simp) ?_; (case hd => rfl); (case hg => rfl); (case hr => (go_simp; done)); (case hp => exact (Reps.one (show Kd.M (Kd.int .u8) _ _ _ 1 [.int .u8 1] from rfl) (Reps.none _ _))); intro v186 w5 ho6 hb hg_ hnew_; clear hg_ hnew_; (rw [← Ny185.out] at ho6); have HO187 := am (Kd.R_lower ho6 (below_size HB.out)); replace BK184 := am (blk_below (g := gb184) (o := .cells #[.int .i64 a0_0, .int .i64 a0_1, .string a0_2] 42 (0, 0)) (by exact BK184.out) hb); replace HB := am (below_step HB.out hb); clear hb ho6))
  go_ret
  exact ⟨_, by rfl, by exact HO187.out, by exact HB.out⟩
 rw [if_neg c2] at H
 have c2b0 : (a0_0 == 0) = false := beq_eq_false_iff_ne.mpr c2
 have c2b1 : (a0_0 != 0) = true := bne_iff_ne.mpr c2
 have HC7 := am H
 clear H
 go_enter Tryd.func56, Tryd.ntmps56
 go_upto_if 10 with (((with_reducible refine gate_dst (N := 1) rfl ?_); refine box_event ?hg (N := 1) ?hd (cs := #[.int .i64 a0_0, .int .i64 a0_1, .string a0_2]) (t := 42) ?hr ?_; (case hd => rfl); (case hg => rfl); (case hr => (go_simp; done)); intro gb184 hg w8 hbox hb; have BK184 := am (hbox); have GW184 := am ((by rw [hg]; exact (below_size HB.out) : w.heap.size ≤ gb184)); have GE184 := am ((by rw [hg]; exact (below_size HB.out) : w.heap.size ≤ gb184)); replace HB := am (below_step HB.out hb); clear hb hbox hg; have hcz9_0 : w8.cell? ⟨gb184, 0, none⟩ = some (.int .i64 a0_0) := (blk_cell BK184.out 0).trans rfl; have hcz9_1 : w8.cell? ⟨gb184, 1, none⟩ = some (.int .i64 a0_1) := (blk_cell BK184.out 1).trans rfl; have hcz9_2 : w8.cell? ⟨gb184, 2, none⟩ = some (.string a0_2) := (blk_cell BK184.out 2).trans rfl; have hfz9_0 := blk_frozen BK184.out 0; have hfz9_1 := blk_frozen BK184.out 1; have hfz9_2 := blk_frozen BK184.out 2))
 go_cut [10] (fun v10 wc => ∃ (kq : Nat) (x10_6 : Bool), v10 = .bool x10_6 ∧ Aside0 (lockstepref02_bytes.j0 kq a0_0 x10_6 a0_0 a0_1 a0_2 = some r) ∧ Aside0 (kq ≤ k) ∧ Aside0 (wc.heap[gb184]? = some (.cells #[.int .i64 a0_0, .int .i64 a0_1, .string a0_2] 42 (0, 0))) ∧ Aside0 (Below w.heap.size w wc))
 case first =>
  have H := HC7.out
  clear HC7
  by_cases c10 : a0_0 = 1
  rotate_left
  ·
   rw [if_neg c10] at H
   have c10b0 : (a0_0 == 1) = false := beq_eq_false_iff_ne.mpr c10
   have c10b1 : (a0_0 != 1) = true := bne_iff_ne.mpr c10
   (rw [c10b0])
   have H' := am H
   clear H
   go_wp2
   go_meet
   case rel => exact ⟨_, ((a0_0 == 2)), (by with_reducible rfl), H', ⟨by omega⟩, ⟨by exact BK184.out⟩, ⟨by exact HB.out⟩⟩
  rw [if_pos c10] at H
  have c10b0 : (a0_0 == 1) = true := beq_iff_eq.mpr c10
  have c10b1 : (a0_0 != 1) = false := bne_eq_false_iff_eq.mpr c10
  clear c10
  (rw [c10b0])
  have H' := am H
  clear H
  go_wp2
  go_meet
  case rel => exact ⟨_, ((a0_0 == 1)), (by (simp [*]; done)), H', ⟨by omega⟩, ⟨by exact BK184.out⟩, ⟨by exact HB.out⟩⟩
 case rest =>
  clear HC7
  (try clear c2); (try clear c2b0); (try clear c2b1); (try clear hcz9_0); (try clear hcz9_1); (try clear hcz9_2); (try clear hfz9_0); (try clear hfz9_1); (try clear hfz9_2)
  obtain ⟨kq, x10_6, rfl, HA, HJ6, BK184, HB⟩ := hcut
  cases kq with
  | zero => exact absurd HA.out (by simp [lockstepref02_bytes.j0])
  | succ kj6 =>
   have H := HA.out
   clear HA
   simp only [lockstepref02_bytes.j0] at H
   by_cases c11 : x10_6 = true
   rotate_left
   ·
    replace c11 := Bool.eq_false_iff.mpr c11
    subst c11
    have H1 : (if a0_0 = 4 then (some (([4, (a0_1) % 256] : List Int))) else (lockstepref02_bytes.l0 kj6 (([3] : List Int)) 0 a0_0 a0_1 a0_2)) = some r := by rw [if_neg (show ¬ (false = true) by decide)] at H; exact H
    clear H
    have H := H1
    clear H1
    by_cases c26 : a0_0 = 4
    ·
     rw [if_pos c26] at H
     have c26b0 : (a0_0 == 4) = true := beq_iff_eq.mpr c26
     have c26b1 : (a0_0 != 4) = false := bne_eq_false_iff_eq.mpr c26
     clear c26
     obtain ⟨y203, hy203⟩ : ∃ y_ : List Int, y_ = (([4, (a0_1) % 256] : List Int)) := ⟨_, rfl⟩
     replace H : (some y203) = some r := by (rw [hy203]; with_reducible exact H)
     have Ny203 := am hy203
     clear hy203
     obtain rfl := Option.some.inj H
     have hcz27_0 : wc.cell? ⟨gb184, 0, none⟩ = some (.int .i64 a0_0) := (blk_cell BK184.out 0).trans rfl
     have hcz27_1 : wc.cell? ⟨gb184, 1, none⟩ = some (.int .i64 a0_1) := (blk_cell BK184.out 1).trans rfl
     have hcz27_2 : wc.cell? ⟨gb184, 2, none⟩ = some (.string a0_2) := (blk_cell BK184.out 2).trans rfl
     have hfz27_0 := blk_frozen BK184.out 0
     have hfz27_1 := blk_frozen BK184.out 1
     have hfz27_2 := blk_frozen BK184.out 2
     go_wp2_with (((with_reducible refine gate_dst (N := 27) rfl ?_); refine Kd.R_lit (Kd.int .u8) _ 5 ?hg (N := 27) ?hd (xs := ([4, (a0_1) % 256] : List Int)) (inner := [.int .u8 4, .int .u8 ((a0_1) % 256)]) (ok := fun _ => True) (okp := fun _ => True) ?hr ?hp (fun _ hk => hk) trivial (Below.refl _ _) (Nat.le_refl _) (by simp) ?_; (case hd => rfl); (case hg => rfl); (case hr => (go_simp; done)); (case hp => exact (Reps.one (show Kd.M (Kd.int .u8) _ _ _ 4 [.int .u8 4] from rfl) (Reps.one (show Kd.M (Kd.int .u8) _ _ _ ((a0_1) % 256) [.int .u8 ((a0_1) % 256)] from rfl) (Reps.none _ _)))); intro v204 w28 ho29 hb hg_ hnew_; clear hg_ hnew_; (rw [← Ny203.out] at ho29); have HO205 := am (Kd.R_lower ho29 (below_size HB.out)); replace BK184 := am (blk_below (g := gb184) (o := .cells #[.int .i64 a0_0, .int .i64 a0_1, .string a0_2] 42 (0, 0)) (by exact BK184.out) hb); replace HB := am (below_step HB.out hb); clear hb ho29))
     go_ret
     exact ⟨_, by rfl, by exact HO205.out, by exact HB.out⟩
    rw [if_neg c26] at H
    have c26b0 : (a0_0 == 4) = false := beq_eq_false_iff_ne.mpr c26
    have c26b1 : (a0_0 != 4) = true := bne_iff_ne.mpr c26
    obtain ⟨y206, hy206⟩ : ∃ y_ : List Int, y_ = (([3] : List Int)) := ⟨_, rfl⟩
    replace H : (lockstepref02_bytes.l0 kj6 y206 0 a0_0 a0_1 a0_2) = some r := by (rw [hy206]; with_reducible exact H)
    have Ny206 := am hy206
    clear hy206
    have H' := am H
    clear H
    go_wp2_with (((with_reducible refine gate_dst (N := 28) rfl ?_); refine Kd.R_lit (Kd.int .u8) _ 5 ?hg (N := 28) ?hd (xs := ([3] : List Int)) (inner := [.int .u8 3]) (ok := fun _ => True) (okp := fun _ => True) ?hr ?hp (fun _ hk => hk) trivial (Below.refl _ _) (Nat.le_refl _) (by simp) ?_; (case hd => rfl); (case hg => rfl); (case hr => (go_simp; done)); (case hp => exact (Reps.one (show Kd.M (Kd.int .u8) _ _ _ 3 [.int .u8 3] from rfl) (Reps.none _ _))); intro v207 w30 ho31 hb hg_ hnew_; clear hg_ hnew_; (rw [← Ny206.out] at ho31); have HO208 := am (Kd.R_lower ho31 (below_size HB.out)); replace BK184 := am (blk_below (g := gb184) (o := .cells #[.int .i64 a0_0, .int .i64 a0_1, .string a0_2] 42 (0, 0)) (by exact BK184.out) hb); replace HB := am (below_step HB.out hb); clear hb ho31))
    go_loopg [3, 4] kj6 (fun kq v3 v4 w' => ∃ (x3_2 : List Int) (x4_2 : Int), v4 = .int .i64 x4_2 ∧ Aside0 (lockstepref02_bytes.l0 kq x3_2 x4_2 a0_0 a0_1 a0_2 = some r) ∧ Aside0 (kq ≤ kj6) ∧ Aside0 (Kd.R (Kd.int .u8) 5 w' w.heap.size (fun _ => True) v3 x3_2) ∧ Aside0 (w'.heap[gb184]? = some (.cells #[.int .i64 a0_0, .int .i64 a0_1, .string a0_2] 42 (0, 0))) ∧ Aside0 (Below w.heap.size w w'))
    case atStart => exact ⟨(y206), (0), (by rfl), H', ⟨Nat.le_refl _⟩, ⟨by exact HO208.out⟩, ⟨by exact BK184.out⟩, ⟨by exact HB.out⟩⟩
    case round =>
     clear H'
     (try clear c26); (try clear c26b0); (try clear c26b1)
     obtain ⟨x3_2, x4_2, rfl, HA, HK2, HO_3, BK184, HB⟩ := hrel
     cases gk with
     | zero => exact absurd HA.out (by simp [lockstepref02_bytes.l0])
     | succ k2 =>
      have H := HA.out
      clear HA
      simp only [lockstepref02_bytes.l0] at H
      by_cases c32 : x4_2 < (a0_2.size : Int)
      rotate_left
      ·
       rw [if_neg c32] at H
       have c32b0 := decide_eq_false c32
       clear c32
       obtain ⟨y221, hy221⟩ : ∃ y_ : List Int, y_ = (([0, 0] : List Int)) := ⟨_, rfl⟩
       replace H : (if x3_2.length + y221.length < 140737488355328 then (some (x3_2 ++ y221)) else (none)) = some r := by (have H2_ := (Option.bind_some _ _).symm.trans H; rw [hy221]; with_reducible exact H2_)
       have Ny221 := am hy221
       clear hy221
       replace H := its H
       obtain ⟨c55, H⟩ := H
       have LMc55 := am c55
       clear c55
       obtain ⟨y224, hy224⟩ : ∃ y_ : List Int, y_ = (x3_2 ++ y221) := ⟨_, rfl⟩
       replace H : (some y224) = some r := by (rw [hy224]; with_reducible exact H)
       have Ny224 := am hy224
       clear hy224
       obtain rfl := Option.some.inj H
       have hcz56_0 : wr.cell? ⟨gb184, 0, none⟩ = some (.int .i64 a0_0) := (blk_cell BK184.out 0).trans rfl
       have hcz56_1 : wr.cell? ⟨gb184, 1, none⟩ = some (.int .i64 a0_1) := (blk_cell BK184.out 1).trans rfl
       have hcz56_2 : wr.cell? ⟨gb184, 2, none⟩ = some (.string a0_2) := (blk_cell BK184.out 2).trans rfl
       have hfz56_0 := blk_frozen BK184.out 0
       have hfz56_1 := blk_frozen BK184.out 1
       have hfz56_2 := blk_frozen BK184.out 2
       go_wp2_with (first | ((with_reducible refine gate_dst (N := 52) rfl ?_); refine Kd.R_lit (Kd.int .u8) _ 5 ?hg (N := 52) ?hd (xs := ([0, 0] : List Int)) (inner := [.int .u8 0, .int .u8 0]) (ok := fun _ => True) (okp := fun _ => True) ?hr ?hp (fun _ hk => hk) trivial (Below.refl _ _) (Nat.le_refl _) (by simp) ?_; (case hd => rfl); (case hg => rfl); (case hr => (go_simp; done)); (case hp => exact (Reps.one (show Kd.M (Kd.int .u8) _ _ _ 0 [.int .u8 0] from rfl) (Reps.one (show Kd.M (Kd.int .u8) _ _ _ 0 [.int .u8 0] from rfl) (Reps.none _ _)))); intro v222 w57 ho58 hb hg_ hnew_; clear hg_ hnew_; (rw [← Ny221.out] at ho58); have HO223 := am (Kd.R_lower (Kd.R_new' ho58 (Kd.R_lt HO_3.out)) (below_size HB.out)); replace HO_3 := am (Kd.R_elder' HO_3.out (Kd.R_base ho58) hb); replace BK184 := am (blk_below (g := gb184) (o := .cells #[.int .i64 a0_0, .int .i64 a0_1, .string a0_2] 42 (0, 0)) (by exact BK184.out) hb); replace HB := am (below_step HB.out hb); clear hb ho58; obtain ⟨Ao60, co60, eo60⟩ := Kd.R_slice HO223.out; subst eo60) | ((with_reducible refine gate_builtin (b := .append) (xs := #[.tmp 51, .tmp 52]) rfl ?_); at_builtin; refine Kd.R_append_rows (Kd.int .u8) (w0 := w) w.heap.size rfl (.tmp 51) (.tmp 52) 47 5 (.int .u8 0) 1 rfl Tryd.underlying47 info5 rfl (by decide) (by omega) u3 x3_2 y221 _ _ _ (fun k_ => some k_ ≠ (.slice Ao60 y221.length co60 : Value).ownBlock) (fun _ => False) rfl rfl ?aO ?aR (fun _ _ h => h) (fun _ h => h.elim) ?aF ?aB ?aS ?aL ?_; (case aR => exact (Kd.R_reads' HO223.out).2.2); (case aB => exact HB.out); (case aF => exact (fun k_ hk => Kd.fresh' (Kd.R_lt HO223.out) k_ hk)); (case aO => exact (by exact Kd.R_mono HO_3.out (fun _ hk => hk.2))); (case aS => exact (below_size HB.out)); (case aL => have := LMc55.out; omega); intro v225 w59 ho hb hg hat; rw [← Ny224.out] at ho; replace BK184 := am (blk_grown (g := gb184) (o := .cells #[.int .i64 a0_0, .int .i64 a0_1, .string a0_2] 42 (0, 0)) (by exact BK184.out) hg (Kd.R_ne HO_3.out BK184.out (by decide))); replace HO223 := am (Kd.R_after (ok := (fun _ => True)) HO223.out hg hat); replace HB := am (hb); have HO226 := am (ho); clear HO_3; clear ho hb hg hat))
       go_ret
       exact ⟨_, by rfl, by exact Kd.R_mono HO226.out (fun _ hk => trivial), by exact HB.out⟩
      rw [if_pos c32] at H
      have c32b0 := decide_eq_true c32
      clear c32
      replace H := its H
      obtain ⟨c33, H⟩ := H
      have c33b0 := decide_eq_true c33
      clear c33
      obtain ⟨y209, hy209⟩ : ∃ y_ : List Int, y_ = (([bt a0_2 x4_2] : List Int)) := ⟨_, rfl⟩
      replace H : (if x3_2.length + y209.length < 140737488355328 then ((some (x3_2 ++ y209 : List Int)).bind fun y212 => (if (bt a0_2 x4_2) = 0 then ((some (([255] : List Int) : List Int)).bind fun y215 => (if y212.length + y215.length < 140737488355328 then (lockstepref02_bytes.l0 k2 (y212 ++ y215) (wrap64 (x4_2 + 1)) a0_0 a0_1 a0_2) else (none))) else (lockstepref02_bytes.l0 k2 y212 (wrap64 (x4_2 + 1)) a0_0 a0_1 a0_2))) else (none)) = some r := by (have H2_ := (Option.bind_some _ _).symm.trans H; rw [hy209]; with_reducible exact H2_)
      have Ny209 := am hy209
      clear hy209
      replace H := its H
      obtain ⟨c35, H⟩ := H
      have LMc35 := am c35
      clear c35
      obtain ⟨y212, hy212⟩ : ∃ y_ : List Int, y_ = (x3_2 ++ y209) := ⟨_, rfl⟩
      replace H : (if (bt a0_2 x4_2) = 0 then ((some (([255] : List Int) : List Int)).bind fun y215 => (if y212.length + y215.length < 140737488355328 then (lockstepref02_bytes.l0 k2 (y212 ++ y215) (wrap64 (x4_2 + 1)) a0_0 a0_1 a0_2) else (none))) else (lockstepref02_bytes.l0 k2 y212 (wrap64 (x4_2 + 1)) a0_0 a0_1 a0_2)) = some r := by (have H2_ := (Option.bind_some _ _).symm.trans H; rw [hy212]; with_reducible exact H2_)
      have Ny212 := am hy212
      clear hy212
      by_cases c37 : (bt a0_2 x4_2) = 0
      rotate_left
      ·
       rw [if_neg c37] at H
       have c37b0 : ((bt a0_2 x4_2) == 0) = false := beq_eq_false_iff_ne.mpr c37
       have c37b1 : ((bt a0_2 x4_2) != 0) = true := bne_iff_ne.mpr c37
       have H' := am H
       clear H
       have hcz49_0 : wr.cell? ⟨gb184, 0, none⟩ = some (.int .i64 a0_0) := (blk_cell BK184.out 0).trans rfl
       have hcz49_1 : wr.cell? ⟨gb184, 1, none⟩ = some (.int .i64 a0_1) := (blk_cell BK184.out 1).trans rfl
       have hcz49_2 : wr.cell? ⟨gb184, 2, none⟩ = some (.string a0_2) := (blk_cell BK184.out 2).trans rfl
       have hfz49_0 := blk_frozen BK184.out 0
       have hfz49_1 := blk_frozen BK184.out 1
       have hfz49_2 := blk_frozen BK184.out 2
       have p34 : 0 ≤ (x4_2 : Int) := of_decide_eq_true (by assumption)
       have q34 : x4_2 < (a0_2.size : Int) := of_decide_eq_true (by assumption)
       have hx34 := bt_at a0_2 x4_2
       replace p34 := eq_true p34
       replace q34 := eq_true q34
       go_wp2_with (first | ((with_reducible refine gate_dst (N := 41) rfl ?_); refine Kd.R_lit (Kd.int .u8) _ 5 ?hg (N := 41) ?hd (xs := ([bt a0_2 x4_2] : List Int)) (inner := [.int .u8 (bt a0_2 x4_2)]) (ok := fun _ => True) (okp := fun _ => True) ?hr ?hp (fun _ hk => hk) trivial (Below.refl _ _) (Nat.le_refl _) (by simp) ?_; (case hd => rfl); (case hg => rfl); (case hr => (go_simp; done)); (case hp => exact (Reps.one (show Kd.M (Kd.int .u8) _ _ _ (bt a0_2 x4_2) [.int .u8 (bt a0_2 x4_2)] from rfl) (Reps.none _ _))); intro v210 w50 ho51 hb hg_ hnew_; clear hg_ hnew_; (rw [← Ny209.out] at ho51); have HO211 := am (Kd.R_lower (Kd.R_new' ho51 (Kd.R_lt HO_3.out)) (below_size HB.out)); replace HO_3 := am (Kd.R_elder' HO_3.out (Kd.R_base ho51) hb); replace BK184 := am (blk_below (g := gb184) (o := .cells #[.int .i64 a0_0, .int .i64 a0_1, .string a0_2] 42 (0, 0)) (by exact BK184.out) hb); replace HB := am (below_step HB.out hb); clear hb ho51; obtain ⟨Ao53, co53, eo53⟩ := Kd.R_slice HO211.out; subst eo53) | ((with_reducible refine gate_builtin (b := .append) (xs := #[.tmp 36, .tmp 41]) rfl ?_); at_builtin; refine Kd.R_append_rows (Kd.int .u8) (w0 := w) w.heap.size rfl (.tmp 36) (.tmp 41) 47 5 (.int .u8 0) 1 rfl Tryd.underlying47 info5 rfl (by decide) (by omega) u3 x3_2 y209 _ _ _ (fun k_ => some k_ ≠ (.slice Ao53 y209.length co53 : Value).ownBlock) (fun _ => False) rfl rfl ?aO ?aR (fun _ _ h => h) (fun _ h => h.elim) ?aF ?aB ?aS ?aL ?_; (case aR => exact (Kd.R_reads' HO211.out).2.2); (case aB => exact HB.out); (case aF => exact (fun k_ hk => Kd.fresh' (Kd.R_lt HO211.out) k_ hk)); (case aO => exact (by exact Kd.R_mono HO_3.out (fun _ hk => hk.2))); (case aS => exact (below_size HB.out)); (case aL => have := LMc35.out; omega); intro v213 w52 ho hb hg hat; rw [← Ny212.out] at ho; replace BK184 := am (blk_grown (g := gb184) (o := .cells #[.int .i64 a0_0, .int .i64 a0_1, .string a0_2] 42 (0, 0)) (by exact BK184.out) hg (Kd.R_ne HO_3.out BK184.out (by decide))); replace HO211 := am (Kd.R_after (ok := (fun _ => True)) HO211.out hg hat); replace HB := am (hb); have HO214 := am (ho); clear HO_3; clear ho hb hg hat; have hcz54_0 : w52.cell? ⟨gb184, 0, none⟩ = some (.int .i64 a0_0) := (blk_cell BK184.out 0).trans rfl; have hcz54_1 : w52.cell? ⟨gb184, 1, none⟩ = some (.int .i64 a0_1) := (blk_cell BK184.out 1).trans rfl; have hcz54_2 : w52.cell? ⟨gb184, 2, none⟩ = some (.string a0_2) := (blk_cell BK184.out 2).trans rfl; have hfz54_0 := blk_frozen BK184.out 0; have hfz54_1 := blk_frozen BK184.out 1; have hfz54_2 := blk_frozen BK184.out 2; have p36 : 0 ≤ (x4_2 : Int) := of_decide_eq_true (by assumption); have q36 : x4_2 < (a0_2.size : Int) := of_decide_eq_true (by assumption); have hx36 := bt_at a0_2 x4_2; replace p36 := eq_true p36; replace q36 := eq_true q36))
       go_roundg k2
       case measure => have := HJ6.out; have := HK2.out; omega
       case rel => exact ⟨(y212), (wrap64 (x4_2 + 1)), (by rfl), H', ⟨by have := HJ6.out; have := HK2.out; omega⟩, ⟨by exact Kd.R_mono HO214.out (fun _ hk => trivial)⟩, ⟨by exact BK184.out⟩, ⟨by exact HB.out⟩⟩
      rw [if_pos c37] at H
      have c37b0 : ((bt a0_2 x4_2) == 0) = true := beq_iff_eq.mpr c37
      have c37b1 : ((bt a0_2 x4_2) != 0) = false := bne_eq_false_iff_eq.mpr c37
      clear c37
      obtain ⟨y215, hy215⟩ : ∃ y_ : List Int, y_ = (([255] : List Int)) := ⟨_, rfl⟩
      replace H : (if y212.length + y215.length < 140737488355328 then (lockstepref02_bytes.l0 k2 (y212 ++ y215) (wrap64 (x4_2 + 1)) a0_0 a0_1 a0_2) else (none)) = some r := by (have H2_ := (Option.bind_some _ _).symm.trans H; rw [hy215]; with_reducible exact H2_)
      have Ny215 := am hy215
      clear hy215
      replace H := its H
      obtain ⟨c38, H⟩ := H
      have LMc38 := am c38
      clear c38
      obtain ⟨y218, hy218⟩ : ∃ y_ : List Int, y_ = (y212 ++ y215) := ⟨_, rfl⟩
      replace H : (lockstepref02_bytes.l0 k2 y218 (wrap64 (x4_2 + 1)) a0_0 a0_1 a0_2) = some r := by (rw [hy218]; with_reducible exact H)
      have Ny218 := am hy218
      clear hy218
      have H' := am H
      clear H
      have hcz39_0 : wr.cell? ⟨gb184, 0, none⟩ = some (.int .i64 a0_0) := (blk_cell BK184.out 0).trans rfl
      have hcz39_1 : wr.cell? ⟨gb184, 1, none⟩ = some (.int .i64 a0_1) := (blk_cell BK184.out 1).trans rfl
      have hcz39_2 : wr.cell? ⟨gb184, 2, none⟩ = some (.string a0_2) := (blk_cell BK184.out 2).trans rfl
      have hfz39_0 := blk_frozen BK184.out 0
      have hfz39_1 := blk_frozen BK184.out 1
      have hfz39_2 := blk_frozen BK184.out 2
      have p34 : 0 ≤ (x4_2 : Int) := of_decide_eq_true (by assumption)
      have q34 : x4_2 < (a0_2.size : Int) := of_decide_eq_true (by assumption)
      have hx34 := bt_at a0_2 x4_2
      replace p34 := eq_true p34
      replace q34 := eq_true q34
      go_wp2_with (first | ((with_reducible refine gate_dst (N := 41) rfl ?_); refine Kd.R_lit (Kd.int .u8) _ 5 ?hg (N := 41) ?hd (xs := ([bt a0_2 x4_2] : List Int)) (inner := [.int .u8 (bt a0_2 x4_2)]) (ok := fun _ => True) (okp := fun _ => True) ?hr ?hp (fun _ hk => hk) trivial (Below.refl _ _) (Nat.le_refl _) (by simp) ?_; (case hd => rfl); (case hg => rfl); (case hr => (go_simp; done)); (case hp => exact (Reps.one (show Kd.M (Kd.int .u8) _ _ _ (bt a0_2 x4_2) [.int .u8 (bt a0_2 x4_2)] from rfl) (Reps.none _ _))); intro v210 w40 ho41 hb hg_ hnew_; clear hg_ hnew_; (rw [← Ny209.out] at ho41); have HO211 := am (Kd.R_lower (Kd.R_new' ho41 (Kd.R_lt HO_3.out)) (below_size HB.out)); replace HO_3 := am (Kd.R_elder' HO_3.out (Kd.R_base ho41) hb); replace BK184 := am (blk_below (g := gb184) (o := .cells #[.int .i64 a0_0, .int .i64 a0_1, .string a0_2] 42 (0, 0)) (by exact BK184.out) hb); replace HB := am (below_step HB.out hb); clear hb ho41; obtain ⟨Ao43, co43, eo43⟩ := Kd.R_slice HO211.out; subst eo43) | ((with_reducible refine gate_builtin (b := .append) (xs := #[.tmp 36, .tmp 41]) rfl ?_); at_builtin; refine Kd.R_append_rows (Kd.int .u8) (w0 := w) w.heap.size rfl (.tmp 36) (.tmp 41) 47 5 (.int .u8 0) 1 rfl Tryd.underlying47 info5 rfl (by decide) (by omega) u3 x3_2 y209 _ _ _ (fun k_ => some k_ ≠ (.slice Ao43 y209.length co43 : Value).ownBlock) (fun _ => False) rfl rfl ?aO ?aR (fun _ _ h => h) (fun _ h => h.elim) ?aF ?aB ?aS ?aL ?_; (case aR => exact (Kd.R_reads' HO211.out).2.2); (case aB => exact HB.out); (case aF => exact (fun k_ hk => Kd.fresh' (Kd.R_lt HO211.out) k_ hk)); (case aO => exact (by exact Kd.R_mono HO_3.out (fun _ hk => hk.2))); (case aS => exact (below_size HB.out)); (case aL => have := LMc35.out; omega); intro v213 w42 ho hb hg hat; rw [← Ny212.out] at ho; replace BK184 := am (blk_grown (g := gb184) (o := .cells #[.int .i64 a0_0, .int .i64 a0_1, .string a0_2] 42 (0, 0)) (by exact BK184.out) hg (Kd.R_ne HO_3.out BK184.out (by decide))); replace HO211 := am (Kd.R_after (ok := (fun _ => True)) HO211.out hg hat); replace HB := am (hb); have HO214 := am (ho); clear HO_3; clear ho hb hg hat; have hcz44_0 : w42.cell? ⟨gb184, 0, none⟩ = some (.int .i64 a0_0) := (blk_cell BK184.out 0).trans rfl; have hcz44_1 : w42.cell? ⟨gb184, 1, none⟩ = some (.int .i64 a0_1) := (blk_cell BK184.out 1).trans rfl; have hcz44_2 : w42.cell? ⟨gb184, 2, none⟩ = some (.string a0_2) := (blk_cell BK184.out 2).trans rfl; have hfz44_0 := blk_frozen BK184.out 0; have hfz44_1 := blk_frozen BK184.out 1; have hfz44_2 := blk_frozen BK184.out 2; have p36 : 0 ≤ (x4_2 : Int) := of_decide_eq_true (by assumption); have q36 : x4_2 < (a0_2.size : Int) := of_decide_eq_true (by assumption); have hx36 := bt_at a0_2 x4_2; replace p36 := eq_true p36; replace q36 := eq_true q36) | ((with_reducible refine gate_dst (N := 49) rfl ?_); refine Kd.R_lit (Kd.int .u8) _ 5 ?hg (N := 49) ?hd (xs := ([255] : List Int)) (inner := [.int .u8 255]) (ok := fun _ => True) (okp := fun _ => True) ?hr ?hp (fun _ hk => hk) trivial (Below.refl _ _) (Nat.le_refl _) (by simp) ?_; (case hd => rfl); (case hg => rfl); (case hr => (go_simp; done)); (case hp => exact (Reps.one (show Kd.M (Kd.int .u8) _ _ _ 255 [.int .u8 255] from rfl) (Reps.none _ _))); intro v216 w45 ho46 hb hg_ hnew_; clear hg_ hnew_; (rw [← Ny215.out] at ho46); have HO217 := am (Kd.R_lower (Kd.R_new' (Kd.R_new' ho46 (Kd.R_lt HO211.out)) (Kd.R_lt HO214.out)) (below_size HB.out)); replace HO211 := am (Kd.R_elder' HO211.out (Kd.R_base ho46) hb); replace HO214 := am (Kd.R_elder' HO214.out (Kd.R_base ho46) hb); replace BK184 := am (blk_below (g := gb184) (o := .cells #[.int .i64 a0_0, .int .i64 a0_1, .string a0_2] 42 (0, 0)) (by exact BK184.out) hb); replace HB := am (below_step HB.out hb); clear hb ho46; obtain ⟨Ao48, co48, eo48⟩ := Kd.R_slice HO217.out; subst eo48) | ((with_reducible refine gate_builtin (b := .append) (xs := #[.tmp 48, .tmp 49]) rfl ?_); at_builtin; refine Kd.R_append_rows (Kd.int .u8) (w0 := w) w.heap.size rfl (.tmp 48) (.tmp 49) 47 5 (.int .u8 0) 1 rfl Tryd.underlying47 info5 rfl (by decide) (by omega) v213 y212 y215 _ _ _ (fun k_ => some k_ ≠ (.slice Ao43 y209.length co43 : Value).ownBlock ∧ some k_ ≠ (.slice Ao48 y215.length co48 : Value).ownBlock) (fun _ => False) rfl rfl ?aO ?aR (fun _ _ h => h) (fun _ h => h.elim) ?aF ?aB ?aS ?aL ?_; (case aR => exact (Kd.R_reads' HO217.out).2.2); (case aB => exact HB.out); (case aF => exact (fun k_ hk => ⟨Kd.fresh' (Kd.R_lt HO211.out) k_ hk, Kd.fresh' (Kd.R_lt HO217.out) k_ hk⟩)); (case aO => exact HO214.out); (case aS => exact (below_size HB.out)); (case aL => have := LMc38.out; omega); intro v219 w47 ho hb hg hat; rw [← Ny218.out] at ho; replace BK184 := am (blk_grown (g := gb184) (o := .cells #[.int .i64 a0_0, .int .i64 a0_1, .string a0_2] 42 (0, 0)) (by exact BK184.out) hg (Kd.R_ne HO214.out BK184.out (by decide))); replace HO211 := am (Kd.R_after (ok := (fun k_ => some k_ ≠ (.slice Ao48 y215.length co48 : Value).ownBlock)) (by exact Kd.R_mono HO211.out (fun _ hk => ⟨hk.2, hk.1.2⟩)) hg hat); replace HO217 := am (Kd.R_after (ok := (fun k_ => some k_ ≠ (.slice Ao43 y209.length co43 : Value).ownBlock)) (by exact Kd.R_mono HO217.out (fun _ hk => ⟨hk.1.2, hk.2⟩)) hg hat); replace HB := am (hb); have HO220 := am (ho); clear HO214; clear ho hb hg hat))
      go_roundg k2
      case measure => have := HJ6.out; have := HK2.out; omega
      case rel => exact ⟨(y218), (wrap64 (x4_2 + 1)), (by rfl), H', ⟨by have := HJ6.out; have := HK2.out; omega⟩, ⟨by exact Kd.R_mono HO220.out (fun _ hk => trivial)⟩, ⟨by exact BK184.out⟩, ⟨by exact HB.out⟩⟩
   subst c11
   have H1 : ((some (([2] : List Int) : List Int)).bind fun y188 => ((lockstepref02_number.f kj6 a0_0 a0_1 a0_2).bind fun t191 => (if y188.length + t191.length < 140737488355328 then ((some (y188 ++ t191 : List Int)).bind fun y194 => ((some (([(a0_0) % 256] : List Int) : List Int)).bind fun y197 => (if y194.length + y197.length < 140737488355328 then (some (y194 ++ y197)) else (none)))) else (none)))) = some r := by rw [if_pos rfl] at H; exact H
   clear H
   have H := H1
   clear H1
   obtain ⟨y188, hy188⟩ : ∃ y_ : List Int, y_ = (([2] : List Int)) := ⟨_, rfl⟩
   replace H : ((lockstepref02_number.f kj6 a0_0 a0_1 a0_2).bind fun t191 => (if y188.length + t191.length < 140737488355328 then ((some (y188 ++ t191 : List Int)).bind fun y194 => ((some (([(a0_0) % 256] : List Int) : List Int)).bind fun y197 => (if y194.length + y197.length < 140737488355328 then (some (y194 ++ y197)) else (none)))) else (none))) = some r := by (have H2_ := (Option.bind_some _ _).symm.trans H; rw [hy188]; with_reducible exact H2_)
   have Ny188 := am hy188
   clear hy188
   replace H := Option.bind_eq_some_iff.mp H
   obtain ⟨t191, A120, H⟩ := H
   replace H : (if y188.length + t191.length < 140737488355328 then ((some (y188 ++ t191 : List Int)).bind fun y194 => ((some (([(a0_0) % 256] : List Int) : List Int)).bind fun y197 => (if y194.length + y197.length < 140737488355328 then (some (y194 ++ y197)) else (none)))) else (none)) = some r := H
   have A12 := am A120
   clear A120
   replace H := its H
   obtain ⟨c13, H⟩ := H
   have LMc13 := am c13
   clear c13
   obtain ⟨y194, hy194⟩ : ∃ y_ : List Int, y_ = (y188 ++ t191) := ⟨_, rfl⟩
   replace H : ((some (([(a0_0) % 256] : List Int) : List Int)).bind fun y197 => (if y194.length + y197.length < 140737488355328 then (some (y194 ++ y197)) else (none))) = some r := by (have H2_ := (Option.bind_some _ _).symm.trans H; rw [hy194]; with_reducible exact H2_)
   have Ny194 := am hy194
   clear hy194
   obtain ⟨y197, hy197⟩ : ∃ y_ : List Int, y_ = (([(a0_0) % 256] : List Int)) := ⟨_, rfl⟩
   replace H : (if y194.length + y197.length < 140737488355328 then (some (y194 ++ y197)) else (none)) = some r := by (have H2_ := (Option.bind_some _ _).symm.trans H; rw [hy197]; with_reducible exact H2_)
   have Ny197 := am hy197
   clear hy197
   replace H := its H
   obtain ⟨c14, H⟩ := H
   have LMc14 := am c14
   clear c14
   obtain ⟨y200, hy200⟩ : ∃ y_ : List Int, y_ = (y194 ++ y197) := ⟨_, rfl⟩
   replace H : (some y200) = some r := by (rw [hy200]; with_reducible exact H)
   have Ny200 := am hy200
   clear hy200
   obtain rfl := Option.some.inj H
   try go_wp2
   have n0_ := am (blk_drew BK184.out)
   have n1_ := am (below_drew1 HB.out)
   clear BK184
   clear HB
   have BK184 := n0_
   have HB := n1_
   clear n0_ n1_
   refine start_ (n := 10) (S := fun w' => w'.cell? ⟨gb184, 0, none⟩ = some (.int .i64 a0_0) ∧ w'.cell? ⟨gb184, 1, none⟩ = some (.int .i64 a0_1) ∧ w'.cell? ⟨gb184, 2, none⟩ = some (.string a0_2)) (ds := []) #[false, false, false, false, false, false, false, false, false, false] (by kernel_rfl) rfl rfl ⟨(blk_cell BK184.out 0).trans rfl, (blk_cell BK184.out 1).trans rfl, (blk_cell BK184.out 2).trans rfl⟩ (fun hHeld => ?_); refine with_tabW lockstepref02_bytes.tab6 lockstepref02_bytes.bits6 (fun HT_ HW_ => ?_)
   generalize wc.drew = w15 at BK184 HB hHeld ⊢
   refine pu HT_ (v := ?_) (a' := ?_) 4 17 rfl rfl (by kernel_rfl) (fun _ _ _ h => h) (Or.inl ⟨by rfl, ?_⟩) ?_ ?_
   rotate_left
   ·
    intro w'
    go_simp
    with_reducible rfl
   rotate_left
   ·
    simp only [Act.put, sa, sb, sc, i64_w, i32_w]
    rfl
   refine take_ (i := 1) (N := some 14) (v := ?_) (a' := ?_) #[false, true, false, false, true, false, false, false, false, false] rfl rfl (take_ofW HT_.out HW_.out (by kernel_rfl)) (fun _ _ _ h => h) (Or.inl ⟨by rfl, ?_⟩) hHeld ?_ ?_
   rotate_left
   ·
    rintro w' ⟨s0, s1, s2⟩
    go_simp
    with_reducible rfl
   rotate_left
   ·
    simp only [Act.put, sa, sb, sc, i64_w, i32_w]
    rfl
   refine take_ (i := 5) (N := some 18) (v := ?_) (a' := ?_) #[false, true, false, false, true, true, false, false, false, false] rfl rfl (take_ofW HT_.out HW_.out (by kernel_rfl)) (fun _ _ _ h => h) (Or.inl ⟨by rfl, ?_⟩) hHeld ?_ ?_
   rotate_left
   ·
    rintro w' ⟨s0, s1, s2⟩
    go_simp
    with_reducible rfl
   rotate_left
   ·
    simp only [Act.put, sa, sb, sc, i64_w, i32_w]
    rfl
   refine pu HT_ (v := ?_) (a' := ?_) 6 19 rfl rfl (by kernel_rfl) (fun _ _ _ h => h) (Or.inl ⟨by rfl, ?_⟩) ?_ ?_
   rotate_left
   ·
    intro w'
    go_simp
    with_reducible rfl
   rotate_left
   ·
    simp only [Act.put, sa, sb, sc, i64_w, i32_w]
    rfl
   refine join_ (σ := Value × Value × Value × Value) 2 #[true, true, true, true, true, true, true, true, false, false] (fun s_ => [(13, s_.1), (15, s_.2.1), (16, s_.2.2.1), (20, s_.2.2.2)]) (fun s_ w' => (w'.cell? ⟨gb184, 0, none⟩ = some (.int .i64 a0_0) ∧ w'.cell? ⟨gb184, 1, none⟩ = some (.int .i64 a0_1) ∧ w'.cell? ⟨gb184, 2, none⟩ = some (.string a0_2)) ∧ (Kd.R (Kd.int .u8) 5 w' w.heap.size (fun k_ => some k_ ≠ (s_.2.2.1 : Value).ownBlock ∧ some k_ ≠ (s_.2.2.2 : Value).ownBlock) s_.2.1 t191) ∧ (Kd.R (Kd.int .u8) 5 w' w.heap.size (fun k_ => some k_ ≠ (s_.2.1 : Value).ownBlock ∧ some k_ ≠ (s_.2.2.2 : Value).ownBlock) s_.2.2.1 y194) ∧ (Kd.R (Kd.int .u8) 5 w' w.heap.size (fun k_ => some k_ ≠ (s_.2.1 : Value).ownBlock ∧ some k_ ≠ (s_.2.2.1 : Value).ownBlock) s_.2.2.2 y197) ∧ (w'.heap[gb184]? = some (.cells #[.int .i64 a0_0, .int .i64 a0_1, .string a0_2] 42 (0, 0))) ∧ (Below w.heap.size w w')) ?_ ?_
   rotate_left
   ·
    intro hJ0_2_3_7
    refine join_ (σ := Value × Value × Value) 3 #[true, true, true, true, true, true, true, false, false, false] (fun s_ => [(13, s_.1), (15, s_.2.1), (16, s_.2.2)]) (fun s_ w' => (w'.cell? ⟨gb184, 0, none⟩ = some (.int .i64 a0_0) ∧ w'.cell? ⟨gb184, 1, none⟩ = some (.int .i64 a0_1) ∧ w'.cell? ⟨gb184, 2, none⟩ = some (.string a0_2)) ∧ (Kd.R (Kd.int .u8) 5 w' w.heap.size (fun k_ => some k_ ≠ (s_.2.2 : Value).ownBlock) s_.2.1 t191) ∧ (Kd.R (Kd.int .u8) 5 w' w.heap.size (fun k_ => some k_ ≠ (s_.2.1 : Value).ownBlock) s_.2.2 y194) ∧ (w'.heap[gb184]? = some (.cells #[.int .i64 a0_0, .int .i64 a0_1, .string a0_2] 42 (0, 0))) ∧ (Below w.heap.size w w')) ?_ ?_
    rotate_left
    ·
     intro hJ0_2_3
     refine join_ (σ := Value × Value × Value) 3 #[true, true, true, false, true, true, true, true, false, false] (fun s_ => [(13, s_.1), (15, s_.2.1), (20, s_.2.2)]) (fun s_ w' => (w'.cell? ⟨gb184, 0, none⟩ = some (.int .i64 a0_0) ∧ w'.cell? ⟨gb184, 1, none⟩ = some (.int .i64 a0_1) ∧ w'.cell? ⟨gb184, 2, none⟩ = some (.string a0_2)) ∧ (Kd.R (Kd.int .u8) 5 w' w.heap.size (fun k_ => some k_ ≠ (s_.2.1 : Value).ownBlock ∧ some k_ ≠ (s_.2.2 : Value).ownBlock) s_.1 y188) ∧ (Kd.R (Kd.int .u8) 5 w' w.heap.size (fun k_ => some k_ ≠ (s_.1 : Value).ownBlock ∧ some k_ ≠ (s_.2.2 : Value).ownBlock) s_.2.1 t191) ∧ (Kd.R (Kd.int .u8) 5 w' w.heap.size (fun k_ => some k_ ≠ (s_.1 : Value).ownBlock ∧ some k_ ≠ (s_.2.1 : Value).ownBlock) s_.2.2 y197) ∧ (w'.heap[gb184]? = some (.cells #[.int .i64 a0_0, .int .i64 a0_1, .string a0_2] 42 (0, 0))) ∧ (Below w.heap.size w w')) ?_ ?_
     rotate_left
     ·
      intro hJ0_2_7
      refine join_ (σ := Value × Value) 4 #[true, true, true, false, true, true, true, false, false, false] (fun s_ => [(13, s_.1), (15, s_.2)]) (fun s_ w' => (w'.cell? ⟨gb184, 0, none⟩ = some (.int .i64 a0_0) ∧ w'.cell? ⟨gb184, 1, none⟩ = some (.int .i64 a0_1) ∧ w'.cell? ⟨gb184, 2, none⟩ = some (.string a0_2)) ∧ (Kd.R (Kd.int .u8) 5 w' w.heap.size (fun k_ => some k_ ≠ (s_.2 : Value).ownBlock) s_.1 y188) ∧ (Kd.R (Kd.int .u8) 5 w' w.heap.size (fun k_ => some k_ ≠ (s_.1 : Value).ownBlock) s_.2 t191) ∧ (w'.heap[gb184]? = some (.cells #[.int .i64 a0_0, .int .i64 a0_1, .string a0_2] 42 (0, 0))) ∧ (Below w.heap.size w w')) ?_ ?_
      rotate_left
      ·
       intro hJ0_2
       refine join_ (σ := Value × Value) 4 #[true, true, false, false, true, true, true, true, false, false] (fun s_ => [(13, s_.1), (20, s_.2)]) (fun s_ w' => (w'.cell? ⟨gb184, 0, none⟩ = some (.int .i64 a0_0) ∧ w'.cell? ⟨gb184, 1, none⟩ = some (.int .i64 a0_1) ∧ w'.cell? ⟨gb184, 2, none⟩ = some (.string a0_2)) ∧ (Kd.R (Kd.int .u8) 5 w' w.heap.size (fun k_ => some k_ ≠ (s_.2 : Value).ownBlock) s_.1 y188) ∧ (Kd.R (Kd.int .u8) 5 w' w.heap.size (fun k_ => some k_ ≠ (s_.1 : Value).ownBlock) s_.2 y197) ∧ (w'.heap[gb184]? = some (.cells #[.int .i64 a0_0, .int .i64 a0_1, .string a0_2] 42 (0, 0))) ∧ (Below w.heap.size w w')) ?_ ?_
       rotate_left
       ·
        intro hJ0_7
        refine join_ (σ := Value × Value) 4 #[false, true, true, false, true, true, true, true, false, false] (fun s_ => [(15, s_.1), (20, s_.2)]) (fun s_ w' => (w'.cell? ⟨gb184, 0, none⟩ = some (.int .i64 a0_0) ∧ w'.cell? ⟨gb184, 1, none⟩ = some (.int .i64 a0_1) ∧ w'.cell? ⟨gb184, 2, none⟩ = some (.string a0_2)) ∧ (Kd.R (Kd.int .u8) 5 w' w.heap.size (fun k_ => some k_ ≠ (s_.2 : Value).ownBlock) s_.1 t191) ∧ (Kd.R (Kd.int .u8) 5 w' w.heap.size (fun k_ => some k_ ≠ (s_.1 : Value).ownBlock) s_.2 y197) ∧ (w'.heap[gb184]? = some (.cells #[.int .i64 a0_0, .int .i64 a0_1, .string a0_2] 42 (0, 0))) ∧ (Below w.heap.size w w')) ?_ ?_
        rotate_left
        ·
         intro hJ2_7
         refine join_ (σ := Value) 5 #[true, true, false, false, true, true, true, false, false, false] (fun s_ => [(13, s_)]) (fun s_ w' => (w'.cell? ⟨gb184, 0, none⟩ = some (.int .i64 a0_0) ∧ w'.cell? ⟨gb184, 1, none⟩ = some (.int .i64 a0_1) ∧ w'.cell? ⟨gb184, 2, none⟩ = some (.string a0_2)) ∧ (Kd.R (Kd.int .u8) 5 w' w.heap.size (fun _ => True) s_ y188) ∧ (w'.heap[gb184]? = some (.cells #[.int .i64 a0_0, .int .i64 a0_1, .string a0_2] 42 (0, 0))) ∧ (Below w.heap.size w w')) ?_ ?_
         rotate_left
         ·
          intro hJ0
          refine join_ (σ := Value) 5 #[false, true, true, false, true, true, true, false, false, false] (fun s_ => [(15, s_)]) (fun s_ w' => (w'.cell? ⟨gb184, 0, none⟩ = some (.int .i64 a0_0) ∧ w'.cell? ⟨gb184, 1, none⟩ = some (.int .i64 a0_1) ∧ w'.cell? ⟨gb184, 2, none⟩ = some (.string a0_2)) ∧ (Kd.R (Kd.int .u8) 5 w' w.heap.size (fun _ => True) s_ t191) ∧ (w'.heap[gb184]? = some (.cells #[.int .i64 a0_0, .int .i64 a0_1, .string a0_2] 42 (0, 0))) ∧ (Below w.heap.size w w')) ?_ ?_
          rotate_left
          ·
           intro hJ2
           refine join_ (σ := Value) 5 #[false, true, false, false, true, true, true, true, false, false] (fun s_ => [(20, s_)]) (fun s_ w' => (w'.cell? ⟨gb184, 0, none⟩ = some (.int .i64 a0_0) ∧ w'.cell? ⟨gb184, 1, none⟩ = some (.int .i64 a0_1) ∧ w'.cell? ⟨gb184, 2, none⟩ = some (.string a0_2)) ∧ (Kd.R (Kd.int .u8) 5 w' w.heap.size (fun _ => True) s_ y197) ∧ (w'.heap[gb184]? = some (.cells #[.int .i64 a0_0, .int .i64 a0_1, .string a0_2] 42 (0, 0))) ∧ (Below w.heap.size w w')) ?_ ?_
           rotate_left
           ·
            intro hJ7
            refine three_ (i := 0) (j := 2) (k := 7) (Ni := some 13) (Nj := some 15) (Nk := some 20) #[true, true, false, false, true, true, true, false, false, false] #[false, true, true, false, true, true, true, false, false, false] #[false, true, false, false, true, true, true, true, false, false] rfl rfl rfl rfl rfl rfl (three_of HT_.out (by kernel_rfl)) (by decide) (by decide) (by decide) (fun K hK => ?_) (fun K hK => ?_) (fun K hK => ?_)
            ·
             skip
             refine Kd.R_lit_step (Kd.int .u8) _ 5 ?hg (N := 13) ?hd (xs := ([2] : List Int)) (inner := [.int .u8 2]) (ok := fun _ => True) (okp := fun _ => True) ?hr ?hp (fun _ hk => hk) trivial (Below.refl _ _) (Nat.le_refl _) (by simp) ?_; (case hd => rfl); (case hg => rfl); (case hr => (go_simp; done)); (case hp => exact (Reps.one (show Kd.M (Kd.int .u8) _ _ _ 2 [.int .u8 2] from rfl) (Reps.none _ _)))
             intro v189 w16 ho17 hb hg_ hnew_
             clear hg_ hnew_
             (rw [← Ny188.out] at ho17)
             have n0_ := am (Kd.R_lower ho17 (below_size HB.out))
             have n1_ := am (blk_below (g := gb184) (o := .cells #[.int .i64 a0_0, .int .i64 a0_1, .string a0_2] 42 (0, 0)) (by exact BK184.out) hb)
             have n2_ := am (below_step HB.out hb)
             clear BK184
             clear HB
             have HO190 := n0_
             have BK184 := n1_
             have HB := n2_
             clear n0_ n1_ n2_
             clear hb ho17
             refine hK.out _ _ ⟨(blk_cell BK184.out 0).trans rfl, (blk_cell BK184.out 1).trans rfl, (blk_cell BK184.out 2).trans rfl⟩ (fun hHeld => ?_)
             clear hK K
             refine norm_ (a' := ?_) ?_ ?_
             rotate_left
             ·
              show Act.put _ (some 13) _ = _
              simp only [Act.put, sa, sb, sc, i64_w, i32_w]
              rfl
             exact norm_ (by (simp only [putAll, Act.put, List.setIfInBounds_toArray, List.set_cons_zero, List.set_cons_succ]; done)) (hJ0 (v189) _ ⟨hHeld, HO190.out, (by exact BK184.out), HB.out⟩)
            ·
             skip
             refine goes_ Tryd.func75 (by kernel_rfl) rfl #[.agg #[.int .i64 a0_0, .int .i64 a0_1, .string a0_2]] (by rfl) rfl rfl (by (try simp only [List.map_toArray, List.map_cons, List.map_nil]); rfl) ?_
             with_reducible refine (lockstepref02_number.calls kj6 a0_0 a0_1 a0_2 t191 _ A12.out).mono ?_
             rintro e w16 ⟨v192, rfl, ho0, hb⟩
             refine ⟨_, rfl, ?_⟩
             have n0_ := am (Kd.R_lower ho0 (below_size HB.out))
             have n1_ := am (blk_below (g := gb184) (o := .cells #[.int .i64 a0_0, .int .i64 a0_1, .string a0_2] 42 (0, 0)) (by exact BK184.out) hb)
             have n2_ := am (below_step HB.out hb)
             clear BK184
             clear HB
             have HO193 := n0_
             have BK184 := n1_
             have HB := n2_
             clear n0_ n1_ n2_
             (try clear hb)
             (try clear ho0)
             refine hK.out _ _ ⟨(blk_cell BK184.out 0).trans rfl, (blk_cell BK184.out 1).trans rfl, (blk_cell BK184.out 2).trans rfl⟩ (fun hHeld => ?_)
             clear hK K
             refine norm_ (a' := ?_) ?_ ?_
             rotate_left
             ·
              show Act.put _ (some 15) _ = _
              simp only [Act.put, sa, sb, sc, i64_w, i32_w]
              rfl
             exact norm_ (by (simp only [putAll, Act.put, List.setIfInBounds_toArray, List.set_cons_zero, List.set_cons_succ]; done)) (hJ2 (v192) _ ⟨hHeld, HO193.out, (by exact BK184.out), HB.out⟩)
            ·
             skip
             refine Kd.R_lit_step (Kd.int .u8) _ 5 ?hg (N := 20) ?hd (xs := ([(a0_0) % 256] : List Int)) (inner := [.int .u8 ((a0_0) % 256)]) (ok := fun _ => True) (okp := fun _ => True) ?hr ?hp (fun _ hk => hk) trivial (Below.refl _ _) (Nat.le_refl _) (by simp) ?_; (case hd => rfl); (case hg => rfl); (case hr => (go_simp; rfl)); (case hp => exact (Reps.one (show Kd.M (Kd.int .u8) _ _ _ ((a0_0) % 256) [.int .u8 ((a0_0) % 256)] from rfl) (Reps.none _ _)))
             intro v198 w16 ho17 hb hg_ hnew_
             clear hg_ hnew_
             (rw [← Ny197.out] at ho17)
             have n0_ := am (Kd.R_lower ho17 (below_size HB.out))
             have n1_ := am (blk_below (g := gb184) (o := .cells #[.int .i64 a0_0, .int .i64 a0_1, .string a0_2] 42 (0, 0)) (by exact BK184.out) hb)
             have n2_ := am (below_step HB.out hb)
             clear BK184
             clear HB
             have HO199 := n0_
             have BK184 := n1_
             have HB := n2_
             clear n0_ n1_ n2_
             clear hb ho17
             refine hK.out _ _ ⟨(blk_cell BK184.out 0).trans rfl, (blk_cell BK184.out 1).trans rfl, (blk_cell BK184.out 2).trans rfl⟩ (fun hHeld => ?_)
             clear hK K
             refine norm_ (a' := ?_) ?_ ?_
             rotate_left
             ·
              show Act.put _ (some 20) _ = _
              simp only [Act.put, sa, sb, sc, i64_w, i32_w]
              rfl
             exact norm_ (by (simp only [putAll, Act.put, List.setIfInBounds_toArray, List.set_cons_zero, List.set_cons_succ]; done)) (hJ7 (v198) _ ⟨hHeld, HO199.out, (by exact BK184.out), HB.out⟩)
           ·
            skip
            rintro v198 w18 ⟨hS_, h0_, h1_, h2_⟩
            have n0_ : Aside0 (Kd.R (Kd.int .u8) 5 w18 w.heap.size (fun _ => True) v198 y197) := ⟨h0_⟩
            have n1_ : Aside0 (w18.heap[gb184]? = some (.cells #[.int .i64 a0_0, .int .i64 a0_1, .string a0_2] 42 (0, 0))) := ⟨h1_⟩
            have n2_ : Aside0 (Below w.heap.size w w18) := ⟨h2_⟩
            clear BK184
            clear HB
            clear h0_ h1_ h2_
            have HO199 := n0_
            have BK184 := n1_
            have HB := n2_
            clear n0_ n1_ n2_
            have hHeld : w18.cell? ⟨gb184, 0, none⟩ = some (.int .i64 a0_0) ∧ w18.cell? ⟨gb184, 1, none⟩ = some (.int .i64 a0_1) ∧ w18.cell? ⟨gb184, 2, none⟩ = some (.string a0_2) := hS_
            refine norm_ (a' := ?_) ?_ ?_
            rotate_left
            ·
             simp only [putAll, Act.put, List.setIfInBounds_toArray, List.set_cons_zero, List.set_cons_succ]
             rfl
            refine two_ (i := 0) (j := 2) (Ni := some 13) (Nj := some 15) #[true, true, false, false, true, true, true, true, false, false] #[false, true, true, false, true, true, true, true, false, false] rfl rfl rfl rfl (two_of HT_.out (by kernel_rfl)) (by decide) (by decide) (fun K hK => ?_) (fun K hK => ?_)
            ·
             skip
             refine Kd.R_lit_step (Kd.int .u8) _ 5 ?hg (N := 13) ?hd (xs := ([2] : List Int)) (inner := [.int .u8 2]) (ok := fun _ => True) (okp := fun _ => True) ?hr ?hp (fun _ hk => hk) trivial (Below.refl _ _) (Nat.le_refl _) (by simp) ?_; (case hd => rfl); (case hg => rfl); (case hr => (go_simp; done)); (case hp => exact (Reps.one (show Kd.M (Kd.int .u8) _ _ _ 2 [.int .u8 2] from rfl) (Reps.none _ _)))
             intro v189 w19 ho20 hb hg_ hnew_
             clear hg_ hnew_
             (rw [← Ny188.out] at ho20)
             have n0_ := am (Kd.R_elder' HO199.out (Kd.R_base ho20) hb)
             have n1_ := am (Kd.R_lower (Kd.R_new' ho20 (Kd.R_lt HO199.out)) (below_size HB.out))
             have n2_ := am (blk_below (g := gb184) (o := .cells #[.int .i64 a0_0, .int .i64 a0_1, .string a0_2] 42 (0, 0)) (by exact BK184.out) hb)
             have n3_ := am (below_step HB.out hb)
             clear HO199
             clear BK184
             clear HB
             have HO199 := n0_
             have HO190 := n1_
             have BK184 := n2_
             have HB := n3_
             clear n0_ n1_ n2_ n3_
             clear hb ho20
             refine hK.out _ _ ⟨(blk_cell BK184.out 0).trans rfl, (blk_cell BK184.out 1).trans rfl, (blk_cell BK184.out 2).trans rfl⟩ (fun hHeld => ?_)
             clear hK K
             refine norm_ (a' := ?_) ?_ ?_
             rotate_left
             ·
              show Act.put _ (some 13) _ = _
              simp only [Act.put, sa, sb, sc, i64_w, i32_w]
              rfl
             exact norm_ (by (simp only [putAll, Act.put, List.setIfInBounds_toArray, List.set_cons_zero, List.set_cons_succ]; done)) (hJ0_7 (v189, v198) _ ⟨hHeld, (by exact Kd.R_mono HO190.out (fun _ hk => hk.2)), (by exact Kd.R_mono HO199.out (fun _ hk => hk.2)), (by exact BK184.out), HB.out⟩)
            ·
             skip
             refine goes_ Tryd.func75 (by kernel_rfl) rfl #[.agg #[.int .i64 a0_0, .int .i64 a0_1, .string a0_2]] (by rfl) rfl rfl (by (try simp only [List.map_toArray, List.map_cons, List.map_nil]); rfl) ?_
             with_reducible refine (lockstepref02_number.calls kj6 a0_0 a0_1 a0_2 t191 _ A12.out).mono ?_
             rintro e w19 ⟨v192, rfl, ho0, hb⟩
             refine ⟨_, rfl, ?_⟩
             have n0_ := am (Kd.R_elder' HO199.out (Kd.R_base ho0) hb)
             have n1_ := am (Kd.R_lower (Kd.R_new' ho0 (Kd.R_lt HO199.out)) (below_size HB.out))
             have n2_ := am (blk_below (g := gb184) (o := .cells #[.int .i64 a0_0, .int .i64 a0_1, .string a0_2] 42 (0, 0)) (by exact BK184.out) hb)
             have n3_ := am (below_step HB.out hb)
             clear HO199
             clear BK184
             clear HB
             have HO199 := n0_
             have HO193 := n1_
             have BK184 := n2_
             have HB := n3_
             clear n0_ n1_ n2_ n3_
             (try clear hb)
             (try clear ho0)
             refine hK.out _ _ ⟨(blk_cell BK184.out 0).trans rfl, (blk_cell BK184.out 1).trans rfl, (blk_cell BK184.out 2).trans rfl⟩ (fun hHeld => ?_)
             clear hK K
             refine norm_ (a' := ?_) ?_ ?_
             rotate_left
             ·
              show Act.put _ (some 15) _ = _
              simp only [Act.put, sa, sb, sc, i64_w, i32_w]
              rfl
             exact norm_ (by (simp only [putAll, Act.put, List.setIfInBounds_toArray, List.set_cons_zero, List.set_cons_succ]; done)) (hJ2_7 (v192, v198) _ ⟨hHeld, (by exact Kd.R_mono HO193.out (fun _ hk => hk.2)), (by exact Kd.R_mono HO199.out (fun _ hk => hk.2)), (by exact BK184.out), HB.out⟩)
          ·
           skip
           rintro v192 w17 ⟨hS_, h0_, h1_, h2_⟩
           have n0_ : Aside0 (Kd.R (Kd.int .u8) 5 w17 w.heap.size (fun _ => True) v192 t191) := ⟨h0_⟩
           have n1_ : Aside0 (w17.heap[gb184]? = some (.cells #[.int .i64 a0_0, .int .i64 a0_1, .string a0_2] 42 (0, 0))) := ⟨h1_⟩
           have n2_ : Aside0 (Below w.heap.size w w17) := ⟨h2_⟩
           clear BK184
           clear HB
           clear h0_ h1_ h2_
           have HO193 := n0_
           have BK184 := n1_
           have HB := n2_
           clear n0_ n1_ n2_
           have hHeld : w17.cell? ⟨gb184, 0, none⟩ = some (.int .i64 a0_0) ∧ w17.cell? ⟨gb184, 1, none⟩ = some (.int .i64 a0_1) ∧ w17.cell? ⟨gb184, 2, none⟩ = some (.string a0_2) := hS_
           refine norm_ (a' := ?_) ?_ ?_
           rotate_left
           ·
            simp only [putAll, Act.put, List.setIfInBounds_toArray, List.set_cons_zero, List.set_cons_succ]
            rfl
           refine two_ (i := 0) (j := 7) (Ni := some 13) (Nj := some 20) #[true, true, true, false, true, true, true, false, false, false] #[false, true, true, false, true, true, true, true, false, false] rfl rfl rfl rfl (two_of HT_.out (by kernel_rfl)) (by decide) (by decide) (fun K hK => ?_) (fun K hK => ?_)
           ·
            skip
            refine Kd.R_lit_step (Kd.int .u8) _ 5 ?hg (N := 13) ?hd (xs := ([2] : List Int)) (inner := [.int .u8 2]) (ok := fun _ => True) (okp := fun _ => True) ?hr ?hp (fun _ hk => hk) trivial (Below.refl _ _) (Nat.le_refl _) (by simp) ?_; (case hd => rfl); (case hg => rfl); (case hr => (go_simp; done)); (case hp => exact (Reps.one (show Kd.M (Kd.int .u8) _ _ _ 2 [.int .u8 2] from rfl) (Reps.none _ _)))
            intro v189 w18 ho19 hb hg_ hnew_
            clear hg_ hnew_
            (rw [← Ny188.out] at ho19)
            have n0_ := am (Kd.R_elder' HO193.out (Kd.R_base ho19) hb)
            have n1_ := am (Kd.R_lower (Kd.R_new' ho19 (Kd.R_lt HO193.out)) (below_size HB.out))
            have n2_ := am (blk_below (g := gb184) (o := .cells #[.int .i64 a0_0, .int .i64 a0_1, .string a0_2] 42 (0, 0)) (by exact BK184.out) hb)
            have n3_ := am (below_step HB.out hb)
            clear HO193
            clear BK184
            clear HB
            have HO193 := n0_
            have HO190 := n1_
            have BK184 := n2_
            have HB := n3_
            clear n0_ n1_ n2_ n3_
            clear hb ho19
            refine hK.out _ _ ⟨(blk_cell BK184.out 0).trans rfl, (blk_cell BK184.out 1).trans rfl, (blk_cell BK184.out 2).trans rfl⟩ (fun hHeld => ?_)
            clear hK K
            refine norm_ (a' := ?_) ?_ ?_
            rotate_left
            ·
             show Act.put _ (some 13) _ = _
             simp only [Act.put, sa, sb, sc, i64_w, i32_w]
             rfl
            exact norm_ (by (simp only [putAll, Act.put, List.setIfInBounds_toArray, List.set_cons_zero, List.set_cons_succ]; done)) (hJ0_2 (v189, v192) _ ⟨hHeld, (by exact Kd.R_mono HO190.out (fun _ hk => hk.2)), (by exact Kd.R_mono HO193.out (fun _ hk => hk.2)), (by exact BK184.out), HB.out⟩)
           ·
            skip
            refine Kd.R_lit_step (Kd.int .u8) _ 5 ?hg (N := 20) ?hd (xs := ([(a0_0) % 256] : List Int)) (inner := [.int .u8 ((a0_0) % 256)]) (ok := fun _ => True) (okp := fun _ => True) ?hr ?hp (fun _ hk => hk) trivial (Below.refl _ _) (Nat.le_refl _) (by simp) ?_; (case hd => rfl); (case hg => rfl); (case hr => (go_simp; rfl)); (case hp => exact (Reps.one (show Kd.M (Kd.int .u8) _ _ _ ((a0_0) % 256) [.int .u8 ((a0_0) % 256)] from rfl) (Reps.none _ _)))
            intro v198 w18 ho19 hb hg_ hnew_
            clear hg_ hnew_
            (rw [← Ny197.out] at ho19)
            have n0_ := am (Kd.R_elder' HO193.out (Kd.R_base ho19) hb)
            have n1_ := am (Kd.R_lower (Kd.R_new' ho19 (Kd.R_lt HO193.out)) (below_size HB.out))
            have n2_ := am (blk_below (g := gb184) (o := .cells #[.int .i64 a0_0, .int .i64 a0_1, .string a0_2] 42 (0, 0)) (by exact BK184.out) hb)
            have n3_ := am (below_step HB.out hb)
            clear HO193
            clear BK184
            clear HB
            have HO193 := n0_
            have HO199 := n1_
            have BK184 := n2_
            have HB := n3_
            clear n0_ n1_ n2_ n3_
            clear hb ho19
            refine hK.out _ _ ⟨(blk_cell BK184.out 0).trans rfl, (blk_cell BK184.out 1).trans rfl, (blk_cell BK184.out 2).trans rfl⟩ (fun hHeld => ?_)
            clear hK K
            refine norm_ (a' := ?_) ?_ ?_
            rotate_left
            ·
             show Act.put _ (some 20) _ = _
             simp only [Act.put, sa, sb, sc, i64_w, i32_w]
             rfl
            exact norm_ (by (simp only [putAll, Act.put, List.setIfInBounds_toArray, List.set_cons_zero, List.set_cons_succ]; done)) (hJ2_7 (v192, v198) _ ⟨hHeld, (by exact Kd.R_mono HO193.out (fun _ hk => hk.2)), (by exact Kd.R_mono HO199.out (fun _ hk => hk.2)), (by exact BK184.out), HB.out⟩)
         ·
          skip
          rintro v189 w18 ⟨hS_, h0_, h1_, h2_⟩
          have n0_ : Aside0 (Kd.R (Kd.int .u8) 5 w18 w.heap.size (fun _ => True) v189 y188) := ⟨h0_⟩
          have n1_ : Aside0 (w18.heap[gb184]? = some (.cells #[.int .i64 a0_0, .int .i64 a0_1, .string a0_2] 42 (0, 0))) := ⟨h1_⟩
          have n2_ : Aside0 (Below w.heap.size w w18) := ⟨h2_⟩
          clear BK184
          clear HB
          clear h0_ h1_ h2_
          have HO190 := n0_
          have BK184 := n1_
          have HB := n2_
          clear n0_ n1_ n2_
          have hHeld : w18.cell? ⟨gb184, 0, none⟩ = some (.int .i64 a0_0) ∧ w18.cell? ⟨gb184, 1, none⟩ = some (.int .i64 a0_1) ∧ w18.cell? ⟨gb184, 2, none⟩ = some (.string a0_2) := hS_
          refine norm_ (a' := ?_) ?_ ?_
          rotate_left
          ·
           simp only [putAll, Act.put, List.setIfInBounds_toArray, List.set_cons_zero, List.set_cons_succ]
           rfl
          refine two_ (i := 2) (j := 7) (Ni := some 15) (Nj := some 20) #[true, true, true, false, true, true, true, false, false, false] #[true, true, false, false, true, true, true, true, false, false] rfl rfl rfl rfl (two_of HT_.out (by kernel_rfl)) (by decide) (by decide) (fun K hK => ?_) (fun K hK => ?_)
          ·
           skip
           refine goes_ Tryd.func75 (by kernel_rfl) rfl #[.agg #[.int .i64 a0_0, .int .i64 a0_1, .string a0_2]] (by rfl) rfl rfl (by (try simp only [List.map_toArray, List.map_cons, List.map_nil]); rfl) ?_
           with_reducible refine (lockstepref02_number.calls kj6 a0_0 a0_1 a0_2 t191 _ A12.out).mono ?_
           rintro e w19 ⟨v192, rfl, ho0, hb⟩
           refine ⟨_, rfl, ?_⟩
           have n0_ := am (Kd.R_elder' HO190.out (Kd.R_base ho0) hb)
           have n1_ := am (Kd.R_lower (Kd.R_new' ho0 (Kd.R_lt HO190.out)) (below_size HB.out))
           have n2_ := am (blk_below (g := gb184) (o := .cells #[.int .i64 a0_0, .int .i64 a0_1, .string a0_2] 42 (0, 0)) (by exact BK184.out) hb)
           have n3_ := am (below_step HB.out hb)
           clear HO190
           clear BK184
           clear HB
           have HO190 := n0_
           have HO193 := n1_
           have BK184 := n2_
           have HB := n3_
           clear n0_ n1_ n2_ n3_
           (try clear hb)
           (try clear ho0)
           refine hK.out _ _ ⟨(blk_cell BK184.out 0).trans rfl, (blk_cell BK184.out 1).trans rfl, (blk_cell BK184.out 2).trans rfl⟩ (fun hHeld => ?_)
           clear hK K
           refine norm_ (a' := ?_) ?_ ?_
           rotate_left
           ·
            show Act.put _ (some 15) _ = _
            simp only [Act.put, sa, sb, sc, i64_w, i32_w]
            rfl
           exact norm_ (by (simp only [putAll, Act.put, List.setIfInBounds_toArray, List.set_cons_zero, List.set_cons_succ]; done)) (hJ0_2 (v189, v192) _ ⟨hHeld, (by exact Kd.R_mono HO190.out (fun _ hk => hk.2)), (by exact Kd.R_mono HO193.out (fun _ hk => hk.2)), (by exact BK184.out), HB.out⟩)
          ·
           skip
           refine Kd.R_lit_step (Kd.int .u8) _ 5 ?hg (N := 20) ?hd (xs := ([(a0_0) % 256] : List Int)) (inner := [.int .u8 ((a0_0) % 256)]) (ok := fun _ => True) (okp := fun _ => True) ?hr ?hp (fun _ hk => hk) trivial (Below.refl _ _) (Nat.le_refl _) (by simp) ?_; (case hd => rfl); (case hg => rfl); (case hr => (go_simp; rfl)); (case hp => exact (Reps.one (show Kd.M (Kd.int .u8) _ _ _ ((a0_0) % 256) [.int .u8 ((a0_0) % 256)] from rfl) (Reps.none _ _)))
           intro v198 w19 ho20 hb hg_ hnew_
           clear hg_ hnew_
           (rw [← Ny197.out] at ho20)
           have n0_ := am (Kd.R_elder' HO190.out (Kd.R_base ho20) hb)
           have n1_ := am (Kd.R_lower (Kd.R_new' ho20 (Kd.R_lt HO190.out)) (below_size HB.out))
           have n2_ := am (blk_below (g := gb184) (o := .cells #[.int .i64 a0_0, .int .i64 a0_1, .string a0_2] 42 (0, 0)) (by exact BK184.out) hb)
           have n3_ := am (below_step HB.out hb)
           clear HO190
           clear BK184
           clear HB
           have HO190 := n0_
           have HO199 := n1_
           have BK184 := n2_
           have HB := n3_
           clear n0_ n1_ n2_ n3_
           clear hb ho20
           refine hK.out _ _ ⟨(blk_cell BK184.out 0).trans rfl, (blk_cell BK184.out 1).trans rfl, (blk_cell BK184.out 2).trans rfl⟩ (fun hHeld => ?_)
           clear hK K
           refine norm_ (a' := ?_) ?_ ?_
           rotate_left
           ·
            show Act.put _ (some 20) _ = _
            simp only [Act.put, sa, sb, sc, i64_w, i32_w]
            rfl
           exact norm_ (by (simp only [putAll, Act.put, List.setIfInBounds_toArray, List.set_cons_zero, List.set_cons_succ]; done)) (hJ0_7 (v189, v198) _ ⟨hHeld, (by exact Kd.R_mono HO190.out (fun _ hk => hk.2)), (by exact Kd.R_mono HO199.out (fun _ hk => hk.2)), (by exact BK184.out), HB.out⟩)
        ·
         skip
         rintro ⟨v192, v198⟩ w19 ⟨hS_, h0_, h1_, h2_, h3_⟩
         have n0_ : Aside0 (Kd.R (Kd.int .u8) 5 w19 w.heap.size (fun k_ => some k_ ≠ (v198 : Value).ownBlock) v192 t191) := ⟨h0_⟩
         have n1_ : Aside0 (Kd.R (Kd.int .u8) 5 w19 w.heap.size (fun k_ => some k_ ≠ (v192 : Value).ownBlock) v198 y197) := ⟨h1_⟩
         have n2_ : Aside0 (w19.heap[gb184]? = some (.cells #[.int .i64 a0_0, .int .i64 a0_1, .string a0_2] 42 (0, 0))) := ⟨h2_⟩
         have n3_ : Aside0 (Below w.heap.size w w19) := ⟨h3_⟩
         clear BK184
         clear HB
         clear h0_ h1_ h2_ h3_
         have HO193 := n0_
         have HO199 := n1_
         have BK184 := n2_
         have HB := n3_
         clear n0_ n1_ n2_ n3_
         have hHeld : w19.cell? ⟨gb184, 0, none⟩ = some (.int .i64 a0_0) ∧ w19.cell? ⟨gb184, 1, none⟩ = some (.int .i64 a0_1) ∧ w19.cell? ⟨gb184, 2, none⟩ = some (.string a0_2) := hS_
         refine norm_ (a' := ?_) ?_ ?_
         rotate_left
         ·
          simp only [putAll, Act.put, List.setIfInBounds_toArray, List.set_cons_zero, List.set_cons_succ]
          rfl
         refine one_ (i := 0) (N := some 13) #[true, true, true, false, true, true, true, true, false, false] rfl rfl (one_of HT_.out (by kernel_rfl)) (by decide) (fun K hK => ?_)
         refine Kd.R_lit_step (Kd.int .u8) _ 5 ?hg (N := 13) ?hd (xs := ([2] : List Int)) (inner := [.int .u8 2]) (ok := fun _ => True) (okp := fun _ => True) ?hr ?hp (fun _ hk => hk) trivial (Below.refl _ _) (Nat.le_refl _) (by simp) ?_; (case hd => rfl); (case hg => rfl); (case hr => (go_simp; done)); (case hp => exact (Reps.one (show Kd.M (Kd.int .u8) _ _ _ 2 [.int .u8 2] from rfl) (Reps.none _ _)))
         intro v189 w20 ho21 hb hg_ hnew_
         clear hg_ hnew_
         (rw [← Ny188.out] at ho21)
         have n0_ := am (Kd.R_elder' HO193.out (Kd.R_base ho21) hb)
         have n1_ := am (Kd.R_elder' HO199.out (Kd.R_base ho21) hb)
         have n2_ := am (Kd.R_lower (Kd.R_new' (Kd.R_new' ho21 (Kd.R_lt HO193.out)) (Kd.R_lt HO199.out)) (below_size HB.out))
         have n3_ := am (blk_below (g := gb184) (o := .cells #[.int .i64 a0_0, .int .i64 a0_1, .string a0_2] 42 (0, 0)) (by exact BK184.out) hb)
         have n4_ := am (below_step HB.out hb)
         clear HO193
         clear HO199
         clear BK184
         clear HB
         have HO193 := n0_
         have HO199 := n1_
         have HO190 := n2_
         have BK184 := n3_
         have HB := n4_
         clear n0_ n1_ n2_ n3_ n4_
         clear hb ho21
         refine hK.out _ _ ⟨(blk_cell BK184.out 0).trans rfl, (blk_cell BK184.out 1).trans rfl, (blk_cell BK184.out 2).trans rfl⟩ (fun hHeld => ?_)
         clear hK K
         refine norm_ (a' := ?_) ?_ ?_
         rotate_left
         ·
          show Act.put _ (some 13) _ = _
          simp only [Act.put, sa, sb, sc, i64_w, i32_w]
          rfl
         exact norm_ (by (simp only [putAll, Act.put, List.setIfInBounds_toArray, List.set_cons_zero, List.set_cons_succ]; done)) (hJ0_2_7 (v189, v192, v198) _ ⟨hHeld, (by exact Kd.R_mono HO190.out (fun _ hk => ⟨hk.1.2, hk.2⟩)), (by exact Kd.R_mono HO193.out (fun _ hk => ⟨hk.2, hk.1⟩)), (by exact Kd.R_mono HO199.out (fun _ hk => ⟨hk.2, hk.1⟩)), (by exact BK184.out), HB.out⟩)
       ·
        skip
        rintro ⟨v189, v198⟩ w20 ⟨hS_, h0_, h1_, h2_, h3_⟩
        have n0_ : Aside0 (Kd.R (Kd.int .u8) 5 w20 w.heap.size (fun k_ => some k_ ≠ (v198 : Value).ownBlock) v189 y188) := ⟨h0_⟩
        have n1_ : Aside0 (Kd.R (Kd.int .u8) 5 w20 w.heap.size (fun k_ => some k_ ≠ (v189 : Value).ownBlock) v198 y197) := ⟨h1_⟩
        have n2_ : Aside0 (w20.heap[gb184]? = some (.cells #[.int .i64 a0_0, .int .i64 a0_1, .string a0_2] 42 (0, 0))) := ⟨h2_⟩
        have n3_ : Aside0 (Below w.heap.size w w20) := ⟨h3_⟩
        clear BK184
        clear HB
        clear h0_ h1_ h2_ h3_
        have HO190 := n0_
        have HO199 := n1_
        have BK184 := n2_
        have HB := n3_
        clear n0_ n1_ n2_ n3_
        have hHeld : w20.cell? ⟨gb184, 0, none⟩ = some (.int .i64 a0_0) ∧ w20.cell? ⟨gb184, 1, none⟩ = some (.int .i64 a0_1) ∧ w20.cell? ⟨gb184, 2, none⟩ = some (.string a0_2) := hS_
        refine norm_ (a' := ?_) ?_ ?_
        rotate_left
        ·
         simp only [putAll, Act.put, List.setIfInBounds_toArray, List.set_cons_zero, List.set_cons_succ]
         rfl
        refine one_ (i := 2) (N := some 15) #[true, true, true, false, true, true, true, true, false, false] rfl rfl (one_of HT_.out (by kernel_rfl)) (by decide) (fun K hK => ?_)
        refine goes_ Tryd.func75 (by kernel_rfl) rfl #[.agg #[.int .i64 a0_0, .int .i64 a0_1, .string a0_2]] (by rfl) rfl rfl (by (try simp only [List.map_toArray, List.map_cons, List.map_nil]); rfl) ?_
        with_reducible refine (lockstepref02_number.calls kj6 a0_0 a0_1 a0_2 t191 _ A12.out).mono ?_
        rintro e w21 ⟨v192, rfl, ho0, hb⟩
        refine ⟨_, rfl, ?_⟩
        have n0_ := am (Kd.R_elder' HO190.out (Kd.R_base ho0) hb)
        have n1_ := am (Kd.R_elder' HO199.out (Kd.R_base ho0) hb)
        have n2_ := am (Kd.R_lower (Kd.R_new' (Kd.R_new' ho0 (Kd.R_lt HO190.out)) (Kd.R_lt HO199.out)) (below_size HB.out))
        have n3_ := am (blk_below (g := gb184) (o := .cells #[.int .i64 a0_0, .int .i64 a0_1, .string a0_2] 42 (0, 0)) (by exact BK184.out) hb)
        have n4_ := am (below_step HB.out hb)
        clear HO190
        clear HO199
        clear BK184
        clear HB
        have HO190 := n0_
        have HO199 := n1_
        have HO193 := n2_
        have BK184 := n3_
        have HB := n4_
        clear n0_ n1_ n2_ n3_ n4_
        (try clear hb)
        (try clear ho0)
        refine hK.out _ _ ⟨(blk_cell BK184.out 0).trans rfl, (blk_cell BK184.out 1).trans rfl, (blk_cell BK184.out 2).trans rfl⟩ (fun hHeld => ?_)
        clear hK K
        refine norm_ (a' := ?_) ?_ ?_
        rotate_left
        ·
         show Act.put _ (some 15) _ = _
         simp only [Act.put, sa, sb, sc, i64_w, i32_w]
         rfl
        exact norm_ (by (simp only [putAll, Act.put, List.setIfInBounds_toArray, List.set_cons_zero, List.set_cons_succ]; done)) (hJ0_2_7 (v189, v192, v198) _ ⟨hHeld, (by exact Kd.R_mono HO190.out (fun _ hk => ⟨hk.2, hk.1⟩)), (by exact Kd.R_mono HO193.out (fun _ hk => ⟨hk.1.2, hk.2⟩)), HO199.out, (by exact BK184.out), HB.out⟩)
      ·
       skip
       rintro ⟨v189, v192⟩ w19 ⟨hS_, h0_, h1_, h2_, h3_⟩
       have n0_ : Aside0 (Kd.R (Kd.int .u8) 5 w19 w.heap.size (fun k_ => some k_ ≠ (v192 : Value).ownBlock) v189 y188) := ⟨h0_⟩
       have n1_ : Aside0 (Kd.R (Kd.int .u8) 5 w19 w.heap.size (fun k_ => some k_ ≠ (v189 : Value).ownBlock) v192 t191) := ⟨h1_⟩
       have n2_ : Aside0 (w19.heap[gb184]? = some (.cells #[.int .i64 a0_0, .int .i64 a0_1, .string a0_2] 42 (0, 0))) := ⟨h2_⟩
       have n3_ : Aside0 (Below w.heap.size w w19) := ⟨h3_⟩
       clear BK184
       clear HB
       clear h0_ h1_ h2_ h3_
       have HO190 := n0_
       have HO193 := n1_
       have BK184 := n2_
       have HB := n3_
       clear n0_ n1_ n2_ n3_
       have hHeld : w19.cell? ⟨gb184, 0, none⟩ = some (.int .i64 a0_0) ∧ w19.cell? ⟨gb184, 1, none⟩ = some (.int .i64 a0_1) ∧ w19.cell? ⟨gb184, 2, none⟩ = some (.string a0_2) := hS_
       obtain ⟨Ao21, co21, eo21⟩ := Kd.R_slice HO193.out
       (subst eo21)
       refine norm_ (a' := ?_) ?_ ?_
       rotate_left
       ·
        simp only [putAll, Act.put, List.setIfInBounds_toArray, List.set_cons_zero, List.set_cons_succ]
        rfl
       refine two_ (i := 3) (j := 7) (Ni := some 16) (Nj := some 20) #[true, true, true, true, true, true, true, false, false, false] #[true, true, true, false, true, true, true, true, false, false] rfl rfl rfl rfl (two_of HT_.out (by kernel_rfl)) (by decide) (by decide) (fun K hK => ?_) (fun K hK => ?_)
       ·
        skip
        refine Kd.R_append_rows_step (Kd.int .u8) (w0 := w) w.heap.size (by rfl) (.tmp 13) (.tmp 15) 47 5 (.int .u8 0) 1 rfl Tryd.underlying47 info5 rfl (by decide) (by omega) v189 y188 t191 _ _ _ (fun k_ => some k_ ≠ (.slice Ao21 t191.length co21 : Value).ownBlock) (fun _ => False) rfl rfl ?aO ?aR (fun _ _ h => h) (fun _ h => h.elim) ?aF ?aB ?aS ?aL ?_
        (case aR => exact (Kd.R_reads' HO193.out).2.2)
        (case aB => exact HB.out)
        (case aF => exact (fun k_ hk => Kd.fresh' (Kd.R_lt HO193.out) k_ hk))
        (case aO => exact HO190.out)
        (case aS => exact (below_size HB.out))
        (case aL => have := LMc13.out; omega)
        intro v195 w20 ho hb hg hat
        rw [← Ny194.out] at ho
        have n0_ := am (blk_grown (g := gb184) (o := .cells #[.int .i64 a0_0, .int .i64 a0_1, .string a0_2] 42 (0, 0)) (by exact BK184.out) hg (Kd.R_ne HO190.out BK184.out (by decide)))
        have n1_ := am (Kd.R_after (ok := (fun _ => True)) (by exact Kd.R_mono HO193.out (fun _ hk => ⟨trivial, hk⟩)) hg hat)
        have n2_ := am (hb)
        have n3_ := am (ho)
        clear BK184
        clear HO193
        clear HB
        clear HO190
        have BK184 := n0_
        have HO193 := n1_
        have HB := n2_
        have HO196 := n3_
        clear n0_ n1_ n2_ n3_
        clear ho hb hg hat
        refine hK.out _ _ ⟨(blk_cell BK184.out 0).trans rfl, (blk_cell BK184.out 1).trans rfl, (blk_cell BK184.out 2).trans rfl⟩ (fun hHeld => ?_)
        clear hK K
        refine norm_ (a' := ?_) ?_ ?_
        rotate_left
        ·
         show Act.put _ (some 16) _ = _
         simp only [Act.put, sa, sb, sc, i64_w, i32_w]
         rfl
        exact norm_ (by (simp only [putAll, Act.put, List.setIfInBounds_toArray, List.set_cons_zero, List.set_cons_succ]; done)) (hJ0_2_3 (v189, .slice Ao21 t191.length co21, v195) _ ⟨hHeld, (by exact Kd.R_mono HO193.out (fun _ hk => hk.2)), HO196.out, (by exact BK184.out), HB.out⟩)
       ·
        skip
        refine Kd.R_lit_step (Kd.int .u8) _ 5 ?hg (N := 20) ?hd (xs := ([(a0_0) % 256] : List Int)) (inner := [.int .u8 ((a0_0) % 256)]) (ok := fun _ => True) (okp := fun _ => True) ?hr ?hp (fun _ hk => hk) trivial (Below.refl _ _) (Nat.le_refl _) (by simp) ?_; (case hd => rfl); (case hg => rfl); (case hr => (go_simp; rfl)); (case hp => exact (Reps.one (show Kd.M (Kd.int .u8) _ _ _ ((a0_0) % 256) [.int .u8 ((a0_0) % 256)] from rfl) (Reps.none _ _)))
        intro v198 w20 ho21 hb hg_ hnew_
        clear hg_ hnew_
        (rw [← Ny197.out] at ho21)
        have n0_ := am (Kd.R_elder' HO190.out (Kd.R_base ho21) hb)
        have n1_ := am (Kd.R_elder' HO193.out (Kd.R_base ho21) hb)
        have n2_ := am (Kd.R_lower (Kd.R_new' (Kd.R_new' ho21 (Kd.R_lt HO190.out)) (Kd.R_lt HO193.out)) (below_size HB.out))
        have n3_ := am (blk_below (g := gb184) (o := .cells #[.int .i64 a0_0, .int .i64 a0_1, .string a0_2] 42 (0, 0)) (by exact BK184.out) hb)
        have n4_ := am (below_step HB.out hb)
        clear HO190
        clear HO193
        clear BK184
        clear HB
        have HO190 := n0_
        have HO193 := n1_
        have HO199 := n2_
        have BK184 := n3_
        have HB := n4_
        clear n0_ n1_ n2_ n3_ n4_
        clear hb ho21
        refine hK.out _ _ ⟨(blk_cell BK184.out 0).trans rfl, (blk_cell BK184.out 1).trans rfl, (blk_cell BK184.out 2).trans rfl⟩ (fun hHeld => ?_)
        clear hK K
        refine norm_ (a' := ?_) ?_ ?_
        rotate_left
        ·
         show Act.put _ (some 20) _ = _
         simp only [Act.put, sa, sb, sc, i64_w, i32_w]
         rfl
        exact norm_ (by (simp only [putAll, Act.put, List.setIfInBounds_toArray, List.set_cons_zero, List.set_cons_succ]; done)) (hJ0_2_7 (v189, .slice Ao21 t191.length co21, v198) _ ⟨hHeld, HO190.out, HO193.out, (by exact Kd.R_mono HO199.out (fun _ hk => ⟨hk.1.2, hk.2⟩)), (by exact BK184.out), HB.out⟩)
     ·
      skip
      rintro ⟨v189, v192, v198⟩ w21 ⟨hS_, h0_, h1_, h2_, h3_, h4_⟩
      have n0_ : Aside0 (Kd.R (Kd.int .u8) 5 w21 w.heap.size (fun k_ => some k_ ≠ (v192 : Value).ownBlock ∧ some k_ ≠ (v198 : Value).ownBlock) v189 y188) := ⟨h0_⟩
      have n1_ : Aside0 (Kd.R (Kd.int .u8) 5 w21 w.heap.size (fun k_ => some k_ ≠ (v189 : Value).ownBlock ∧ some k_ ≠ (v198 : Value).ownBlock) v192 t191) := ⟨h1_⟩
      have n2_ : Aside0 (Kd.R (Kd.int .u8) 5 w21 w.heap.size (fun k_ => some k_ ≠ (v189 : Value).ownBlock ∧ some k_ ≠ (v192 : Value).ownBlock) v198 y197) := ⟨h2_⟩
      have n3_ : Aside0 (w21.heap[gb184]? = some (.cells #[.int .i64 a0_0, .int .i64 a0_1, .string a0_2] 42 (0, 0))) := ⟨h3_⟩
      have n4_ : Aside0 (Below w.heap.size w w21) := ⟨h4_⟩
      clear BK184
      clear HB
      clear h0_ h1_ h2_ h3_ h4_
      have HO190 := n0_
      have HO193 := n1_
      have HO199 := n2_
      have BK184 := n3_
      have HB := n4_
      clear n0_ n1_ n2_ n3_ n4_
      have hHeld : w21.cell? ⟨gb184, 0, none⟩ = some (.int .i64 a0_0) ∧ w21.cell? ⟨gb184, 1, none⟩ = some (.int .i64 a0_1) ∧ w21.cell? ⟨gb184, 2, none⟩ = some (.string a0_2) := hS_
      obtain ⟨Ao23, co23, eo23⟩ := Kd.R_slice HO193.out
      (subst eo23)
      refine norm_ (a' := ?_) ?_ ?_
      rotate_left
      ·
       simp only [putAll, Act.put, List.setIfInBounds_toArray, List.set_cons_zero, List.set_cons_succ]
       rfl
      refine one_ (i := 3) (N := some 16) #[true, true, true, true, true, true, true, true, false, false] rfl rfl (one_of HT_.out (by kernel_rfl)) (by decide) (fun K hK => ?_)
      refine Kd.R_append_rows_step (Kd.int .u8) (w0 := w) w.heap.size (by rfl) (.tmp 13) (.tmp 15) 47 5 (.int .u8 0) 1 rfl Tryd.underlying47 info5 rfl (by decide) (by omega) v189 y188 t191 _ _ _ (fun k_ => some k_ ≠ (.slice Ao23 t191.length co23 : Value).ownBlock ∧ some k_ ≠ (v198 : Value).ownBlock) (fun _ => False) rfl rfl ?aO ?aR (fun _ _ h => h) (fun _ h => h.elim) ?aF ?aB ?aS ?aL ?_
      (case aR => exact (Kd.R_reads' HO193.out).2.2)
      (case aB => exact HB.out)
      (case aF => exact (fun k_ hk => ⟨Kd.fresh' (Kd.R_lt HO193.out) k_ hk, Kd.fresh' (Kd.R_lt HO199.out) k_ hk⟩))
      (case aO => exact HO190.out)
      (case aS => exact (below_size HB.out))
      (case aL => have := LMc13.out; omega)
      intro v195 w22 ho hb hg hat
      rw [← Ny194.out] at ho
      have n0_ := am (blk_grown (g := gb184) (o := .cells #[.int .i64 a0_0, .int .i64 a0_1, .string a0_2] 42 (0, 0)) (by exact BK184.out) hg (Kd.R_ne HO190.out BK184.out (by decide)))
      have n1_ := am (Kd.R_after (ok := (fun k_ => some k_ ≠ (v198 : Value).ownBlock)) (by exact Kd.R_mono HO193.out (fun _ hk => ⟨hk.2, hk.1⟩)) hg hat)
      have n2_ := am (Kd.R_after (ok := (fun k_ => some k_ ≠ (.slice Ao23 t191.length co23 : Value).ownBlock)) (by exact Kd.R_mono HO199.out (fun _ hk => ⟨hk.2, hk.1⟩)) hg hat)
      have n3_ := am (hb)
      have n4_ := am (ho)
      clear BK184
      clear HO193
      clear HO199
      clear HB
      clear HO190
      have BK184 := n0_
      have HO193 := n1_
      have HO199 := n2_
      have HB := n3_
      have HO196 := n4_
      clear n0_ n1_ n2_ n3_ n4_
      clear ho hb hg hat
      refine hK.out _ _ ⟨(blk_cell BK184.out 0).trans rfl, (blk_cell BK184.out 1).trans rfl, (blk_cell BK184.out 2).trans rfl⟩ (fun hHeld => ?_)
      clear hK K
      refine norm_ (a' := ?_) ?_ ?_
      rotate_left
      ·
       show Act.put _ (some 16) _ = _
       simp only [Act.put, sa, sb, sc, i64_w, i32_w]
       rfl
      exact norm_ (by (simp only [putAll, Act.put, List.setIfInBounds_toArray, List.set_cons_zero, List.set_cons_succ]; done)) (hJ0_2_3_7 (v189, .slice Ao23 t191.length co23, v195, v198) _ ⟨hHeld, (by exact Kd.R_mono HO193.out (fun _ hk => ⟨hk.2, hk.1⟩)), HO196.out, HO199.out, (by exact BK184.out), HB.out⟩)
    ·
     skip
     rintro ⟨v189, v192, v195⟩ w21 ⟨hS_, h0_, h1_, h2_, h3_⟩
     have n0_ : Aside0 (Kd.R (Kd.int .u8) 5 w21 w.heap.size (fun k_ => some k_ ≠ (v195 : Value).ownBlock) v192 t191) := ⟨h0_⟩
     have n1_ : Aside0 (Kd.R (Kd.int .u8) 5 w21 w.heap.size (fun k_ => some k_ ≠ (v192 : Value).ownBlock) v195 y194) := ⟨h1_⟩
     have n2_ : Aside0 (w21.heap[gb184]? = some (.cells #[.int .i64 a0_0, .int .i64 a0_1, .string a0_2] 42 (0, 0))) := ⟨h2_⟩
     have n3_ : Aside0 (Below w.heap.size w w21) := ⟨h3_⟩
     clear BK184
     clear HB
     clear h0_ h1_ h2_ h3_
     have HO193 := n0_
     have HO196 := n1_
     have BK184 := n2_
     have HB := n3_
     clear n0_ n1_ n2_ n3_
     have hHeld : w21.cell? ⟨gb184, 0, none⟩ = some (.int .i64 a0_0) ∧ w21.cell? ⟨gb184, 1, none⟩ = some (.int .i64 a0_1) ∧ w21.cell? ⟨gb184, 2, none⟩ = some (.string a0_2) := hS_
     refine norm_ (a' := ?_) ?_ ?_
     rotate_left
     ·
      simp only [putAll, Act.put, List.setIfInBounds_toArray, List.set_cons_zero, List.set_cons_succ]
      rfl
     refine one_ (i := 7) (N := some 20) #[true, true, true, true, true, true, true, true, false, false] rfl rfl (one_of HT_.out (by kernel_rfl)) (by decide) (fun K hK => ?_)
     refine Kd.R_lit_step (Kd.int .u8) _ 5 ?hg (N := 20) ?hd (xs := ([(a0_0) % 256] : List Int)) (inner := [.int .u8 ((a0_0) % 256)]) (ok := fun _ => True) (okp := fun _ => True) ?hr ?hp (fun _ hk => hk) trivial (Below.refl _ _) (Nat.le_refl _) (by simp) ?_; (case hd => rfl); (case hg => rfl); (case hr => (go_simp; rfl)); (case hp => exact (Reps.one (show Kd.M (Kd.int .u8) _ _ _ ((a0_0) % 256) [.int .u8 ((a0_0) % 256)] from rfl) (Reps.none _ _)))
     intro v198 w22 ho23 hb hg_ hnew_
     clear hg_ hnew_
     (rw [← Ny197.out] at ho23)
     have n0_ := am (Kd.R_elder' HO193.out (Kd.R_base ho23) hb)
     have n1_ := am (Kd.R_elder' HO196.out (Kd.R_base ho23) hb)
     have n2_ := am (Kd.R_lower (Kd.R_new' (Kd.R_new' ho23 (Kd.R_lt HO193.out)) (Kd.R_lt HO196.out)) (below_size HB.out))
     have n3_ := am (blk_below (g := gb184) (o := .cells #[.int .i64 a0_0, .int .i64 a0_1, .string a0_2] 42 (0, 0)) (by exact BK184.out) hb)
     have n4_ := am (below_step HB.out hb)
     clear HO193
     clear HO196
     clear BK184
     clear HB
     have HO193 := n0_
     have HO196 := n1_
     have HO199 := n2_
     have BK184 := n3_
     have HB := n4_
     clear n0_ n1_ n2_ n3_ n4_
     clear hb ho23
     refine hK.out _ _ ⟨(blk_cell BK184.out 0).trans rfl, (blk_cell BK184.out 1).trans rfl, (blk_cell BK184.out 2).trans rfl⟩ (fun hHeld => ?_)
     clear hK K
     refine norm_ (a' := ?_) ?_ ?_
     rotate_left
     ·
      show Act.put _ (some 20) _ = _
      simp only [Act.put, sa, sb, sc, i64_w, i32_w]
      rfl
     exact norm_ (by (simp only [putAll, Act.put, List.setIfInBounds_toArray, List.set_cons_zero, List.set_cons_succ]; done)) (hJ0_2_3_7 (v189, v192, v195, v198) _ ⟨hHeld, HO193.out, HO196.out, (by exact Kd.R_mono HO199.out (fun _ hk => ⟨hk.1.2, hk.2⟩)), (by exact BK184.out), HB.out⟩)
   rintro ⟨v189, v192, v195, v198⟩ w23 ⟨hS_, h0_, h1_, h2_, h3_, h4_⟩
   have n0_ : Aside0 (Kd.R (Kd.int .u8) 5 w23 w.heap.size (fun k_ => some k_ ≠ (v195 : Value).ownBlock ∧ some k_ ≠ (v198 : Value).ownBlock) v192 t191) := ⟨h0_⟩
   have n1_ : Aside0 (Kd.R (Kd.int .u8) 5 w23 w.heap.size (fun k_ => some k_ ≠ (v192 : Value).ownBlock ∧ some k_ ≠ (v198 : Value).ownBlock) v195 y194) := ⟨h1_⟩
   have n2_ : Aside0 (Kd.R (Kd.int .u8) 5 w23 w.heap.size (fun k_ => some k_ ≠ (v192 : Value).ownBlock ∧ some k_ ≠ (v195 : Value).ownBlock) v198 y197) := ⟨h2_⟩
   have n3_ : Aside0 (w23.heap[gb184]? = some (.cells #[.int .i64 a0_0, .int .i64 a0_1, .string a0_2] 42 (0, 0))) := ⟨h3_⟩
   have n4_ : Aside0 (Below w.heap.size w w23) := ⟨h4_⟩
   clear BK184
   clear HB
   clear h0_ h1_ h2_ h3_ h4_
   have HO193 := n0_
   have HO196 := n1_
   have HO199 := n2_
   have BK184 := n3_
   have HB := n4_
   clear n0_ n1_ n2_ n3_ n4_
   have hHeld : w23.cell? ⟨gb184, 0, none⟩ = some (.int .i64 a0_0) ∧ w23.cell? ⟨gb184, 1, none⟩ = some (.int .i64 a0_1) ∧ w23.cell? ⟨gb184, 2, none⟩ = some (.string a0_2) := hS_
   obtain ⟨Ao25, co25, eo25⟩ := Kd.R_slice HO199.out
   (subst eo25)
   refine norm_ (a' := ?_) ?_ ?_
   rotate_left
   ·
    simp only [putAll, Act.put, List.setIfInBounds_toArray, List.set_cons_zero, List.set_cons_succ]
    rfl
   refine one_ (i := 8) (N := some 21) #[true, true, true, true, true, true, true, true, true, false] rfl rfl (one_of HT_.out (by kernel_rfl)) (by decide) (fun K hK => ?_)
   refine Kd.R_append_rows_step (Kd.int .u8) (w0 := w) w.heap.size (by rfl) (.tmp 16) (.tmp 20) 47 5 (.int .u8 0) 1 rfl Tryd.underlying47 info5 rfl (by decide) (by omega) v195 y194 y197 _ _ _ (fun k_ => some k_ ≠ (v192 : Value).ownBlock ∧ some k_ ≠ (.slice Ao25 y197.length co25 : Value).ownBlock) (fun _ => False) rfl rfl ?aO ?aR (fun _ _ h => h) (fun _ h => h.elim) ?aF ?aB ?aS ?aL ?_
   (case aR => exact (Kd.R_reads' HO199.out).2.2)
   (case aB => exact HB.out)
   (case aF => exact (fun k_ hk => ⟨Kd.fresh' (Kd.R_lt HO193.out) k_ hk, Kd.fresh' (Kd.R_lt HO199.out) k_ hk⟩))
   (case aO => exact HO196.out)
   (case aS => exact (below_size HB.out))
   (case aL => have := LMc14.out; omega)
   intro v201 w24 ho hb hg hat
   rw [← Ny200.out] at ho
   have n0_ := am (blk_grown (g := gb184) (o := .cells #[.int .i64 a0_0, .int .i64 a0_1, .string a0_2] 42 (0, 0)) (by exact BK184.out) hg (Kd.R_ne HO196.out BK184.out (by decide)))
   have n1_ := am (Kd.R_after (ok := (fun k_ => some k_ ≠ (.slice Ao25 y197.length co25 : Value).ownBlock)) (by exact Kd.R_mono HO193.out (fun _ hk => ⟨hk.2, hk.1⟩)) hg hat)
   have n2_ := am (Kd.R_after (ok := (fun k_ => some k_ ≠ (v192 : Value).ownBlock)) HO199.out hg hat)
   have n3_ := am (hb)
   have n4_ := am (ho)
   clear BK184
   clear HO193
   clear HO199
   clear HB
   clear HO196
   have BK184 := n0_
   have HO193 := n1_
   have HO199 := n2_
   have HB := n3_
   have HO202 := n4_
   clear n0_ n1_ n2_ n3_ n4_
   clear ho hb hg hat
   refine hK.out _ _ ⟨(blk_cell BK184.out 0).trans rfl, (blk_cell BK184.out 1).trans rfl, (blk_cell BK184.out 2).trans rfl⟩ (fun hHeld => ?_)
   clear hK K
   refine norm_ (a' := ?_) ?_ ?_
   rotate_left
   ·
    show Act.put _ (some 21) _ = _
    simp only [Act.put, sa, sb, sc, i64_w, i32_w]
    rfl
   refine pu HT_ (v := ?_) (a' := ?_) 9 2 rfl rfl (by kernel_rfl) (fun _ _ _ h => h) (Or.inl ⟨by rfl, ?_⟩) ?_ ?_
   rotate_left
   ·
    intro w'
    go_simp
    with_reducible rfl
   rotate_left
   ·
    simp only [Act.put, sa, sb, sc, i64_w, i32_w]
    rfl
   refine done_ (done_of HT_.out (by kernel_rfl)) ?_
   try go_wp2
   go_ret
   exact ⟨_, by rfl, by exact Kd.R_mono HO202.out (fun _ hk => trivial), by exact HB.out⟩
def lockstepref02_Value.f (k : Nat) (a0_0 : Int) (a0_1 : Int) (a0_2 : ByteArray) : Option (List Int × Int) := (lockstepref01_Check.f k a0_0 a0_1 a0_2).bind fun t228 => (if t228 = 0 then ((lockstepref02_bytes.f k a0_0 a0_1 a0_2).bind fun t229 => (some (t229, 0))) else (some (([] : List Int), t228)))
set_option maxHeartbeats 8000000 in
set_option maxRecDepth 100000 in
theorem lockstepref02_Value.calls (k : Nat) (a0_0 : Int) (a0_1 : Int) (a0_2 : ByteArray) (r1 : List Int) (r2 : Int) (w : World) (h : lockstepref02_Value.f k a0_0 a0_1 a0_2 = some (r1, r2)) :
  Calls Tryd.prog 26 #[.agg #[.int .i64 a0_0, .int .i64 a0_1, .string a0_2]] w fun e w' => ∃ v0_ : Value, e = .returned (.tuple #[v0_, .int .i64 r2]) ∧ Kd.R (Kd.int .u8) 5 w' w.heap.size (fun _ => True) v0_ r1 ∧ Below w.heap.size w w' := by
 have hu42 := Tryd.underlying42
 have HB := Aside0.mk (Below.refl w.heap.size w)
 have H : ((lockstepref01_Check.f k a0_0 a0_1 a0_2).bind fun t228 => (if t228 = 0 then ((lockstepref02_bytes.f k a0_0 a0_1 a0_2).bind fun t229 => (some (t229, 0))) else (some (([] : List Int), t228)))) = some (r1, r2) := h
 clear h
 replace H := Option.bind_eq_some_iff.mp H
 obtain ⟨t228, A20, H⟩ := H
 replace H : (if t228 = 0 then ((lockstepref02_bytes.f k a0_0 a0_1 a0_2).bind fun t229 => (some (t229, 0))) else (some (([] : List Int), t228))) = some (r1, r2) := H
 have A2 := Aside0.mk A20
 clear A20
 by_cases c3 : t228 = 0
 ·
  rw [if_pos c3] at H
  have c3b0 : (t228 == 0) = true := beq_iff_eq.mpr c3
  have c3b1 : (t228 != 0) = false := bne_eq_false_iff_eq.mpr c3
  clear c3
  replace H := Option.bind_eq_some_iff.mp H
  obtain ⟨t229, A40, H⟩ := H
  replace H : (some (t229, 0)) = some (r1, r2) := H
  have A4 := Aside0.mk A40
  clear A40
  simp only [Option.some.injEq, Prod.mk.injEq] at H
  obtain ⟨rfl, rfl⟩ := H
  go_enter Tryd.func26, Tryd.ntmps26
  go_wp2_with (first | ((with_reducible refine gate_dst (N := 1) rfl ?_); refine box_event ?hg (N := 1) ?hd (cs := #[.int .i64 a0_0, .int .i64 a0_1, .string a0_2]) (t := 42) ?hr ?_; (case hd => rfl); (case hg => rfl); (case hr => first | (go_simp; done) | (go_simp; rfl)); intro gb227 hg w5 hbox hb; have n0_ := Aside0.mk (below_step (by repeat (first | (with_reducible first | exact HB.out | apply below_alloc | apply pw_below_drewN | apply below_drew1) | exact HB.out)) hb); have n1_ := Aside0.mk (hbox); have n2_ := Aside0.mk ((by rw [hg]; exact (below_size (by repeat (first | (with_reducible first | exact HB.out | apply below_alloc | apply pw_below_drewN | apply below_drew1) | exact HB.out))) : w.heap.size ≤ gb227)); have n3_ := Aside0.mk ((by rw [hg]; exact (below_size (by repeat (first | (with_reducible first | exact HB.out | apply below_alloc | apply pw_below_drewN | apply below_drew1) | exact HB.out))) : w.heap.size ≤ gb227)); clear HB; have HB := n0_; have BK227 := n1_; have GW227 := n2_; have GE227 := n3_; clear n0_ n1_ n2_ n3_; clear hb hbox hg; have hcz6_0 : w5.cell? ⟨gb227, 0, none⟩ = some (.int .i64 a0_0) := (blk_cell BK227.out 0).trans rfl; have hcz6_1 : w5.cell? ⟨gb227, 1, none⟩ = some (.int .i64 a0_1) := (blk_cell BK227.out 1).trans rfl; have hcz6_2 : w5.cell? ⟨gb227, 2, none⟩ = some (.string a0_2) := (blk_cell BK227.out 2).trans rfl; have hfz6_0 := blk_frozen BK227.out 0; have hfz6_1 := blk_frozen BK227.out 1; have hfz6_2 := blk_frozen BK227.out 2) | ((with_reducible refine gate_callee (f := 55) rfl ?_); refine goesL_ (some 6) rfl rfl Tryd.func55 (by kernel_rfl) rfl #[.agg #[.int .i64 a0_0, .int .i64 a0_1, .string a0_2]] rfl (by (try simp only [List.map_toArray, List.map_cons, List.map_nil]); first | done | rfl | (simp only [List.length_drop, List.length_take]; rfl)) ?_; (with_reducible refine (lockstepref01_Check.calls k a0_0 a0_1 a0_2 t228 _ A2.out).mono ?_); rintro e w7 ⟨rfl, hb⟩; refine ⟨_, rfl, ?_⟩; have n0_ := Aside0.mk (blk_below (g := gb227) (o := .cells #[.int .i64 a0_0, .int .i64 a0_1, .string a0_2] 42 (0, 0)) (by (with_reducible repeat (first | refine blk_drewN ?_ _ | refine blk_drew ?_ | refine blk_alloc ?_ _)); exact BK227.out) hb); have n1_ := Aside0.mk (below_step (by repeat (first | (with_reducible first | exact HB.out | apply below_alloc | apply pw_below_drewN | apply below_drew1 | refine below_set ?_ GE227.out) | exact HB.out)) hb); clear BK227; clear HB; have BK227 := n0_; have HB := n1_; clear n0_ n1_; (try clear hb); (try clear hb2); (try clear hk); (try clear hi); have hcz8_0 : w7.cell? ⟨gb227, 0, none⟩ = some (.int .i64 a0_0) := (blk_cell BK227.out 0).trans rfl; have hcz8_1 : w7.cell? ⟨gb227, 1, none⟩ = some (.int .i64 a0_1) := (blk_cell BK227.out 1).trans rfl; have hcz8_2 : w7.cell? ⟨gb227, 2, none⟩ = some (.string a0_2) := (blk_cell BK227.out 2).trans rfl; have hfz8_0 := blk_frozen BK227.out 0; have hfz8_1 := blk_frozen BK227.out 1; have hfz8_2 := blk_frozen BK227.out 2) | ((with_reducible refine gate_callee (f := 56) rfl ?_); refine goesL_ (some 11) rfl rfl Tryd.func56 (by kernel_rfl) rfl #[.agg #[.int .i64 a0_0, .int .i64 a0_1, .string a0_2]] rfl (by (try simp only [List.map_toArray, List.map_cons, List.map_nil]); first | done | rfl | (simp only [List.length_drop, List.length_take]; rfl)) ?_; (with_reducible refine (lockstepref02_bytes.calls k a0_0 a0_1 a0_2 t229 _ A4.out).mono ?_); rintro e w9 ⟨v230, rfl, ho0, hb⟩; refine ⟨_, rfl, ?_⟩; have n0_ := Aside0.mk (Kd.R_lower ho0 (below_size (by repeat (first | (with_reducible first | exact HB.out | apply below_alloc | apply pw_below_drewN | apply below_drew1 | refine below_set ?_ GE227.out) | exact HB.out)))); have n1_ := Aside0.mk (blk_below (g := gb227) (o := .cells #[.int .i64 a0_0, .int .i64 a0_1, .string a0_2] 42 (0, 0)) (by (with_reducible repeat (first | refine blk_drewN ?_ _ | refine blk_drew ?_ | refine blk_alloc ?_ _)); exact BK227.out) hb); have n2_ := Aside0.mk (below_step (by repeat (first | (with_reducible first | exact HB.out | apply below_alloc | apply pw_below_drewN | apply below_drew1 | refine below_set ?_ GE227.out) | exact HB.out)) hb); clear BK227; clear HB; have HO231 := n0_; have BK227 := n1_; have HB := n2_; clear n0_ n1_ n2_; (try clear hb); (try clear hb2); (try clear hk); (try clear hi); (try clear ho0)))
  go_ret2
  exact ⟨_, by first | rfl | (simp [errW_none, errW_some] <;> rfl) | (simp [*, errW_none, errW_some] <;> rfl), by (with_reducible repeat (first | apply Kd.R_alloc | apply Kd.R_drewN | apply Kd.R_drew)); exact HO231.out, by repeat (first | (with_reducible first | exact HB.out | apply below_alloc | apply pw_below_drewN | apply below_drew1 | refine below_set ?_ GE227.out) | exact HB.out)⟩
 ·
  rw [if_neg c3] at H
  have c3b0 : (t228 == 0) = false := beq_eq_false_iff_ne.mpr c3
  have c3b1 : (t228 != 0) = true := bne_iff_ne.mpr c3
  simp only [Option.some.injEq, Prod.mk.injEq] at H
  obtain ⟨rfl, rfl⟩ := H
  go_enter Tryd.func26, Tryd.ntmps26
  go_wp2_with (first | ((with_reducible refine gate_dst (N := 1) rfl ?_); refine box_event ?hg (N := 1) ?hd (cs := #[.int .i64 a0_0, .int .i64 a0_1, .string a0_2]) (t := 42) ?hr ?_; (case hd => rfl); (case hg => rfl); (case hr => first | (go_simp; done) | (go_simp; rfl)); intro gb227 hg w10 hbox hb; have n0_ := Aside0.mk (below_step (by repeat (first | (with_reducible first | exact HB.out | apply below_alloc | apply pw_below_drewN | apply below_drew1) | exact HB.out)) hb); have n1_ := Aside0.mk (hbox); have n2_ := Aside0.mk ((by rw [hg]; exact (below_size (by repeat (first | (with_reducible first | exact HB.out | apply below_alloc | apply pw_below_drewN | apply below_drew1) | exact HB.out))) : w.heap.size ≤ gb227)); have n3_ := Aside0.mk ((by rw [hg]; exact (below_size (by repeat (first | (with_reducible first | exact HB.out | apply below_alloc | apply pw_below_drewN | apply below_drew1) | exact HB.out))) : w.heap.size ≤ gb227)); clear HB; have HB := n0_; have BK227 := n1_; have GW227 := n2_; have GE227 := n3_; clear n0_ n1_ n2_ n3_; clear hb hbox hg; have hcz11_0 : w10.cell? ⟨gb227, 0, none⟩ = some (.int .i64 a0_0) := (blk_cell BK227.out 0).trans rfl; have hcz11_1 : w10.cell? ⟨gb227, 1, none⟩ = some (.int .i64 a0_1) := (blk_cell BK227.out 1).trans rfl; have hcz11_2 : w10.cell? ⟨gb227, 2, none⟩ = some (.string a0_2) := (blk_cell BK227.out 2).trans rfl; have hfz11_0 := blk_frozen BK227.out 0; have hfz11_1 := blk_frozen BK227.out 1; have hfz11_2 := blk_frozen BK227.out 2) | ((with_reducible refine gate_callee (f := 55) rfl ?_); refine goesL_ (some 6) rfl rfl Tryd.func55 (by kernel_rfl) rfl #[.agg #[.int .i64 a0_0, .int .i64 a0_1, .string a0_2]] rfl (by (try simp only [List.map_toArray, List.map_cons, List.map_nil]); first | done | rfl | (simp only [List.length_drop, List.length_take]; rfl)) ?_; (with_reducible refine (lockstepref01_Check.calls k a0_0 a0_1 a0_2 t228 _ A2.out).mono ?_); rintro e w12 ⟨rfl, hb⟩; refine ⟨_, rfl, ?_⟩; have n0_ := Aside0.mk (blk_below (g := gb227) (o := .cells #[.int .i64 a0_0, .int .i64 a0_1, .string a0_2] 42 (0, 0)) (by (with_reducible repeat (first | refine blk_drewN ?_ _ | refine blk_drew ?_ | refine blk_alloc ?_ _)); exact BK227.out) hb); have n1_ := Aside0.mk (below_step (by repeat (first | (with_reducible first | exact HB.out | apply below_alloc | apply pw_below_drewN | apply below_drew1 | refine below_set ?_ GE227.out) | exact HB.out)) hb); clear BK227; clear HB; have BK227 := n0_; have HB := n1_; clear n0_ n1_; (try clear hb); (try clear hb2); (try clear hk); (try clear hi)))
  go_ret2
  exact ⟨_, by first | rfl | (simp [errW_none, errW_some] <;> rfl) | (simp [*, errW_none, errW_some] <;> rfl), by first | exact Kd.R_nil _ _ _ _ _ | exact Kd.N_nil _ _ _ _ _ | exact Kd.V_nil _ _ _ _ _ | exact Kd.Q_nil _ _ _ _ _ | exact Kd.S_nil _ _ _ _ _, by repeat (first | (with_reducible first | exact HB.out | apply below_alloc | apply pw_below_drewN | apply below_drew1 | refine below_set ?_ GE227.out) | exact HB.out)⟩
def locksteplaw02_told.l0 : Nat → List Int → Bool → Int → Option (Bool)
 | 0, _, _, _ => none
 | k + 1, x0, x5, x6 => if x6 < (x0.length : Int) then (if 0 ≤ x6 then (locksteplaw02_told.l0 k (x0.set (x6 : Int).toNat 85) x5 (wrap64 (x6 + 1))) else (none)) else (if x0.length < 140737488355328 then (some x5) else (none))
def locksteplaw02_told.f (k : Nat) (l0 : List Int) (l1 : List Int) : Option (Bool) := locksteplaw02_told.l0 k l0 ((strOfNums l0).toList == (strOfNums l1).toList) 0
set_option maxHeartbeats 8000000 in
set_option maxRecDepth 100000 in
theorem locksteplaw02_told.calls (k : Nat) (P0_ : Nat → Prop) (u9000_ : Value) (l0 : List Int) (A1 : Option Addr) (c1 : Nat) (l1 : List Int) (r : Bool) (w0 w : World) (hB : Below w0.heap.size w0 w) (ho0 : Kd.R (Kd.int .u8) 5 w w0.heap.size P0_ u9000_ l0) (hr1 : ∀ W_, Kept w W_ (fun k_ => P0_ k_) → Kd.C (Kd.int .u8) W_ A1 l1.length l1) (hc1 : l1.length ≤ c1) (h : locksteplaw02_told.f k l0 l1 = some r) :
  Calls Tryd.prog 29 #[u9000_, .slice A1 l1.length c1] w fun e w' => e = .returned (.bool r) ∧ Below w0.heap.size w0 w' ∧ Kept w w' (fun k_ => P0_ k_) := by
 have HO0 := am (show Kd.R (Kd.int .u8) 5 w w0.heap.size (fun k_ => (P0_ k_ ∨ w.heap.size ≤ k_)) u9000_ l0 from Kd.R_mono ho0 (fun k_ hk => (.inl hk)))
 have HR1 := am hr1
 have HC1 := am hc1
 clear hr1 hc1
 have HK := am (Kept.refl w (fun k_ => P0_ k_))
 have HW0 := am hB.size
 have HB := am hB
 clear hB
 have H : (locksteplaw02_told.l0 k l0 ((strOfNums l0).toList == (strOfNums l1).toList) 0) = some r := h
 clear h
 have H' := am H
 clear H
 have hcv3 := own_string (P := Tryd.prog) Tryd.underlying47 Tryd.underlying5 Tryd.underlying9 (Kd.own_of_R HO0.out)
 have hcv4 := Kd.C_string (P := Tryd.prog) (A := A1) (c := c1) Tryd.underlying47 Tryd.underlying5 Tryd.underlying9 (Kd.C_kept_now HR1.out HK.out)
 go_enter Tryd.func29, Tryd.ntmps29
 go_wp2
 go_loopg [6] k (fun kq v6 w' => ∃ (x0_1 : List Int) (x6_1 : Int), v6 = .int .i64 x6_1 ∧ Aside0 (locksteplaw02_told.l0 kq x0_1 ((strOfNums l0).toList == (strOfNums l1).toList) x6_1 = some r) ∧ Aside0 (kq ≤ k) ∧ Aside0 (Kd.R (Kd.int .u8) 5 w' w0.heap.size (fun k_ => (P0_ k_ ∨ w.heap.size ≤ k_)) u9000_ x0_1) ∧ Aside0 (Kept w w' (fun k_ => P0_ k_)) ∧ Aside0 (Below w0.heap.size w0 w'))
 case atStart => exact ⟨(l0), (0), (by rfl), H', ⟨Nat.le_refl _⟩, ⟨by exact HO0.out⟩, ⟨by exact HK.out⟩, ⟨by exact HB.out⟩⟩
 case round =>
  clear H'
  (try clear hcv3); (try clear hcv4)
  obtain ⟨x0_1, x6_1, rfl, HA, HK1, HO_0, HK, HB⟩ := hrel
  cases gk with
  | zero => exact absurd HA.out (by simp [locksteplaw02_told.l0])
  | succ k1 =>
   have H := HA.out
   clear HA
   simp only [locksteplaw02_told.l0] at H
   by_cases c5 : x6_1 < (x0_1.length : Int)
   rotate_left
   ·
    rw [if_neg c5] at H
    have c5b0 := decide_eq_false c5
    clear c5
    replace H := its H
    obtain ⟨c11, H⟩ := H
    have LMc11 := am c11
    clear c11
    obtain ⟨y585, hy585⟩ : ∃ y_ : List Int, y_ = (x0_1 ++ [85]) := ⟨_, rfl⟩
    replace H : (some ((strOfNums l0).toList == (strOfNums l1).toList)) = some r := by (have H2_ := (Option.bind_some _ _).symm.trans H; with_reducible exact H2_)
    have Ny585 := am hy585
    clear hy585
    obtain rfl := Option.some.inj H
    obtain ⟨Ao12, co12, eo12⟩ := Kd.R_slice HO_0.out
    subst eo12
    go_wp2_with (((with_reducible refine gate_builtin (b := .append) (xs := #[.tmp 21, .tmp 22]) rfl ?_); at_builtin; refine Kd.R_append (Kd.int .u8) (w0 := w0) w0.heap.size rfl (.tmp 21) (.tmp 22) 47 5 (.int .u8 0) 1 rfl Tryd.underlying47 info5 rfl (by decide) (by omega) (.slice Ao12 x0_1.length co12) x0_1 85 [.int .u8 85] (fun k_ => (P0_ k_ ∨ w.heap.size ≤ k_)) (fun _ => False) rfl rfl ?aP (fun _ hk => hk.elim) ?aF ?aO ?aB ?aS ?aL ?_; (case aP => exact rfl); (case aB => exact HB.out); (case aF => exact (fun k_ hk => (.inr (Nat.le_trans (by exact HK.out.1) hk)))); (case aO => exact HO_0.out); (case aS => exact (below_size HB.out)); (case aL => have := LMc11.out; omega); intro v586 w13 ho hb hg hat; rw [← Ny585.out] at ho; replace HB := am (hb); replace HK := am (Kept.of_grown (S := (fun k_ => P0_ k_)) hg HK.out (fun k_ e_ => (HO_0.out.1 k_ e_))); have HO587 := am (ho); clear HO_0; clear ho hb hg hat))
    go_ret
    exact ⟨by rfl, by exact HB.out, by exact HK.out⟩
   rw [if_pos c5] at H
   have c5b0 := decide_eq_true c5
   clear c5
   replace H := its H
   obtain ⟨c6, H⟩ := H
   have c6b0 := decide_eq_true c6
   clear c6
   obtain ⟨y584, hy584⟩ : ∃ y_ : List Int, y_ = (x0_1.set (x6_1 : Int).toNat 85) := ⟨_, rfl⟩
   replace H : (locksteplaw02_told.l0 k1 y584 ((strOfNums l0).toList == (strOfNums l1).toList) (wrap64 (x6_1 + 1))) = some r := by (rw [hy584]; with_reducible exact H)
   have Ny584 := am hy584
   clear hy584
   have H' := am H
   clear H
   obtain ⟨Ao8, co8, eo8⟩ := Kd.R_slice HO_0.out
   subst eo8
   have p7 : 0 ≤ (x6_1 : Int) := of_decide_eq_true (by assumption)
   have q7 : (x6_1 : Int) < ((x0_1.length : Int) : Int) := of_decide_eq_true (by assumption)
   obtain ⟨go7, co7, eo7, gb7, gl7, cl7, HG7⟩ := Kd.R_form HO_0.out (by omega)
   (cases eo7)
   have GB7 := am gb7
   have GG7 := am HG7
   clear gb7 gl7 HG7
   have HMgo7 := am (show (P0_ go7 ∨ w.heap.size ≤ go7) from (HO_0.out.1 _ rfl))
   obtain ⟨hx7_0, hf7_0⟩ := Kd.R_celln 0 HO_0.out (x6_1 : Int) p7 q7
   replace p7 := eq_true p7
   replace q7 := eq_true q7
   have HP9 := Kd.R_putg HO_0.out (x6_1 : Int) 85
   go_wp2_with (((with_reducible refine gate_store (t := 5) (p := 20) rfl ?_); refine store_event (t := 5) (p := 20) (v := ?vo_w10) (w1 := (wr.setCell ⟨go7, (x6_1 : Int).toNat, none⟩ (.int .u8 85))) ?hg ?ho ?hn ?hr ?_; (case ho => rfl); (case hg => rfl); (case hn => rfl); (case hr => (go_simp; done)); intro w10 hw; have hg : wr.grownBy w10 (some go7) := (by rw [hw]; exact HP9.2); have hp_ : Kd.R (Kd.int .u8) 5 w10 w0.heap.size (fun k_ => (P0_ k_ ∨ w.heap.size ≤ k_)) (.slice (some ⟨go7, 0, none⟩) x0_1.length co8) y584 := (by rw [hw, Ny584.out]; exact HP9.1); clear HP9; replace HB := am ((by rw [hw]; exact below_set (HB.out) GB7.out : Below w0.heap.size w0 w10)); replace HK := am (Kept.of_grown (S := (fun k_ => P0_ k_)) hg HK.out (fun k_ e_ => (HO_0.out.1 k_ e_))); replace HO_0 := am (hp_); clear hg hw hp_))
   go_roundg k1
   case measure => have := HK1.out; omega
   case rel => exact ⟨(y584), (wrap64 (x6_1 + 1)), (by rfl), H', ⟨by have := HK1.out; omega⟩, ⟨by exact HO_0.out⟩, ⟨by exact HK.out⟩, ⟨by exact HB.out⟩⟩
end Go.Proofs.YthghcpeedmconaaDoor.X
end
section
namespace Go.Proofs.YthghcpeedmconaaDoor.X
open Go.RowKit Go.Proofs.YthghcpeedmconaaDoorW.PrintWords Go.Proofs.YthghcpeedmconaaDoorW.PrintLast Go.Proofs.YthghcpeedmconaaDoorW.PrintMore
attribute [local go_sem] max2_int min2_int max_two min_two max_three min_three max_four min_four
end Go.Proofs.YthghcpeedmconaaDoor.X
end
section
namespace Go.Proofs.YthghcpeedmconaaDoor.X
set_option linter.unusedVariables false
set_option linter.unusedSimpArgs false
open Go.RowKit Go.Proofs.YthghcpeedmconaaDoorW.PrintWords Go.Proofs.YthghcpeedmconaaDoorW.PrintLast Go.Proofs.YthghcpeedmconaaDoorW.PrintMore
open Num
theorem times_eq (u : Nat) (hu : u < 18446744073709551616) : lockstepref02_times.f (u : Int) = some (((u * 10000 / 18446744073709551616 : Nat) : Int), ((u * 10000 % 18446744073709551616 : Nat) : Int)) := by
  unfold lockstepref02_times.f
  have t1 : Int.tmod (u : Int) 4294967296 = ((u % 4294967296 : Nat) : Int) := by rw [Int.tmod_eq_emod_of_nonneg (by omega)]; omega
  rw [t1]
  have e1 : (u : Int) / 4294967296 * 10000 = ((u / 4294967296 * 10000 : Nat) : Int) := by omega
  have e2 : ((u % 4294967296 : Nat) : Int) * 10000 = ((u % 4294967296 * 10000 : Nat) : Int) := by omega
  rw [e1, e2, wrapN _ (by omega), wrapN _ (by omega), divN, addN, wrapN _ (by omega), divN, show ((u / 4294967296 * 10000 + u % 4294967296 * 10000 / 4294967296 : Nat) : Int) * 4294967296 = (((u / 4294967296 * 10000 + u % 4294967296 * 10000 / 4294967296) * 4294967296 : Nat) : Int) by omega]
  have t2 : Int.tmod ((u % 4294967296 * 10000 : Nat) : Int) 4294967296 = ((u % 4294967296 * 10000 % 4294967296 : Nat) : Int) := by rw [Int.tmod_eq_emod_of_nonneg (by omega)]; omega
  rw [t2, wrapM]
  have e3 : ((u / 4294967296 * 10000 + u % 4294967296 * 10000 / 4294967296) * 4294967296) % 18446744073709551616 = ((u / 4294967296 * 10000 + u % 4294967296 * 10000 / 4294967296) % 4294967296) * 4294967296 := by omega
  rw [e3, bits_or_u64_nat _ _ (by omega) (by omega)]
  have h := Nat.two_pow_add_eq_or_of_lt (i := 32) (show u % 4294967296 * 10000 % 4294967296 < 2 ^ 32 by omega) ((u / 4294967296 * 10000 + u % 4294967296 * 10000 / 4294967296) % 4294967296)
  rw [show (2 : Nat) ^ 32 = 4294967296 from rfl, Nat.mul_comm 4294967296] at h
  have f1 : (u / 4294967296 * 10000 + u % 4294967296 * 10000 / 4294967296) / 4294967296 = u * 10000 / 18446744073709551616 := by omega
  have f2 : (u / 4294967296 * 10000 + u % 4294967296 * 10000 / 4294967296) % 4294967296 * 4294967296 + u % 4294967296 * 10000 % 4294967296 = u * 10000 % 18446744073709551616 := by omega
  rw [← h, f1, f2]
theorem rnum_loop (lo : Int) (h0 : 0 ≤ lo) : ∀ (j : Nat), j ≤ 8 → ∀ (x : List Int), x.length + j < 140737488355328 → ∀ k,
    lockstepref02_number.l0 (k + j + 1) lo x ((j : Int) - 1) = some (x ++ be j lo)
  | 0, _, x, hl, k => by
    rw [lockstepref02_number.l0, if_neg (by omega)]
    show _ = some (x ++ [])
    rw [List.append_nil]
  | j + 1, hj, x, hl, k => by
    have e : (((j + 1 : Nat) : Int) - 1) = (j : Int) := by omega
    have ew : IntKind.u64.wrap (wrap64 (8 * (j : Int))) = 8 * (j : Int) := by rw [IntKind.wrap_u64]; unfold wrap64; omega
    rw [show k + (j + 1) + 1 = (k + j + 1) + 1 by omega, e, lockstepref02_number.l0, ew, if_pos (by omega), if_pos (by omega), if_pos (by omega), shr_be lo j (by omega),
      show wrap64 ((j : Int) - 1) = (j : Int) - 1 by unfold wrap64; omega, rnum_loop lo h0 j (by omega) _ (by rw [List.length_append, List.length_singleton]; omega) k, List.append_assoc]
    rfl
theorem rnum_j2 (hi lo : Int) (h0 : 0 ≤ hi) (h1 : hi < 65536) (h2 : 0 ≤ lo) (h3 : lo < 18446744073709551616) (k : Nat) (hk : 12 ≤ k) (N : Int) (hN : N + 604462909807314587353088 = ((hi + 32768) % 65536) * 18446744073709551616 + lo) :
    lockstepref02_number.j2 k hi lo = some (be 10 (N + 604462909807314587353088)) := by
  obtain ⟨k, rfl⟩ : ∃ m, k = m + 10 := ⟨k - 10, by omega⟩
  rw [show k + 10 = (k + 8 + 1) + 1 by omega, lockstepref02_number.j2]
  have hl := rnum_loop lo h2 8 (Nat.le_refl _) [(IntKind.u64.wrap (Int.tdiv (Int.tmod (IntKind.u64.wrap (hi + 32768)) 65536) 256)) % 256, (Int.tmod (IntKind.u64.wrap (hi + 32768)) 65536) % 256] (by simp) k
  rw [show (((8 : Nat) : Int) - 1) = 7 by decide] at hl
  rw [hl, hN]
  have ew : IntKind.u64.wrap (hi + 32768) = hi + 32768 := by rw [IntKind.wrap_u64]; omega
  have et : Int.tmod (hi + 32768) 65536 = (hi + 32768) % 65536 := Int.tmod_eq_emod_of_nonneg (by omega)
  have ed : Int.tdiv ((hi + 32768) % 65536) 256 = (hi + 32768) % 65536 / 256 := Int.tdiv_eq_ediv_of_nonneg (by omega)
  have ew2 : IntKind.u64.wrap ((hi + 32768) % 65536 / 256) = (hi + 32768) % 65536 / 256 := by rw [IntKind.wrap_u64]; omega
  rw [ew, et, ed, ew2]
  rw [be_ten _ lo (by omega) (by omega) h2 h3]
  rfl
theorem rnumber_eq (t n : Int) (s : ByteArray) (ht : t = 1 ∨ t = 2) (hn : I64 n) (k : Nat) (hk : 20 ≤ k) : lockstepref02_number.f k t n s = some (be 10 (sv t n + 604462909807314587353088)) := by
  obtain ⟨hn0, hn1⟩ := hn
  obtain ⟨k, rfl⟩ : ∃ m, k = m + 2 := ⟨k - 2, by omega⟩
  have main : ∀ (neg : Bool) (u : Nat), u < 18446744073709551616 → (n = if neg then -(u : Int) else (u : Int)) → (neg = true → 0 < u ∧ u ≤ 9223372036854775808) → (neg = false → u < 9223372036854775808) → lockstepref02_number.j0 (k + 2) neg (u : Int) t n s = some (be 10 (sv t n + 604462909807314587353088)) := by
    intro neg u hu hnu hneg hpos
    have inner : ∀ (H L : Nat), H < 10000 → L < 18446744073709551616 → (sv t n = if neg then -((H * 18446744073709551616 + L : Nat) : Int) else ((H * 18446744073709551616 + L : Nat) : Int)) → lockstepref02_number.j1 (k + 1) neg (H : Int) (L : Int) = some (be 10 (sv t n + 604462909807314587353088)) := by
      intro H L hH hL hs
      rw [lockstepref02_number.j1]
      cases neg
      · rw [if_neg (by decide)]
        rw [if_neg (by decide)] at hs
        exact rnum_j2 _ _ (by omega) (by omega) (by omega) (by omega) k (by omega) _ (by rw [hs]; omega)
      · rw [if_pos rfl]
        rw [if_pos rfl] at hs
        have eL : IntKind.u64.wrap (-(L : Int)) = (((18446744073709551616 - L) % 18446744073709551616 : Nat) : Int) := by rw [IntKind.wrap_u64]; omega
        rw [eL]
        have eH : IntKind.u64.wrap (65535 - (H : Int)) = 65535 - (H : Int) := by rw [IntKind.wrap_u64]; omega
        rw [eH]
        by_cases h0 : L = 0
        · rw [if_pos (by omega)]
          have eH1 : IntKind.u64.wrap (65535 - (H : Int) + 1) = 65535 - (H : Int) + 1 := by rw [IntKind.wrap_u64]; omega
          rw [eH1]
          have et : Int.tmod (65535 - (H : Int) + 1) 65536 = (65535 - (H : Int) + 1) % 65536 := Int.tmod_eq_emod_of_nonneg (by omega)
          rw [et]
          exact rnum_j2 _ _ (by omega) (by omega) (by omega) (by omega) k (by omega) _ (by rw [hs]; omega)
        · rw [if_neg (by omega)]
          have et : Int.tmod (65535 - (H : Int)) 65536 = (65535 - (H : Int)) % 65536 := Int.tmod_eq_emod_of_nonneg (by omega)
          rw [et]
          exact rnum_j2 _ _ (by omega) (by omega) (by omega) (by omega) k (by omega) _ (by rw [hs]; omega)
    rw [lockstepref02_number.j0]
    by_cases t1 : t = 1
    · rw [if_pos t1, times_eq u hu, Option.bind_some]
      refine inner _ _ (by omega) (by omega) ?_
      unfold sv
      rw [if_neg (by omega), hnu]
      cases neg
      · rw [if_neg (by decide), if_neg (by decide)]; omega
      · rw [if_pos rfl, if_pos rfl]; omega
    · rw [if_neg t1]
      refine inner 0 u (by decide) hu ?_
      unfold sv
      rw [if_pos (by omega), hnu]
      cases neg
      · rw [if_neg (by decide), if_neg (by decide)]; omega
      · rw [if_pos rfl, if_pos rfl]; omega
  unfold lockstepref02_number.f
  by_cases hneg : n < 0
  · rw [if_pos hneg, decide_eq_true hneg]
    have e : IntKind.u64.wrap (-(IntKind.u64.wrap n)) = ((n.natAbs : Nat) : Int) := by rw [IntKind.wrap_u64, IntKind.wrap_u64]; omega
    rw [e]
    exact main true n.natAbs (by omega) (by rw [if_pos rfl]; omega) (fun _ => by omega) (fun h => by cases h)
  · rw [if_neg hneg, decide_eq_false hneg]
    have e : IntKind.u64.wrap n = ((n.natAbs : Nat) : Int) := by rw [IntKind.wrap_u64]; omega
    rw [e]
    exact main false n.natAbs (by omega) (by rw [if_neg (by decide)]; omega) (fun h => by cases h) (fun _ => by omega)
theorem bt_drop (s : ByteArray) (i : Nat) (hi : i < s.size) : ∃ b, s.data.toList.drop i = b :: s.data.toList.drop (i + 1) ∧ bt s (i : Int) = (b.toNat : Int) := by
  have hl : s.data.toList.length = s.size := by simp
  refine ⟨s.data.toList[i], List.drop_eq_getElem_cons (by omega), ?_⟩
  unfold bt
  rw [Int.toNat_natCast]
  simp only [Array.getElem_toList]
  first
    | rw [getElem!_pos s i hi]; rfl
    | (simp [hi]; rfl)
theorem rtext_loop (s : ByteArray) (hs : s.size ≤ 4096) (t n : Int) : ∀ (d i : Nat), i + d = s.size → ∀ (x : List Int) (k : Nat), x.length + 2 * d + 10 < 140737488355328 → d + 5 ≤ k →
    lockstepref02_bytes.l0 k x (i : Int) t n s = some (x ++ (escB (s.data.toList.drop i) ++ [0, 0]))
  | 0, i, h, x, k, hx, hk => by
    obtain ⟨k, rfl⟩ : ∃ m, k = m + 1 := ⟨k - 1, by omega⟩
    have hl : s.data.toList.length = s.size := by simp
    rw [lockstepref02_bytes.l0, if_neg (by omega), Option.bind_some, if_pos (by simp; omega), List.drop_eq_nil_of_le (by omega)]; rfl
  | d + 1, i, h, x, k, hx, hk => by
    obtain ⟨k, rfl⟩ : ∃ m, k = m + 1 := ⟨k - 1, by omega⟩
    obtain ⟨b, e1, e2⟩ := bt_drop s i (by omega)
    rw [lockstepref02_bytes.l0, if_pos (by omega), if_pos (by omega), Option.bind_some, if_pos (by simp; omega), Option.bind_some, e1, e2, show wrap64 ((i : Int) + 1) = ((i + 1 : Nat) : Int) by unfold wrap64; omega]
    by_cases hb : b = 0
    · subst hb
      rw [if_pos (by rfl), Option.bind_some, if_pos (by simp; omega), rtext_loop s hs t n d (i + 1) (by omega) _ k (by simp; omega) (by omega), escB_z]
      simp
    · rw [if_neg (by have := u8_pos hb; omega), rtext_loop s hs t n d (i + 1) (by omega) _ k (by simp; omega) (by omega), escB_n hb]
      simp
theorem rbytes_eq {v : S42} (h : Can v) (k : Nat) (hk : 4200 ≤ k) : lockstepref02_bytes.f k v.f0 v.f1 v.f2 = some (code v) := by
  obtain ⟨k, rfl⟩ : ∃ m, k = m + 1 := ⟨k - 1, by omega⟩
  unfold lockstepref02_bytes.f
  have hj : ¬ v.f0 = 0 → (if v.f0 = 1 then (lockstepref02_bytes.j0 (k + 1) v.f0 (v.f0 == 1) v.f0 v.f1 v.f2) else (lockstepref02_bytes.j0 (k + 1) v.f0 (v.f0 == 2) v.f0 v.f1 v.f2)) = lockstepref02_bytes.j0 (k + 1) v.f0 (decide (v.f0 = 1 ∨ v.f0 = 2)) v.f0 v.f1 v.f2 := by
    intro _
    by_cases h1 : v.f0 = 1
    · rw [if_pos h1, h1]; rfl
    · rw [if_neg h1]
      congr 1
      rw [Bool.eq_iff_iff]
      simp [h1]
  rcases h.typ with e | e | e | e
  · rw [if_pos e, code_null e]
  · rw [if_neg (by omega), hj (by omega), lockstepref02_bytes.j0, decide_eq_true e, if_pos rfl, Option.bind_some, rnumber_eq v.f0 v.f1 v.f2 e h.num k (by omega), Option.bind_some,
      if_pos (by rw [be_len]; decide), Option.bind_some, Option.bind_some, if_pos (by rw [List.length_append, be_len]; simp), code_num e]
    simp
  · rw [if_neg (by omega), hj (by omega), lockstepref02_bytes.j0, decide_eq_false (by omega), if_neg (by decide), if_neg (by omega)]
    have := rtext_loop v.f2 e.2 v.f0 v.f1 v.f2.size 0 (by omega) [3] k (by simp; omega) (by omega)
    rw [show ((0 : Nat) : Int) = 0 from rfl, List.drop_zero] at this
    rw [this, code_text e.1]; rfl
  · rw [if_neg (by omega), hj (by omega), lockstepref02_bytes.j0, decide_eq_false (by omega), if_neg (by decide), if_pos e.1, code_bool e.1]
theorem rval_eq (v : S42) (hn : I64 v.f1) (k : Nat) (hk : 4300 ≤ k) : lockstepref02_Value.f k v.f0 v.f1 v.f2 = some (if chk v.f0 v.f1 v.f2 = 0 then (code v, 0) else ([], chk v.f0 v.f1 v.f2)) := by
  obtain ⟨k, rfl⟩ : ∃ m, k = m + 2 := ⟨k - 2, by omega⟩
  unfold lockstepref02_Value.f
  rw [lockstepref01_Check.eq, Option.bind_some]
  by_cases hc : chk v.f0 v.f1 v.f2 = 0
  · rw [if_pos hc, if_pos hc, rbytes_eq ⟨hc, hn⟩ (k + 2) (by omega), Option.bind_some]
  · rw [if_neg hc, if_neg hc]
theorem told_loop (b : Bool) : ∀ (d : Nat) (l : List Int) (i : Nat), i + d = l.length → l.length < 140737488355328 → ∀ k, d + 1 ≤ k → locksteplaw02_told.l0 k l b (i : Int) = some b
  | 0, l, i, h, hm, k, hk => by
    obtain ⟨k, rfl⟩ : ∃ m, k = m + 1 := ⟨k - 1, by omega⟩
    rw [locksteplaw02_told.l0, if_neg (by omega), if_pos hm]
  | d + 1, l, i, h, hm, k, hk => by
    obtain ⟨k, rfl⟩ : ∃ m, k = m + 1 := ⟨k - 1, by omega⟩
    rw [locksteplaw02_told.l0, if_pos (by omega), if_pos (by omega), show wrap64 ((i : Int) + 1) = ((i + 1 : Nat) : Int) by unfold wrap64; omega]
    exact told_loop b d _ (i + 1) (by rw [List.length_set]; omega) (by rw [List.length_set]; exact hm) k (by omega)
theorem told_eq (l m : List Int) (hl : l.length < 140737488355328) (k : Nat) (hk : l.length + 1 ≤ k) : locksteplaw02_told.f k l m = some ((strOfNums l).toList == (strOfNums m).toList) := by
  have := told_loop ((strOfNums l).toList == (strOfNums m).toList) l.length l 0 (by omega) hl k hk
  exact this
def took (l : List Int) (x : Rd) : Int × Int × ByteArray × Int × Int := if x.2.2.2.2 = 0 then (x.1, x.2.1, x.2.2.1, (l.length : Int) - (x.2.2.2.1.length : Int), 0) else (0, 0, (⟨#[]⟩ : ByteArray), 0, x.2.2.2.2)
theorem took_bad (l : List Int) {e : Int} (he : e ≠ 0) : took l (bad e) = (0, 0, (⟨#[]⟩ : ByteArray), 0, e) := by unfold took bad; rw [if_neg he]
theorem signed_eq (t : Int) (neg : Bool) (Q : Nat) (hq : Q < 18446744073709551616) (hneg : neg = true → 0 < Q ∨ True) (k : Nat) (hk : 1 ≤ k) :
    lockstepref02_signed.f k t neg (Q : Int) = some (if inI (if neg then -(Q : Int) else (Q : Int)) then (t, (if neg then -(Q : Int) else (Q : Int)), (⟨#[]⟩ : ByteArray), 12, 0) else (0, 0, (⟨#[]⟩ : ByteArray), 0, 20)) := by
  obtain ⟨k, rfl⟩ : ∃ m, k = m + 1 := ⟨k - 1, by omega⟩
  unfold lockstepref02_signed.f inI
  have et : Int.tmod (Q : Int) 9223372036854775808 = (Q : Int) % 9223372036854775808 := Int.tmod_eq_emod_of_nonneg (by omega)
  by_cases h1 : 9223372036854775808 < Q
  · rw [if_pos (by omega), lockstepref02_signed.j0, if_pos rfl, if_neg]
    intro h
    have := of_decide_eq_true h
    cases neg
    · rw [if_neg (by decide)] at this; omega
    · rw [if_pos rfl] at this; omega
  · rw [if_neg (by omega)]
    by_cases h2 : Q = 9223372036854775808
    · subst h2
      rw [if_pos (show (((9223372036854775808 : Nat) : Int)) = 9223372036854775808 by omega), lockstepref02_signed.j0]
      cases neg
      · rw [if_pos (by rfl), if_neg]
        intro h
        have := of_decide_eq_true h
        rw [if_neg (by decide)] at this
        omega
      · rw [if_neg (by decide), if_pos (show (((9223372036854775808 : Nat) : Int)) = 9223372036854775808 by omega), if_pos]
        · simp only [if_true]
          rw [show -((9223372036854775808 : Nat) : Int) = -9223372036854775808 by omega]
        · simp only [if_true]
          exact decide_eq_true (by omega)
    · rw [if_neg (by omega), lockstepref02_signed.j0, if_neg (by decide), if_neg (by omega), et]
      cases neg
      · rw [if_neg (by decide), if_pos]
        · simp only [Bool.false_eq_true, if_false]
          rw [show wrap64 ((Q : Int) % 9223372036854775808) = (Q : Int) by unfold wrap64; omega]
        · simp only [Bool.false_eq_true, if_false]
          exact decide_eq_true (by omega)
      · rw [if_pos rfl, if_pos]
        · simp only [if_true]
          rw [show wrap64 (-(wrap64 ((Q : Int) % 9223372036854775808))) = -(Q : Int) by unfold wrap64; omega]
        · simp only [if_true]
          exact decide_eq_true (by omega)
theorem div_loop (H L : Nat) (hH : H < 10000) (hL : L < 18446744073709551616) : ∀ (j : Nat), j ≤ 64 → ∀ k,
    lockstepref02_divided.l0 (k + j + 1) (L : Int) (((H * 2 ^ (64 - j) + L / 2 ^ j) / 10000 : Nat) : Int) (((H * 2 ^ (64 - j) + L / 2 ^ j) % 10000 : Nat) : Int) ((j : Int) - 1) = some ((((H * 18446744073709551616 + L) / 10000 : Nat) : Int), (((H * 18446744073709551616 + L) % 10000 : Nat) : Int))
  | 0, _, k => by
    rw [lockstepref02_divided.l0, if_neg (by omega)]
    rw [show 64 - 0 = 64 from rfl, show (2 : Nat) ^ 64 = 18446744073709551616 from rfl, Nat.pow_zero, Nat.div_one]
  | j + 1, hj, k => by
    have ih := div_loop H L hH hL j (by omega) k
    have e : (((j + 1 : Nat) : Int) - 1) = (j : Int) := by omega
    have p1 : 64 - j = (64 - (j + 1)) + 1 := by omega
    have hX : H * 2 ^ (64 - j) + L / 2 ^ j = 2 * (H * 2 ^ (64 - (j + 1)) + L / 2 ^ (j + 1)) + L / 2 ^ j % 2 := by
      rw [p1, Nat.pow_succ, Nat.pow_succ, ← Nat.div_div_eq_div_mul, ← Nat.mul_assoc]
      omega
    have hb : H * 2 ^ (64 - (j + 1)) + L / 2 ^ (j + 1) < 10000 * 2 ^ (64 - (j + 1)) := by
      have h1 : L / 2 ^ (j + 1) < 2 ^ (64 - (j + 1)) := by
        refine (Nat.div_lt_iff_lt_mul (Nat.pow_pos (by decide))).mpr ?_
        rw [← Nat.pow_add, show 64 - (j + 1) + (j + 1) = 64 by omega]
        exact hL
      have h2 := Nat.mul_le_mul_right (2 ^ (64 - (j + 1))) (show H + 1 ≤ 10000 by omega)
      rw [Nat.add_mul, Nat.one_mul] at h2
      omega
    have hp : 2 ^ (64 - (j + 1)) ≤ 9223372036854775808 := by
      have := Nat.pow_le_pow_right (n := 2) (by decide) (show 64 - (j + 1) ≤ 63 by omega)
      exact this
    rw [hX] at ih
    generalize hx : H * 2 ^ (64 - (j + 1)) + L / 2 ^ (j + 1) = x at *
    have hs : Int.tmod (shr .u64 (L : Int) (IntKind.u64.wrap (j : Int))) 2 = ((L / 2 ^ j % 2 : Nat) : Int) := by
      have e1 : IntKind.u64.wrap (j : Int) = (j : Int) := by rw [IntKind.wrap_u64]; omega
      have e2 : shr .u64 (L : Int) (j : Int) = ((L / 2 ^ j : Nat) : Int) := by
        unfold shr
        rw [show min ((j : Int).toNat) IntKind.u64.bits = j by rw [Int.toNat_natCast, show IntKind.u64.bits = 64 from rfl]; omega, show ((2 : Int) ^ j) = ((2 ^ j : Nat) : Int) by simp]
        rfl
      have e3 : Int.tmod ((L / 2 ^ j : Nat) : Int) 2 = ((L / 2 ^ j % 2 : Nat) : Int) := by rw [Int.tmod_eq_emod_of_nonneg (Int.natCast_nonneg _)]; rfl
      rw [e1, e2, e3]
    have hbit : L / 2 ^ j % 2 < 2 := Nat.mod_lt _ (by decide)
    have ew : IntKind.u64.wrap (j : Int) = (j : Int) := by rw [IntKind.wrap_u64]; omega
    rw [show k + (j + 1) + 1 = (k + j + 1) + 1 by omega, e, lockstepref02_divided.l0, if_pos (by omega), hs]
    generalize L / 2 ^ j % 2 = bit at *
    have hq : x / 10000 < 9223372036854775808 := by omega
    have hleft : IntKind.u64.wrap (IntKind.u64.wrap (2 * ((x % 10000 : Nat) : Int)) + (bit : Int)) = ((2 * (x % 10000) + bit : Nat) : Int) := by rw [IntKind.wrap_u64, IntKind.wrap_u64]; omega
    rw [ew, if_pos (by omega), hleft, show wrap64 ((j : Int) - 1) = (j : Int) - 1 by unfold wrap64; omega]
    by_cases hc : 10000 ≤ 2 * (x % 10000) + bit
    · rw [if_pos (by omega)]
      have a1 : IntKind.u64.wrap (IntKind.u64.wrap (2 * ((x / 10000 : Nat) : Int)) + 1) = (((2 * x + bit) / 10000 : Nat) : Int) := by rw [IntKind.wrap_u64, IntKind.wrap_u64]; omega
      have a2 : IntKind.u64.wrap (((2 * (x % 10000) + bit : Nat) : Int) - 10000) = (((2 * x + bit) % 10000 : Nat) : Int) := by rw [IntKind.wrap_u64]; omega
      rw [a1, a2]
      exact ih
    · rw [if_neg (by omega)]
      have a1 : IntKind.u64.wrap (2 * ((x / 10000 : Nat) : Int)) = (((2 * x + bit) / 10000 : Nat) : Int) := by rw [IntKind.wrap_u64]; omega
      have a2 : 2 * (x % 10000) + bit = (2 * x + bit) % 10000 := by omega
      rw [a1, a2]
      exact ih
theorem divided_eq (H L : Nat) (hH : H < 10000) (hL : L < 18446744073709551616) (k : Nat) (hk : 70 ≤ k) :
    lockstepref02_divided.f k (H : Int) (L : Int) = some ((((H * 18446744073709551616 + L) / 10000 : Nat) : Int), (((H * 18446744073709551616 + L) % 10000 : Nat) : Int)) := by
  have h := div_loop H L hH hL 64 (Nat.le_refl _) (k - 65)
  rw [show k - 65 + 64 + 1 = k by omega, Nat.sub_self, Nat.pow_zero, Nat.mul_one, show L / 2 ^ 64 = 0 from Nat.div_eq_of_lt hL, Nat.add_zero, Nat.div_eq_of_lt hH, Nat.mod_eq_of_lt hH] at h
  exact h
end Go.Proofs.YthghcpeedmconaaDoor.X
end
section
namespace Go.Proofs.YthghcpeedmconaaDoor.X
open Go.RowKit Go.Proofs.YthghcpeedmconaaDoorW.PrintWords Go.Proofs.YthghcpeedmconaaDoorW.PrintLast Go.Proofs.YthghcpeedmconaaDoorW.PrintMore
attribute [local go_sem] max2_int min2_int max_two min_two max_three min_three max_four min_four
end Go.Proofs.YthghcpeedmconaaDoor.X
end
section
namespace Go.Proofs.YthghcpeedmconaaDoor.X
set_option linter.unusedVariables false
set_option linter.unusedSimpArgs false
open Go.RowKit Go.Proofs.YthghcpeedmconaaDoorW.PrintWords Go.Proofs.YthghcpeedmconaaDoorW.PrintLast Go.Proofs.YthghcpeedmconaaDoorW.PrintMore
open Num
theorem rd_succ (tag : Int) (y : List Int) (i : Nat) : rd (tag :: y) ((i + 1 : Nat) : Int) = rd y (i : Int) := by
  rw [rd_getD, rd_getD]; rfl
theorem rlow_loop (l : List Int) (hB : isB l) (hl : 12 ≤ l.length) (hm : l.length ≤ 9223372036854775807) (x : Int) : ∀ (d i : Nat), i + d = 8 → ∀ (a : Int) (k : Nat), 0 ≤ a → a < 256 ^ i → d + 90 ≤ k →
    ∃ k', 90 ≤ k' + 1 ∧ lockstepref02_readNumber.l0 k l x a ((i + 3 : Nat) : Int) = lockstepref02_readNumber.l0 (k' + 1) l x (valF a (((l.take 11).drop 3).drop i)) 11
  | 0, i, h, a, k, h0, h1, hk => by
    have : i = 8 := by omega
    subst this
    rw [List.drop_eq_nil_of_le (by rw [List.length_drop, List.length_take]; omega)]
    exact ⟨k - 1, by omega, by rw [show k - 1 + 1 = k by omega]; rfl⟩
  | d + 1, i, h, a, k, h0, h1, hk => by
    obtain ⟨k, rfl⟩ : ∃ m, k = m + 1 := ⟨k - 1, by omega⟩
    have hz : isB ((l.take 11).drop 3) := isB_drop (isB_take hB _) _
    have hzl : ((l.take 11).drop 3).length = 8 := by rw [List.length_drop, List.length_take]; omega
    have hb := rd_isB hB (i := i + 3) (by omega)
    have he : rd ((l.take 11).drop 3) (i : Int) = rd l ((i + 3 : Nat) : Int) := by
      rw [rd_getD, rd_getD, List.getD_eq_getElem?_getD, List.getD_eq_getElem?_getD, List.getElem?_drop, List.getElem?_take, if_pos (by omega), Nat.add_comm 3 i]
    have hp : (256 : Int) ^ i ≤ 72057594037927936 := by
      have h7 : i = 0 ∨ i = 1 ∨ i = 2 ∨ i = 3 ∨ i = 4 ∨ i = 5 ∨ i = 6 ∨ i = 7 := by omega
      rcases h7 with rfl | rfl | rfl | rfl | rfl | rfl | rfl | rfl <;> decide
    rw [lockstepref02_readNumber.l0, if_pos (by omega), if_pos (by omega), if_pos (by omega), or_byte a _ h0 (by omega) hb, show wrap64 (((i + 3 : Nat) : Int) + 1) = ((i + 1 + 3 : Nat) : Int) by unfold wrap64; omega]
    have ih := rlow_loop l hB hl hm x d (i + 1) (by omega) (a * 256 + rd l ((i + 3 : Nat) : Int)) k (by omega) (by rw [Int.pow_succ]; omega) (by omega)
    rw [drop_rd (l := (l.take 11).drop 3) (i := i) (by omega), valF_cons, he]
    exact ih
theorem rnumRead_eq (tag : Int) (y : List Int) (hB : isB (tag :: y)) (hm : (tag :: y).length ≤ 140737488355328) (k : Nat) (hk : 110 ≤ k) : lockstepref02_readNumber.f k (tag :: y) = some (took (tag :: y) (numRead y)) := by
  unfold lockstepref02_readNumber.f numRead
  have hBy := isB_tail hB
  have hlen : (tag :: y).length = y.length + 1 := rfl
  by_cases hl : y.length < 11
  · rw [if_pos (by omega), if_pos hl, took_bad _ (by decide)]
  · rw [if_neg (by omega), if_neg hl, if_pos (by omega), if_pos (by omega)]
    have r1 : rd (tag :: y) 1 = rd y 0 := rd_succ tag y 0
    have r2 : rd (tag :: y) 2 = rd y 1 := rd_succ tag y 1
    have r11 : rd (tag :: y) 11 = rd y 10 := rd_succ tag y 10
    have b0 := rd_isB hBy (i := 0) (by omega)
    have b1 := rd_isB hBy (i := 1) (by omega)
    have b10 := rd_isB hBy (i := 10) (by omega)
    rw [show ((0 : Nat) : Int) = 0 from rfl] at b0
    rw [show ((1 : Nat) : Int) = 1 from rfl] at b1
    rw [show ((10 : Nat) : Int) = 10 from rfl] at b10
    have hv := val10 y (by omega)
    have hz : isB ((y.take 10).drop 2) := isB_drop (isB_take hBy _) _
    have hzl : ((y.take 10).drop 2).length = 8 := by rw [List.length_drop, List.length_take]; omega
    obtain ⟨v0, v1⟩ := valB_bound _ hz
    rw [hzl, show (256 : Int) ^ 8 = 18446744073709551616 by decide] at v1
    have q0 : rd y 0 = y.getD 0 0 := rd_getD y 0
    have q1 : rd y 1 = y.getD 1 0 := rd_getD y 1
    have q10 : rd y 10 = y.getD 10 0 := rd_getD y 10
    rw [r1, r2, show IntKind.u64.wrap (rd y 0) = rd y 0 by rw [IntKind.wrap_u64]; omega, or_byte _ _ b0.1 (by omega) b1]
    obtain ⟨k', hk', hloop⟩ := rlow_loop (tag :: y) hB (by omega) (by omega) (rd y 0 * 256 + rd y 1) 8 0 (by omega) 0 k (by omega) (by decide) (by omega)
    rw [show (((0 + 3 : Nat)) : Int) = 3 from rfl, List.drop_zero] at hloop
    have hts : ((tag :: y).take 11).drop 3 = (y.take 10).drop 2 := rfl
    rw [hloop, hts, lockstepref02_readNumber.l0, if_neg (by decide), if_pos (by omega), r11, hv, ← q0, ← q1, ← q10]
    have hlow : valF 0 ((y.take 10).drop 2) = valB ((y.take 10).drop 2) := rfl
    rw [hlow]
    generalize valB ((y.take 10).drop 2) = lo at *
    generalize rd y 0 = p0 at *
    generalize rd y 1 = p1 at *
    generalize rd y 10 = t at *
    rw [show wrap64 t = t by unfold wrap64; omega]
    clear hloop hlow hts hv
    have hN : (p0 * 256 + p1) * 18446744073709551616 + lo - 604462909807314587353088 = (p0 * 256 + p1 - 32768) * 18446744073709551616 + lo := by omega
    rw [hN]
    have hhi : 0 ≤ p0 * 256 + p1 ∧ p0 * 256 + p1 < 65536 := by omega
    generalize p0 * 256 + p1 = hi at *
    obtain ⟨k', rfl⟩ : ∃ m, k' = m + 2 := ⟨k' - 2, by omega⟩
    have hlen2 : ((tag :: y).length : Int) - ((y.drop 11).length : Int) = 12 := by rw [List.length_drop, hlen]; omega
    have goodT : ∀ (T n : Int), took (tag :: y) (T, n, (⟨#[]⟩ : ByteArray), y.drop 11, 0) = (T, n, (⟨#[]⟩ : ByteArray), 12, 0) := by
      intro T n
      unfold took
      rw [if_pos rfl]
      show (T, n, (⟨#[]⟩ : ByteArray), ((tag :: y).length : Int) - ((y.drop 11).length : Int), (0 : Int)) = _
      rw [hlen2]
    have last : ∀ (neg : Bool) (H L A : Nat), A = H * 18446744073709551616 + L → L < 18446744073709551616 → H < 65536 → ((hi - 32768) * 18446744073709551616 + lo = if neg then -(A : Int) else (A : Int)) → (t = 1 ∨ t = 2) →
        lockstepref02_readNumber.j2 (k' + 1) (H : Int) (L : Int) t neg = some (took (tag :: y) (numOf t ((hi - 32768) * 18446744073709551616 + lo) (y.drop 11))) := by
      intro neg H L A hA hL hH hN2 ht
      rw [lockstepref02_readNumber.j2, hN2]
      unfold numOf
      by_cases t2 : t = 2
      · rw [if_pos t2, if_pos t2]
        by_cases hH0 : 0 < H
        · rw [if_pos (by omega), if_neg, took_bad _ (by decide)]
          unfold inI
          intro h
          have := of_decide_eq_true h
          cases neg
          · rw [if_neg (by decide)] at this; omega
          · rw [if_pos rfl] at this; omega
        · have : A = L := by omega
          subst this
          rw [if_neg (by omega), signed_eq t neg A hL (fun _ => Or.inr trivial) k' (by omega), Option.bind_some]
          by_cases hi2 : inI (if neg then -(A : Int) else (A : Int))
          · rw [if_pos hi2, if_pos hi2, goodT, t2]
          · rw [if_neg hi2, if_neg hi2, took_bad _ (by decide)]
      · have t1 : t = 1 := by omega
        rw [if_neg t2, if_neg t2, if_pos t1]
        by_cases hc : 10000 ≤ H
        · rw [if_pos (by omega), if_neg, took_bad _ (by decide)]
          unfold inI
          intro h
          have hb := of_decide_eq_true h.2
          have ha := h.1
          cases neg
          · rw [if_neg (by decide)] at ha hb; omega
          · rw [if_pos rfl] at ha hb; omega
        · rw [if_neg (by omega), divided_eq H L (by omega) hL k' (by omega), Option.bind_some, ← hA]
          have hq : A / 10000 < 18446744073709551616 := by omega
          have hdm := Nat.div_add_mod A 10000
          generalize hQ : A / 10000 = Q at *
          generalize hR : A % 10000 = R at *
          have hRl : R < 10000 := by rw [← hR]; exact Nat.mod_lt _ (by decide)
          by_cases hr : R = 0
          · rw [if_pos (by rw [hr]; rfl), signed_eq t neg Q hq (fun _ => Or.inr trivial) k' (by omega), Option.bind_some]
            have e1 : (if neg then -(A : Int) else (A : Int)) / 10000 = (if neg then -(Q : Int) else (Q : Int)) := by
              cases neg
              · simp only [Bool.false_eq_true, if_false]; omega
              · simp only [if_true]; omega
            have e2 : (if neg then -(A : Int) else (A : Int)) % 10000 = 0 := by
              cases neg
              · simp only [Bool.false_eq_true, if_false]; omega
              · simp only [if_true]; omega
            rw [e1]
            by_cases hi2 : inI (if neg then -(Q : Int) else (Q : Int))
            · rw [if_pos hi2, if_pos (And.intro e2 hi2), goodT, t1]
            · rw [if_neg hi2, if_neg (fun h => hi2 h.2), took_bad _ (by decide)]
          · rw [if_neg (by simp only []; omega), if_neg, took_bad _ (by decide)]
            intro h
            have ha := h.1
            cases neg
            · rw [if_neg (by decide)] at ha; omega
            · rw [if_pos rfl] at ha; omega
    have hj : (if t = 1 then lockstepref02_readNumber.j1 (k' + 2) hi lo t false else lockstepref02_readNumber.j1 (k' + 2) hi lo t (t != 2)) = lockstepref02_readNumber.j1 (k' + 2) hi lo t (decide (¬ (t = 1 ∨ t = 2))) := by
      by_cases t1 : t = 1
      · rw [if_pos t1, decide_eq_false (by omega)]
      · rw [if_neg t1]
        congr 1
        by_cases t2 : t = 2
        · rw [decide_eq_false (by omega), t2]; rfl
        · rw [decide_eq_true (by omega)]
          exact bne_iff_ne.mpr t2
    rw [hj, lockstepref02_readNumber.j1]
    by_cases ht : t = 1 ∨ t = 2
    · rw [decide_eq_false (fun h => h ht), if_neg (by decide)]
      obtain ⟨L, rfl⟩ := Int.eq_ofNat_of_zero_le v0
      have ew : IntKind.u64.wrap (hi + 32768) = hi + 32768 := by rw [IntKind.wrap_u64]; omega
      have et : Int.tmod (hi + 32768) 65536 = (hi + 32768) % 65536 := Int.tmod_eq_emod_of_nonneg (by omega)
      rw [ew, et]
      by_cases hneg : hi < 32768
      · have eL : IntKind.u64.wrap (-(L : Int)) = (((18446744073709551616 - L) % 18446744073709551616 : Nat) : Int) := by rw [IntKind.wrap_u64]; omega
        rw [if_pos hneg, eL, decide_eq_true hneg]
        by_cases hL0 : L = 0
        · have eH : IntKind.u64.wrap (IntKind.u64.wrap (65535 - (hi + 32768) % 65536) + 1) = (((32768 - hi).toNat : Nat) : Int) := by rw [IntKind.wrap_u64, IntKind.wrap_u64]; omega
          rw [if_pos (by omega), eH]
          exact last true _ _ _ rfl (by omega) (by omega) (by rw [if_pos rfl]; omega) ht
        · have eH : IntKind.u64.wrap (65535 - (hi + 32768) % 65536) = (((32767 - hi).toNat : Nat) : Int) := by rw [IntKind.wrap_u64]; omega
          rw [if_neg (by omega), eH]
          exact last true _ _ _ rfl (by omega) (by omega) (by rw [if_pos rfl]; omega) ht
      · have eH : (hi + 32768) % 65536 = (((hi - 32768).toNat : Nat) : Int) := by omega
        rw [if_neg hneg, decide_eq_false hneg, eH]
        exact last false _ _ _ rfl (by omega) (by omega) (by rw [if_neg (by decide)]; omega) ht
    · rw [decide_eq_true ht, if_pos rfl]
      unfold numOf
      rw [if_neg (by omega), if_neg (by omega), took_bad _ (by decide)]
theorem drop_two {l : List Int} {i : Nat} (hi : i + 1 < l.length) : l.drop i = rd l (i : Int) :: rd l ((i + 1 : Nat) : Int) :: l.drop (i + 2) := by
  rw [drop_rd (show i < l.length by omega), drop_rd hi]
theorem rtxt_loop (l : List Int) (hB : isB l) (hm : l.length < 140737488355328) : ∀ (n i : Nat), l.length ≤ i + n → ∀ (acc : List Int) (k : Nat), acc.length ≤ i → n + 10 ≤ k →
    lockstepref02_readText.l0 k l acc (i : Int) = some (took l (txtRead acc (l.drop i)))
  | n, i, hn, acc, k, ha, hk => by
    obtain ⟨k, rfl⟩ : ∃ m, k = m + 2 := ⟨k - 2, by omega⟩
    rw [lockstepref02_readText.l0]
    by_cases hi : i < l.length
    · rw [if_pos (by omega), if_pos (by omega)]
      have w1 : wrap64 ((i : Int) + 1) = ((i + 1 : Nat) : Int) := by unfold wrap64; omega
      have w2 : wrap64 ((i : Int) + 2) = ((i + 2 : Nat) : Int) := by unfold wrap64; omega
      rw [w1, w2]
      by_cases h0 : rd l (i : Int) = 0
      · rw [if_pos h0]
        by_cases he : i + 1 = l.length
        · rw [if_pos (by omega), drop_rd hi, List.drop_eq_nil_of_le (by omega), h0, txt_one, took_bad _ (by decide)]
        · rw [if_neg (by omega), if_pos (by omega), if_pos (by omega), drop_two (show i + 1 < l.length by omega), h0, txt_two]
          by_cases y255 : rd l ((i + 1 : Nat) : Int) = 255
          · rw [if_pos y255, if_pos y255, if_pos (by omega)]
            cases n with
            | zero => omega
            | succ n =>
              exact rtxt_loop l hB hm n (i + 2) (by omega) _ (k + 1) (by rw [List.length_append]; simp; omega) (by omega)
          · rw [if_neg y255, if_neg y255]
            by_cases y0 : rd l ((i + 1 : Nat) : Int) = 0
            · rw [if_pos y0, if_pos y0]
              obtain ⟨k, rfl⟩ : ∃ m, k = m + 1 := ⟨k - 1, by omega⟩
              rw [lockstepref01_Check.eq, Option.bind_some]
              by_cases hc : chk 3 0 (strOfNums acc) = 0
              · rw [if_pos hc, if_pos hc]
                unfold took
                rw [if_pos (by rfl)]
                have hT : (l.length : Int) - ((l.drop (i + 2)).length : Int) = ((i + 2 : Nat) : Int) := by rw [List.length_drop]; omega
                show _ = some (_, _, _, (l.length : Int) - ((l.drop (i + 2)).length : Int), (0 : Int))
                rw [hT]
              · rw [if_neg hc, if_neg hc, took_bad _ (by decide)]
            · rw [if_neg y0, if_neg y0, took_bad _ (by decide)]
      · rw [if_neg h0, if_pos (by omega), drop_rd hi, txt_ne _ h0]
        cases n with
        | zero => omega
        | succ n => exact rtxt_loop l hB hm n (i + 1) (by omega) _ (k + 1) (by rw [List.length_append]; simp; omega) (by omega)
    · rw [if_neg (by omega), List.drop_eq_nil_of_le (by omega), txt_nil, took_bad _ (by decide)]
theorem rRead_eq (l : List Int) (hB : isB l) (hm : l.length < 140737488355328) (k : Nat) (hk : l.length + 120 ≤ k) : lockstepref02_Read.f k l = some (took l (valRead l)) := by
  unfold lockstepref02_Read.f
  cases l with
  | nil => rfl
  | cons tag y =>
    have hlen : (tag :: y).length = y.length + 1 := rfl
    rw [if_neg (by omega), if_pos (by omega), show rd (tag :: y) 0 = tag from rfl, valRead_cons]
    by_cases t1 : tag = 1
    · rw [if_pos t1, if_pos t1]
      unfold took
      rw [if_pos (by rfl)]
      have hT : ((tag :: y).length : Int) - (y.length : Int) = 1 := by omega
      show _ = some (_, _, _, ((tag :: y).length : Int) - (y.length : Int), (0 : Int))
      rw [hT]
    rw [if_neg t1, if_neg t1]
    by_cases t2 : tag = 2
    · rw [if_pos t2, if_pos t2, rnumRead_eq tag y hB (by omega) k (by omega), Option.bind_some]
    rw [if_neg t2, if_neg t2]
    by_cases t3 : tag = 3
    · rw [if_pos t3, if_pos t3]
      unfold lockstepref02_readText.f
      have := rtxt_loop (tag :: y) hB hm (tag :: y).length 1 (by omega) [] k (by simp) (by omega)
      rw [show ((1 : Nat) : Int) = 1 from rfl] at this
      rw [this, Option.bind_some]
      rfl
    rw [if_neg t3, if_neg t3]
    by_cases t4 : tag = 4
    · rw [if_pos t4, if_pos t4]
      cases y with
      | nil => rfl
      | cons b m =>
        have hb := isB_head (isB_tail hB)
        have hlen2 : (b :: m).length = m.length + 1 := rfl
        rw [if_neg (by omega), if_pos (by omega), show rd (tag :: b :: m) 1 = b from rfl, show boolRead (b :: m) = if b > 1 then bad 20 else (4, b, (⟨#[]⟩ : ByteArray), m, 0) from rfl]
        by_cases b1 : b > 1
        · rw [if_pos b1, if_pos b1, took_bad _ (by decide)]
        · rw [if_neg b1, if_neg b1]
          unfold took
          rw [if_pos (by rfl), show wrap64 b = b by unfold wrap64; omega]
          have hT : ((tag :: b :: m).length : Int) - (m.length : Int) = 2 := by omega
          show _ = some (_, _, _, ((tag :: b :: m).length : Int) - (m.length : Int), (0 : Int))
          rw [hT]
    · rw [if_neg t4, if_neg t4, took_bad _ (by decide)]
end Go.Proofs.YthghcpeedmconaaDoor.X
end
section
namespace Go.Proofs
open Go.Shelf
def Tryd.sortB_ren : Go.Shelf.Ren := ⟨fun | 6 => 61 | 15 => 81 | 14 => 80 | 28 => 99 | 29 => 100 | 20 => 91 | 21 => 92 | 22 => 93 | 23 => 94 | 24 => 95 | 25 => 96 | 26 => 97 | 27 => 98 | 46 => 110 | 47 => 111 | 48 => 112 | 49 => 113 | 50 => 114 | 57 => 122 | n => n, fun | 22 => 87 | 24 => 47 | 25 => 50 | 3 => 3 | 39 => 89 | 0 => 0 | 53 => 92 | 55 => 24 | 4 => 4 | 46 => 122 | 45 => 121 | 50 => 126 | 5 => 5 | 9 => 9 | 66 => 142 | 70 => 145 | 76 => 150 | 77 => 151 | n => n, fun | n => n⟩
theorem Tryd.sortB : Go.Proofs.SlLaysF.n6 Tryd.prog Tryd.sortB_ren := {
  mixed := by kernel_rfl
  f6 := ⟨Tryd.f61.name, by decide, Tryd.func61.trans (congrArg some (by kernel_rfl))⟩
  f14 := ⟨Tryd.f80.name, by decide, Tryd.func80.trans (congrArg some (by kernel_rfl))⟩
  f15 := Tryd.func81.trans (congrArg some (by kernel_rfl))
  f20 := ⟨Tryd.f91.name, by decide, Tryd.func91.trans (congrArg some (by kernel_rfl))⟩
  f21 := ⟨Tryd.f92.name, by decide, Tryd.func92.trans (congrArg some (by kernel_rfl))⟩
  f22 := ⟨Tryd.f93.name, by decide, Tryd.func93.trans (congrArg some (by kernel_rfl))⟩
  f23 := ⟨Tryd.f94.name, by decide, Tryd.func94.trans (congrArg some (by kernel_rfl))⟩
  f24 := ⟨Tryd.f95.name, by decide, Tryd.func95.trans (congrArg some (by kernel_rfl))⟩
  f25 := ⟨Tryd.f96.name, by decide, Tryd.func96.trans (congrArg some (by kernel_rfl))⟩
  f26 := ⟨Tryd.f97.name, by decide, Tryd.func97.trans (congrArg some (by kernel_rfl))⟩
  f27 := ⟨Tryd.f98.name, by decide, Tryd.func98.trans (congrArg some (by kernel_rfl))⟩
  f28 := Tryd.func99.trans (congrArg some (by kernel_rfl))
  f29 := Tryd.func100.trans (congrArg some (by kernel_rfl))
  f46 := ⟨Tryd.f110.name, by decide, Tryd.func110.trans (congrArg some (by kernel_rfl))⟩
  f47 := Tryd.func111.trans (congrArg some (by kernel_rfl))
  f48 := Tryd.func112.trans (congrArg some (by kernel_rfl))
  f49 := ⟨Tryd.f113.name, by decide, Tryd.func113.trans (congrArg some (by kernel_rfl))⟩
  f50 := ⟨Tryd.f114.name, by decide, Tryd.func114.trans (congrArg some (by kernel_rfl))⟩
  f57 := ⟨Tryd.f122.name, by decide, Tryd.func122.trans (congrArg some (by kernel_rfl))⟩
  t0 := Tryd.underlying0
  a0 := Tryd.isAgg0
  z0 := Tryd.sizeOf0
  v0 := Tryd.zeroValue0
  t3 := Tryd.underlying3
  a3 := Tryd.isAgg3
  z3 := Tryd.sizeOf3
  v3 := Tryd.zeroValue3
  t4 := Tryd.underlying4
  a4 := Tryd.isAgg4
  z4 := Tryd.sizeOf4
  v4 := Tryd.zeroValue4
  t5 := Tryd.underlying5
  a5 := Tryd.isAgg5
  z5 := Tryd.sizeOf5
  v5 := Tryd.zeroValue5
  t9 := Tryd.underlying9
  a9 := Tryd.isAgg9
  z9 := Tryd.sizeOf9
  v9 := Tryd.zeroValue9
  t22 := Tryd.underlying87
  a22 := Tryd.isAgg87
  z22 := Tryd.sizeOf87
  v22 := Tryd.zeroValue87
  a24 := Tryd.isAgg47
  z24 := Tryd.sizeOf47
  t25 := Tryd.underlying50
  a25 := Tryd.isAgg50
  z25 := Tryd.sizeOf50
  v25 := Tryd.zeroValue50
  t39 := Tryd.underlying89
  a39 := Tryd.isAgg89
  z39 := Tryd.sizeOf89
  v39 := Tryd.zeroValue89
  t45 := Tryd.underlying121
  a45 := Tryd.isAgg121
  z45 := Tryd.sizeOf121
  v45 := Tryd.zeroValue121
  t46 := Tryd.underlying122
  a46 := Tryd.isAgg122
  z46 := Tryd.sizeOf122
  v46 := Tryd.zeroValue122
  t50 := Tryd.underlying126
  a50 := Tryd.isAgg126
  z50 := Tryd.sizeOf126
  v50 := Tryd.zeroValue126
  t53 := Tryd.underlying92
  a53 := Tryd.isAgg92
  z53 := Tryd.sizeOf92
  v53 := Tryd.zeroValue92
  t55 := Tryd.underlying24
  a55 := Tryd.isAgg24
  z55 := Tryd.sizeOf24
  v55 := Tryd.zeroValue24
  t66 := Tryd.underlying142
  a66 := Tryd.isAgg142
  z66 := Tryd.sizeOf142
  v66 := Tryd.zeroValue142
  t70 := Tryd.underlying145
  a70 := Tryd.isAgg145
  z70 := Tryd.sizeOf145
  v70 := Tryd.zeroValue145
  t76 := Tryd.underlying150
  a76 := Tryd.isAgg150
  z76 := Tryd.sizeOf150
  v76 := Tryd.zeroValue150
  t77 := Tryd.underlying151
  a77 := Tryd.isAgg151
  z77 := Tryd.sizeOf151
  v77 := Tryd.zeroValue151 }
def Tryd.joinB_ren : Go.Shelf.Ren := ⟨fun | 14 => 63 | 15 => 83 | n => n, fun | 26 => 87 | 22 => 47 | 3 => 3 | 4 => 4 | 0 => 0 | 9 => 9 | 20 => 20 | 5 => 5 | n => n, fun | n => n⟩
theorem Tryd.joinB : Go.Proofs.SlLaysJ.n14 Tryd.prog Tryd.joinB_ren := {
  mixed := by kernel_rfl
  f14 := Tryd.func63.trans (congrArg some (by kernel_rfl))
  f15 := Tryd.func83.trans (congrArg some (by kernel_rfl))
  t0 := Tryd.underlying0
  a0 := Tryd.isAgg0
  z0 := Tryd.sizeOf0
  v0 := Tryd.zeroValue0
  t3 := Tryd.underlying3
  a3 := Tryd.isAgg3
  z3 := Tryd.sizeOf3
  v3 := Tryd.zeroValue3
  t4 := Tryd.underlying4
  a4 := Tryd.isAgg4
  z4 := Tryd.sizeOf4
  v4 := Tryd.zeroValue4
  t9 := Tryd.underlying9
  a9 := Tryd.isAgg9
  z9 := Tryd.sizeOf9
  v9 := Tryd.zeroValue9
  t20 := Tryd.underlying20
  a20 := Tryd.isAgg20
  z20 := Tryd.sizeOf20
  v20 := Tryd.zeroValue20
  t22 := Tryd.underlying47
  a22 := Tryd.isAgg47
  z22 := Tryd.sizeOf47
  v22 := Tryd.zeroValue47
  t26 := Tryd.underlying87
  a26 := Tryd.isAgg87
  z26 := Tryd.sizeOf87
  v26 := Tryd.zeroValue87
  t5 := Tryd.underlying5
  z5 := Tryd.sizeOf5
  i5 := by kernel_rfl }
end Go.Proofs
end
section
namespace Go.Proofs.YthghcpeedmconaaDoor.X
open Go.RowKit Go.Proofs.YthghcpeedmconaaDoorW.PrintWords
set_option linter.unusedVariables false
set_option linter.unusedSimpArgs false
theorem cb_cons (a b : UInt8) (l m : List UInt8) : Lib.compareBytes (a :: l) (b :: m) = if a.toNat < b.toNat then -1 else if b.toNat < a.toNat then 1 else Lib.compareBytes l m := by
  simp only [Lib.compareBytes, UInt8.lt_iff_toNat_lt]
theorem cb_self : ∀ l, Lib.compareBytes l l = 0
  | [] => rfl
  | a :: l => by rw [cb_cons, if_neg (Nat.lt_irrefl _), if_neg (Nat.lt_irrefl _)]; exact cb_self l
theorem cb_trans : ∀ a b c, Lib.compareBytes a b < 0 → Lib.compareBytes b c < 0 → Lib.compareBytes a c < 0
  | [], [], _, h, _ => by simp [Lib.compareBytes] at h
  | [], _ :: _, [], _, h => by simp [Lib.compareBytes] at h
  | [], _ :: _, _ :: _, _, _ => by simp [Lib.compareBytes]
  | _ :: _, [], _, h, _ => by simp [Lib.compareBytes] at h
  | _ :: _, _ :: _, [], _, h => by simp [Lib.compareBytes] at h
  | x :: a, y :: b, z :: c, h, k => by
    have ih := cb_trans a b c
    rw [cb_cons] at h k ⊢
    by_cases h1 : x.toNat < y.toNat
    · by_cases h2 : y.toNat < z.toNat
      · rw [if_pos (by omega)]; decide
      · rw [if_neg h2] at k
        by_cases h3 : z.toNat < y.toNat
        · rw [if_pos h3] at k; omega
        · rw [if_pos (by omega)]; decide
    · rw [if_neg h1] at h
      by_cases h3 : y.toNat < x.toNat
      · rw [if_pos h3] at h; omega
      · rw [if_neg h3] at h
        by_cases h2 : y.toNat < z.toNat
        · rw [if_pos (by omega)]; decide
        · rw [if_neg h2] at k
          by_cases h4 : z.toNat < y.toNat
          · rw [if_pos h4] at k; omega
          · rw [if_neg h4] at k
            rw [if_neg (by omega), if_neg (by omega)]
            exact ih h k
theorem cb_ntrans : ∀ a b c, ¬ Lib.compareBytes a b < 0 → ¬ Lib.compareBytes b c < 0 → ¬ Lib.compareBytes a c < 0
  | [], [], _, _, h => h
  | [], _ :: _, _, h, _ => by simp [Lib.compareBytes] at h
  | _ :: _, _, [], _, _ => by simp [Lib.compareBytes]
  | _ :: _, [], _ :: _, _, h => by simp [Lib.compareBytes] at h
  | x :: a, y :: b, z :: c, h, k => by
    have ih := cb_ntrans a b c
    rw [cb_cons] at h k ⊢
    by_cases h1 : x.toNat < y.toNat
    · rw [if_pos h1] at h; omega
    · rw [if_neg h1] at h
      by_cases h2 : y.toNat < z.toNat
      · rw [if_pos h2] at k; omega
      · rw [if_neg h2] at k
        rw [if_neg (by omega)]
        by_cases h3 : z.toNat < x.toNat
        · rw [if_pos h3]; decide
        · rw [if_neg h3]
          rw [if_neg (by omega)] at h
          rw [if_neg (by omega)] at k
          exact ih h k
theorem cb_anti : ∀ a b, ¬ Lib.compareBytes a b < 0 → ¬ Lib.compareBytes b a < 0 → a = b
  | [], [], _, _ => rfl
  | [], _ :: _, h, _ => by simp [Lib.compareBytes] at h
  | _ :: _, [], _, h => by simp [Lib.compareBytes] at h
  | x :: a, y :: b, h, k => by
    have ih := cb_anti a b
    rw [cb_cons] at h k
    by_cases h1 : x.toNat < y.toNat
    · rw [if_pos h1] at h; omega
    · rw [if_neg h1] at h
      by_cases h2 : y.toNat < x.toNat
      · rw [if_pos h2] at k; omega
      · rw [if_neg h2] at h
        rw [if_neg h2, if_neg h1] at k
        rw [ih h k, show x = y from UInt8.toNat_inj.1 (by omega)]
def areB (l : List Int) : Bool := l.all fun b => decide (0 ≤ b ∧ b < 256)
theorem areB_iff {l : List Int} : areB l = true ↔ ∀ b ∈ l, 0 ≤ b ∧ b < 256 := by simp [areB]
theorem bytesOf_inj : ∀ {l m : List Int}, areB l = true → areB m = true → Lib.bytesOf l = Lib.bytesOf m → l = m
  | [], [], _, _, _ => rfl
  | [], _ :: _, _, _, h => by simp [Lib.bytesOf] at h
  | _ :: _, [], _, _, h => by simp [Lib.bytesOf] at h
  | x :: l, y :: m, hl, hm, h => by
    simp only [Lib.bytesOf, List.map_cons, List.cons.injEq] at h
    obtain ⟨h1, h2⟩ := h
    simp only [areB, List.all_cons, Bool.and_eq_true, decide_eq_true_eq] at hl hm
    have := bytesOf_inj (l := l) (m := m) hl.2 hm.2 h2
    have e : x.toNat = y.toNat := by
      have h3 := congrArg UInt8.toNat h1
      rw [UInt8.toNat_ofNat', UInt8.toNat_ofNat', Nat.mod_eq_of_lt (show x.toNat < 2 ^ 8 by omega), Nat.mod_eq_of_lt (show y.toNat < 2 ^ 8 by omega)] at h3
      exact h3
    rw [this, show x = y by omega]
def cmpL (a b : List Int) : Int := Lib.compareBytes (Lib.bytesOf a) (Lib.bytesOf b)
def leL (a b : List Int) : Bool := !decide (cmpL b a < 0)
def srt (l : List (List Int)) : List (List Int) := l.mergeSort leL
theorem leL_iff {a b : List Int} : leL a b = true ↔ ¬ cmpL b a < 0 := by simp [leL]
theorem leL_trans (a b c : List Int) (h : leL a b = true) (k : leL b c = true) : leL a c = true := leL_iff.2 (cb_ntrans _ _ _ (leL_iff.1 k) (leL_iff.1 h))
theorem leL_total (a b : List Int) : (leL a b || leL b a) = true := by
  by_cases h : cmpL b a < 0
  · have : ¬ cmpL a b < 0 := fun k => by have := cb_trans _ _ _ h k; rw [cb_self] at this; omega
    simp [leL, this]
  · simp [leL, h]
theorem srt_perm (l : List (List Int)) : (srt l).Perm l := List.mergeSort_perm l leL
theorem srt_pw (l : List (List Int)) : (srt l).Pairwise (fun a b => ¬ cmpL b a < 0) := (List.pairwise_mergeSort (le := leL) leL_trans leL_total l).imp (fun h => leL_iff.1 h)
theorem srt_uniq {l ys : List (List Int)} (hB : ∀ x ∈ l, areB x = true) (hp : ys.Perm l) (hs : ys.Pairwise (fun a b => ¬ cmpL b a < 0)) : ys = srt l :=
  List.Perm.eq_of_pairwise (le := fun a b => ¬ cmpL b a < 0) (fun a b ha hb h k => bytesOf_inj (hB a (hp.mem_iff.1 ha)) (hB b ((srt_perm l).mem_iff.1 hb)) (cb_anti _ _ k h)) hs (srt_pw l) (hp.trans (srt_perm l).symm)
theorem srt_mem {l : List (List Int)} {x : List Int} : x ∈ srt l ↔ x ∈ l := (srt_perm l).mem_iff
theorem srt_len (l : List (List Int)) : (srt l).length = l.length := (srt_perm l).length_eq
end Go.Proofs.YthghcpeedmconaaDoor.X
end
section
namespace Go.Proofs.YthghcpeedmconaaDoor.X
open Go.RowKit Go.Proofs.YthghcpeedmconaaDoorW.PrintWords
set_option linter.unusedVariables false
set_option linter.unusedSimpArgs false
abbrev El {α : Type} (d : Kd α) (w : World) (base : Nat) (ok : Nat → Prop) : Type := { p : Value × α // d.M w base ok p.2 [p.1] }
theorem els_of {α : Type} (d : Kd α) (hz : d.sz = 1) (w : World) (base : Nat) (ok : Nat → Prop) : ∀ (xs : List α) (cs : List Value), Reps (d.M w base ok) d.sz xs cs →
    ∃ els : List (El d w base ok), els.map (fun x => x.1.1) = cs ∧ els.map (fun x => x.1.2) = xs := by
  intro xs cs h
  rw [hz] at h
  obtain ⟨hl, hr⟩ := h
  have hl' : cs.length = xs.length := by omega
  refine ⟨List.ofFn (fun j : Fin xs.length => ⟨(cs[j.1]'(by omega), xs[j.1]), ?_⟩), ?_, ?_⟩
  · have := hr j.1 xs[j.1] (by simp)
    have e : (cs.drop (j.1 * 1)).take 1 = [cs[j.1]'(by omega)] := by
      rw [Nat.mul_one, List.drop_eq_getElem_cons (by omega)]
      rfl
    rwa [e] at this
  · apply List.ext_getElem
    · simp; omega
    · intro i h1 h2; simp
  · apply List.ext_getElem
    · simp
    · intro i h1 h2; simp
theorem reps_of {α : Type} (d : Kd α) (hz : d.sz = 1) (w w1 : World) (base : Nat) (ok : Nat → Prop) (hm : ∀ k, ok k → k < w.heap.size → w1.heap[k]? = w.heap[k]?) (els : List (El d w base ok)) :
    Reps (d.M w1 base ok) d.sz (els.map (fun x => x.1.2)) (els.map (fun x => x.1.1)) := by
  rw [hz]
  refine ⟨by simp, fun j p hp => ?_⟩
  simp only [List.getElem?_map, Option.map_eq_some_iff] at hp
  obtain ⟨x, hx, rfl⟩ := hp
  have hj : j < els.length := (List.getElem?_eq_some_iff.1 hx).1
  have hx' : els[j] = x := (List.getElem?_eq_some_iff.1 hx).2
  have e : ((els.map (fun x => x.1.1)).drop (j * 1)).take 1 = [x.1.1] := by
    rw [Nat.mul_one, List.drop_eq_getElem_cons (by simpa using hj)]
    show [_] = _
    rw [List.getElem_map, hx']
  rw [e]
  exact Kd.M_step x.2 hm
theorem heap_mapBlock (w : World) (blk : Nat) (f : Array Value → Array Value) (k : Nat) (h : k ≠ blk) : (Sort.mapBlock w blk f).heap[k]? = w.heap[k]? := by
  simp [Sort.mapBlock, Array.getElem?_modify, Ne.symm h]
theorem heap_mapBlock_self (w : World) (blk : Nat) (f : Array Value → Array Value) {c : Array Value} {e : TypeId} {fr : Nat × Nat} (hb : w.heap[blk]? = some (.cells c e fr)) :
    (Sort.mapBlock w blk f).heap[blk]? = some (.cells (f c) e fr) := by
  simp [Sort.mapBlock, Array.getElem?_modify, hb, Sort.onCells]
theorem heap_sortWorld {β : Type} [Inhabited β] (enc : β → Value) (w : World) (blk m : Nat) (dk : Array β) (os : Array Obj) (k : Nat) (hk : k < w.heap.size) (h : k ≠ blk) :
    (sortWorld enc w blk 0 m dk os).heap[k]? = w.heap[k]? := by
  unfold sortWorld
  show (_ ++ os)[k]? = _
  rw [Array.getElem?_append_left (by show k < (Sort.putRow enc (Sort.ahead w m) blk 0 dk).heap.size; rw [Sort.size_putRow]; exact hk)]
  exact heap_mapBlock _ _ _ _ h
theorem heap_sortWorld_self {β : Type} [Inhabited β] (enc : β → Value) (w : World) (blk m : Nat) (dk : Array β) (os : Array Obj) (hk : blk < w.heap.size) {c : Array Value} {e : TypeId} {fr : Nat × Nat} (hb : w.heap[blk]? = some (.cells c e fr)) :
    (sortWorld enc w blk 0 m dk os).heap[blk]? = some (.cells (Sort.putCells enc 0 dk c) e fr) := by
  unfold sortWorld
  show (_ ++ os)[blk]? = _
  rw [Array.getElem?_append_left (by show blk < (Sort.putRow enc (Sort.ahead w m) blk 0 dk).heap.size; rw [Sort.size_putRow]; exact hk)]
  exact heap_mapBlock_self _ _ _ hb
theorem putCells_take {β : Type} [Inhabited β] (enc : β → Value) (d : Array β) (c : Array Value) (h : d.size ≤ c.size) : (Sort.putCells enc 0 d c).toList.take d.size = d.toList.map enc := by
  apply List.ext_getElem
  · simp [Sort.putCells]; omega
  · intro i h1 h2
    have hi : i < d.size := by simpa using h2
    simp [Sort.putCells, hi, getElem!_pos d i hi]
theorem sort_own {P : Program} {ρ : Go.Shelf.Ren} (L : SlLaysF.n6 P ρ) {α : Type} (d : Kd α) (hz : d.sz = 1) (F : Nat) (cf : α → α → Int)
    (hI : ∀ x, cf x x = 0) (hT : ∀ x y z, cf x y < 0 → cf y z < 0 → cf x z < 0) (hN : ∀ x y z, ¬ cf x y < 0 → ¬ cf y z < 0 → ¬ cf x z < 0)
    (eg : ∀ args w, (callFunc F args).run P w = .ok (.enter F args) w) (e : TypeId) (w : World) (base : Nat) (ok : Nat → Prop) (g n c : Nat) (xs : List α)
    (dc : Value) (dx : α) (hdf : ∀ ok', d.M w base ok' dx [dc])
    (ho : d.R e w base ok (.slice (some ⟨g, 0, none⟩) n c) xs) (hn : n = xs.length) (hsz : n < 4611686018427387904)
    (hcmp : ∀ W x y cx cy, (∀ k, k ≠ g → k < w.heap.size → W.heap[k]? = w.heap[k]?) → d.M W base (fun k => ok k ∧ k ≠ g) x [cx] → d.M W base (fun k => ok k ∧ k ≠ g) y [cy] →
      Calls P F #[cx, cy] W fun e w' => e = .returned (.int .i64 (cf x y)) ∧ ∃ q, w' = W.drewN q) :
    Calls P (ρ.f 6) #[.slice (some ⟨g, 0, none⟩) n c, .func (.func F) #[] #[]] w fun r w' => r = .returned (.tuple #[]) ∧ ∃ ys, ys.Perm xs ∧ ys.Pairwise (fun a b => ¬ cf b a < 0) ∧
      d.R e w' base ok (.slice (some ⟨g, 0, none⟩) n c) ys ∧ w.grownBy w' (some g) := by
  obtain ⟨h0, inner, hown, hreps⟩ := ho
  have hokg : ok g := h0 g (by simp [Value.ownBlock])
  obtain ⟨hlen, hown⟩ := hown
  rw [hz] at hlen hown
  rcases hown with ⟨hv, _⟩ | ⟨g', cap, cur, hv, hbg, hh, h1, h2, h3, h4⟩
  · simp at hv
  obtain ⟨rfl, hn', rfl⟩ : g = g' ∧ n = xs.length ∧ c = cap := by
    injection hv with a b c'
    injection a with a
    injection a with a
    exact ⟨a, b, c'⟩
  have hgl : g < w.heap.size := (Array.getElem?_eq_some_iff.1 hh).1
  have hok' : (fun k => ok k ∧ some k ≠ (Value.slice (some ⟨g, 0, none⟩) n c).ownBlock) = fun k => ok k ∧ k ≠ g := by funext k; simp [Value.ownBlock]
  rw [hok'] at hreps
  obtain ⟨els, he1, he2⟩ := els_of d hz w base _ xs inner hreps
  letI : Inhabited (El d w base (fun k => ok k ∧ k ≠ g)) := ⟨⟨(dc, dx), hdf _⟩⟩
  have hel : els.length = n := by rw [← List.length_map (f := fun x : El d w base _ => x.1.2), he2]; exact hn'.symm
  have hsz' : els.toArray.size = n := by simpa using hel
  have hI' : ∀ k, inner[k]? = if k < n then cur[k]? else none := by
    intro k
    rw [← h4, List.getElem?_take]
    simp [hn']
  have hH : Sort.Holds (fun x : El d w base (fun k => ok k ∧ k ≠ g) => x.1.1) w g 0 els.toArray := by
    intro j hj
    have hj' : j < els.length := by simpa using hj
    have hc : cur[j]? = some (els[j]).1.1 := by
      have := hI' j
      rw [if_pos (by omega)] at this
      rw [← this, ← he1]
      simp [hj']
    constructor
    · have : w.cell? ⟨g, 0 + j, none⟩ = cur[j]? := by simp [World.cell?, hh]
      rw [this, hc]
      simp [getElem!_pos els.toArray j hj]
    · simp [World.frozen?, hh]
  have hO : Sort.SWO (ltOf fun x y : El d w base (fun k => ok k ∧ k ≠ g) => cf x.1.2 y.1.2) :=
    { irrefl := fun x => by simp [ltOf, hI]
      trans := fun x y z a b => by simp only [ltOf, decide_eq_true_eq] at *; exact hT _ _ _ a b
      ntrans := fun x y z a b => by simp only [ltOf, decide_eq_false_iff_not] at *; exact hN _ _ _ a b }
  have hcon := Any.slices_SortFunc L (fun x : El d w base (fun k => ok k ∧ k ≠ g) => x.1.1) (fun x => d.K_one (d.K_of_M x.2) _ (by simp)) (fun x y => cf x.1.2 y.1.2) hO F #[] g 0 c els.toArray w eg
    (by
      intro m os dk hs x y
      have hkk : ∀ k, k ≠ g → k < w.heap.size → (sortWorld (fun x : El d w base (fun k => ok k ∧ k ≠ g) => x.1.1) w g 0 m dk os).heap[k]? = w.heap[k]? := fun k h1 h2 => heap_sortWorld _ w g m dk os k h2 h1
      refine (hcmp _ x.1.2 y.1.2 x.1.1 y.1.1 hkk (Kd.M_step x.2 (fun k hk hl => hkk k hk.2 hl)) (Kd.M_step y.2 (fun k hk hl => hkk k hk.2 hl))).mono ?_
      rintro _ _ ⟨rfl, q, rfl⟩
      exact ⟨rfl, q, #[], by simp⟩) hH hgl (by omega)
  rw [hsz'] at hcon
  refine hcon.mono ?_
  rintro _ _ ⟨rfl, d', m, os, hp, hs, rfl⟩
  obtain ⟨hps, -, hpp⟩ := hp
  rw [hsz'] at hps
  have hx1 : (d'.extract 0 n).toList = d'.toList := by simp [← hps]
  have hx2 : (els.toArray.extract 0 n).toList = els := by simp [← hsz']
  rw [hx1, hx2] at hpp
  have hdl : d'.toList.length = n := by simpa using hps
  refine ⟨rfl, d'.toList.map (fun x => x.1.2), ?_, ?_, ⟨h0, d'.toList.map (fun x => x.1.1), ⟨?_, .inr ⟨g, c, Sort.putCells (fun x => x.1.1) 0 d' cur, ?_, hbg, heap_sortWorld_self _ w g m d' os hgl hh, ?_, h2, ?_, ?_⟩⟩, ?_⟩, ?_⟩
  · rw [← he2]; exact hpp.map _
  · rw [List.pairwise_map, List.pairwise_iff_getElem]
    intro i j hi hj hij
    have := hs i j (Nat.zero_le _) hij (by omega)
    have hi' : i < d'.size := by simpa using hi
    have hj' : j < d'.size := by simpa using hj
    simp only [ltOf, decide_eq_false_iff_not, getElem!_pos d' i hi', getElem!_pos d' j hj'] at this
    simpa using this
  · simp [hz, hdl]
  · simp [hdl]
  · simp only [List.length_map, hdl]; omega
  · simp [Sort.putCells, hz] at h3 ⊢; omega
  · rw [List.length_map, hdl, hz, Nat.mul_one, ← hps]
    exact putCells_take _ d' cur (by rw [hz] at *; omega)
  · rw [hok']
    exact reps_of d hz w _ base _ (fun k hk hl => heap_sortWorld _ w g m d' os k hl hk.2) d'.toList
  · exact ⟨rfl, rfl, rfl, by unfold sortWorld; show w.heap.size ≤ (_ ++ os).size; rw [Array.size_append, Sort.size_putRow]; exact Nat.le_add_right _ _, fun i hi hne => heap_sortWorld _ w g m d' os i hi (fun e => hne (by rw [e]))⟩
end Go.Proofs.YthghcpeedmconaaDoor.X
end
section
namespace Go.Proofs.YthghcpeedmconaaDoor.X
open Go.RowKit Go.Proofs.YthghcpeedmconaaDoorW.PrintWords
set_option linter.unusedVariables false
set_option linter.unusedSimpArgs false
def bytes_Join.f (l : List (List Int)) (sep : List Int) : Option (List Int) :=
  if sep = [] ∧ (l.all areB) = true ∧ (l.all fun x => !x.isEmpty) = true ∧ l.flatten.length ≤ 140737488355328 then some l.flatten else none
theorem holds_of {w : World} {A : Option Addr} {c : Nat} {xs : List Int} (h : Kd.C (Kd.int .u8) w A xs.length xs) (hB : areB xs = true) : Lib.HoldsBytes w (.slice A xs.length c) (Lib.bytesOf xs) := by
  refine ⟨A, c, by simp [Lib.bytesOf], fun e => ?_, fun a e i x hx => ?_⟩
  · cases xs with
    | nil => rfl
    | cons y l =>
      obtain ⟨ad, ha, _⟩ := h.2.2 (by simp)
      rw [e] at ha
      exact absurd ha (by simp)
  · simp only [Lib.bytesOf, List.getElem?_map, Option.map_eq_some_iff] at hx
    obtain ⟨b, hb, rfl⟩ := hx
    have hl : i < xs.length := (List.getElem?_eq_some_iff.1 hb).1
    obtain ⟨ad, ha, hc⟩ := h.2.2 (by omega)
    rw [e] at ha
    obtain rfl := Option.some.inj ha
    obtain ⟨cs, -, hcs, hcell⟩ := hc i b hb
    have := areB_iff.1 hB b (List.mem_of_getElem? hb)
    have e1 : cs = [.int .u8 b] := hcs
    have e2 := hcell 0 (.int .u8 b) (by rw [e1]; rfl)
    rw [Nat.add_zero, show (Kd.int .u8).sz = 1 from rfl, Nat.mul_one] at e2
    rw [e2]
    have : ((UInt8.ofNat b.toNat).toNat : Int) = b := by
      rw [UInt8.toNat_ofNat', Nat.mod_eq_of_lt (show b.toNat < 2 ^ 8 by omega)]
      omega
    rw [this]
theorem lens_eq (l : List (List Int)) : Lib.lens (l.map Lib.bytesOf) = l.flatten.length := by
  induction l with
  | nil => rfl
  | cons x l ih => rw [List.map_cons, Lib.lens_cons, ih]; simp [Lib.bytesOf]
theorem bytesOf_append (l m : List Int) : Lib.bytesOf (l ++ m) = Lib.bytesOf l ++ Lib.bytesOf m := by simp [Lib.bytesOf]
theorem bytesOf_flatten (l : List (List Int)) : Lib.bytesOf l.flatten = (l.map Lib.bytesOf).flatten := by
  induction l with
  | nil => rfl
  | cons x l ih => rw [List.flatten_cons, bytesOf_append, ih, List.map_cons, List.flatten_cons]
theorem join_flat (l : List (List UInt8)) : Lib.join l [] = l.flatten := by
  cases l with
  | nil => rfl
  | cons x r =>
    rw [Lib.join_cons]
    simp [Lib.joinTail]
theorem len_flatten {l : List (List Int)} (h : (l.all fun x => !x.isEmpty) = true) : l.length ≤ l.flatten.length := by
  induction l with
  | nil => simp
  | cons x l ih =>
    simp only [List.all_cons, Bool.and_eq_true] at h
    have := ih h.2
    have : 0 < x.length := by
      cases x with
      | nil => simp at h
      | cons => simp
    rw [List.flatten_cons, List.length_append, List.length_cons]; omega
theorem areB_flatten {l : List (List Int)} (h : (l.all areB) = true) : areB l.flatten = true := by
  rw [areB_iff]
  intro b hb
  obtain ⟨x, hx, hbx⟩ := List.mem_flatten.1 hb
  exact areB_iff.1 (List.all_eq_true.1 h x hx) b hbx
theorem parts_of {w : World} {ad : Addr} {xs : List (List Int)} (h : Kd.C (Kd.slice 5 (Kd.int .u8)) w (some ad) xs.length xs) (hB : (xs.all areB) = true) :
    ∃ vs, Lib.PartsAt w ad vs (xs.map Lib.bytesOf) := by
  have hx : ∀ j : Fin xs.length, ∃ v, w.cell? (ad.add j.1) = some v ∧ Lib.HoldsBytes w v (Lib.bytesOf xs[j.1]) := by
    intro j
    obtain ⟨ad', ha, hc⟩ := h.2.2 (by have := j.2; omega)
    obtain rfl := Option.some.inj ha
    obtain ⟨cs, -, ⟨A, c, rfl, hl, hC⟩, hcell⟩ := hc j.1 xs[j.1] (by simp)
    have e2 := hcell 0 _ rfl
    rw [Nat.add_zero, show (Kd.slice 5 (Kd.int .u8)).sz = 1 from rfl, Nat.mul_one] at e2
    exact ⟨_, e2, holds_of hC (List.all_eq_true.1 hB _ (List.getElem_mem _))⟩
  refine ⟨List.ofFn (fun j : Fin xs.length => (hx j).choose), by simp, fun i v hi => ?_, fun i v l hi hl => ?_⟩
  · obtain ⟨hlt, rfl⟩ := List.getElem?_eq_some_iff.1 hi
    have := (hx ⟨i, by simpa using hlt⟩).choose_spec.1
    simpa using this
  · obtain ⟨hlt, rfl⟩ := List.getElem?_eq_some_iff.1 hi
    obtain ⟨hlt2, rfl⟩ := List.getElem?_eq_some_iff.1 hl
    have := (hx ⟨i, by simpa using hlt⟩).choose_spec.2
    simpa using this
theorem fresh_C {B : Nat} {w' : World} {v' : Value} {t : List Int} (hB : areB t = true) (hm : t.length ≤ 9223372036854775807) (h : Lib.FreshBytes B w' v' (Lib.bytesOf t)) :
    ∃ A c, v' = .slice A t.length c ∧ t.length ≤ c ∧ Kd.C (Kd.int .u8) w' A t.length t := by
  obtain ⟨g, cap, zs, rfl, -, h1, -, h2, h3, h4, h5, -⟩ := h
  have hl : (Lib.bytesOf t).length = t.length := by simp [Lib.bytesOf]
  rw [hl] at h1 h4 ⊢
  have ht : zs.take t.length = t := bytesOf_inj (areB_iff.2 fun b hb => h3 b (List.mem_of_mem_take hb)) hB h4
  refine ⟨_, cap, rfl, h1, rfl, hm, fun hp => ⟨_, rfl, fun j p hj => ⟨[.int .u8 p], rfl, rfl, fun i u hi => ?_⟩⟩⟩
  have hlt : j < t.length := (List.getElem?_eq_some_iff.1 hj).1
  cases i with
  | succ i => simp at hi
  | zero =>
    simp only [List.getElem?_cons_zero, Option.some.injEq] at hi
    subst hi
    rw [Nat.add_zero, show (Kd.int .u8).sz = 1 from rfl, Nat.mul_one, add_plain]
    have := h5 j (by omega)
    rw [this]
    have e : zs.getD j 0 = p := by
      rw [← ht, List.getElem?_take, if_pos hlt] at hj
      rw [List.getD_eq_getElem?_getD, hj]
      rfl
    rw [e]
theorem join_fact {l : List (List Int)} {t : List Int} (h : bytes_Join.f l [] = some t) : (l.all areB) = true ∧ (l.all fun x => !x.isEmpty) = true ∧ l.flatten.length ≤ 140737488355328 ∧ t = l.flatten := by
  unfold bytes_Join.f at h
  split at h
  · rename_i hc
    exact ⟨hc.2.1, hc.2.2.1, hc.2.2.2, (Option.some.inj h).symm⟩
  · exact absurd h (by simp)
theorem srt_fact {l : List (List Int)} {t : List Int} (h : bytes_Join.f (srt l) [] = some t) : (l.all areB) = true ∧ l.length < 4611686018427387904 := by
  obtain ⟨h1, h2, h3, -⟩ := join_fact h
  exact ⟨List.all_eq_true.2 fun x hx => List.all_eq_true.1 h1 x (srt_mem.2 hx), by have := len_flatten h2; rw [srt_len] at this; omega⟩
theorem bytes_Join.calls (base : Nat) (ok : Nat → Prop) (v : Value) (xs : List (List Int)) (t : List Int) (w : World) (HO : (Kd.slice 5 (Kd.int .u8)).R 47 w base ok v xs) (h : bytes_Join.f xs [] = some t) :
    Calls Tryd.prog 63 #[v, .slice none 0 0] w fun e w' => ∃ A c, e = .returned (.slice A t.length c) ∧ t.length ≤ c ∧ Kd.C (Kd.int .u8) w' A t.length t ∧ Below w.heap.size w w' := by
  obtain ⟨hB, hE, hL, rfl⟩ := join_fact h
  have hBf := areB_flatten hB
  obtain ⟨A, c, rfl, hlc, hC⟩ := Kd.R_reads HO
  match xs, hB, hE, hL, hBf, HO, hlc, hC with
  | [], hB, hE, hL, hBf, HO, hlc, hC =>
    refine (Any.bytes_Join_none Tryd.joinB A c _ w).mono ?_
    rintro e w' ⟨rfl, rfl⟩
    exact ⟨_, _, rfl, Nat.le_refl _, ⟨rfl, by simp, fun h => absurd h (by simp)⟩, below_alloc (Below.refl _ _) _⟩
  | [x], hB, hE, hL, hBf, HO, hlc, hC =>
    obtain ⟨ad, rfl, hc⟩ := hC.2.2 (by simp)
    obtain ⟨cs, -, ⟨A, c1, rfl, hl, hCx⟩, hcell⟩ := hc 0 x rfl
    have e2 := hcell 0 _ rfl
    rw [Nat.add_zero, Nat.zero_mul] at e2
    have hbx : areB x = true := by simpa using hB
    have hx47 : x.length ≤ 140737488355328 := by simpa using hL
    have hx0 : 0 < x.length := by cases x with | nil => simp at hE | cons => simp
    obtain ⟨p, cap, e3, hn, hcc⟩ := holds_of (c := c1) hCx hbx
    obtain ⟨ad0, rfl, -⟩ := hCx.2.2 hx0
    injection e3 with e4 e5 e6
    subst e4
    have hlen : (Lib.bytesOf x).length = x.length := by simp [Lib.bytesOf]
    obtain ⟨g, hg⟩ : ∃ g, ad = ⟨g, 0, none⟩ := by
      obtain ⟨_, inner, ⟨_, hown⟩, _⟩ := HO
      rcases hown with ⟨hv, _⟩ | ⟨g, cap, cur, hv, _⟩
      · simp at hv
      · injection hv with a b c'
        injection a with a
        exact ⟨g, a⟩
    subst hg
    rw [add_plain] at e2
    have hj := Any.bytes_Join_one Tryd.joinB g 0 c ad0 c1 (Lib.bytesOf x) (.slice none 0 0) w (by rw [hlen]; exact e2) (fun i y hy => hcc ad0 rfl i y hy) (by omega) (by rw [hlen]; simpa using hL)
    refine hj.mono ?_
    rintro e w' ⟨v', rfl, hf, hb⟩
    have hxx : [x].flatten = x := by simp
    rw [hxx]
    obtain ⟨A', c', rfl, hl', hC'⟩ := fresh_C hbx (by omega) hf
    exact ⟨A', c', rfl, hl', hC', hb⟩
  | x :: y :: l, hB, hE, hL, hBf, HO, hlc, hC =>
    obtain ⟨ad, rfl, -⟩ := hC.2.2 (by simp)
    obtain ⟨vs, hP⟩ := parts_of hC hB
    obtain ⟨g, hg⟩ : ∃ g, ad = ⟨g, 0, none⟩ := by
      obtain ⟨_, inner, ⟨_, hown⟩, _⟩ := HO
      rcases hown with ⟨hv, _⟩ | ⟨g, cap, cur, hv, _⟩
      · simp at hv
      · injection hv with a b c'
        injection a with a
        exact ⟨g, a⟩
    subst hg
    have hle := len_flatten hE
    have hj := Any.bytes_Join_many Tryd.joinB g 0 (x :: y :: l).length c vs ((x :: y :: l).map Lib.bytesOf) (.slice none 0 0) [] w (by simp) (by simp) hP hlc ⟨none, 0, rfl, fun _ => rfl, fun a h => absurd h (by simp)⟩ (by omega) (by rw [lens_eq]; simpa using hL)
    refine hj.mono ?_
    rintro e w' ⟨v', rfl, hf, hb⟩
    rw [join_flat, ← bytesOf_flatten] at hf
    obtain ⟨A', c', rfl, hl', hC'⟩ := fresh_C hBf (by omega) hf
    exact ⟨A', c', rfl, hl', hC', hb⟩
set_option maxRecDepth 100000 in
theorem bytes_Compare.same (A0 : Option Addr) (c0 : Nat) (l0 : List Int) (A1 : Option Addr) (c1 : Nat) (l1 : List Int) (w : World) (hr0 : Kd.C (Kd.int .u8) w A0 l0.length l0) (hr1 : Kd.C (Kd.int .u8) w A1 l1.length l1) :
    Calls Tryd.prog 62 #[.slice A0 l0.length c0, .slice A1 l1.length c1] w fun e w' => e = .returned (.int .i64 (cmpL l0 l1)) ∧ w' = w := by
  have hrun : (Extern.BytealgCompare.compare #[.slice A0 l0.length c0, .slice A1 l1.length c1]).run Tryd.prog w = .ok (.int .i64 (cmpL l0 l1)) w := by
    change Sem.run Tryd.prog (do pure (goInt (Extern.BytealgCompare.cmp (← Extern.Bytes.bytesOf (.slice A0 l0.length c0)) (← Extern.Bytes.bytesOf (.slice A1 l1.length c1))))) w = _
    simp only [Sem.run_bind, Sem.run_pure, bytesOf_read hr0, bytesOf_read hr1, Result.andThen]
    rw [Lib.cmp_eq]
    rfl
  clear hr0 hr1
  go_enter Tryd.func62, Tryd.ntmps62
  go_wp2
  rw [run_callFunc_extern Tryd.func82 (by kernel_rfl) (by kernel_rfl) (by kernel_rfl) (e := Extern.BytealgCompare.compare) (by kernel_rfl), hrun]
  simp only [Result.andThen]
  rw [Oper.upon_value]
  go_wp2
  go_ret
  exact ⟨rfl, rfl⟩
theorem sort_calls (base : Nat) (ok : Nat → Prop) (v : Value) (xs : List (List Int)) (w : World) (HO : (Kd.slice 5 (Kd.int .u8)).R 47 w base ok v xs) (hB : (xs.all areB) = true) (hn : xs.length < 4611686018427387904) :
    Calls Tryd.prog 61 #[v, .func (.func 62) #[] #[]] w fun e w' => e = .returned (.tuple #[]) ∧ (Kd.slice 5 (Kd.int .u8)).R 47 w' base ok v (srt xs) ∧ w.grownBy w' v.ownBlock := by
  have HO' := HO
  obtain ⟨_, inner, ⟨hlen, hown⟩, hreps⟩ := HO
  rcases hown with ⟨rfl, hx⟩ | ⟨g, cap, cur, rfl, _⟩
  · obtain rfl := List.length_eq_zero_iff.1 hx
    refine (AnyF.slices_SortFunc_none (P := Tryd.prog) { Tryd.sortB with } none 0 _ w).mono ?_
    rintro e w' ⟨rfl, rfl⟩
    exact ⟨rfl, (by rw [show srt [] = [] by simp [srt]]; exact HO'), ⟨rfl, rfl, rfl, Nat.le_refl _, fun _ _ _ => rfl⟩⟩
  · have eg : ∀ args w, (callFunc 62 args).run Tryd.prog w = .ok (.enter 62 args) w := enters_of Tryd.func62 (by kernel_rfl) rfl
    refine (sort_own Tryd.sortB (Kd.slice 5 (Kd.int .u8)) rfl 62 cmpL (fun x => cb_self _) (fun x y z => cb_trans _ _ _) (fun x y z => cb_ntrans _ _ _) eg 47 w base ok g xs.length cap xs (.slice none 0 0) [] (fun ok' => ⟨_, rfl, Kd.R_nil _ _ _ _ _⟩) HO' rfl hn ?_).mono ?_
    · intro W x y cx cy hk hx hy
      obtain ⟨A, c, e1, hl, hC⟩ := (Kd.slice 5 (Kd.int .u8)).K_of_M hx
      obtain ⟨A2, c2, e2, hl2, hC2⟩ := (Kd.slice 5 (Kd.int .u8)).K_of_M hy
      injection e1 with e1
      injection e2 with e2
      subst e1 e2
      refine (bytes_Compare.same A c x A2 c2 y W hC hC2).mono ?_
      rintro e w' ⟨rfl, rfl⟩
      exact ⟨rfl, 0, rfl⟩
    · rintro e w' ⟨rfl, ys, hp, hs, hR, hg⟩
      rw [srt_uniq (fun x hx => List.all_eq_true.1 hB x hx) hp hs] at hR
      exact ⟨rfl, hR, hg⟩
end Go.Proofs.YthghcpeedmconaaDoor.X
end
section
namespace Go.Proofs.YthghcpeedmconaaDoor.X
open Go.RowKit Go.Proofs.YthghcpeedmconaaDoorW.PrintWords Go.Proofs.YthghcpeedmconaaDoorW.PrintLast Go.Proofs.YthghcpeedmconaaDoorW.PrintMore
attribute [local go_sem] max2_int min2_int max_two min_two max_three min_three max_four min_four
set_option linter.unusedVariables false
set_option linter.unusedSimpArgs false
def rowcode_Bag.l0 : Nat → List (List (S42)) → List (List Int) → List (List (S42)) → Int → Int → Option (List Int × Int)
  | 0, _, _, _, _, _ => none
  | k + 1, x0, x4, x13, x14, x15 => if x15 < x14 then (if 0 ≤ x15 then (if x15 < (x13.length : Int) then ((rowcode_row.f k (rd_L5 x13 x15)).bind fun bt720 => (if bt720.2 = 0 then (if x4.length < 5864062014805 then (rowcode_Bag.l0 k x0 (x4 ++ [bt720.1]) x13 x14 (wrap64 (x15 + 1))) else (none)) else (some (([] : List Int), bt720.2)))) else (none)) else (none)) else ((some (([((x0.length : Int) / 16777216) % 256, ((x0.length : Int) / 65536) % 256, ((x0.length : Int) / 256) % 256, ((x0.length : Int)) % 256] : List Int) : List Int)).bind fun y727 => ((bytes_Join.f (srt x4) ([] : List Int)).bind fun t730 => (if y727.length + t730.length < 140737488355328 then (some ((y727 ++ t730), 0)) else (none))))
def rowcode_Bag.f (k : Nat) (l0 : List (List (S42))) : Option (List Int × Int) := if (l0.length : Int) > 65536 then (some (([] : List Int), 2)) else (rowcode_Bag.l0 k l0 ([] : List (List Int)) l0 (l0.length : Int) 0)
theorem rowcode_Bag.mono_l : ∀ k, (∀ y0 y1 y2 y3 y4, LeO (rowcode_Bag.l0 k y0 y1 y2 y3 y4) (rowcode_Bag.l0 (k + 1) y0 y1 y2 y3 y4))
  | 0 => fun _ _ _ _ _ r h => by simp [rowcode_Bag.l0] at h
  | k + 1 => by
    have ih0 := rowcode_Bag.mono_l k
    · intro y0 y1 y2 y3 y4
      unfold rowcode_Bag.l0
      repeat' first
      | (with_reducible exact ih0 _ _ _ _ _)
      | (with_reducible exact rowcode_row.mono _ _)
      | (with_reducible exact LeO.refl _)
      | (with_reducible exact LeO.none _)
      | (with_reducible refine LeO.ite ?_ ?_)
      | (with_reducible refine LeO.bind ?_ (fun _ => ?_))
      | exact ih0 _ _ _ _ _
      | exact rowcode_row.mono _ _
      | exact LeO.none _
      | refine LeO.ite ?_ ?_
      | refine LeO.bind ?_ (fun _ => ?_)
theorem rowcode_Bag.mono : ∀ a0 k, LeO (rowcode_Bag.f k a0) (rowcode_Bag.f (k + 1) a0) := by
  intro a0 k
  have ih0 := rowcode_Bag.mono_l k
  unfold rowcode_Bag.f
  repeat' first
      | (with_reducible exact ih0 _ _ _ _ _)
      | (with_reducible exact rowcode_row.mono _ _)
      | (with_reducible exact LeO.refl _)
      | (with_reducible exact LeO.none _)
      | (with_reducible refine LeO.ite ?_ ?_)
      | (with_reducible refine LeO.bind ?_ (fun _ => ?_))
      | exact ih0 _ _ _ _ _
      | exact rowcode_row.mono _ _
      | exact LeO.none _
      | refine LeO.ite ?_ ?_
      | refine LeO.bind ?_ (fun _ => ?_)
set_option maxHeartbeats 8000000 in
set_option maxRecDepth 100000 in
theorem rowcode_Bag.calls (k : Nat) (A0 : Option Addr) (c0 : Nat) (l0 : List (List (S42))) (r1 : List Int) (r2 : Int) (w : World) (hT : Tabs w) (hr0 : Kd.C (Kd.slice 42 k42) w A0 l0.length l0) (hc0 : l0.length ≤ c0) (h : rowcode_Bag.f k l0 = some (r1, r2)) :
    Calls Tryd.prog 39 #[.slice A0 l0.length c0] w fun e w' => ∃ v0_ : Value, e = .returned (.tuple #[v0_, .int .i64 r2]) ∧ Kd.R (Kd.int .u8) 5 w' w.heap.size (fun _ => True) v0_ r1 ∧ Below w.heap.size w w' := by
  have HT := am hT
  clear hT
  have HR0 := am hr0
  have HC0 := am hc0
  clear hr0 hc0
  have HB := am (Below.refl w.heap.size w)
  have H : (if (l0.length : Int) > 65536 then (some (([] : List Int), 2)) else (rowcode_Bag.l0 k l0 ([] : List (List Int)) l0 (l0.length : Int) 0)) = some (r1, r2) := h
  clear h
  by_cases c2 : (l0.length : Int) > 65536
  · rw [if_pos c2] at H
    have c2b0 : decide (65536 < (l0.length : Int)) = true := decide_eq_true c2
    have c2b1 : decide (65536 < l0.length) = true := decide_eq_true (by omega)
    clear c2
    simp only [Option.some.injEq, Prod.mk.injEq] at H
    obtain ⟨rfl, rfl⟩ := H
    go_enter Tryd.func39, Tryd.ntmps39
    go_wp2
    go_ret2
    exact ⟨_, by rfl, by exact Kd.R_nil _ _ _ _ _, by exact HB.out⟩
  rw [if_neg c2] at H
  have c2b0 : decide (65536 < (l0.length : Int)) = false := decide_eq_false c2
  have c2b1 : decide (65536 < l0.length) = false := decide_eq_false (by omega)
  clear c2
  have H' := am H
  clear H
  go_enter Tryd.func39, Tryd.ntmps39
  go_wp2
  go_loopg [4, 15] k (fun kq v4 v15 w' => ∃ (x4_1 : List (List Int)) (x15_1 : Int), v15 = .int .i64 x15_1 ∧ Aside0 (rowcode_Bag.l0 kq l0 x4_1 l0 (l0.length : Int) x15_1 = some (r1, r2)) ∧ Aside0 (kq ≤ k) ∧ Aside0 (Kd.S (Kd.slice 5 (Kd.int .u8)) 47 w' w.heap.size (fun _ => True) v4 x4_1) ∧ Aside0 (Below w.heap.size w w'))
  case atStart => exact ⟨(([] : List (List Int))), (0), (by rfl), H', ⟨Nat.le_refl _⟩, ⟨by exact Kd.S_nil _ _ _ _ _⟩, ⟨by exact HB.out⟩⟩
  case round =>
    clear H'
    try clear c2b0
    try clear c2b1
    obtain ⟨x4_1, x15_1, rfl, HA, HK1, HO_4, HB⟩ := hrel
    cases gk with
    | zero => exact absurd HA.out (by simp [rowcode_Bag.l0])
    | succ k1 =>
      have H := HA.out
      clear HA
      simp only [rowcode_Bag.l0] at H
      by_cases c3 : x15_1 < (l0.length : Int)
      rotate_left
      · rw [if_neg c3] at H
        have c3b0 := decide_eq_false c3
        clear c3
        obtain ⟨y727, hy727⟩ : ∃ y_ : List Int, y_ = (([((l0.length : Int) / 16777216) % 256, ((l0.length : Int) / 65536) % 256, ((l0.length : Int) / 256) % 256, ((l0.length : Int)) % 256] : List Int)) := ⟨_, rfl⟩
        replace H : ((bytes_Join.f (srt x4_1) ([] : List Int)).bind fun t730 => (if y727.length + t730.length < 140737488355328 then (some ((y727 ++ t730), 0)) else (none))) = some (r1, r2) := by (have H2_ := (Option.bind_some _ _).symm.trans H; rw [hy727]; with_reducible exact H2_)
        have Ny727 := am hy727
        clear hy727
        replace H := Option.bind_eq_some_iff.mp H
        obtain ⟨t730, A130, H⟩ := H
        replace H : (if y727.length + t730.length < 140737488355328 then (some ((y727 ++ t730), 0)) else (none)) = some (r1, r2) := H
        have A13 := am A130
        clear A130
        replace H := its H
        obtain ⟨c14, H⟩ := H
        have LMc14 := am c14
        clear c14
        obtain ⟨y733, hy733⟩ : ∃ y_ : List Int, y_ = (y727 ++ t730) := ⟨_, rfl⟩
        replace H : (some (y733, 0)) = some (r1, r2) := by (rw [hy733]; with_reducible exact H)
        have Ny733 := am hy733
        clear hy733
        simp only [Option.some.injEq, Prod.mk.injEq] at H
        obtain ⟨rfl, rfl⟩ := H
        go_wp2_with (first | ((with_reducible refine gate_callee (f := 61) rfl ?_); refine goesL_ (some 33) rfl rfl Tryd.func61 (by kernel_rfl) rfl #[u4, .func (.func 62) #[] #[]] rfl (by (try simp only [List.map_toArray, List.map_cons, List.map_nil]); rfl) ?_; (refine (sort_calls w.heap.size (fun _ => True) u4 x4_1 _ (Kd.S_R HO_4.out) (srt_fact A13.out).1 (srt_fact A13.out).2).mono ?_); rintro e wS ⟨rfl, hR, hg⟩; refine ⟨_, rfl, ?_⟩; have n0_ := am hR; have n1_ := am (pw_below_grown HB.out _ (below_size HB.out) hg (fun k_ hk_ => Kd.R_base hR k_ hk_)); clear HO_4; clear HB; have HO_4 := n0_; have HB := n1_; clear n0_ n1_; clear hR hg) | ((with_reducible refine gate_dst (N := 47) rfl ?_); refine Kd.R_lit (Kd.int .u8) _ 5 ?hg (N := 47) ?hd (xs := ([((l0.length : Int) / 16777216) % 256, ((l0.length : Int) / 65536) % 256, ((l0.length : Int) / 256) % 256, ((l0.length : Int)) % 256] : List Int)) (inner := [.int .u8 (((l0.length : Int) / 16777216) % 256), .int .u8 (((l0.length : Int) / 65536) % 256), .int .u8 (((l0.length : Int) / 256) % 256), .int .u8 (((l0.length : Int)) % 256)]) (ok := fun _ => True) (okp := fun _ => True) ?hr ?hp (fun _ hk => hk) trivial (Below.refl _ _) (Nat.le_refl _) (by simp) ?_; (case hd => rfl); (case hg => rfl); (case hr => (go_simp; done)); (case hp => exact (Reps.one (show Kd.M (Kd.int .u8) _ _ _ (((l0.length : Int) / 16777216) % 256) [.int .u8 (((l0.length : Int) / 16777216) % 256)] from rfl) (Reps.one (show Kd.M (Kd.int .u8) _ _ _ (((l0.length : Int) / 65536) % 256) [.int .u8 (((l0.length : Int) / 65536) % 256)] from rfl) (Reps.one (show Kd.M (Kd.int .u8) _ _ _ (((l0.length : Int) / 256) % 256) [.int .u8 (((l0.length : Int) / 256) % 256)] from rfl) (Reps.one (show Kd.M (Kd.int .u8) _ _ _ (((l0.length : Int)) % 256) [.int .u8 (((l0.length : Int)) % 256)] from rfl) (Reps.none _ _)))))); intro v728 w15 ho16 hb hg_ hnew_; clear hg_ hnew_; (rw [← Ny727.out] at ho16); replace HO_4 := am (Kd.R_below HO_4.out hb); have HO729 := am (Kd.R_lower ho16 (below_size HB.out)); replace HB := am (below_step HB.out hb); clear hb ho16) | ((with_reducible refine gate_callee (f := 63) rfl ?_); refine goesL_ (some 49) rfl rfl Tryd.func63 (by kernel_rfl) rfl #[u4, .slice none 0 0] rfl (by (try simp only [List.map_toArray, List.map_cons, List.map_nil]); rfl) ?_; (refine (bytes_Join.calls w.heap.size (fun _ => True) u4 (srt x4_1) t730 _ HO_4.out A13.out).mono ?_); rintro e w18 ⟨AJ, cJ, rfl, hlJ, hCJ, hb⟩; refine ⟨_, rfl, ?_⟩; have n1_ := am (Kd.R_below HO729.out hb); have n2_ := am hCJ; have n3_ := am (below_step HB.out hb); clear HO_4; clear HO729; clear HB; have HO729 := n1_; have HCJ := n2_; have HB := n3_; clear n1_ n2_ n3_; clear hb hCJ) | ((with_reducible refine gate_builtin (b := .append) (xs := #[.tmp 47, .tmp 49]) rfl ?_); at_builtin; refine Kd.R_append_rows (Kd.int .u8) (w0 := w) w.heap.size rfl (.tmp 47) (.tmp 49) 47 5 (.int .u8 0) 1 rfl Tryd.underlying47 info5 rfl (by decide) (by omega) v728 y727 t730 _ _ _ (fun _ => True) (fun _ => False) rfl rfl ?aO ?aR (fun _ _ h => h) (fun _ h => h.elim) ?aF ?aB ?aS ?aL ?_; (case aR => exact HCJ.out); (case aB => exact HB.out); (case aF => exact fun _ _ => trivial); (case aO => exact HO729.out); (case aS => exact (below_size HB.out)); (case aL => have := LMc14.out; omega); intro v734 w19 ho hb hg hat; rw [← Ny733.out] at ho; have n2_ := am hb; have n3_ := am ho; clear HO729; clear HB; have HB := n2_; have HO735 := n3_; clear n2_ n3_; clear ho hb hg hat))
        go_ret2
        exact ⟨_, by rfl, by exact Kd.R_mono HO735.out (fun _ hk => trivial), by exact HB.out⟩
      rw [if_pos c3] at H
      have c3b0 := decide_eq_true c3
      clear c3
      replace H := its H
      obtain ⟨c4, H⟩ := H
      have c4b0 := decide_eq_true c4
      clear c4
      replace H := its H
      obtain ⟨c5, H⟩ := H
      have c5b0 := decide_eq_true c5
      clear c5
      replace H := Option.bind_eq_some_iff.mp H
      obtain ⟨⟨t720, t721⟩, A60, H⟩ := H
      replace H : (if t721 = 0 then (if x4_1.length < 5864062014805 then (rowcode_Bag.l0 k1 l0 (x4_1 ++ [t720]) l0 (l0.length : Int) (wrap64 (x15_1 + 1))) else (none)) else (some (([] : List Int), t721))) = some (r1, r2) := H
      have A6 := am A60
      clear A60
      by_cases c7 : t721 = 0
      rotate_left
      · rw [if_neg c7] at H
        have c7b0 : (t721 == 0) = false := beq_eq_false_iff_ne.mpr c7
        have c7b1 : (t721 != 0) = true := bne_iff_ne.mpr c7
        simp only [Option.some.injEq, Prod.mk.injEq] at H
        obtain ⟨rfl, rfl⟩ := H
        have p719 : 0 ≤ (x15_1 : Int) := of_decide_eq_true (by assumption)
        have q719 : x15_1 < (l0.length : Int) := of_decide_eq_true (by assumption)
        obtain ⟨ad719, A719_0, c719_0, e719, hx719_0, hl719_0, hi719_0⟩ := at_L5 HR0.out x15_1 p719 q719
        cases e719
        replace hx719_0 := (HB.out.cell (World.block_lt_of_cell? w _ hx719_0)).trans hx719_0
        have HR719_0 := am hi719_0
        have HC719_0 := am hl719_0
        clear hi719_0 hl719_0
        replace p719 := eq_true p719
        replace q719 := eq_true q719
        go_wp2_with (((with_reducible refine gate_callee (f := 45) rfl ?_); refine goesL_ (some 21) rfl rfl Tryd.func45 (by kernel_rfl) rfl #[.slice A719_0 (rd_L5 l0 x15_1).length c719_0] rfl (by (try simp only [List.map_toArray, List.map_cons, List.map_nil]); rfl) ?_; (with_reducible refine (rowcode_row.calls k1 _ _ (rd_L5 l0 x15_1) t720 t721 _ ?side1 ?side2 ?side3 A6.out).mono ?_); (case side1 => exact Tabs.below HT.out HB.out); (case side2 => exact (Kd.C_below HR719_0.out HB.out)); (case side3 => exact HC719_0.out); rintro e w12 ⟨v722, rfl, ho0, hb⟩; refine ⟨_, rfl, ?_⟩; replace HO_4 := am (Kd.S_elder' HO_4.out (Kd.R_base ho0) hb); have HO723 := am (Kd.R_lower ho0 (below_size HB.out)); replace HB := am (below_step HB.out hb); (try clear hb); (try clear ho0)))
        go_ret2
        exact ⟨_, by rfl, by exact Kd.R_nil _ _ _ _ _, by exact HB.out⟩
      rw [if_pos c7] at H
      have c7b0 : (t721 == 0) = true := beq_iff_eq.mpr c7
      have c7b1 : (t721 != 0) = false := bne_eq_false_iff_eq.mpr c7
      clear c7
      replace H := its H
      obtain ⟨c8, H⟩ := H
      have LMc8 := am c8
      clear c8
      obtain ⟨y724, hy724⟩ : ∃ y_ : List (List Int), y_ = (x4_1 ++ [t720]) := ⟨_, rfl⟩
      replace H : (rowcode_Bag.l0 k1 l0 y724 l0 (l0.length : Int) (wrap64 (x15_1 + 1))) = some (r1, r2) := by (rw [hy724]; with_reducible exact H)
      have Ny724 := am hy724
      clear hy724
      have H' := am H
      clear H
      have p719 : 0 ≤ (x15_1 : Int) := of_decide_eq_true (by assumption)
      have q719 : x15_1 < (l0.length : Int) := of_decide_eq_true (by assumption)
      obtain ⟨ad719, A719_0, c719_0, e719, hx719_0, hl719_0, hi719_0⟩ := at_L5 HR0.out x15_1 p719 q719
      cases e719
      replace hx719_0 := (HB.out.cell (World.block_lt_of_cell? w _ hx719_0)).trans hx719_0
      have HR719_0 := am hi719_0
      have HC719_0 := am hl719_0
      clear hi719_0 hl719_0
      replace p719 := eq_true p719
      replace q719 := eq_true q719
      go_wp2_with (first | ((with_reducible refine gate_callee (f := 45) rfl ?_); refine goesL_ (some 21) rfl rfl Tryd.func45 (by kernel_rfl) rfl #[.slice A719_0 (rd_L5 l0 x15_1).length c719_0] rfl (by (try simp only [List.map_toArray, List.map_cons, List.map_nil]); rfl) ?_; (with_reducible refine (rowcode_row.calls k1 _ _ (rd_L5 l0 x15_1) t720 t721 _ ?side1 ?side2 ?side3 A6.out).mono ?_); (case side1 => exact Tabs.below HT.out HB.out); (case side2 => exact (Kd.C_below HR719_0.out HB.out)); (case side3 => exact HC719_0.out); rintro e w9 ⟨v722, rfl, ho0, hb⟩; refine ⟨_, rfl, ?_⟩; replace HO_4 := am (Kd.S_elder' HO_4.out (Kd.R_base ho0) hb); have HO723 := am (Kd.R_lower ho0 (below_size HB.out)); replace HB := am (below_step HB.out hb); (try clear hb); (try clear ho0); obtain ⟨Ao11, co11, eo11⟩ := Kd.R_slice HO723.out; subst eo11) | ((with_reducible refine gate_builtin (b := .append) (xs := #[.tmp 27, .tmp 29]) rfl ?_); at_builtin; refine Kd.S_append (Kd.slice 5 (Kd.int .u8)) (w0 := w) w.heap.size rfl (.tmp 27) (.tmp 29) 87 47 (.slice none 0 0) 24 rfl Tryd.underlying87 info47 rfl (by decide) (by omega) u4 x4_1 t720 [.slice Ao11 t720.length co11] (fun _ => True) (fun k_ => some k_ = (.slice Ao11 t720.length co11 : Value).ownBlock) rfl rfl ?aP (fun k_ hk_ => ((Kd.R_mono (ok' := fun k_ => ((fun _ => True)) k_ ∧ some k_ ≠ (u4 : Value).ownBlock) (Kd.R_apart' (HO723.out) (Kd.S_typed HO_4.out) (by decide)) (fun k_ hk => ⟨trivial, hk.2⟩))).1 k_ hk_.symm) ?aF ?aO ?aB ?aS ?aL ?_; (case aP => exact Kd.M_row (Kd.R_mono (Kd.R_tight rfl (Kd.R_mono (ok' := fun k_ => ((fun _ => True)) k_ ∧ some k_ ≠ (u4 : Value).ownBlock) (Kd.R_apart' (HO723.out) (Kd.S_typed HO_4.out) (by decide)) (fun k_ hk => ⟨trivial, hk.2⟩))) (fun _ h_ => h_))); (case aB => exact HB.out); (case aF => exact (fun _ _ => trivial)); (case aO => exact (by exact Kd.S_mono HO_4.out (fun k_ hk => ⟨trivial, fun e_ => hk.2 e_⟩))); (case aS => exact (below_size HB.out)); (case aL => have := LMc8.out; omega); intro v725 w10 ho hb hg hat; rw [← Ny724.out] at ho; replace HB := am (hb); have HO726 := am (ho); clear HO_4 HO723; clear ho hb hg hat))
      go_roundg k1
      case measure => have := HK1.out; omega
      case rel => exact ⟨(y724), (wrap64 (x15_1 + 1)), (by rfl), H', ⟨by have := HK1.out; omega⟩, ⟨by exact HO726.out⟩, ⟨by exact HB.out⟩⟩
end Go.Proofs.YthghcpeedmconaaDoor.X
end
section
namespace Go.Proofs.YthghcpeedmconaaDoor.X
open Go.RowKit Go.Proofs.YthghcpeedmconaaDoorW.PrintWords Go.Proofs.YthghcpeedmconaaDoorW.PrintLast Go.Proofs.YthghcpeedmconaaDoorW.PrintMore
attribute [local go_sem] max2_int min2_int max_two min_two max_three min_three max_four min_four
set_option linter.unusedVariables false
set_option linter.unusedSimpArgs false
def lockstepref02_less.f (l0 : List Int) (l1 : List Int) : Option (Bool) := some (Op.bytesLess ((strOfNums l0).toList) ((strOfNums l1).toList))
set_option maxHeartbeats 8000000 in
set_option maxRecDepth 100000 in
theorem lockstepref02_less.calls (A0 : Option Addr) (c0 : Nat) (l0 : List Int) (A1 : Option Addr) (c1 : Nat) (l1 : List Int) (r : Bool) (w : World) (hr0 : Kd.C (Kd.int .u8) w A0 l0.length l0) (hc0 : l0.length ≤ c0) (hr1 : Kd.C (Kd.int .u8) w A1 l1.length l1) (hc1 : l1.length ≤ c1) (h : lockstepref02_less.f l0 l1 = some r) :
  Calls Tryd.prog 65 #[.slice A0 l0.length c0, .slice A1 l1.length c1] w fun e w' => e = .returned (.bool r) ∧ Drawn0 w w' := by
 have HR0 := Aside0.mk hr0
 have HC0 := Aside0.mk hc0
 clear hr0 hc0
 have HR1 := Aside0.mk hr1
 have HC1 := Aside0.mk hc1
 clear hr1 hc1
 have H : (some (Op.bytesLess ((strOfNums l0).toList) ((strOfNums l1).toList))) = some r := h
 clear h
 obtain rfl := Option.some.inj H
 have hcv3 := Kd.C_string (P := Tryd.prog) (A := A0) (c := c0) Tryd.underlying47 Tryd.underlying5 Tryd.underlying9 HR0.out
 have hcv4 := Kd.C_string (P := Tryd.prog) (A := A1) (c := c1) Tryd.underlying47 Tryd.underlying5 Tryd.underlying9 HR1.out
 go_enter Tryd.func65, Tryd.ntmps65
 go_wp2
 go_ret
 exact ⟨by first | rfl | (simp; done) | (simp [*]; done), by repeat (first | exact Drawn0.refl _ | apply Drawn0.step)⟩
end Go.Proofs.YthghcpeedmconaaDoor.X
end

/- Part 2 of a claim of this seat: texts merged by a program of the claim's session (wip/bundle.py). -/
import Derived.Test.YthghcpeedmconaaDoorZRr1
import Derived.Lib.Replace
import Derived.Laws.BitsAllLaws
section
namespace Go.Proofs.YthghcpeedmconaaDoor.X
open Go.RowKit Go.Proofs.YthghcpeedmconaaDoorW.PrintWords Go.Proofs.YthghcpeedmconaaDoorW.PrintLast Go.Proofs.YthghcpeedmconaaDoorW.PrintMore
attribute [local go_sem] max2_int min2_int max_two min_two max_three min_three max_four min_four
set_option linter.unusedVariables false
set_option linter.unusedSimpArgs false
mutual
def rowcode_appended.j0 : Nat → List Int → Int → Bool → Int → Int → ByteArray → Option (List Int)
 | 0, _, _, _, _, _, _ => none
 | k + 1, x0, x9, x10, x113000, x113001, x113002 => if x10 = true then ((rowcode_parts.f k x113000 x113001 x113002).bind fun bt113 => ((some (([2, (bt113.1 / 256) % 256, (bt113.1) % 256] : List Int) : List Int)).bind fun y115 => (if x0.length + y115.length < 140737488355328 then (rowcode_appended.l0 k (x0 ++ y115) bt113.2 56 x113000 x113001 x113002) else (none)))) else (if x9 = 3 then (if x0.length < 140737488355328 then ((some (x0 ++ [3] : List Int)).bind fun y127 => ((strings_ReplaceAll.f x113002 (⟨#[0]⟩ : ByteArray) (⟨#[0, 255]⟩ : ByteArray)).bind fun t130 => (if y127.length + t130.size < 140737488355328 then ((some (y127 ++ bytesOf t130 : List Int)).bind fun y131 => ((some (([0, 0] : List Int) : List Int)).bind fun y134 => (if y131.length + y134.length < 140737488355328 then (some (y131 ++ y134)) else (none)))) else (none)))) else (none)) else (if x9 = 4 then ((some (([4, (x113001) % 256] : List Int) : List Int)).bind fun y140 => (if x0.length + y140.length < 140737488355328 then (some (x0 ++ y140)) else (none))) else (if x0.length < 140737488355328 then (some (x0 ++ [1])) else (none))))
def rowcode_appended.l0 : Nat → List Int → Int → Int → Int → Int → ByteArray → Option (List Int)
 | 0, _, _, _, _, _, _ => none
 | k + 1, x0, x6, x7, x113000, x113001, x113002 => if x7 ≥ 0 then (if 0 ≤ x7 then (if x0.length < 140737488355328 then (rowcode_appended.l0 k (x0 ++ [(shr .u64 x6 x7) % 256]) x6 (wrap64 (x7 - 8)) x113000 x113001 x113002) else (none)) else (none)) else (if x0.length < 140737488355328 then (some (x0 ++ [(x113000) % 256])) else (none))
end
def rowcode_appended.f (k : Nat) (l0 : List Int) (a1_0 : Int) (a1_1 : Int) (a1_2 : ByteArray) : Option (List Int) := if a1_0 = 1 then (rowcode_appended.j0 k l0 a1_0 (a1_0 == 1) a1_0 a1_1 a1_2) else (rowcode_appended.j0 k l0 a1_0 (a1_0 == 2) a1_0 a1_1 a1_2)
def rowcode_appended.T12 : Bool × List (List Nat × List Nat) := (true, [([], []), ([], []), ([0, 1], [0, 1]), ([], []), ([3], [3]), ([4, 2], [4]), ([2, 5, 5], [2, 5]), ([6, 6, 0, 1, 2, 3, 4, 5, 6], [0, 6])])
def rowcode_appended.B12 : List Nat := [0, 0, 3, 0, 8, 31, 63, 127]
theorem rowcode_appended.tab12 : rtab .any (opsOf Tryd.f48 12) = rowcode_appended.T12 := by kernel_rfl
theorem rowcode_appended.bits12 : waitsOk rowcode_appended.T12.2 rowcode_appended.B12 = true := by kernel_rfl
theorem rowcode_appended.mono_l : ∀ k, (∀ y0 y1 y2 y3 y4 y5, LeO (rowcode_appended.j0 k y0 y1 y2 y3 y4 y5) (rowcode_appended.j0 (k + 1) y0 y1 y2 y3 y4 y5)) ∧ (∀ y0 y1 y2 y3 y4 y5, LeO (rowcode_appended.l0 k y0 y1 y2 y3 y4 y5) (rowcode_appended.l0 (k + 1) y0 y1 y2 y3 y4 y5))
 | 0 => ⟨fun _ _ _ _ _ _ r h => by simp [rowcode_appended.j0] at h, fun _ _ _ _ _ _ r h => by simp [rowcode_appended.l0] at h⟩
 | k + 1 => by
  obtain ⟨ih0, ih1⟩ := rowcode_appended.mono_l k
  refine ⟨?_, ?_⟩
  ·
   intro y0 y1 y2 y3 y4 y5
   unfold rowcode_appended.j0
   repeat' first
   | (with_reducible exact ih0 _ _ _ _ _ _)
   | (with_reducible exact ih1 _ _ _ _ _ _)
   | (with_reducible exact rowcode_parts.mono _ _ _ _)
   | (with_reducible exact LeO.refl _)
   | (with_reducible exact LeO.none _)
   | (with_reducible refine LeO.ite ?_ ?_)
   | (with_reducible refine LeO.bind ?_ (fun _ => ?_))
   | exact ih0 _ _ _ _ _ _
   | exact ih1 _ _ _ _ _ _
   | exact rowcode_parts.mono _ _ _ _
   | exact LeO.none _
   | refine LeO.ite ?_ ?_
   | refine LeO.bind ?_ (fun _ => ?_)
  ·
   intro y0 y1 y2 y3 y4 y5
   unfold rowcode_appended.l0
   repeat' first
   | (with_reducible exact ih0 _ _ _ _ _ _)
   | (with_reducible exact ih1 _ _ _ _ _ _)
   | (with_reducible exact rowcode_parts.mono _ _ _ _)
   | (with_reducible exact LeO.refl _)
   | (with_reducible exact LeO.none _)
   | (with_reducible refine LeO.ite ?_ ?_)
   | (with_reducible refine LeO.bind ?_ (fun _ => ?_))
   | exact ih0 _ _ _ _ _ _
   | exact ih1 _ _ _ _ _ _
   | exact rowcode_parts.mono _ _ _ _
   | exact LeO.none _
   | refine LeO.ite ?_ ?_
   | refine LeO.bind ?_ (fun _ => ?_)
theorem rowcode_appended.mono : ∀ a0 a1 a2 a3 k, LeO (rowcode_appended.f k a0 a1 a2 a3) (rowcode_appended.f (k + 1) a0 a1 a2 a3) := by
 intro a0 a1 a2 a3 k
 obtain ⟨ih0, ih1⟩ := rowcode_appended.mono_l k
 unfold rowcode_appended.f
 repeat' first
   | (with_reducible exact ih0 _ _ _ _ _ _)
   | (with_reducible exact ih1 _ _ _ _ _ _)
   | (with_reducible exact rowcode_parts.mono _ _ _ _)
   | (with_reducible exact LeO.refl _)
   | (with_reducible exact LeO.none _)
   | (with_reducible refine LeO.ite ?_ ?_)
   | (with_reducible refine LeO.bind ?_ (fun _ => ?_))
   | exact ih0 _ _ _ _ _ _
   | exact ih1 _ _ _ _ _ _
   | exact rowcode_parts.mono _ _ _ _
   | exact LeO.none _
   | refine LeO.ite ?_ ?_
   | refine LeO.bind ?_ (fun _ => ?_)
set_option maxHeartbeats 8000000 in
set_option maxRecDepth 100000 in
theorem rowcode_appended.calls (k : Nat) (P0_ : Nat → Prop) (u9000_ : Value) (l0 : List Int) (a1_0 : Int) (a1_1 : Int) (a1_2 : ByteArray) (r : List Int) (w0 w : World) (hT : Tabs w0) (hB : Below w0.heap.size w0 w) (ho0 : Kd.R (Kd.int .u8) 5 w w0.heap.size P0_ u9000_ l0) (h : rowcode_appended.f k l0 a1_0 a1_1 a1_2 = some r) :
  Calls Tryd.prog 48 #[u9000_, .agg #[.int .i64 a1_0, .int .i64 a1_1, .string a1_2]] w fun e w' => ∃ v0_ : Value, e = .returned (v0_) ∧ Kd.R (Kd.int .u8) 5 w' w0.heap.size (fun k_ => (P0_ k_ ∨ w.heap.size ≤ k_)) v0_ r ∧ Below w0.heap.size w0 w' ∧ Kept w w' (fun k_ => P0_ k_) := by
 have hu42 := Tryd.underlying42
 have HT := am hT
 clear hT
 have HO0 := am (show Kd.R (Kd.int .u8) 5 w w0.heap.size (fun k_ => (P0_ k_ ∨ w.heap.size ≤ k_)) u9000_ l0 from Kd.R_mono ho0 (fun k_ hk => (.inl hk)))
 have HK := am (Kept.refl w (fun k_ => P0_ k_))
 have HW0 := am hB.size
 have HB := am hB
 clear hB
 have H : (if a1_0 = 1 then (rowcode_appended.j0 k l0 a1_0 (a1_0 == 1) a1_0 a1_1 a1_2) else (rowcode_appended.j0 k l0 a1_0 (a1_0 == 2) a1_0 a1_1 a1_2)) = some r := h
 clear h
 have HC3 := am H
 clear H
 go_enter Tryd.func48, Tryd.ntmps48
 go_upto_if 10 with (((with_reducible refine gate_dst (N := 3) rfl ?_); refine box_event ?hg (N := 3) ?hd (cs := #[.int .i64 a1_0, .int .i64 a1_1, .string a1_2]) (t := 42) ?hr ?_; (case hd => rfl); (case hg => rfl); (case hr => (go_simp; done)); intro gb112 hg w4 hbox hb; replace HO0 := am (Kd.R_below HO0.out hb); have BK112 := am (hbox); have GW112 := am ((by rw [hg]; exact (by exact HK.out.1) : w.heap.size ≤ gb112)); replace HK := am (Kept.below (S := (fun k_ => P0_ k_)) HK.out hb); have GE112 := am ((by rw [hg]; exact (below_size HB.out) : w0.heap.size ≤ gb112)); replace HB := am (below_step HB.out hb); clear hb hbox hg; have hcz5_0 : w4.cell? ⟨gb112, 0, none⟩ = some (.int .i64 a1_0) := (blk_cell BK112.out 0).trans rfl; have hcz5_1 : w4.cell? ⟨gb112, 1, none⟩ = some (.int .i64 a1_1) := (blk_cell BK112.out 1).trans rfl; have hcz5_2 : w4.cell? ⟨gb112, 2, none⟩ = some (.string a1_2) := (blk_cell BK112.out 2).trans rfl; have hfz5_0 := blk_frozen BK112.out 0; have hfz5_1 := blk_frozen BK112.out 1; have hfz5_2 := blk_frozen BK112.out 2))
 go_cut [10] (fun v10 wc => ∃ (kq : Nat) (x10_2 : Bool), v10 = .bool x10_2 ∧ Aside0 (rowcode_appended.j0 kq l0 a1_0 x10_2 a1_0 a1_1 a1_2 = some r) ∧ Aside0 (kq ≤ k) ∧ Aside0 (Kd.R (Kd.int .u8) 5 wc w0.heap.size (fun k_ => (P0_ k_ ∨ w.heap.size ≤ k_)) u9000_ l0) ∧ Aside0 (wc.heap[gb112]? = some (.cells #[.int .i64 a1_0, .int .i64 a1_1, .string a1_2] 42 (0, 0))) ∧ Aside0 (Kept w wc (fun k_ => P0_ k_)) ∧ Aside0 (Below w0.heap.size w0 wc))
 case first =>
  have H := HC3.out
  clear HC3
  by_cases c6 : a1_0 = 1
  rotate_left
  ·
   rw [if_neg c6] at H
   have c6b0 : (a1_0 == 1) = false := beq_eq_false_iff_ne.mpr c6
   have c6b1 : (a1_0 != 1) = true := bne_iff_ne.mpr c6
   (rw [c6b0])
   have H' := am H
   clear H
   go_wp2
   go_meet
   case rel => exact ⟨_, ((a1_0 == 2)), (by with_reducible rfl), H', ⟨by omega⟩, ⟨by exact HO0.out⟩, ⟨by exact BK112.out⟩, ⟨by exact HK.out⟩, ⟨by exact HB.out⟩⟩
  rw [if_pos c6] at H
  have c6b0 : (a1_0 == 1) = true := beq_iff_eq.mpr c6
  have c6b1 : (a1_0 != 1) = false := bne_eq_false_iff_eq.mpr c6
  clear c6
  (rw [c6b0])
  have H' := am H
  clear H
  go_wp2
  go_meet
  case rel => exact ⟨_, ((a1_0 == 1)), (by (simp [*]; done)), H', ⟨by omega⟩, ⟨by exact HO0.out⟩, ⟨by exact BK112.out⟩, ⟨by exact HK.out⟩, ⟨by exact HB.out⟩⟩
 case rest =>
  clear HC3
  (try clear hcz5_0); (try clear hcz5_1); (try clear hcz5_2); (try clear hfz5_0); (try clear hfz5_1); (try clear hfz5_2)
  obtain ⟨kq, x10_2, rfl, HA, HJ2, HO_0, BK112, HK, HB⟩ := hcut
  cases kq with
  | zero => exact absurd HA.out (by simp [rowcode_appended.j0])
  | succ kj2 =>
   have H := HA.out
   clear HA
   simp only [rowcode_appended.j0] at H
   by_cases c7 : x10_2 = true
   ·
    subst c7
    have H1 : ((rowcode_parts.f kj2 a1_0 a1_1 a1_2).bind fun bt113 => ((some (([2, (bt113.1 / 256) % 256, (bt113.1) % 256] : List Int) : List Int)).bind fun y115 => (if l0.length + y115.length < 140737488355328 then (rowcode_appended.l0 kj2 (l0 ++ y115) bt113.2 56 a1_0 a1_1 a1_2) else (none)))) = some r := by rw [if_pos rfl] at H; exact H
    clear H
    have H := H1
    clear H1
    replace H := Option.bind_eq_some_iff.mp H
    obtain ⟨⟨t113, t114⟩, A80, H⟩ := H
    replace H : ((some (([2, (t113 / 256) % 256, (t113) % 256] : List Int) : List Int)).bind fun y115 => (if l0.length + y115.length < 140737488355328 then (rowcode_appended.l0 kj2 (l0 ++ y115) t114 56 a1_0 a1_1 a1_2) else (none))) = some r := H
    have A8 := am A80
    clear A80
    obtain ⟨y115, hy115⟩ : ∃ y_ : List Int, y_ = (([2, (t113 / 256) % 256, (t113) % 256] : List Int)) := ⟨_, rfl⟩
    replace H : (if l0.length + y115.length < 140737488355328 then (rowcode_appended.l0 kj2 (l0 ++ y115) t114 56 a1_0 a1_1 a1_2) else (none)) = some r := by (have H2_ := (Option.bind_some _ _).symm.trans H; rw [hy115]; with_reducible exact H2_)
    have Ny115 := am hy115
    clear hy115
    replace H := its H
    obtain ⟨c9, H⟩ := H
    have LMc9 := am c9
    clear c9
    obtain ⟨y118, hy118⟩ : ∃ y_ : List Int, y_ = (l0 ++ y115) := ⟨_, rfl⟩
    replace H : (rowcode_appended.l0 kj2 y118 t114 56 a1_0 a1_1 a1_2) = some r := by (rw [hy118]; with_reducible exact H)
    have Ny118 := am hy118
    clear hy118
    have H' := am H
    clear H
    have hcz10_0 : wc.cell? ⟨gb112, 0, none⟩ = some (.int .i64 a1_0) := (blk_cell BK112.out 0).trans rfl
    have hcz10_1 : wc.cell? ⟨gb112, 1, none⟩ = some (.int .i64 a1_1) := (blk_cell BK112.out 1).trans rfl
    have hcz10_2 : wc.cell? ⟨gb112, 2, none⟩ = some (.string a1_2) := (blk_cell BK112.out 2).trans rfl
    have hfz10_0 := blk_frozen BK112.out 0
    have hfz10_1 := blk_frozen BK112.out 1
    have hfz10_2 := blk_frozen BK112.out 2
    go_wp2_with (first | ((with_reducible refine gate_callee (f := 67) rfl ?_); refine goesL_ (some 15) rfl rfl Tryd.func67 (by kernel_rfl) rfl #[.agg #[.int .i64 a1_0, .int .i64 a1_1, .string a1_2]] rfl (by (try simp only [List.map_toArray, List.map_cons, List.map_nil]); rfl) ?_; (with_reducible refine (rowcode_parts.calls kj2 a1_0 a1_1 a1_2 t113 t114 _ A8.out).mono ?_); rintro e w11 ⟨rfl, hb⟩; refine ⟨_, rfl, ?_⟩; replace HO_0 := am (Kd.R_below HO_0.out hb); replace BK112 := am (blk_below (g := gb112) (o := .cells #[.int .i64 a1_0, .int .i64 a1_1, .string a1_2] 42 (0, 0)) (by exact BK112.out) hb); replace HK := am (Kept.below (S := (fun k_ => P0_ k_)) HK.out hb); replace HB := am (below_step HB.out hb); (try clear hb)) | ((with_reducible refine gate_dst (N := 24) rfl ?_); refine Kd.R_lit (Kd.int .u8) _ 5 ?hg (N := 24) ?hd (xs := ([2, (t113 / 256) % 256, (t113) % 256] : List Int)) (inner := [.int .u8 2, .int .u8 ((t113 / 256) % 256), .int .u8 ((t113) % 256)]) (ok := fun _ => True) (okp := fun _ => True) ?hr ?hp (fun _ hk => hk) trivial (Below.refl _ _) (Nat.le_refl _) (by simp) ?_; (case hd => rfl); (case hg => rfl); (case hr => (go_simp; done)); (case hp => exact (Reps.one (show Kd.M (Kd.int .u8) _ _ _ 2 [.int .u8 2] from rfl) (Reps.one (show Kd.M (Kd.int .u8) _ _ _ ((t113 / 256) % 256) [.int .u8 ((t113 / 256) % 256)] from rfl) (Reps.one (show Kd.M (Kd.int .u8) _ _ _ ((t113) % 256) [.int .u8 ((t113) % 256)] from rfl) (Reps.none _ _))))); intro v116 w12 ho13 hb hg_ hnew_; clear hg_ hnew_; (rw [← Ny115.out] at ho13); have HO117 := am (Kd.R_lower (Kd.R_new' (Kd.R_newM (M := fun k_ => (P0_ k_ ∨ w.heap.size ≤ k_)) ho13 (by exact HK.out.1) (fun k_ h_ => .inr h_)) (Kd.R_lt HO_0.out)) (below_size HB.out)); replace HO_0 := am (Kd.R_elder' HO_0.out (Kd.R_base ho13) hb); replace BK112 := am (blk_below (g := gb112) (o := .cells #[.int .i64 a1_0, .int .i64 a1_1, .string a1_2] 42 (0, 0)) (by exact BK112.out) hb); replace HK := am (Kept.below (S := (fun k_ => P0_ k_)) HK.out hb); replace HB := am (below_step HB.out hb); clear hb ho13; obtain ⟨Ao15, co15, eo15⟩ := Kd.R_slice HO117.out; subst eo15) | ((with_reducible refine gate_builtin (b := .append) (xs := #[.tmp 18, .tmp 24]) rfl ?_); at_builtin; refine Kd.R_append_rows (Kd.int .u8) (w0 := w0) w0.heap.size rfl (.tmp 18) (.tmp 24) 47 5 (.int .u8 0) 1 rfl Tryd.underlying47 info5 rfl (by decide) (by omega) u9000_ l0 y115 _ _ _ (fun k_ => (P0_ k_ ∨ w.heap.size ≤ k_) ∧ some k_ ≠ (.slice Ao15 y115.length co15 : Value).ownBlock) (fun _ => False) rfl rfl ?aO ?aR (fun _ _ h => h) (fun _ h => h.elim) ?aF ?aB ?aS ?aL ?_; (case aR => exact (Kd.R_reads' HO117.out).2.2); (case aB => exact HB.out); (case aF => exact (fun k_ hk => ⟨(.inr (Nat.le_trans (by exact HK.out.1) hk)), Kd.fresh' (Kd.R_lt HO117.out) k_ hk⟩)); (case aO => exact HO_0.out); (case aS => exact (below_size HB.out)); (case aL => have := LMc9.out; omega); intro v119 w14 ho hb hg hat; rw [← Ny118.out] at ho; replace BK112 := am (blk_grown (g := gb112) (o := .cells #[.int .i64 a1_0, .int .i64 a1_1, .string a1_2] 42 (0, 0)) (by exact BK112.out) hg (Kd.R_ne HO_0.out BK112.out (by decide))); replace HO117 := am (Kd.R_after (ok := (fun k_ => (P0_ k_ ∨ w.heap.size ≤ k_))) (by exact Kd.R_mono HO117.out (fun _ hk => ⟨hk.1.1, hk.2⟩)) hg hat); replace HB := am (hb); replace HK := am (Kept.of_grown (S := (fun k_ => P0_ k_)) hg HK.out (fun k_ e_ => (HO_0.out.1 k_ e_).1)); have HO120 := am (ho); clear HO_0; clear ho hb hg hat))
    go_loopg [0, 7] kj2 (fun kq v0 v7 w' => ∃ (x0_2 : List Int) (x7_2 : Int), v7 = .int .i64 x7_2 ∧ Aside0 (rowcode_appended.l0 kq x0_2 t114 x7_2 a1_0 a1_1 a1_2 = some r) ∧ Aside0 (kq ≤ kj2) ∧ Aside0 (Kd.R (Kd.int .u8) 5 w' w0.heap.size (fun k_ => (P0_ k_ ∨ w.heap.size ≤ k_)) v0 x0_2) ∧ Aside0 (w'.heap[gb112]? = some (.cells #[.int .i64 a1_0, .int .i64 a1_1, .string a1_2] 42 (0, 0))) ∧ Aside0 (Kept w w' (fun k_ => P0_ k_)) ∧ Aside0 (Below w0.heap.size w0 w'))
    case atStart => exact ⟨(y118), (56), (by rfl), H', ⟨Nat.le_refl _⟩, ⟨by exact Kd.R_mono HO120.out (fun _ hk => hk.1)⟩, ⟨by exact BK112.out⟩, ⟨by exact HK.out⟩, ⟨by exact HB.out⟩⟩
    case round =>
     clear H'
     (try clear hcz10_0); (try clear hcz10_1); (try clear hcz10_2); (try clear hfz10_0); (try clear hfz10_1); (try clear hfz10_2)
     obtain ⟨x0_2, x7_2, rfl, HA, HK2, HO_0, BK112, HK, HB⟩ := hrel
     cases gk with
     | zero => exact absurd HA.out (by simp [rowcode_appended.l0])
     | succ k2 =>
      have H := HA.out
      clear HA
      simp only [rowcode_appended.l0] at H
      by_cases c16 : x7_2 ≥ 0
      rotate_left
      ·
       rw [if_neg c16] at H
       have c16b0 : decide (0 ≤ x7_2) = false := decide_eq_false c16
       clear c16
       replace H := its H
       obtain ⟨c21, H⟩ := H
       have LMc21 := am c21
       clear c21
       obtain ⟨y124, hy124⟩ : ∃ y_ : List Int, y_ = (x0_2 ++ [(a1_0) % 256]) := ⟨_, rfl⟩
       replace H : (some y124) = some r := by (rw [hy124]; with_reducible exact H)
       have Ny124 := am hy124
       clear hy124
       obtain rfl := Option.some.inj H
       have hcz22_0 : wr.cell? ⟨gb112, 0, none⟩ = some (.int .i64 a1_0) := (blk_cell BK112.out 0).trans rfl
       have hcz22_1 : wr.cell? ⟨gb112, 1, none⟩ = some (.int .i64 a1_1) := (blk_cell BK112.out 1).trans rfl
       have hcz22_2 : wr.cell? ⟨gb112, 2, none⟩ = some (.string a1_2) := (blk_cell BK112.out 2).trans rfl
       have hfz22_0 := blk_frozen BK112.out 0
       have hfz22_1 := blk_frozen BK112.out 1
       have hfz22_2 := blk_frozen BK112.out 2
       go_wp2_with (((with_reducible refine gate_builtin (b := .append) (xs := #[.tmp 37, .tmp 41]) rfl ?_); at_builtin; refine Kd.R_append (Kd.int .u8) (w0 := w0) w0.heap.size rfl (.tmp 37) (.tmp 41) 47 5 (.int .u8 0) 1 rfl Tryd.underlying47 info5 rfl (by decide) (by omega) u0 x0_2 ((a1_0) % 256) [.int .u8 ((a1_0) % 256)] (fun k_ => (P0_ k_ ∨ w.heap.size ≤ k_)) (fun _ => False) rfl rfl ?aP (fun _ hk => hk.elim) ?aF ?aO ?aB ?aS ?aL ?_; (case aP => exact rfl); (case aB => exact HB.out); (case aF => exact (fun k_ hk => (.inr (Nat.le_trans (by exact HK.out.1) hk)))); (case aO => exact HO_0.out); (case aS => exact (below_size HB.out)); (case aL => have := LMc21.out; omega); intro v125 w23 ho hb hg hat; rw [← Ny124.out] at ho; replace BK112 := am (blk_grown (g := gb112) (o := .cells #[.int .i64 a1_0, .int .i64 a1_1, .string a1_2] 42 (0, 0)) (by exact BK112.out) hg (Kd.R_ne HO_0.out BK112.out (by decide))); replace HB := am (hb); replace HK := am (Kept.of_grown (S := (fun k_ => P0_ k_)) hg HK.out (fun k_ e_ => (HO_0.out.1 k_ e_))); have HO126 := am (ho); clear HO_0; clear ho hb hg hat))
       go_ret
       exact ⟨_, by rfl, by exact HO126.out, by exact HB.out, by exact HK.out⟩
      rw [if_pos c16] at H
      have c16b0 : decide (0 ≤ x7_2) = true := decide_eq_true c16
      clear c16
      replace H := its H
      obtain ⟨c17, H⟩ := H
      have c17b0 := eq_true c17
      have c17b1 := decide_eq_true c17
      clear c17
      obtain ⟨ji18, hji18⟩ : ∃ j_ : Int, (shr .u64 t114 x7_2) = j_ := ⟨_, rfl⟩
      replace H : (if x0_2.length < 140737488355328 then (rowcode_appended.l0 k2 (x0_2 ++ [(ji18) % 256]) t114 (wrap64 (x7_2 - 8)) a1_0 a1_1 a1_2) else (none)) = some r := by (rw [hji18] at H; exact H)
      have hji18_ : (t114 / 2 ^ min x7_2.toNat 64) = ji18 := hji18
      have hji18z : x7_2 ≤ 64 → (t114 / 2 ^ x7_2.toNat) = ji18 := shr_small hji18
      replace H := its H
      obtain ⟨c19, H⟩ := H
      have LMc19 := am c19
      clear c19
      obtain ⟨y121, hy121⟩ : ∃ y_ : List Int, y_ = (x0_2 ++ [(ji18) % 256]) := ⟨_, rfl⟩
      replace H : (rowcode_appended.l0 k2 y121 t114 (wrap64 (x7_2 - 8)) a1_0 a1_1 a1_2) = some r := by (rw [hy121]; with_reducible exact H)
      have Ny121 := am hy121
      clear hy121
      have H' := am H
      clear H
      go_wp2_with (((with_reducible refine gate_builtin (b := .append) (xs := #[.tmp 30, .tmp 35]) rfl ?_); at_builtin; refine Kd.R_append (Kd.int .u8) (w0 := w0) w0.heap.size rfl (.tmp 30) (.tmp 35) 47 5 (.int .u8 0) 1 rfl Tryd.underlying47 info5 rfl (by decide) (by omega) u0 x0_2 ((ji18) % 256) [.int .u8 ((ji18) % 256)] (fun k_ => (P0_ k_ ∨ w.heap.size ≤ k_)) (fun _ => False) rfl rfl ?aP (fun _ hk => hk.elim) ?aF ?aO ?aB ?aS ?aL ?_; (case aP => exact rfl); (case aB => exact HB.out); (case aF => exact (fun k_ hk => (.inr (Nat.le_trans (by exact HK.out.1) hk)))); (case aO => exact HO_0.out); (case aS => exact (below_size HB.out)); (case aL => have := LMc19.out; omega); intro v122 w20 ho hb hg hat; rw [← Ny121.out] at ho; replace BK112 := am (blk_grown (g := gb112) (o := .cells #[.int .i64 a1_0, .int .i64 a1_1, .string a1_2] 42 (0, 0)) (by exact BK112.out) hg (Kd.R_ne HO_0.out BK112.out (by decide))); replace HB := am (hb); replace HK := am (Kept.of_grown (S := (fun k_ => P0_ k_)) hg HK.out (fun k_ e_ => (HO_0.out.1 k_ e_))); have HO123 := am (ho); clear HO_0; clear ho hb hg hat))
      go_roundg k2
      case measure => have := HJ2.out; have := HK2.out; omega
      case rel => exact ⟨(y121), (wrap64 (x7_2 - 8)), (by rfl), H', ⟨by have := HJ2.out; have := HK2.out; omega⟩, ⟨by exact HO123.out⟩, ⟨by exact BK112.out⟩, ⟨by exact HK.out⟩, ⟨by exact HB.out⟩⟩
   replace c7 := Bool.eq_false_iff.mpr c7
   subst c7
   have H1 : (if a1_0 = 3 then (if l0.length < 140737488355328 then ((some (l0 ++ [3] : List Int)).bind fun y127 => ((strings_ReplaceAll.f a1_2 (⟨#[0]⟩ : ByteArray) (⟨#[0, 255]⟩ : ByteArray)).bind fun t130 => (if y127.length + t130.size < 140737488355328 then ((some (y127 ++ bytesOf t130 : List Int)).bind fun y131 => ((some (([0, 0] : List Int) : List Int)).bind fun y134 => (if y131.length + y134.length < 140737488355328 then (some (y131 ++ y134)) else (none)))) else (none)))) else (none)) else (if a1_0 = 4 then ((some (([4, (a1_1) % 256] : List Int) : List Int)).bind fun y140 => (if l0.length + y140.length < 140737488355328 then (some (l0 ++ y140)) else (none))) else (if l0.length < 140737488355328 then (some (l0 ++ [1])) else (none)))) = some r := by rw [if_neg (show ¬ (false = true) by decide)] at H; exact H
   clear H
   have H := H1
   clear H1
   by_cases c24 : a1_0 = 3
   rotate_left
   ·
    rw [if_neg c24] at H
    have c24b0 : (a1_0 == 3) = false := beq_eq_false_iff_ne.mpr c24
    have c24b1 : (a1_0 != 3) = true := bne_iff_ne.mpr c24
    by_cases c37 : a1_0 = 4
    rotate_left
    ·
     rw [if_neg c37] at H
     have c37b0 : (a1_0 == 4) = false := beq_eq_false_iff_ne.mpr c37
     have c37b1 : (a1_0 != 4) = true := bne_iff_ne.mpr c37
     replace H := its H
     obtain ⟨c44, H⟩ := H
     have LMc44 := am c44
     clear c44
     obtain ⟨y146, hy146⟩ : ∃ y_ : List Int, y_ = (l0 ++ [1]) := ⟨_, rfl⟩
     replace H : (some y146) = some r := by (rw [hy146]; with_reducible exact H)
     have Ny146 := am hy146
     clear hy146
     obtain rfl := Option.some.inj H
     go_wp2_with (((with_reducible refine gate_builtin (b := .append) (xs := #[.tmp 63, .tmp 64]) rfl ?_); at_builtin; refine Kd.R_append (Kd.int .u8) (w0 := w0) w0.heap.size rfl (.tmp 63) (.tmp 64) 47 5 (.int .u8 0) 1 rfl Tryd.underlying47 info5 rfl (by decide) (by omega) u9000_ l0 1 [.int .u8 1] (fun k_ => (P0_ k_ ∨ w.heap.size ≤ k_)) (fun _ => False) rfl rfl ?aP (fun _ hk => hk.elim) ?aF ?aO ?aB ?aS ?aL ?_; (case aP => exact rfl); (case aB => exact HB.out); (case aF => exact (fun k_ hk => (.inr (Nat.le_trans (by exact HK.out.1) hk)))); (case aO => exact HO_0.out); (case aS => exact (below_size HB.out)); (case aL => have := LMc44.out; omega); intro v147 w45 ho hb hg hat; rw [← Ny146.out] at ho; replace BK112 := am (blk_grown (g := gb112) (o := .cells #[.int .i64 a1_0, .int .i64 a1_1, .string a1_2] 42 (0, 0)) (by exact BK112.out) hg (Kd.R_ne HO_0.out BK112.out (by decide))); replace HB := am (hb); replace HK := am (Kept.of_grown (S := (fun k_ => P0_ k_)) hg HK.out (fun k_ e_ => (HO_0.out.1 k_ e_))); have HO148 := am (ho); clear HO_0; clear ho hb hg hat))
     go_ret
     exact ⟨_, by rfl, by exact HO148.out, by exact HB.out, by exact HK.out⟩
    rw [if_pos c37] at H
    have c37b0 : (a1_0 == 4) = true := beq_iff_eq.mpr c37
    have c37b1 : (a1_0 != 4) = false := bne_eq_false_iff_eq.mpr c37
    clear c37
    obtain ⟨y140, hy140⟩ : ∃ y_ : List Int, y_ = (([4, (a1_1) % 256] : List Int)) := ⟨_, rfl⟩
    replace H : (if l0.length + y140.length < 140737488355328 then (some (l0 ++ y140)) else (none)) = some r := by (have H2_ := (Option.bind_some _ _).symm.trans H; rw [hy140]; with_reducible exact H2_)
    have Ny140 := am hy140
    clear hy140
    replace H := its H
    obtain ⟨c38, H⟩ := H
    have LMc38 := am c38
    clear c38
    obtain ⟨y143, hy143⟩ : ∃ y_ : List Int, y_ = (l0 ++ y140) := ⟨_, rfl⟩
    replace H : (some y143) = some r := by (rw [hy143]; with_reducible exact H)
    have Ny143 := am hy143
    clear hy143
    obtain rfl := Option.some.inj H
    have hcz39_0 : wc.cell? ⟨gb112, 0, none⟩ = some (.int .i64 a1_0) := (blk_cell BK112.out 0).trans rfl
    have hcz39_1 : wc.cell? ⟨gb112, 1, none⟩ = some (.int .i64 a1_1) := (blk_cell BK112.out 1).trans rfl
    have hcz39_2 : wc.cell? ⟨gb112, 2, none⟩ = some (.string a1_2) := (blk_cell BK112.out 2).trans rfl
    have hfz39_0 := blk_frozen BK112.out 0
    have hfz39_1 := blk_frozen BK112.out 1
    have hfz39_2 := blk_frozen BK112.out 2
    go_wp2_with (first | ((with_reducible refine gate_dst (N := 61) rfl ?_); refine Kd.R_lit (Kd.int .u8) _ 5 ?hg (N := 61) ?hd (xs := ([4, (a1_1) % 256] : List Int)) (inner := [.int .u8 4, .int .u8 ((a1_1) % 256)]) (ok := fun _ => True) (okp := fun _ => True) ?hr ?hp (fun _ hk => hk) trivial (Below.refl _ _) (Nat.le_refl _) (by simp) ?_; (case hd => rfl); (case hg => rfl); (case hr => (go_simp; done)); (case hp => exact (Reps.one (show Kd.M (Kd.int .u8) _ _ _ 4 [.int .u8 4] from rfl) (Reps.one (show Kd.M (Kd.int .u8) _ _ _ ((a1_1) % 256) [.int .u8 ((a1_1) % 256)] from rfl) (Reps.none _ _)))); intro v141 w40 ho41 hb hg_ hnew_; clear hg_ hnew_; (rw [← Ny140.out] at ho41); have HO142 := am (Kd.R_lower (Kd.R_new' (Kd.R_newM (M := fun k_ => (P0_ k_ ∨ w.heap.size ≤ k_)) ho41 (by exact HK.out.1) (fun k_ h_ => .inr h_)) (Kd.R_lt HO_0.out)) (below_size HB.out)); replace HO_0 := am (Kd.R_elder' HO_0.out (Kd.R_base ho41) hb); replace BK112 := am (blk_below (g := gb112) (o := .cells #[.int .i64 a1_0, .int .i64 a1_1, .string a1_2] 42 (0, 0)) (by exact BK112.out) hb); replace HK := am (Kept.below (S := (fun k_ => P0_ k_)) HK.out hb); replace HB := am (below_step HB.out hb); clear hb ho41; obtain ⟨Ao43, co43, eo43⟩ := Kd.R_slice HO142.out; subst eo43) | ((with_reducible refine gate_builtin (b := .append) (xs := #[.tmp 57, .tmp 61]) rfl ?_); at_builtin; refine Kd.R_append_rows (Kd.int .u8) (w0 := w0) w0.heap.size rfl (.tmp 57) (.tmp 61) 47 5 (.int .u8 0) 1 rfl Tryd.underlying47 info5 rfl (by decide) (by omega) u9000_ l0 y140 _ _ _ (fun k_ => (P0_ k_ ∨ w.heap.size ≤ k_) ∧ some k_ ≠ (.slice Ao43 y140.length co43 : Value).ownBlock) (fun _ => False) rfl rfl ?aO ?aR (fun _ _ h => h) (fun _ h => h.elim) ?aF ?aB ?aS ?aL ?_; (case aR => exact (Kd.R_reads' HO142.out).2.2); (case aB => exact HB.out); (case aF => exact (fun k_ hk => ⟨(.inr (Nat.le_trans (by exact HK.out.1) hk)), Kd.fresh' (Kd.R_lt HO142.out) k_ hk⟩)); (case aO => exact HO_0.out); (case aS => exact (below_size HB.out)); (case aL => have := LMc38.out; omega); intro v144 w42 ho hb hg hat; rw [← Ny143.out] at ho; replace BK112 := am (blk_grown (g := gb112) (o := .cells #[.int .i64 a1_0, .int .i64 a1_1, .string a1_2] 42 (0, 0)) (by exact BK112.out) hg (Kd.R_ne HO_0.out BK112.out (by decide))); replace HO142 := am (Kd.R_after (ok := (fun k_ => (P0_ k_ ∨ w.heap.size ≤ k_))) (by exact Kd.R_mono HO142.out (fun _ hk => ⟨hk.1.1, hk.2⟩)) hg hat); replace HB := am (hb); replace HK := am (Kept.of_grown (S := (fun k_ => P0_ k_)) hg HK.out (fun k_ e_ => (HO_0.out.1 k_ e_).1)); have HO145 := am (ho); clear HO_0; clear ho hb hg hat))
    go_ret
    exact ⟨_, by rfl, by exact Kd.R_mono HO145.out (fun _ hk => hk.1), by exact HB.out, by exact HK.out⟩
   rw [if_pos c24] at H
   have c24b0 : (a1_0 == 3) = true := beq_iff_eq.mpr c24
   have c24b1 : (a1_0 != 3) = false := bne_eq_false_iff_eq.mpr c24
   clear c24
   replace H := its H
   obtain ⟨c25, H⟩ := H
   have LMc25 := am c25
   clear c25
   obtain ⟨y127, hy127⟩ : ∃ y_ : List Int, y_ = (l0 ++ [3]) := ⟨_, rfl⟩
   replace H : ((strings_ReplaceAll.f a1_2 (⟨#[0]⟩ : ByteArray) (⟨#[0, 255]⟩ : ByteArray)).bind fun t130 => (if y127.length + t130.size < 140737488355328 then ((some (y127 ++ bytesOf t130 : List Int)).bind fun y131 => ((some (([0, 0] : List Int) : List Int)).bind fun y134 => (if y131.length + y134.length < 140737488355328 then (some (y131 ++ y134)) else (none)))) else (none))) = some r := by (have H2_ := (Option.bind_some _ _).symm.trans H; rw [hy127]; with_reducible exact H2_)
   have Ny127 := am hy127
   clear hy127
   replace H := Option.bind_eq_some_iff.mp H
   obtain ⟨t130, A260, H⟩ := H
   replace H : (if y127.length + t130.size < 140737488355328 then ((some (y127 ++ bytesOf t130 : List Int)).bind fun y131 => ((some (([0, 0] : List Int) : List Int)).bind fun y134 => (if y131.length + y134.length < 140737488355328 then (some (y131 ++ y134)) else (none)))) else (none)) = some r := H
   have A26 := am A260
   clear A260
   replace H := its H
   obtain ⟨c27, H⟩ := H
   have LMc27 := am c27
   clear c27
   obtain ⟨y131, hy131⟩ : ∃ y_ : List Int, y_ = (y127 ++ bytesOf t130) := ⟨_, rfl⟩
   replace H : ((some (([0, 0] : List Int) : List Int)).bind fun y134 => (if y131.length + y134.length < 140737488355328 then (some (y131 ++ y134)) else (none))) = some r := by (have H2_ := (Option.bind_some _ _).symm.trans H; rw [hy131]; with_reducible exact H2_)
   have Ny131 := am hy131
   clear hy131
   obtain ⟨y134, hy134⟩ : ∃ y_ : List Int, y_ = (([0, 0] : List Int)) := ⟨_, rfl⟩
   replace H : (if y131.length + y134.length < 140737488355328 then (some (y131 ++ y134)) else (none)) = some r := by (have H2_ := (Option.bind_some _ _).symm.trans H; rw [hy134]; with_reducible exact H2_)
   have Ny134 := am hy134
   clear hy134
   replace H := its H
   obtain ⟨c28, H⟩ := H
   have LMc28 := am c28
   clear c28
   obtain ⟨y137, hy137⟩ : ∃ y_ : List Int, y_ = (y131 ++ y134) := ⟨_, rfl⟩
   replace H : (some y137) = some r := by (rw [hy137]; with_reducible exact H)
   have Ny137 := am hy137
   clear hy137
   obtain rfl := Option.some.inj H
   try go_wp2
   have n0_ := am (Kd.R_drew HO_0.out)
   clear HO_0
   have HO_0 := n0_
   clear n0_
   have n0_ := am (blk_drew BK112.out)
   clear BK112
   have BK112 := n0_
   clear n0_
   have n0_ := am (Kept.drew HK.out)
   clear HK
   have HK := n0_
   clear n0_
   have n0_ := am (below_drew1 HB.out)
   clear HB
   have HB := n0_
   clear n0_
   generalize hw10 : wc.drew = w10 at HO_0 BK112 HK HB
   have hC : ∀ w' : World, w'.heap[gb112]? = some (.cells #[.int .i64 a1_0, .int .i64 a1_1, .string a1_2] 42 (0, 0)) → (w'.cell? ⟨gb112, 2, none⟩ = some (.string a1_2) ∧ w'.frozen? ⟨gb112, 2, none⟩ = false) := fun w' h => ⟨(blk_cell h 2).trans rfl, blk_frozen h 2⟩
   refine start_ (n := 8) (S := fun w' => w'.cell? ⟨gb112, 2, none⟩ = some (.string a1_2) ∧ w'.frozen? ⟨gb112, 2, none⟩ = false) (ds := []) #[false, false, false, false, false, false, false, false] (by kernel_rfl) rfl rfl (hC _ (by rw [hw10]; exact BK112.out)) (fun hHeld => ?_); refine with_tabW rowcode_appended.tab12 rowcode_appended.bits12 (fun HT_ HW_ => ?_)
   rw [hw10] at hHeld ⊢
   refine pu HT_ (v := ?_) (a' := ?_) 0 45 rfl rfl (by kernel_rfl) (fun _ _ _ h => h) (Or.inl ⟨by rfl, ?_⟩) ?_ ?_
   rotate_left
   ·
    intro w'
    go_simp
    with_reducible rfl
   rotate_left
   ·
    simp only [Act.put, sa, sb, sc, i64_w, i32_w]
    rfl
   refine pu HT_ (v := ?_) (a' := ?_) 3 48 rfl rfl (by kernel_rfl) (fun _ _ _ h => h) (Or.inl ⟨by rfl, ?_⟩) ?_ ?_
   rotate_left
   ·
    intro w'
    go_simp
    with_reducible rfl
   rotate_left
   ·
    simp only [Act.put, sa, sb, sc, i64_w, i32_w]
    rfl
   refine take_ (i := 4) (N := some 49) (v := ?_) (a' := ?_) #[true, false, false, true, true, false, false, false] rfl rfl (take_ofW HT_.out HW_.out (by kernel_rfl)) (fun _ _ _ h => h) (Or.inl ⟨by rfl, ?_⟩) hHeld ?_ ?_
   rotate_left
   ·
    rintro w' ⟨s0, s1⟩
    go_simp
    with_reducible rfl
   rotate_left
   ·
    simp only [Act.put, sa, sb, sc, i64_w, i32_w]
    rfl
   refine one_ (i := 1) (N := some 46) #[true, true, false, true, true, false, false, false] rfl rfl (one_of HT_.out (by kernel_rfl)) (by decide) (fun K hK => ?_)
   refine event_step (v := .slice (some ⟨w10.heap.size, 0, none⟩) 1 1) (w1 := w10.alloc (.cells (#[.int .u8 3] : Array Value) 5)) (by rfl) ?hr ?_
   case hr => (go_simp; done)
   refine hK.out _ _ (hC _ (blk_alloc BK112.out _)) (fun hHeld => ?_)
   clear hK K
   refine norm_ (a' := ?_) ?_ ?_
   rotate_left
   ·
    show Act.put _ (some 46) _ = _
    simp only [Act.put, sa, sb, sc, i64_w, i32_w]
    rfl
   refine one_ (i := 2) (N := some 47) #[true, true, true, true, true, false, false, false] rfl rfl (one_of HT_.out (by kernel_rfl)) (by decide) (fun K hK => ?_)
   refine Kd.R_append_step (Kd.int .u8) (w0 := w0) w0.heap.size (by rfl) (.tmp 45) (.tmp 46) 47 5 (.int .u8 0) 1 rfl Tryd.underlying47 info5 rfl (by decide) (by omega) u9000_ l0 3 [.int .u8 3] (fun k_ => (P0_ k_ ∨ w.heap.size ≤ k_)) (fun _ => False) rfl rfl rfl (fun _ hk => hk.elim) (fun k_ hk => .inr (Nat.le_trans HK.out.1 hk)) HO_0.out HB.out (below_size HB.out) (by have := LMc25.out; omega) ?_
   intro v128 w11 ho hb hg hat
   rw [← Ny127.out] at ho
   have n0_ := am (blk_grown (g := gb112) BK112.out hg (Kd.R_ne HO_0.out BK112.out (by decide)))
   clear BK112
   have BK112 := n0_
   clear n0_
   have n1_ := am hb
   clear HB
   have HB := n1_
   clear n1_
   have n0_ := am (Kept.of_grown (S := (fun k_ => P0_ k_)) hg HK.out (fun k_ e_ => (HO_0.out.1 k_ e_)))
   clear HK
   have HK := n0_
   clear n0_
   have HO129 := am ho
   clear HO_0 ho hb hg hat
   refine hK.out _ _ (hC _ BK112.out) (fun hHeld => ?_)
   clear hK K
   refine norm_ (a' := ?_) ?_ ?_
   rotate_left
   ·
    show Act.put _ (some 47) _ = _
    simp only [Act.put, sa, sb, sc, i64_w, i32_w]
    rfl
   refine one_ (i := 5) (N := some 50) #[true, true, true, true, true, true, false, false] rfl rfl (one_of HT_.out (by kernel_rfl)) (by decide) (fun K hK => ?_)
   refine goes_ Tryd.func68 (by kernel_rfl) rfl #[.string a1_2, .string (⟨#[0]⟩ : ByteArray), .string (⟨#[0, 255]⟩ : ByteArray)] (by rfl) rfl rfl (by (try simp only [List.map_toArray, List.map_cons, List.map_nil]); rfl) ?_
   refine (strings_ReplaceAll.calls a1_2 (⟨#[0]⟩ : ByteArray) (⟨#[0, 255]⟩ : ByteArray) t130 _ (Tabs.below HT.out HB.out) A26.out).mono ?_
   rintro e w12 ⟨rfl, hb⟩
   refine ⟨_, rfl, ?_⟩
   have n0_ := am (Kd.R_below HO129.out hb)
   clear HO129
   have HO129 := n0_
   clear n0_
   have n0_ := am (blk_below (g := gb112) BK112.out hb)
   clear BK112
   have BK112 := n0_
   clear n0_
   have n0_ := am (Kept.below (S := (fun k_ => P0_ k_)) HK.out hb)
   clear HK
   have HK := n0_
   clear n0_
   have n0_ := am (below_step HB.out hb)
   clear HB
   have HB := n0_
   clear n0_
   refine hK.out _ _ (hC _ BK112.out) (fun hHeld => ?_)
   clear hK K hb
   refine norm_ (a' := ?_) ?_ ?_
   rotate_left
   ·
    show Act.put _ (some 50) _ = _
    simp only [Act.put, sa, sb, sc, i64_w, i32_w]
    rfl
   refine one_ (i := 6) (N := some 51) #[true, true, true, true, true, true, true, false] rfl rfl (one_of HT_.out (by kernel_rfl)) (by decide) (fun K hK => ?_)
   refine R_append_str_step (w0 := w0) w0.heap.size (by rfl) (.tmp 47) (.tmp 50) rfl v128 y127 t130 (fun k_ => (P0_ k_ ∨ w.heap.size ≤ k_)) rfl rfl HO129.out (fun k_ hk => .inr (Nat.le_trans HK.out.1 hk)) HB.out (below_size HB.out) (by have := LMc27.out; omega) ?_
   intro v132 w13 ho hb hg
   rw [← Ny131.out] at ho
   have n0_ := am (blk_grown (g := gb112) BK112.out hg (Kd.R_ne HO129.out BK112.out (by decide)))
   clear BK112
   have BK112 := n0_
   clear n0_
   have n1_ := am hb
   clear HB
   have HB := n1_
   clear n1_
   have n0_ := am (Kept.of_grown (S := (fun k_ => P0_ k_)) hg HK.out (fun k_ e_ => (HO129.out.1 k_ e_)))
   clear HK
   have HK := n0_
   clear n0_
   have HO133 := am ho
   clear HO129 ho hb hg
   refine hK.out _ _ (hC _ BK112.out) (fun hHeld => ?_)
   clear hK K
   refine norm_ (a' := ?_) ?_ ?_
   rotate_left
   ·
    show Act.put _ (some 51) _ = _
    simp only [Act.put, sa, sb, sc, i64_w, i32_w]
    rfl
   refine pu HT_ (v := ?_) (a' := ?_) 7 0 rfl rfl (by kernel_rfl) (fun _ _ _ h => h) (Or.inl ⟨by rfl, ?_⟩) ?_ ?_
   rotate_left
   ·
    intro w'
    go_simp
    with_reducible rfl
   rotate_left
   ·
    simp only [Act.put, sa, sb, sc, i64_w, i32_w]
    rfl
   refine done_ (done_of HT_.out (by kernel_rfl)) ?_
   go_wp2_with (first | ((with_reducible refine gate_dst (N := 53) rfl ?_); refine Kd.R_lit (Kd.int .u8) _ 5 ?hg (N := 53) ?hd (xs := ([0, 0] : List Int)) (inner := [.int .u8 0, .int .u8 0]) (ok := fun _ => True) (okp := fun _ => True) ?hr ?hp (fun _ hk => hk) trivial (Below.refl _ _) (Nat.le_refl _) (by simp) ?_; (case hd => rfl); (case hg => rfl); (case hr => (go_simp; done)); (case hp => exact (Reps.one (show Kd.M (Kd.int .u8) _ _ _ 0 [.int .u8 0] from rfl) (Reps.one (show Kd.M (Kd.int .u8) _ _ _ 0 [.int .u8 0] from rfl) (Reps.none _ _)))); intro v135 w33 ho34 hb hg_ hnew_; clear hg_ hnew_; (rw [← Ny134.out] at ho34); have HO136 := am (Kd.R_lower (Kd.R_new' (Kd.R_newM (M := fun k_ => (P0_ k_ ∨ w.heap.size ≤ k_)) ho34 (by exact HK.out.1) (fun k_ h_ => .inr h_)) (Kd.R_lt HO133.out)) (below_size HB.out)); replace HO133 := am (Kd.R_elder' HO133.out (Kd.R_base ho34) hb); replace BK112 := am (blk_below (g := gb112) (o := .cells #[.int .i64 a1_0, .int .i64 a1_1, .string a1_2] 42 (0, 0)) (by exact BK112.out) hb); replace HK := am (Kept.below (S := (fun k_ => P0_ k_)) HK.out hb); replace HB := am (below_step HB.out hb); clear hb ho34; obtain ⟨Ao36, co36, eo36⟩ := Kd.R_slice HO136.out; subst eo36) | ((with_reducible refine gate_builtin (b := .append) (xs := #[.tmp 52, .tmp 53]) rfl ?_); at_builtin; refine Kd.R_append_rows (Kd.int .u8) (w0 := w0) w0.heap.size rfl (.tmp 52) (.tmp 53) 47 5 (.int .u8 0) 1 rfl Tryd.underlying47 info5 rfl (by decide) (by omega) v132 y131 y134 _ _ _ (fun k_ => (P0_ k_ ∨ w.heap.size ≤ k_) ∧ some k_ ≠ (.slice Ao36 y134.length co36 : Value).ownBlock) (fun _ => False) rfl rfl ?aO ?aR (fun _ _ h => h) (fun _ h => h.elim) ?aF ?aB ?aS ?aL ?_; (case aR => exact (Kd.R_reads' HO136.out).2.2); (case aB => exact HB.out); (case aF => exact (fun k_ hk => ⟨(.inr (Nat.le_trans (by exact HK.out.1) hk)), Kd.fresh' (Kd.R_lt HO136.out) k_ hk⟩)); (case aO => exact HO133.out); (case aS => exact (below_size HB.out)); (case aL => have := LMc28.out; omega); intro v138 w35 ho hb hg hat; rw [← Ny137.out] at ho; replace BK112 := am (blk_grown (g := gb112) (o := .cells #[.int .i64 a1_0, .int .i64 a1_1, .string a1_2] 42 (0, 0)) (by exact BK112.out) hg (Kd.R_ne HO133.out BK112.out (by decide))); replace HO136 := am (Kd.R_after (ok := (fun k_ => (P0_ k_ ∨ w.heap.size ≤ k_))) (by exact Kd.R_mono HO136.out (fun _ hk => ⟨hk.1.1, hk.2⟩)) hg hat); replace HB := am (hb); replace HK := am (Kept.of_grown (S := (fun k_ => P0_ k_)) hg HK.out (fun k_ e_ => (HO133.out.1 k_ e_).1)); have HO139 := am (ho); clear HO133; clear ho hb hg hat))
   go_ret
   exact ⟨_, by rfl, by exact Kd.R_mono HO139.out (fun _ hk => hk.1), by exact HB.out, by exact HK.out⟩
def rowcode_row.l0 : Nat → List Int → List (S42) → Int → Int → Option (List Int × Int)
 | 0, _, _, _, _ => none
 | k + 1, x4, x11, x12, x13 => if x13 < x12 then (if 0 ≤ x13 then (if x13 < (x11.length : Int) then ((value_Check.f k ((rd_T42 x11 x13).f0) ((rd_T42 x11 x13).f1) ((rd_T42 x11 x13).f2)).bind fun t154 => (if t154 = 0 then ((rowcode_appended.f k x4 ((rd_T42 x11 x13).f0) ((rd_T42 x11 x13).f1) ((rd_T42 x11 x13).f2)).bind fun t155 => (rowcode_row.l0 k t155 x11 x12 (wrap64 (x13 + 1)))) else (some (([] : List Int), t154)))) else (none)) else (none)) else (if x4.length < 140737488355328 then (some ((x4 ++ [0]), 0)) else (none))
def rowcode_row.f (k : Nat) (l0 : List (S42)) : Option (List Int × Int) := if (l0.length : Int) > 16 then (some (([] : List Int), 2)) else (rowcode_row.l0 k ([] : List Int) l0 (l0.length : Int) 0)
theorem rowcode_row.mono_l : ∀ k, (∀ y0 y1 y2 y3, LeO (rowcode_row.l0 k y0 y1 y2 y3) (rowcode_row.l0 (k + 1) y0 y1 y2 y3))
 | 0 => fun _ _ _ _ r h => by simp [rowcode_row.l0] at h
 | k + 1 => by
  have ih0 := rowcode_row.mono_l k
  ·
   intro y0 y1 y2 y3
   unfold rowcode_row.l0
   repeat' first
   | (with_reducible exact ih0 _ _ _ _)
   | (with_reducible exact rowcode_appended.mono _ _ _ _ _)
   | (with_reducible exact value_Check.mono _ _ _ _)
   | (with_reducible exact LeO.refl _)
   | (with_reducible exact LeO.none _)
   | (with_reducible refine LeO.ite ?_ ?_)
   | (with_reducible refine LeO.bind ?_ (fun _ => ?_))
   | exact ih0 _ _ _ _
   | exact rowcode_appended.mono _ _ _ _ _
   | exact value_Check.mono _ _ _ _
   | exact LeO.none _
   | refine LeO.ite ?_ ?_
   | refine LeO.bind ?_ (fun _ => ?_)
theorem rowcode_row.mono : ∀ a0 k, LeO (rowcode_row.f k a0) (rowcode_row.f (k + 1) a0) := by
 intro a0 k
 have ih0 := rowcode_row.mono_l k
 unfold rowcode_row.f
 repeat' first
   | (with_reducible exact ih0 _ _ _ _)
   | (with_reducible exact rowcode_appended.mono _ _ _ _ _)
   | (with_reducible exact value_Check.mono _ _ _ _)
   | (with_reducible exact LeO.refl _)
   | (with_reducible exact LeO.none _)
   | (with_reducible refine LeO.ite ?_ ?_)
   | (with_reducible refine LeO.bind ?_ (fun _ => ?_))
   | exact ih0 _ _ _ _
   | exact rowcode_appended.mono _ _ _ _ _
   | exact value_Check.mono _ _ _ _
   | exact LeO.none _
   | refine LeO.ite ?_ ?_
   | refine LeO.bind ?_ (fun _ => ?_)
set_option maxHeartbeats 8000000 in
set_option maxRecDepth 100000 in
theorem rowcode_row.calls (k : Nat) (A0 : Option Addr) (c0 : Nat) (l0 : List (S42)) (r1 : List Int) (r2 : Int) (w : World) (hT : Tabs w) (hr0 : Kd.C k42 w A0 l0.length l0) (hc0 : l0.length ≤ c0) (h : rowcode_row.f k l0 = some (r1, r2)) :
  Calls Tryd.prog 45 #[.slice A0 l0.length c0] w fun e w' => ∃ v0_ : Value, e = .returned (.tuple #[v0_, .int .i64 r2]) ∧ Kd.R (Kd.int .u8) 5 w' w.heap.size (fun _ => True) v0_ r1 ∧ Below w.heap.size w w' := by
 have hu42 := Tryd.underlying42
 have HT := am hT
 clear hT
 have HR0 := am hr0
 have HC0 := am hc0
 clear hr0 hc0
 have HB := am (Below.refl w.heap.size w)
 have H : (if (l0.length : Int) > 16 then (some (([] : List Int), 2)) else (rowcode_row.l0 k ([] : List Int) l0 (l0.length : Int) 0)) = some (r1, r2) := h
 clear h
 by_cases c2 : (l0.length : Int) > 16
 ·
  rw [if_pos c2] at H
  have c2b0 : decide (16 < (l0.length : Int)) = true := decide_eq_true c2
  have c2b1 : decide (16 < l0.length) = true := decide_eq_true (by omega)
  clear c2
  simp only [Option.some.injEq, Prod.mk.injEq] at H
  obtain ⟨rfl, rfl⟩ := H
  go_enter Tryd.func45, Tryd.ntmps45
  go_wp2
  go_ret2
  exact ⟨_, by rfl, by exact Kd.R_nil _ _ _ _ _, by exact HB.out⟩
 rw [if_neg c2] at H
 have c2b0 : decide (16 < (l0.length : Int)) = false := decide_eq_false c2
 have c2b1 : decide (16 < l0.length) = false := decide_eq_false (by omega)
 clear c2
 have H' := am H
 clear H
 go_enter Tryd.func45, Tryd.ntmps45
 go_wp2
 go_loopg [4, 13] k (fun kq v4 v13 w' => ∃ (x4_1 : List Int) (x13_1 : Int), v13 = .int .i64 x13_1 ∧ Aside0 (rowcode_row.l0 kq x4_1 l0 (l0.length : Int) x13_1 = some (r1, r2)) ∧ Aside0 (kq ≤ k) ∧ Aside0 (Kd.R (Kd.int .u8) 5 w' w.heap.size (fun _ => True) v4 x4_1) ∧ Aside0 (Below w.heap.size w w'))
 case atStart => exact ⟨(([] : List Int)), (0), (by rfl), H', ⟨Nat.le_refl _⟩, ⟨by exact Kd.R_nil _ _ _ _ _⟩, ⟨by exact HB.out⟩⟩
 case round =>
  clear H'
  (try clear c2b0); (try clear c2b1)
  obtain ⟨x4_1, x13_1, rfl, HA, HK1, HO_4, HB⟩ := hrel
  cases gk with
  | zero => exact absurd HA.out (by simp [rowcode_row.l0])
  | succ k1 =>
   have H := HA.out
   clear HA
   simp only [rowcode_row.l0] at H
   by_cases c3 : x13_1 < (l0.length : Int)
   rotate_left
   ·
    rw [if_neg c3] at H
    have c3b0 := decide_eq_false c3
    clear c3
    replace H := its H
    obtain ⟨c18, H⟩ := H
    have LMc18 := am c18
    clear c18
    obtain ⟨y149, hy149⟩ : ∃ y_ : List Int, y_ = (x4_1 ++ [0]) := ⟨_, rfl⟩
    replace H : (some (y149, 0)) = some (r1, r2) := by (rw [hy149]; with_reducible exact H)
    have Ny149 := am hy149
    clear hy149
    simp only [Option.some.injEq, Prod.mk.injEq] at H
    obtain ⟨rfl, rfl⟩ := H
    go_wp2_with (((with_reducible refine gate_builtin (b := .append) (xs := #[.tmp 26, .tmp 27]) rfl ?_); at_builtin; refine Kd.R_append (Kd.int .u8) (w0 := w) w.heap.size rfl (.tmp 26) (.tmp 27) 47 5 (.int .u8 0) 1 rfl Tryd.underlying47 info5 rfl (by decide) (by omega) u4 x4_1 0 [.int .u8 0] (fun _ => True) (fun _ => False) rfl rfl ?aP (fun _ hk => hk.elim) ?aF ?aO ?aB ?aS ?aL ?_; (case aP => exact rfl); (case aB => exact HB.out); (case aF => exact (fun _ _ => trivial)); (case aO => exact HO_4.out); (case aS => exact (below_size HB.out)); (case aL => have := LMc18.out; omega); intro v150 w19 ho hb hg hat; rw [← Ny149.out] at ho; replace HB := am (hb); have HO151 := am (ho); clear HO_4; clear ho hb hg hat))
    go_ret2
    exact ⟨_, by rfl, by exact HO151.out, by exact HB.out⟩
   rw [if_pos c3] at H
   have c3b0 := decide_eq_true c3
   clear c3
   replace H := its H
   obtain ⟨c4, H⟩ := H
   have c4b0 := decide_eq_true c4
   clear c4
   replace H := its H
   obtain ⟨c5, H⟩ := H
   have c5b0 := decide_eq_true c5
   clear c5
   replace H := Option.bind_eq_some_iff.mp H
   obtain ⟨t154, A60, H⟩ := H
   replace H : (if t154 = 0 then ((rowcode_appended.f k1 x4_1 ((rd_T42 l0 x13_1).f0) ((rd_T42 l0 x13_1).f1) ((rd_T42 l0 x13_1).f2)).bind fun t155 => (rowcode_row.l0 k1 t155 l0 (l0.length : Int) (wrap64 (x13_1 + 1)))) else (some (([] : List Int), t154))) = some (r1, r2) := H
   have A6 := am A60
   clear A60
   by_cases c7 : t154 = 0
   rotate_left
   ·
    rw [if_neg c7] at H
    have c7b0 : (t154 == 0) = false := beq_eq_false_iff_ne.mpr c7
    have c7b1 : (t154 != 0) = true := bne_iff_ne.mpr c7
    simp only [Option.some.injEq, Prod.mk.injEq] at H
    obtain ⟨rfl, rfl⟩ := H
    have p152 : 0 ≤ (x13_1 : Int) := of_decide_eq_true (by assumption)
    have q152 : x13_1 < (l0.length : Int) := of_decide_eq_true (by assumption)
    obtain ⟨ad152, e152, hx152_0, hx152_1, hx152_2⟩ := at_T42 HR0.out x13_1 p152 q152
    cases e152
    replace hx152_0 := (HB.out.cell (World.block_lt_of_cell? w _ hx152_0)).trans hx152_0
    replace hx152_1 := (HB.out.cell (World.block_lt_of_cell? w _ hx152_1)).trans hx152_1
    replace hx152_2 := (HB.out.cell (World.block_lt_of_cell? w _ hx152_2)).trans hx152_2
    replace p152 := eq_true p152
    replace q152 := eq_true q152
    go_wp2_with (first | ((with_reducible refine gate_dst (N := 6) rfl ?_); refine box_event ?hg (N := 6) ?hd (cs := #[.int .i64 0, .int .i64 0, .string (⟨#[]⟩ : ByteArray)]) (t := 42) ?hr ?_; (case hd => rfl); (case hg => rfl); (case hr => (go_simp; done)); intro gb153 hg w15 hbox hb; replace HO_4 := am (Kd.R_below HO_4.out hb); have BK153 := am (hbox); have GW153 := am ((by rw [hg]; exact (below_size HB.out) : w.heap.size ≤ gb153)); have GE153 := am ((by rw [hg]; exact (below_size HB.out) : w.heap.size ≤ gb153)); replace HB := am (below_step HB.out hb); clear hb hbox hg; have hcz16_0 : w15.cell? ⟨gb153, 0, none⟩ = some (.int .i64 0) := (blk_cell BK153.out 0).trans rfl; have hcz16_1 : w15.cell? ⟨gb153, 1, none⟩ = some (.int .i64 0) := (blk_cell BK153.out 1).trans rfl; have hcz16_2 : w15.cell? ⟨gb153, 2, none⟩ = some (.string (⟨#[]⟩ : ByteArray)) := (blk_cell BK153.out 2).trans rfl; have hfz16_0 := blk_frozen BK153.out 0; have hfz16_1 := blk_frozen BK153.out 1; have hfz16_2 := blk_frozen BK153.out 2) | ((with_reducible refine gate_callee (f := 47) rfl ?_); refine goesL_ (some 18) rfl rfl Tryd.func47 (by kernel_rfl) rfl #[.agg #[.int .i64 ((rd_T42 l0 x13_1).f0), .int .i64 ((rd_T42 l0 x13_1).f1), .string ((rd_T42 l0 x13_1).f2)]] rfl (by (try simp only [List.map_toArray, List.map_cons, List.map_nil]); rfl) ?_; (with_reducible refine (value_Check.calls k1 ((rd_T42 l0 x13_1).f0) ((rd_T42 l0 x13_1).f1) ((rd_T42 l0 x13_1).f2) t154 _ ?side1 A6.out).mono ?_); (case side1 => exact Tabs.below HT.out (by repeat ((with_reducible first | exact HB.out | refine below_set ?_ GE153.out)))); rintro e w17 ⟨rfl, hb⟩; refine ⟨_, rfl, ?_⟩; replace HO_4 := am (Kd.R_below (by exact (Kd.R_mono (Kd.R_far (p := ⟨gb153, 2, none⟩) (Kd.R_far (p := ⟨gb153, 1, none⟩) (Kd.R_far (p := ⟨gb153, 0, none⟩) (Kd.R_types HO_4.out BK153.out (by decide)) (fun _ hk => hk.2) (.int .i64 ((rd_T42 l0 x13_1).f0))) (fun _ hk => hk.2) (.int .i64 ((rd_T42 l0 x13_1).f1))) (fun _ hk => hk.2) (.string ((rd_T42 l0 x13_1).f2))) (fun _ h_ => h_.1))) hb); replace BK153 := am (blk_below (g := gb153) (o := .cells #[.int .i64 ((rd_T42 l0 x13_1).f0), .int .i64 ((rd_T42 l0 x13_1).f1), .string ((rd_T42 l0 x13_1).f2)] 42 (0, 0)) (by refine blk_put (cs := #[.int .i64 ((rd_T42 l0 x13_1).f0), .int .i64 ((rd_T42 l0 x13_1).f1), .string (⟨#[]⟩ : ByteArray)]) ?_ 2 _ rfl; refine blk_put (cs := #[.int .i64 ((rd_T42 l0 x13_1).f0), .int .i64 0, .string (⟨#[]⟩ : ByteArray)]) ?_ 1 _ rfl; refine blk_put (cs := #[.int .i64 0, .int .i64 0, .string (⟨#[]⟩ : ByteArray)]) ?_ 0 _ rfl; exact BK153.out) hb); replace HB := am (below_step (by repeat ((with_reducible first | exact HB.out | refine below_set ?_ GE153.out))) hb); (try clear hb)))
    go_ret2
    exact ⟨_, by rfl, by exact Kd.R_nil _ _ _ _ _, by exact HB.out⟩
   rw [if_pos c7] at H
   have c7b0 : (t154 == 0) = true := beq_iff_eq.mpr c7
   have c7b1 : (t154 != 0) = false := bne_eq_false_iff_eq.mpr c7
   clear c7
   replace H := Option.bind_eq_some_iff.mp H
   obtain ⟨t155, A80, H⟩ := H
   replace H : (rowcode_row.l0 k1 t155 l0 (l0.length : Int) (wrap64 (x13_1 + 1))) = some (r1, r2) := H
   have A8 := am A80
   clear A80
   have H' := am H
   clear H
   have p152 : 0 ≤ (x13_1 : Int) := of_decide_eq_true (by assumption)
   have q152 : x13_1 < (l0.length : Int) := of_decide_eq_true (by assumption)
   obtain ⟨ad152, e152, hx152_0, hx152_1, hx152_2⟩ := at_T42 HR0.out x13_1 p152 q152
   cases e152
   replace hx152_0 := (HB.out.cell (World.block_lt_of_cell? w _ hx152_0)).trans hx152_0
   replace hx152_1 := (HB.out.cell (World.block_lt_of_cell? w _ hx152_1)).trans hx152_1
   replace hx152_2 := (HB.out.cell (World.block_lt_of_cell? w _ hx152_2)).trans hx152_2
   replace p152 := eq_true p152
   replace q152 := eq_true q152
   go_wp2_with (first | ((with_reducible refine gate_dst (N := 6) rfl ?_); refine box_event ?hg (N := 6) ?hd (cs := #[.int .i64 0, .int .i64 0, .string (⟨#[]⟩ : ByteArray)]) (t := 42) ?hr ?_; (case hd => rfl); (case hg => rfl); (case hr => (go_simp; done)); intro gb153 hg w9 hbox hb; replace HO_4 := am (Kd.R_below HO_4.out hb); have BK153 := am (hbox); have GW153 := am ((by rw [hg]; exact (below_size HB.out) : w.heap.size ≤ gb153)); have GE153 := am ((by rw [hg]; exact (below_size HB.out) : w.heap.size ≤ gb153)); replace HB := am (below_step HB.out hb); clear hb hbox hg; have hcz10_0 : w9.cell? ⟨gb153, 0, none⟩ = some (.int .i64 0) := (blk_cell BK153.out 0).trans rfl; have hcz10_1 : w9.cell? ⟨gb153, 1, none⟩ = some (.int .i64 0) := (blk_cell BK153.out 1).trans rfl; have hcz10_2 : w9.cell? ⟨gb153, 2, none⟩ = some (.string (⟨#[]⟩ : ByteArray)) := (blk_cell BK153.out 2).trans rfl; have hfz10_0 := blk_frozen BK153.out 0; have hfz10_1 := blk_frozen BK153.out 1; have hfz10_2 := blk_frozen BK153.out 2) | ((with_reducible refine gate_callee (f := 47) rfl ?_); refine goesL_ (some 18) rfl rfl Tryd.func47 (by kernel_rfl) rfl #[.agg #[.int .i64 ((rd_T42 l0 x13_1).f0), .int .i64 ((rd_T42 l0 x13_1).f1), .string ((rd_T42 l0 x13_1).f2)]] rfl (by (try simp only [List.map_toArray, List.map_cons, List.map_nil]); rfl) ?_; (with_reducible refine (value_Check.calls k1 ((rd_T42 l0 x13_1).f0) ((rd_T42 l0 x13_1).f1) ((rd_T42 l0 x13_1).f2) t154 _ ?side1 A6.out).mono ?_); (case side1 => exact Tabs.below HT.out (by repeat ((with_reducible first | exact HB.out | refine below_set ?_ GE153.out)))); rintro e w11 ⟨rfl, hb⟩; refine ⟨_, rfl, ?_⟩; replace HO_4 := am (Kd.R_below (by exact (Kd.R_mono (Kd.R_far (p := ⟨gb153, 2, none⟩) (Kd.R_far (p := ⟨gb153, 1, none⟩) (Kd.R_far (p := ⟨gb153, 0, none⟩) (Kd.R_types HO_4.out BK153.out (by decide)) (fun _ hk => hk.2) (.int .i64 ((rd_T42 l0 x13_1).f0))) (fun _ hk => hk.2) (.int .i64 ((rd_T42 l0 x13_1).f1))) (fun _ hk => hk.2) (.string ((rd_T42 l0 x13_1).f2))) (fun _ h_ => h_.1))) hb); replace BK153 := am (blk_below (g := gb153) (o := .cells #[.int .i64 ((rd_T42 l0 x13_1).f0), .int .i64 ((rd_T42 l0 x13_1).f1), .string ((rd_T42 l0 x13_1).f2)] 42 (0, 0)) (by refine blk_put (cs := #[.int .i64 ((rd_T42 l0 x13_1).f0), .int .i64 ((rd_T42 l0 x13_1).f1), .string (⟨#[]⟩ : ByteArray)]) ?_ 2 _ rfl; refine blk_put (cs := #[.int .i64 ((rd_T42 l0 x13_1).f0), .int .i64 0, .string (⟨#[]⟩ : ByteArray)]) ?_ 1 _ rfl; refine blk_put (cs := #[.int .i64 0, .int .i64 0, .string (⟨#[]⟩ : ByteArray)]) ?_ 0 _ rfl; exact BK153.out) hb); replace HB := am (below_step (by repeat ((with_reducible first | exact HB.out | refine below_set ?_ GE153.out))) hb); (try clear hb); have hcz12_0 : w11.cell? ⟨gb153, 0, none⟩ = some (.int .i64 ((rd_T42 l0 x13_1).f0)) := (blk_cell BK153.out 0).trans rfl; have hcz12_1 : w11.cell? ⟨gb153, 1, none⟩ = some (.int .i64 ((rd_T42 l0 x13_1).f1)) := (blk_cell BK153.out 1).trans rfl; have hcz12_2 : w11.cell? ⟨gb153, 2, none⟩ = some (.string ((rd_T42 l0 x13_1).f2)) := (blk_cell BK153.out 2).trans rfl; have hfz12_0 := blk_frozen BK153.out 0; have hfz12_1 := blk_frozen BK153.out 1; have hfz12_2 := blk_frozen BK153.out 2; obtain ⟨Ao13, co13, eo13⟩ := Kd.R_slice HO_4.out; subst eo13) | ((with_reducible refine gate_callee (f := 48) rfl ?_); refine goesL_ (some 24) rfl rfl Tryd.func48 (by kernel_rfl) rfl #[.slice Ao13 x4_1.length co13, .agg #[.int .i64 ((rd_T42 l0 x13_1).f0), .int .i64 ((rd_T42 l0 x13_1).f1), .string ((rd_T42 l0 x13_1).f2)]] rfl (by (try simp only [List.map_toArray, List.map_cons, List.map_nil]); rfl) ?_; (with_reducible refine (rowcode_appended.calls k1 (fun k_ => some k_ = (.slice Ao13 x4_1.length co13 : Value).ownBlock) (.slice Ao13 x4_1.length co13) x4_1 ((rd_T42 l0 x13_1).f0) ((rd_T42 l0 x13_1).f1) ((rd_T42 l0 x13_1).f2) t155 w _ ?side1 ?side2 ?side3 A8.out).mono ?_); (case side1 => exact HT.out); (case side2 => exact HB.out); (case side3 => exact Kd.R_tight rfl HO_4.out); rintro e w14 ⟨v156, rfl, ho0, hb, hkp⟩; refine ⟨_, rfl, ?_⟩; replace BK153 := am (blk_kept (by exact BK153.out) hkp (fun hs_ => (fun e_ => (Kd.R_ne HO_4.out BK153.out (by decide)) e_) hs_)); have HO157 := am (Kd.R_mono (ok' := fun k_ => True) ho0 (fun k_ hk_ => trivial)); replace HB := am (hb); clear HO_4; (try clear hb); (try clear hkp); (try clear ho0)))
   go_roundg k1
   case measure => have := HK1.out; omega
   case rel => exact ⟨(t155), (wrap64 (x13_1 + 1)), (by rfl), H', ⟨by have := HK1.out; omega⟩, ⟨by exact HO157.out⟩, ⟨by exact HB.out⟩⟩
end Go.Proofs.YthghcpeedmconaaDoor.X
end
section
namespace Go.Proofs.YthghcpeedmconaaDoor.X
set_option linter.unusedVariables false
set_option linter.unusedSimpArgs false
open Go.RowKit Go.Proofs.YthghcpeedmconaaDoorW.PrintWords Go.Proofs.YthghcpeedmconaaDoorW.PrintLast Go.Proofs.YthghcpeedmconaaDoorW.PrintMore
open Num
def be : Nat → Int → List Int
  | 0, _ => []
  | k + 1, n => (n / 256 ^ k) % 256 :: be k n
def escB : List UInt8 → List Int
  | [] => []
  | b :: l => if b = 0 then 0 :: 255 :: escB l else (b.toNat : Int) :: escB l
def code (v : S42) : List Int :=
  if v.f0 = 1 ∨ v.f0 = 2 then 2 :: (be 10 (sv v.f0 v.f1 + 604462909807314587353088) ++ [v.f0 % 256])
  else if v.f0 = 3 then 3 :: (escB v.f2.data.toList ++ [0, 0])
  else if v.f0 = 4 then [4, v.f1 % 256] else [1]
def codes : List S42 → List Int
  | [] => [0]
  | v :: r => code v ++ codes r
def isB (l : List Int) : Prop := ∀ x ∈ l, 0 ≤ x ∧ x < 256
theorem isB_nil : isB [] := fun x hx => by simp at hx
theorem isB_cons {x : Int} {l : List Int} (h : 0 ≤ x ∧ x < 256) (hl : isB l) : isB (x :: l) := fun y hy => by
  rcases List.mem_cons.mp hy with e | e
  · exact e ▸ h
  · exact hl y e
theorem isB_append {a b : List Int} (ha : isB a) (hb : isB b) : isB (a ++ b) := fun y hy => (List.mem_append.mp hy).elim (ha y) (hb y)
theorem be_isB : ∀ (k : Nat) (n : Int), isB (be k n)
  | 0, _ => isB_nil
  | k + 1, n => isB_cons ⟨Int.emod_nonneg _ (by decide), Int.emod_lt_of_pos _ (by decide)⟩ (be_isB k n)
theorem escB_isB : ∀ l, isB (escB l)
  | [] => isB_nil
  | b :: l => by
    unfold escB
    split
    · exact isB_cons (by decide) (isB_cons (by decide) (escB_isB l))
    · exact isB_cons ⟨by omega, by have := b.toNat_lt; omega⟩ (escB_isB l)
theorem code_isB (v : S42) : isB (code v) := by
  unfold code
  split
  · exact isB_cons (by decide) (isB_append (be_isB _ _) (isB_cons ⟨Int.emod_nonneg _ (by decide), Int.emod_lt_of_pos _ (by decide)⟩ isB_nil))
  · split
    · exact isB_cons (by decide) (isB_append (escB_isB _) (isB_cons (by decide) (isB_cons (by decide) isB_nil)))
    · split
      · exact isB_cons (by decide) (isB_cons ⟨Int.emod_nonneg _ (by decide), Int.emod_lt_of_pos _ (by decide)⟩ isB_nil)
      · exact isB_cons (by decide) isB_nil
theorem codes_isB : ∀ r, isB (codes r)
  | [] => isB_cons (by decide) isB_nil
  | v :: r => isB_append (code_isB v) (codes_isB r)
theorem strOf_toList (l : List Int) : (strOfNums l).toList = l.map fun x => x.toNat.toUInt8 := by
  unfold strOfNums
  rw [ByteArray.toList_eq]
theorem u8_toNat {x : Int} (h : 0 ≤ x ∧ x < 256) : ((x.toNat.toUInt8).toNat : Int) = x := by
  have : x.toNat.toUInt8.toNat = x.toNat % 256 := rfl
  omega
theorem be_mod : ∀ (k : Nat) (n m : Int) (j : Nat), be j (n * 256 ^ (k + j) + m) = be j m
  | k, n, m, 0 => rfl
  | k, n, m, j + 1 => by
    have e : n * 256 ^ (k + (j + 1)) = n * 256 ^ (k + 1 + j) := by rw [Nat.add_comm j 1, ← Nat.add_assoc]
    have e2 : n * 256 ^ (k + (j + 1)) = (n * 256 ^ k * 256) * 256 ^ j := by rw [Int.pow_add, Int.pow_add]; simp only [Int.pow_succ, Int.pow_zero, Int.one_mul, Int.mul_assoc]; rw [Int.mul_comm (256 ^ j) 256]
    show (((n * 256 ^ (k + (j + 1)) + m) / 256 ^ j) % 256 :: be j (n * 256 ^ (k + (j + 1)) + m)) = (m / 256 ^ j) % 256 :: be j m
    have h1 : ((n * 256 ^ (k + (j + 1)) + m) / 256 ^ j) % 256 = (m / 256 ^ j) % 256 := by
      rw [e2, Int.add_comm, Int.add_mul_ediv_right _ _ (Int.ne_of_gt (Int.pow_pos (by decide)))]
      omega
    rw [h1, e, be_mod (k + 1) n m j]
theorem escB_z (l : List UInt8) : escB (0 :: l) = 0 :: 255 :: escB l := by
  conv => lhs; unfold escB
  exact if_pos rfl
theorem escB_n {b : UInt8} (hb : b ≠ 0) (l : List UInt8) : escB (b :: l) = (b.toNat : Int) :: escB l := by
  conv => lhs; unfold escB
  exact if_neg hb
theorem u8_pos {b : UInt8} (hb : b ≠ 0) : (0 : Int) < b.toNat := by
  have h2 : 0 < b.toNat := Nat.pos_of_ne_zero fun e => hb (UInt8.toNat_inj.mp e)
  omega
theorem ci_lt {a b : Int} (h : a < b) : ci a b = -1 := by unfold ci; rw [if_pos h]
theorem ci_gt {a b : Int} (h : b < a) : ci a b = 1 := by unfold ci; rw [if_neg (by omega), if_pos h]
structure Can (v : S42) : Prop where
  chk : chk v.f0 v.f1 v.f2 = 0
  num : I64 v.f1
theorem Can.typ {v : S42} (h : Can v) : (v.f0 = 0) ∨ (v.f0 = 1 ∨ v.f0 = 2) ∨ (v.f0 = 3 ∧ v.f2.size ≤ 4096) ∨ (v.f0 = 4 ∧ (v.f1 = 0 ∨ v.f1 = 1)) := by
  have h1 := h.chk
  unfold X.chk at h1
  by_cases h0 : v.f0 = 0 ∨ v.f0 = 1 ∨ v.f0 = 2
  · omega
  · rw [if_neg h0] at h1
    by_cases h4 : v.f0 = 4
    · rw [if_pos h4] at h1
      right; right; right
      refine ⟨h4, ?_⟩
      by_cases hn : v.f1 = 0 ∨ v.f1 = 1
      · exact hn
      · rw [if_neg hn] at h1; omega
    · rw [if_neg h4] at h1
      by_cases h3 : v.f0 = 3
      · rw [if_pos h3] at h1
        right; right; left
        refine ⟨h3, ?_⟩
        by_cases hs : (v.f2.size : Int) > 4096
        · rw [if_pos hs] at h1; omega
        · omega
      · rw [if_neg h3] at h1; omega
theorem code_num {v : S42} (h : v.f0 = 1 ∨ v.f0 = 2) : code v = 2 :: (be 10 (sv v.f0 v.f1 + 604462909807314587353088) ++ [v.f0 % 256]) := by unfold code; rw [if_pos h]
theorem code_text {v : S42} (h : v.f0 = 3) : code v = 3 :: (escB v.f2.data.toList ++ [0, 0]) := by unfold code; rw [if_neg (by omega), if_pos h]
theorem code_bool {v : S42} (h : v.f0 = 4) : code v = [4, v.f1 % 256] := by unfold code; rw [if_neg (by omega), if_neg (by omega), if_pos h]
theorem code_null {v : S42} (h : v.f0 = 0) : code v = [1] := by unfold code; rw [if_neg (by omega), if_neg (by omega), if_neg (by omega)]
theorem code_tag {v : S42} (h : Can v) : ∃ l, code v = (cls v.f0 + 1) :: l := by
  unfold cls
  rcases h.typ with e | e | e | e
  · rw [code_null e, e]; exact ⟨_, rfl⟩
  · rw [code_num e, if_neg (by omega), if_pos e]; exact ⟨_, rfl⟩
  · rw [code_text e.1, e.1]; exact ⟨_, rfl⟩
  · rw [code_bool e.1, e.1]; exact ⟨_, rfl⟩
def ords : List S42 → List S42 → Int
  | [], [] => 0
  | [], _ :: _ => -1
  | _ :: _, [] => 1
  | a :: r, b :: s => orI (ord a b) (ords r s)
end Go.Proofs.YthghcpeedmconaaDoor.X
end
section
namespace Go.Proofs.YthghcpeedmconaaDoor.X
set_option linter.unusedVariables false
set_option linter.unusedSimpArgs false
open Go.RowKit Go.Proofs.YthghcpeedmconaaDoorW.PrintWords Go.Proofs.YthghcpeedmconaaDoorW.PrintLast Go.Proofs.YthghcpeedmconaaDoorW.PrintMore
open Num
def escU : List UInt8 → List UInt8
  | [] => []
  | b :: l => if b = 0 then 0 :: 255 :: escU l else b :: escU l
theorem escB_eq : ∀ l, escB l = (escU l).map fun b => (b.toNat : Int)
  | [] => rfl
  | b :: l => by
    unfold escB escU
    split
    · rw [escB_eq l]; rfl
    · rw [escB_eq l]; rfl
theorem idx_cons {b : UInt8} (hb : b ≠ 0) (l : List UInt8) : Lib.index (b :: l) [0] = if Lib.index l [0] == -1 then -1 else Lib.index l [0] + 1 := by
  conv => lhs; unfold Lib.index
  rw [if_neg]
  simp only [List.isPrefixOf]
  intro h
  simp at h
  exact hb h.symm
theorem idx_zero (l : List UInt8) : Lib.index (0 :: l) [0] = 0 := by
  unfold Lib.index
  rw [if_pos (by simp [List.isPrefixOf])]
theorem count_zero (l : List UInt8) : Lib.count (0 :: l) [0] = 1 + Lib.count l [0] := Lib.count_hit (i := 0) (by simp) (idx_zero l)
theorem count_cons {b : UInt8} (hb : b ≠ 0) (l : List UInt8) : Lib.count (b :: l) [0] = Lib.count l [0] := by
  have h := idx_cons hb l
  by_cases hm : Lib.index l [0] = -1
  · rw [hm] at h
    rw [Lib.count_miss (by simpa using h), Lib.count_miss hm]
  · have hge := Lib.index_ge l [0]
    obtain ⟨i, hi⟩ : ∃ i : Nat, Lib.index l [0] = i := ⟨(Lib.index l [0]).toNat, by omega⟩
    rw [if_neg (by simpa using hm), hi] at h
    rw [Lib.count_hit (i := i + 1) (by simp) (by rw [h]; rfl), Lib.count_hit (i := i) (by simp) hi]
    rfl
theorem repK_esc : ∀ (l : List UInt8) (k : Nat), Lib.count l [0] ≤ k → Lib.replaceK [0] [0, 255] k l = escU l
  | [], 0, _ => rfl
  | [], k + 1, _ => by unfold Lib.replaceK; rw [if_pos (by decide)]; rfl
  | b :: l, k, h => by
    by_cases hb : b = 0
    · subst hb
      rw [count_zero] at h
      obtain ⟨k, rfl⟩ : ∃ m, k = m + 1 := ⟨k - 1, by omega⟩
      rw [Lib.replaceK_hit [0] [0, 255] k (0 :: l) 0 (idx_zero l)]
      show 0 :: 255 :: Lib.replaceK [0] [0, 255] k l = escU (0 :: l)
      rw [repK_esc l k (by omega)]
      rfl
    · rw [count_cons hb] at h
      have ih := repK_esc l k h
      have hx := idx_cons hb l
      unfold escU
      rw [if_neg hb, ← ih]
      cases k with
      | zero => rfl
      | succ k =>
        by_cases hm : Lib.index l [0] = -1
        · rw [hm] at hx
          conv => lhs; unfold Lib.replaceK
          conv => rhs; unfold Lib.replaceK
          rw [if_pos (by rw [hx]; rfl), if_pos (by rw [hm]; rfl)]
        · have hge := Lib.index_ge l [0]
          obtain ⟨i, hi⟩ : ∃ i : Nat, Lib.index l [0] = i := ⟨(Lib.index l [0]).toNat, by omega⟩
          rw [if_neg (by simpa using hm), hi] at hx
          rw [Lib.replaceK_hit [0] [0, 255] k (b :: l) (i + 1) (by rw [hx]; rfl), Lib.replaceK_hit [0] [0, 255] k l i hi]
          rfl
theorem rep_esc (l : List UInt8) : Lib.replaceAll l [0] [0, 255] = escU l := by
  unfold Lib.replaceAll Lib.replace
  rw [if_neg (by decide)]
  apply repK_esc
  unfold Lib.replaceNum
  rw [if_pos (Or.inl (by decide))]
  exact Nat.le_refl _
theorem escU_len : ∀ l, (escU l).length ≤ 2 * l.length
  | [] => Nat.le_refl _
  | b :: l => by
    have := escU_len l
    unfold escU
    split <;> simp <;> omega
theorem reps_eq (s : ByteArray) (hs : s.size ≤ 4096) : ∃ t, strings_ReplaceAll.f s (⟨#[0]⟩ : ByteArray) (⟨#[0, 255]⟩ : ByteArray) = some t ∧ bytesOf t = escB s.data.toList ∧ t.size ≤ 8192 := by
  have hl : s.data.toList.length = s.size := by simp
  have hc := Lib.count_le s.data.toList [0]
  refine ⟨⟨(escU s.data.toList).toArray⟩, ?_, ?_, ?_⟩
  · unfold strings_ReplaceAll.f
    rw [if_pos]
    · show some (⟨(Lib.replaceAll s.data.toList [0] [0, 255]).toArray⟩ : ByteArray) = _
      rw [rep_esc]
    · refine ⟨by omega, by decide, ?_⟩
      show s.size + Lib.count s.data.toList [0] * 2 ≤ 140737488355328
      omega
  · unfold bytesOf
    rw [escB_eq]
  · show (escU s.data.toList).toArray.size ≤ 8192
    have := escU_len s.data.toList
    rw [List.size_toArray]
    omega
theorem parts_eq (k : Nat) (t n : Int) (s : ByteArray) (ht : t = 1 ∨ t = 2) (hn : I64 n) :
    ∃ hi lo, rowcode_parts.f (k + 1) t n s = some (hi, lo) ∧ hi * 18446744073709551616 + lo = sv t n + 604462909807314587353088 ∧ 0 ≤ hi ∧ hi < 65536 ∧ 0 ≤ lo ∧ lo < 18446744073709551616 := by
  obtain ⟨hn0, hn1⟩ := hn
  unfold rowcode_parts.f sv
  by_cases h1 : t = 1
  · have hm := bits_Mul64.eq (n % 18446744073709551616).toNat 10000 (by omega) (by decide)
    rw [show ((10000 : Nat) : Int) = 10000 from rfl] at hm
    have hN : IntKind.u64.wrap n = (((n % 18446744073709551616).toNat : Nat) : Int) := by rw [IntKind.wrap_u64]; omega
    rw [if_neg (show ¬ t = 2 by omega)]
    by_cases hneg : n < 0
    · rw [if_pos hneg, rowcode_parts.j0, if_pos h1, hN, hm, Option.bind_some, if_pos hneg]
      have hw : (n % 18446744073709551616).toNat = (n + 18446744073709551616).toNat := by omega
      refine ⟨_, _, rfl, ?_⟩
      rw [hw, IntKind.wrap_u16, IntKind.wrap_u64]
      unfold wrap64
      simp only []
      omega
    · rw [if_neg hneg, rowcode_parts.j0, if_pos h1, hN, hm, Option.bind_some, if_neg hneg]
      have hw : (n % 18446744073709551616).toNat = n.toNat := by omega
      refine ⟨_, _, rfl, ?_⟩
      rw [hw, IntKind.wrap_u16]
      unfold wrap64
      simp only []
      omega
  · have h2 : t = 2 := by omega
    rw [if_pos h2]
    by_cases hneg : n < 0
    · rw [if_pos hneg, rowcode_parts.j0, if_neg h1]
      refine ⟨_, _, rfl, ?_⟩
      rw [IntKind.wrap_u16, IntKind.wrap_u64]
      unfold wrap64
      omega
    · rw [if_neg hneg, rowcode_parts.j0, if_neg h1]
      refine ⟨_, _, rfl, ?_⟩
      rw [IntKind.wrap_u16, IntKind.wrap_u64]
      unfold wrap64
      omega
theorem shr_be (low : Int) (j : Nat) (hj : j ≤ 7) : shr .u64 low ((8 * (j : Int))) = low / 256 ^ j := by
  unfold shr
  have es : min ((8 * (j : Int)).toNat) IntKind.u64.bits = 8 * j := by simp [IntKind.bits]; omega
  rw [es, Int.pow_mul]
  rfl
theorem app_loop (low : Int) (t n : Int) (s : ByteArray) : ∀ (j : Nat), j ≤ 8 → ∀ (x : List Int), x.length + j < 140737488355328 → ∀ k,
    rowcode_appended.l0 (k + j + 1) x low (8 * (j : Int) - 8) t n s = some (x ++ (be j low ++ [t % 256]))
  | 0, _, x, hl, k => by
    rw [rowcode_appended.l0, if_neg (by omega), if_pos (by omega)]; rfl
  | j + 1, hj, x, hl, k => by
    rw [show k + (j + 1) + 1 = (k + j + 1) + 1 by omega, rowcode_appended.l0]
    rw [show (8 * ((j + 1 : Nat) : Int) - 8) = 8 * (j : Int) by omega]
    rw [if_pos (by omega), if_pos (by omega), if_pos (by omega), shr_be low j (by omega)]
    rw [show wrap64 (8 * (j : Int) - 8) = 8 * (j : Int) - 8 by unfold wrap64; omega]
    rw [app_loop low t n s j (by omega) _ (by rw [List.length_append, List.length_singleton]; omega) k, List.append_assoc]
    rfl
theorem be_len : ∀ (k : Nat) (n : Int), (be k n).length = k
  | 0, _ => rfl
  | k + 1, n => by show (be k n).length + 1 = k + 1; rw [be_len k n]
theorem be_ten (hi lo : Int) (h0 : 0 ≤ hi) (h1 : hi < 65536) (h2 : 0 ≤ lo) (h3 : lo < 18446744073709551616) :
    be 10 (hi * 18446744073709551616 + lo) = (hi / 256) % 256 :: hi % 256 :: be 8 lo := by
  show ((hi * 18446744073709551616 + lo) / 256 ^ 9) % 256 :: ((hi * 18446744073709551616 + lo) / 256 ^ 8) % 256 :: be 8 (hi * 18446744073709551616 + lo) = _
  have e := be_mod 0 hi lo 8
  rw [Nat.zero_add, show (256 : Int) ^ 8 = 18446744073709551616 by decide] at e
  rw [e, show (256 : Int) ^ 9 = 4722366482869645213696 by decide, show (256 : Int) ^ 8 = 18446744073709551616 by decide]
  have a1 : ((hi * 18446744073709551616 + lo) / 4722366482869645213696) % 256 = (hi / 256) % 256 := by omega
  have a2 : ((hi * 18446744073709551616 + lo) / 18446744073709551616) % 256 = hi % 256 := by omega
  rw [a1, a2]
theorem escB_len (l : List UInt8) : (escB l).length ≤ 2 * l.length := by
  rw [escB_eq, List.length_map]
  exact escU_len l
theorem code_len {v : S42} (h : Can v) : (code v).length ≤ 8195 := by
  rcases h.typ with e | e | e | e
  · rw [code_null e]; decide
  · rw [code_num e]
    simp [be_len]
  · rw [code_text e.1]
    have := escB_len v.f2.data.toList
    have hl : v.f2.data.toList.length = v.f2.size := by simp
    simp only [List.length_cons, List.length_append, List.length_nil]
    omega
  · rw [code_bool e.1]; simp
theorem app_eq {v : S42} (h : Can v) (k : Nat) (x : List Int) (hx : x.length + 8200 < 140737488355328) :
    rowcode_appended.f (k + 10) x v.f0 v.f1 v.f2 = some (x ++ code v) := by
  unfold rowcode_appended.f
  have hj : (if v.f0 = 1 then (rowcode_appended.j0 (k + 10) x v.f0 (v.f0 == 1) v.f0 v.f1 v.f2) else (rowcode_appended.j0 (k + 10) x v.f0 (v.f0 == 2) v.f0 v.f1 v.f2)) = rowcode_appended.j0 (k + 10) x v.f0 (decide (v.f0 = 1 ∨ v.f0 = 2)) v.f0 v.f1 v.f2 := by
    by_cases h1 : v.f0 = 1
    · rw [if_pos h1, h1]; rfl
    · rw [if_neg h1]
      congr 1
      rw [Bool.eq_iff_iff]
      simp [h1]
  rw [hj, rowcode_appended.j0]
  rcases h.typ with e | e | e | e
  · rw [code_null e, decide_eq_false (show ¬ (v.f0 = 1 ∨ v.f0 = 2) by omega), if_neg (by decide), if_neg (by omega), if_neg (by omega), if_pos (by omega)]
  · obtain ⟨hi, lo, hp, hs, b0, b1, b2, b3⟩ := parts_eq (k + 8) v.f0 v.f1 v.f2 e h.num
    rw [code_num e, decide_eq_true e, if_pos rfl, hp, Option.bind_some, Option.bind_some, if_pos (by simp; omega), ← hs, be_ten hi lo b0 b1 b2 b3]
    have hl := app_loop lo v.f0 v.f1 v.f2 8 (Nat.le_refl _) (x ++ [2, hi / 256 % 256, hi % 256]) (by simp; omega) k
    rw [show (8 * ((8 : Nat) : Int) - 8) = 56 by decide] at hl
    rw [hl]
    simp
  · obtain ⟨t, ht, hb, hsz⟩ := reps_eq v.f2 e.2
    have hbl : (bytesOf t).length = t.size := bytesOf_length t
    rw [code_text e.1, decide_eq_false (show ¬ (v.f0 = 1 ∨ v.f0 = 2) by omega), if_neg (by decide), if_pos e.1, if_pos (by omega), Option.bind_some, ht, Option.bind_some, if_pos (by simp; omega), Option.bind_some, Option.bind_some,
      if_pos (by simp only [List.length_append, List.length_cons, List.length_nil]; omega), hb]
    simp
  · rw [code_bool e.1, decide_eq_false (show ¬ (v.f0 = 1 ∨ v.f0 = 2) by omega), if_neg (by decide), if_neg (show ¬ v.f0 = 3 by omega), if_pos e.1, Option.bind_some, if_pos (by simp; omega)]
def rowErr : List S42 → Int
  | [] => 0
  | v :: r => if chk v.f0 v.f1 v.f2 = 0 then rowErr r else chk v.f0 v.f1 v.f2
theorem rowErr_can : ∀ (r : List S42), (∀ v ∈ r, I64 v.f1) → rowErr r = 0 → ∀ v ∈ r, Can v
  | [], _, _ => fun v hv => by simp at hv
  | a :: r, hn, h => by
    unfold rowErr at h
    by_cases hc : chk a.f0 a.f1 a.f2 = 0
    · rw [if_pos hc] at h
      intro v hv
      rcases List.mem_cons.mp hv with e | e
      · exact e ▸ ⟨hc, hn a List.mem_cons_self⟩
      · exact rowErr_can r (fun v hv => hn v (List.mem_cons_of_mem _ hv)) h v e
    · rw [if_neg hc] at h; exact absurd h hc
def rowOut (r : List S42) : List Int × Int := if 16 < r.length then ([], 2) else if rowErr r = 0 then (codes r, 0) else ([], rowErr r)
theorem getD_drop {r : List S42} {i : Nat} (hi : i < r.length) : r.drop i = rd_T42 r (i : Int) :: r.drop (i + 1) := by
  unfold rd_T42
  rw [List.drop_eq_getElem_cons hi, List.getD_eq_getElem?_getD, Int.toNat_natCast, List.getElem?_eq_getElem hi]
  rfl
theorem row_loop (r : List S42) (hr : r.length ≤ 16) (hn : ∀ v ∈ r, I64 v.f1) : ∀ (d i : Nat), i + d = r.length → ∀ (x : List Int) (k : Nat), x.length ≤ 8195 * i → d + 12 ≤ k →
    rowcode_row.l0 k x r (r.length : Int) (i : Int) = some (if rowErr (r.drop i) = 0 then (x ++ codes (r.drop i), 0) else ([], rowErr (r.drop i)))
  | 0, i, h, x, k, hx, hk => by
    obtain ⟨k, rfl⟩ : ∃ m, k = m + 1 := ⟨k - 1, by omega⟩
    rw [rowcode_row.l0, if_neg (by omega), if_pos (by omega), List.drop_eq_nil_of_le (by omega)]
    rfl
  | d + 1, i, h, x, k, hx, hk => by
    obtain ⟨k, rfl⟩ : ∃ m, k = m + 1 + 10 := ⟨k - 11, by omega⟩
    have hi : i < r.length := by omega
    rw [show k + 1 + 10 = (k + 10) + 1 by omega, rowcode_row.l0, if_pos (by omega), if_pos (by omega), if_pos (by omega), getD_drop hi]
    have hmem : rd_T42 r (i : Int) ∈ r := by
      unfold rd_T42
      rw [List.getD_eq_getElem?_getD, Int.toNat_natCast, List.getElem?_eq_getElem hi]
      exact List.getElem_mem hi
    generalize rd_T42 r (i : Int) = v at *
    rw [value_Check.eq, Option.bind_some]
    unfold rowErr
    by_cases hc : chk v.f0 v.f1 v.f2 = 0
    · have hcan : Can v := ⟨hc, hn v hmem⟩
      have hl := code_len hcan
      rw [if_pos hc, if_pos hc, app_eq hcan k x (by omega), Option.bind_some, show wrap64 ((i : Int) + 1) = ((i + 1 : Nat) : Int) by unfold wrap64; omega,
        row_loop r hr hn d (i + 1) (by omega) (x ++ code v) (k + 10) (by rw [List.length_append]; omega) (by omega), List.append_assoc]
      rfl
    · rw [if_neg hc, if_neg hc, if_neg hc]
theorem row_eq (r : List S42) (hn : ∀ v ∈ r, I64 v.f1) (k : Nat) (hk : 30 ≤ k) : rowcode_row.f k r = some (rowOut r) := by
  unfold rowcode_row.f rowOut
  by_cases h : 16 < r.length
  · rw [if_pos (by omega), if_pos h]
  · rw [if_neg (by omega), if_neg h]
    have := row_loop r (by omega) hn r.length 0 (by omega) [] k (by simp) (by omega)
    rw [List.drop_zero] at this
    exact this
end Go.Proofs.YthghcpeedmconaaDoor.X
end
section
namespace Go.Proofs.YthghcpeedmconaaDoor.X
open Go.RowKit Go.Proofs.YthghcpeedmconaaDoorW.PrintWords Go.Proofs.YthghcpeedmconaaDoorW.PrintLast Go.Proofs.YthghcpeedmconaaDoorW.PrintMore
attribute [local go_sem] max2_int min2_int max_two min_two max_three min_three max_four min_four
set_option linter.unusedVariables false
set_option linter.unusedSimpArgs false
mutual
def rowcode_units.j0 : Nat → Bool → Int → Int → Option (Int × Bool)
 | 0, _, _, _ => none
 | k + 1, x6, x7, x8 => if x7 ≥ 10000 then (some (0, true)) else ((bits_Div64.f k x7 x8 10000).bind fun bt456 => (if bt456.2 = 0 then (if bt456.1 > 9223372036854775808 then (rowcode_units.j1 k x6 bt456.1 true) else (if bt456.1 = 9223372036854775808 then (rowcode_units.j1 k x6 bt456.1 (!x6)) else (rowcode_units.j1 k x6 bt456.1 false))) else (rowcode_units.j1 k x6 bt456.1 true)))
def rowcode_units.j1 : Nat → Bool → Int → Bool → Option (Int × Bool)
 | 0, _, _, _ => none
 | k + 1, x6, x10, x51 => if x51 = true then (some (0, true)) else (if x6 = true then (some (wrap64 (IntKind.u64.wrap (-x10)), false)) else (some (wrap64 (x10), false)))
end
def rowcode_units.f (k : Nat) (a0 : Int) (a1 : Int) : Option (Int × Bool) := if a0 < 0 then ((bits_Add64.f (Go.bits .xor .u64 (IntKind.max .u64) a1) 1 0).bind fun bt454 => (rowcode_units.j0 k (decide (a0 < 0)) (IntKind.u64.wrap ((Go.bits .xor .u64 (IntKind.max .u64) (IntKind.u64.wrap (a0))) + bt454.2)) bt454.1)) else (rowcode_units.j0 k (decide (a0 < 0)) (IntKind.u64.wrap (a0)) a1)
set_option maxHeartbeats 8000000 in
set_option maxRecDepth 100000 in
theorem rowcode_units.calls (k : Nat) (a0 : Int) (a1 : Int) (r1 : Int) (r2 : Bool) (w : World) (h : rowcode_units.f k a0 a1 = some (r1, r2)) :
  Calls Tryd.prog 89 #[.int .i64 a0, .int .u64 a1] w fun e w' => e = .returned (.tuple #[.int .i64 r1, .bool r2]) ∧ Drawn0 w w' := by
 have H : (if a0 < 0 then ((bits_Add64.f (Go.bits .xor .u64 (IntKind.max .u64) a1) 1 0).bind fun bt454 => (rowcode_units.j0 k (decide (a0 < 0)) (IntKind.u64.wrap ((Go.bits .xor .u64 (IntKind.max .u64) (IntKind.u64.wrap (a0))) + bt454.2)) bt454.1)) else (rowcode_units.j0 k (decide (a0 < 0)) (IntKind.u64.wrap (a0)) a1)) = some (r1, r2) := h
 clear h
 have HC3 := am H
 clear H
 go_enter Tryd.func89, Tryd.ntmps89
 go_upto_if 17 with (fail)
 go_cut [6, 7, 8] (fun v6 v7 v8 wc => ∃ (kq : Nat) (x6_2 : Bool) (x7_2 : Int) (x8_2 : Int), v6 = .bool x6_2 ∧ v7 = .int .u64 x7_2 ∧ v8 = .int .u64 x8_2 ∧ Aside0 (rowcode_units.j0 kq x6_2 x7_2 x8_2 = some (r1, r2)) ∧ Aside0 (kq ≤ k) ∧ Drawn0 w wc)
 case first =>
  have H := HC3.out
  clear HC3
  by_cases c4 : a0 < 0
  rotate_left
  ·
   rw [if_neg c4] at H
   have c4b0 := decide_eq_false c4
   clear c4
   (rw [c4b0])
   have H' := am H
   clear H
   go_wp2
   go_meet
   case rel => exact ⟨_, (decide (a0 < 0)), (IntKind.u64.wrap (a0)), (a1), (by (simp [*]; done)), (by rfl), (by rfl), H', ⟨by omega⟩, by exact Drawn0.refl _⟩
  rw [if_pos c4] at H
  have c4b0 := decide_eq_true c4
  clear c4
  (rw [c4b0])
  replace H := Option.bind_eq_some_iff.mp H
  obtain ⟨⟨t454, t455⟩, A50, H⟩ := H
  replace H : (rowcode_units.j0 k (decide (a0 < 0)) (IntKind.u64.wrap ((Go.bits .xor .u64 (IntKind.max .u64) (IntKind.u64.wrap (a0))) + t455)) t454) = some (r1, r2) := H
  have A5 := am A50
  clear A50
  have H' := am H
  clear H
  go_wp2_with (((with_reducible refine gate_callee (f := 107) rfl ?_); refine goesE_ (some 24) rfl rfl Tryd.func107 (by kernel_rfl) rfl #[.int .u64 (Go.bits .xor .u64 (IntKind.max .u64) a1), .int .u64 1, .int .u64 0] rfl (by (try simp only [List.map_toArray, List.map_cons, List.map_nil]); rfl) ?_; (with_reducible refine (bits_Add64.calls (Go.bits .xor .u64 (IntKind.max .u64) a1) 1 0 t454 t455 _ A5.out).mono ?_); rintro e w' ⟨rfl, ⟨nd, rfl⟩⟩; refine ⟨_, rfl, ?_⟩))
  go_meet
  case rel => exact ⟨_, (decide (a0 < 0)), (IntKind.u64.wrap ((Go.bits .xor .u64 (IntKind.max .u64) (IntKind.u64.wrap (a0))) + t455)), (t454), (by (simp [*]; done)), (by rfl), (by rfl), H', ⟨by omega⟩, by repeat (first | exact Drawn0.refl _ | apply Drawn0.step)⟩
 case rest =>
  clear HC3
  obtain ⟨kq, x6_2, x7_2, x8_2, rfl, rfl, rfl, HA, HJ2, ⟨mc2, rfl⟩⟩ := hcut
  cases kq with
  | zero => exact absurd HA.out (by simp [rowcode_units.j0])
  | succ kj2 =>
   have H := HA.out
   clear HA
   simp only [rowcode_units.j0] at H
   by_cases c6 : x7_2 ≥ 10000
   ·
    rw [if_pos c6] at H
    have c6b0 : decide (10000 ≤ x7_2) = true := decide_eq_true c6
    clear c6
    simp only [Option.some.injEq, Prod.mk.injEq] at H
    obtain ⟨rfl, rfl⟩ := H
    go_wp2
    go_ret2
    exact ⟨by rfl, by repeat (first | exact Drawn0.refl _ | apply Drawn0.step)⟩
   rw [if_neg c6] at H
   have c6b0 : decide (10000 ≤ x7_2) = false := decide_eq_false c6
   clear c6
   replace H := Option.bind_eq_some_iff.mp H
   obtain ⟨⟨t456, t457⟩, A70, H⟩ := H
   replace H : (if t457 = 0 then (if t456 > 9223372036854775808 then (rowcode_units.j1 kj2 x6_2 t456 true) else (if t456 = 9223372036854775808 then (rowcode_units.j1 kj2 x6_2 t456 (!x6_2)) else (rowcode_units.j1 kj2 x6_2 t456 false))) else (rowcode_units.j1 kj2 x6_2 t456 true)) = some (r1, r2) := H
   have A7 := am A70
   clear A70
   have HC8 := am H
   clear H
   go_upto_region 11 with (((with_reducible refine gate_callee (f := 108) rfl ?_); refine goesL_ (some 35) rfl rfl Tryd.func108 (by kernel_rfl) rfl #[.int .u64 x7_2, .int .u64 x8_2, .int .u64 10000] rfl (by (try simp only [List.map_toArray, List.map_cons, List.map_nil]); rfl) ?_; (with_reducible refine (bits_Div64.calls kj2 x7_2 x8_2 10000 t456 t457 _ A7.out).mono ?_); rintro e w' ⟨rfl, ⟨nd, rfl⟩⟩; refine ⟨_, rfl, ?_⟩))
   go_cut [51] (fun v51 wc => ∃ (kq : Nat) (x51_7 : Bool), v51 = .bool x51_7 ∧ Aside0 (rowcode_units.j1 kq x6_2 t456 x51_7 = some (r1, r2)) ∧ Aside0 (kq ≤ kj2) ∧ Drawn0 w wc)
   case first =>
    have H := HC8.out
    clear HC8
    by_cases c9 : t457 = 0
    rotate_left
    ·
     rw [if_neg c9] at H
     have c9b0 : (t457 == 0) = false := beq_eq_false_iff_ne.mpr c9
     have c9b1 : (t457 != 0) = true := bne_iff_ne.mpr c9
     (skip)
     have H' := am H
     clear H
     go_wp2
     go_meet
     case rel => exact ⟨_, (true), (by with_reducible rfl), H', ⟨by have := HJ2.out; omega⟩, by repeat (first | exact Drawn0.refl _ | apply Drawn0.step)⟩
    rw [if_pos c9] at H
    have c9b0 : (t457 == 0) = true := beq_iff_eq.mpr c9
    have c9b1 : (t457 != 0) = false := bne_eq_false_iff_eq.mpr c9
    clear c9
    (skip)
    by_cases c10 : t456 > 9223372036854775808
    ·
     rw [if_pos c10] at H
     have c10b0 : decide (9223372036854775808 < t456) = true := decide_eq_true c10
     clear c10
     have H' := am H
     clear H
     go_wp2
     go_meet
     case rel => exact ⟨_, (true), (by with_reducible rfl), H', ⟨by have := HJ2.out; omega⟩, by repeat (first | exact Drawn0.refl _ | apply Drawn0.step)⟩
    rw [if_neg c10] at H
    have c10b0 : decide (9223372036854775808 < t456) = false := decide_eq_false c10
    clear c10
    by_cases c11 : t456 = 9223372036854775808
    rotate_left
    ·
     rw [if_neg c11] at H
     have c11b0 : (t456 == 9223372036854775808) = false := beq_eq_false_iff_ne.mpr c11
     have c11b1 : (t456 != 9223372036854775808) = true := bne_iff_ne.mpr c11
     have H' := am H
     clear H
     go_wp2
     go_meet
     case rel => exact ⟨_, (false), (by with_reducible rfl), H', ⟨by have := HJ2.out; omega⟩, by repeat (first | exact Drawn0.refl _ | apply Drawn0.step)⟩
    rw [if_pos c11] at H
    have c11b0 : (t456 == 9223372036854775808) = true := beq_iff_eq.mpr c11
    have c11b1 : (t456 != 9223372036854775808) = false := bne_eq_false_iff_eq.mpr c11
    clear c11
    have H' := am H
    clear H
    go_wp2
    go_meet
    case rel => exact ⟨_, (!x6_2), (by with_reducible rfl), H', ⟨by have := HJ2.out; omega⟩, by repeat (first | exact Drawn0.refl _ | apply Drawn0.step)⟩
   case rest =>
    clear HC8
    (try clear c6b0)
    obtain ⟨kq, x51_7, rfl, HA, HJ7, ⟨mc7, rfl⟩⟩ := hcut
    cases kq with
    | zero => exact absurd HA.out (by simp [rowcode_units.j1])
    | succ kj7 =>
     have H := HA.out
     clear HA
     simp only [rowcode_units.j1] at H
     by_cases c12 : x51_7 = true
     ·
      subst c12
      have H1 : (some (0, true)) = some (r1, r2) := by rw [if_pos rfl] at H; exact H
      clear H
      have H := H1
      clear H1
      simp only [Option.some.injEq, Prod.mk.injEq] at H
      obtain ⟨rfl, rfl⟩ := H
      go_wp2
      go_ret2
      exact ⟨by rfl, by repeat (first | exact Drawn0.refl _ | apply Drawn0.step)⟩
     replace c12 := Bool.eq_false_iff.mpr c12
     subst c12
     have H1 : (if x6_2 = true then (some (wrap64 (IntKind.u64.wrap (-t456)), false)) else (some (wrap64 (t456), false))) = some (r1, r2) := by rw [if_neg (show ¬ (false = true) by decide)] at H; exact H
     clear H
     have H := H1
     clear H1
     by_cases c13 : x6_2 = true
     ·
      subst c13
      have H1 : (some (wrap64 (IntKind.u64.wrap (-t456)), false)) = some (r1, r2) := by rw [if_pos rfl] at H; exact H
      clear H
      have H := H1
      clear H1
      simp only [Option.some.injEq, Prod.mk.injEq] at H
      obtain ⟨rfl, rfl⟩ := H
      go_wp2
      go_ret2
      exact ⟨by rfl, by repeat (first | exact Drawn0.refl _ | apply Drawn0.step)⟩
     replace c13 := Bool.eq_false_iff.mpr c13
     subst c13
     have H1 : (some (wrap64 (t456), false)) = some (r1, r2) := by rw [if_neg (show ¬ (false = true) by decide)] at H; exact H
     clear H
     have H := H1
     clear H1
     simp only [Option.some.injEq, Prod.mk.injEq] at H
     obtain ⟨rfl, rfl⟩ := H
     go_wp2
     go_ret2
     exact ⟨by rfl, by repeat (first | exact Drawn0.refl _ | apply Drawn0.step)⟩
def rowcode_number.l0 : Nat → List Int → Int → Int → List Int → Int → Int → Option (Int × Int × ByteArray × List Int × Int)
 | 0, _, _, _, _, _, _ => none
 | k + 1, x0, x5, x6, x27, x28, x29 => if x29 < x28 then (if 0 ≤ x29 then (if x29 < (x27.length : Int) then (rowcode_number.l0 k x0 x5 (Go.bits .or .u64 (IntKind.u64.wrap (x6 * 256)) (IntKind.u64.wrap (rd x27 x29))) x27 x28 (wrap64 (x29 + 1))) else (none)) else (none)) else (if 10 < (x0.length : Int) then (if (rd x0 10) = 2 then (if x5 = ((wrap64 (x6)) / 9223372036854775808) then (if 11 ≤ (x0.length : Int) then (some (wrap64 (rd x0 10), wrap64 (x6), (⟨#[]⟩ : ByteArray), (x0.drop 11), 0)) else (none)) else (some (0, 0, (⟨#[]⟩ : ByteArray), ([] : List Int), 20))) else (if (rd x0 10) = 1 then ((rowcode_units.f k x5 x6).bind fun bt474 => (if bt474.2 = true then (some (0, 0, (⟨#[]⟩ : ByteArray), ([] : List Int), 20)) else (if 11 ≤ (x0.length : Int) then (some (wrap64 (rd x0 10), bt474.1, (⟨#[]⟩ : ByteArray), (x0.drop 11), 0)) else (none)))) else (some (0, 0, (⟨#[]⟩ : ByteArray), ([] : List Int), 20)))) else (none))
def rowcode_number.f (k : Nat) (l0 : List Int) : Option (Int × Int × ByteArray × List Int × Int) := if (l0.length : Int) < 11 then (some (0, 0, (⟨#[]⟩ : ByteArray), ([] : List Int), 4)) else (if 0 < (l0.length : Int) then (if 1 < (l0.length : Int) then (if 2 ≤ 10 then (if 10 ≤ (l0.length : Int) then ((some ((l0.take 10).drop 2 : List Int)).bind fun y461 => (rowcode_number.l0 k l0 (wrap64 ((wrap64 ((wrap64 ((wrap64 (rd l0 0)) * 256)) + (wrap64 (rd l0 1)))) - 32768)) 0 y461 (y461.length : Int) 0)) else (none)) else (none)) else (none)) else (none))
def rowcode_number.T3 : Bool × List (List Nat × List Nat) := (true, [([], []), ([0], [0]), ([1], [1]), ([2], [2]), ([3], [3]), ([], []), ([5], [5]), ([6], [6]), ([7], [7]), ([4, 8], [4, 8]), ([9], [9]), ([10, 0, 1, 2, 3, 4, 5, 6, 7, 8, 9, 10], [10]), ([11, 0, 1, 2, 3, 4, 5, 6, 7, 8, 9, 10, 11], [])])
def rowcode_number.B3 : List Nat := [0, 1, 3, 7, 15, 0, 32, 96, 224, 511, 1023, 2047, 4095]
theorem rowcode_number.tab3 : rtab .any (opsOf Tryd.f76 3) = rowcode_number.T3 := by kernel_rfl
theorem rowcode_number.bits3 : waitsOk rowcode_number.T3.2 rowcode_number.B3 = true := by kernel_rfl
def rowcode_number.T19 : Bool × List (List Nat × List Nat) := (true, [([], []), ([0], [0]), ([1], [1]), ([2], [2]), ([], []), ([3, 4], [3, 4]), ([], []), ([6], [6]), ([5, 0, 1, 2, 3, 4, 5], [5]), ([7, 8, 0, 1, 2, 3, 4, 5, 6, 7, 8], [7]), ([9, 0, 1, 2, 3, 4, 5, 6, 7, 8, 9], [])])
def rowcode_number.B19 : List Nat := [0, 1, 3, 7, 0, 31, 0, 64, 63, 511, 1023]
theorem rowcode_number.tab19 : rtab .any (opsOf Tryd.f76 19) = rowcode_number.T19 := by kernel_rfl
theorem rowcode_number.bits19 : waitsOk rowcode_number.T19.2 rowcode_number.B19 = true := by kernel_rfl
set_option maxHeartbeats 8000000 in
set_option maxRecDepth 100000 in
theorem rowcode_number.calls (k : Nat) (P0_ : Nat → Prop) (A0 : Option Addr) (c0 : Nat) (l0 : List Int) (r1 : Int) (r2 : Int) (r3 : ByteArray) (r4 : List Int) (r5 : Int) (w : World) (hs0 : Kd.V (Kd.int .u8) 5 w w.heap.size (fun k_ => P0_ k_) (.slice A0 l0.length c0) l0) (h : rowcode_number.f k l0 = some (r1, r2, r3, r4, r5)) :
  Calls Tryd.prog 76 #[.slice A0 l0.length c0] w fun e w' => ∃ v3_ : Value, e = .returned (.tuple #[.agg #[.int .i64 r1, .int .i64 r2, .string r3], v3_, .int .i64 r5]) ∧ Kd.V (Kd.int .u8) 5 w' w.heap.size (fun k_ => (P0_ k_ ∨ w.heap.size ≤ k_)) v3_ r4 ∧ Below w.heap.size w w' := by
 have hu42 := Tryd.underlying42
 have HO0 := am (show Kd.V (Kd.int .u8) 5 w w.heap.size (fun k_ => (P0_ k_ ∨ w.heap.size ≤ k_)) (.slice A0 l0.length c0) l0 from Kd.V_mono hs0 (fun k_ hk => .inl hk))
 have HB := am (Below.refl w.heap.size w)
 have H : (if (l0.length : Int) < 11 then (some (0, 0, (⟨#[]⟩ : ByteArray), ([] : List Int), 4)) else (if 0 < (l0.length : Int) then (if 1 < (l0.length : Int) then (if 2 ≤ 10 then (if 10 ≤ (l0.length : Int) then ((some ((l0.take 10).drop 2 : List Int)).bind fun y461 => (rowcode_number.l0 k l0 (wrap64 ((wrap64 ((wrap64 ((wrap64 (rd l0 0)) * 256)) + (wrap64 (rd l0 1)))) - 32768)) 0 y461 (y461.length : Int) 0)) else (none)) else (none)) else (none)) else (none))) = some (r1, r2, r3, r4, r5) := h
 clear h
 by_cases c2 : (l0.length : Int) < 11
 ·
  rw [if_pos c2] at H
  have c2b0 := decide_eq_true c2
  have c2b1 : decide (l0.length < 11) = true := decide_eq_true (by omega)
  clear c2
  simp only [Option.some.injEq, Prod.mk.injEq] at H
  obtain ⟨rfl, rfl, rfl, rfl, rfl⟩ := H
  go_enter Tryd.func76, Tryd.ntmps76
  go_wp2_with (((with_reducible refine gate_dst (N := 2) rfl ?_); refine box_event ?hg (N := 2) ?hd (cs := #[.int .i64 0, .int .i64 0, .string (⟨#[]⟩ : ByteArray)]) (t := 42) ?hr ?_; (case hd => rfl); (case hg => rfl); (case hr => (go_simp; done)); intro gb458 hg w3 hbox hb; replace HO0 := am (Kd.V_below (Kd.V_elderB HO0.out gb458 (Nat.le_of_eq hg.symm)) hb); have BK458 := am (hbox); have GW458 := am ((by rw [hg]; exact (below_size HB.out) : w.heap.size ≤ gb458)); have GE458 := am ((by rw [hg]; exact (below_size HB.out) : w.heap.size ≤ gb458)); replace HB := am (below_step HB.out hb); clear hb hbox hg; have hcz4_0 : w3.cell? ⟨gb458, 0, none⟩ = some (.int .i64 0) := (blk_cell BK458.out 0).trans rfl; have hcz4_1 : w3.cell? ⟨gb458, 1, none⟩ = some (.int .i64 0) := (blk_cell BK458.out 1).trans rfl; have hcz4_2 : w3.cell? ⟨gb458, 2, none⟩ = some (.string (⟨#[]⟩ : ByteArray)) := (blk_cell BK458.out 2).trans rfl; have hfz4_0 := blk_frozen BK458.out 0; have hfz4_1 := blk_frozen BK458.out 1; have hfz4_2 := blk_frozen BK458.out 2))
  refine bodyPost_ret (results_ctt rfl _ _ gb458 42 #[.int .i64 0, .int .i64 0, .string (⟨#[]⟩ : ByteArray)] (0, 0) _ rfl (by refine blk_put (cs := #[.int .i64 0, .int .i64 0, .string (⟨#[]⟩ : ByteArray)]) ?_ 2 _ rfl; refine blk_put (cs := #[.int .i64 0, .int .i64 0, .string (⟨#[]⟩ : ByteArray)]) ?_ 1 _ rfl; refine blk_put (cs := #[.int .i64 0, .int .i64 0, .string (⟨#[]⟩ : ByteArray)]) ?_ 0 _ rfl; exact BK458.out) Tryd.underlying42 rfl (by kernel_rfl)) rfl ?_
  exact ⟨_, by rfl, Kd.V_nil _ _ _ _ _, by repeat ((with_reducible first | exact HB.out | refine below_set ?_ GE458.out))⟩
 rw [if_neg c2] at H
 have c2b0 := decide_eq_false c2
 have c2b1 : decide (l0.length < 11) = false := decide_eq_false (by omega)
 clear c2
 replace H := its H
 obtain ⟨c5, H⟩ := H
 have c5b0 := decide_eq_true c5
 have c5b1 : decide (0 < l0.length) = true := decide_eq_true (by omega)
 clear c5
 replace H := its H
 obtain ⟨c6, H⟩ := H
 have c6b0 := decide_eq_true c6
 have c6b1 : decide (1 < l0.length) = true := decide_eq_true (by omega)
 clear c6
 replace H := its H
 obtain ⟨c7, H⟩ := H
 have c7b0 := eq_true c7
 have c7b1 := decide_eq_true c7
 clear c7
 replace H := its H
 obtain ⟨c8, H⟩ := H
 have c8b0 := eq_true c8
 have c8b1 := decide_eq_true c8
 clear c8
 obtain ⟨y461, hy461⟩ : ∃ y_ : List Int, y_ = ((l0.take 10).drop 2) := ⟨_, rfl⟩
 replace H : (rowcode_number.l0 k l0 (wrap64 ((wrap64 ((wrap64 ((wrap64 (rd l0 0)) * 256)) + (wrap64 (rd l0 1)))) - 32768)) 0 y461 (y461.length : Int) 0) = some (r1, r2, r3, r4, r5) := by (have H2_ := (Option.bind_some _ _).symm.trans H; rw [hy461]; with_reducible exact H2_)
 have Ny461 := am hy461
 clear hy461
 have H' := am H
 clear H
 go_enter Tryd.func76, Tryd.ntmps76
 try go_wp2_with (((with_reducible refine gate_dst (N := 2) rfl ?_); refine box_event ?hg (N := 2) ?hd (cs := #[.int .i64 0, .int .i64 0, .string (⟨#[]⟩ : ByteArray)]) (t := 42) ?hr ?_; (case hd => rfl); (case hg => rfl); (case hr => (go_simp; done)); intro gb458 hg w9 hbox hb; replace HO0 := am (Kd.V_below (Kd.V_elderB HO0.out gb458 (Nat.le_of_eq hg.symm)) hb); have BK458 := am (hbox); have GW458 := am ((by rw [hg]; exact (below_size HB.out) : w.heap.size ≤ gb458)); have GE458 := am ((by rw [hg]; exact (below_size HB.out) : w.heap.size ≤ gb458)); replace HB := am (below_step HB.out hb); clear hb hbox hg))
 have n0_ := am (Kd.V_drew HO0.out)
 have n1_ := am (blk_drew BK458.out)
 have n2_ := am (below_drew1 HB.out)
 clear HO0
 clear BK458
 clear HB
 have HO0 := n0_
 have BK458 := n1_
 have HB := n2_
 clear n0_ n1_ n2_
 have p459 : 0 ≤ (0 : Int) := (by omega)
 have q459 : 0 < (l0.length : Int) := of_decide_eq_true (by assumption)
 obtain ⟨ad459, e459, hx459_0⟩ := Kd.at_int (Kd.V_reads' HO0.out).2.2 0 p459 q459
 cases e459
 have qi459 : (0 < l0.length) = True := eq_true (by omega)
 (try rw [show ((0 : Int)).toNat = 0 from rfl] at hx459_0)
 (try rw [Addr.add_zero'] at hx459_0)
 replace p459 := eq_true p459
 replace q459 := eq_true q459
 have p460 : 0 ≤ (1 : Int) := (by omega)
 have q460 : 1 < (l0.length : Int) := of_decide_eq_true (by assumption)
 obtain ⟨ad460, e460, hx460_0⟩ := Kd.at_int (Kd.V_reads' HO0.out).2.2 1 p460 q460
 obtain rfl : ad459 = ad460 := (by injection e460)
 (try simp only [show (1 : Int).toNat = 1 from rfl, Nat.reduceMul, Nat.reduceEqDiff, Go.Addr.add, ↓reduceIte] at hx460_0)
 have qi460 : (1 < l0.length) = True := eq_true (by omega)
 replace p460 := eq_true p460
 replace q460 := eq_true q460
 refine start_ (n := 13) (S := fun w' => w'.cell? ad459 = some (.int .u8 (rd l0 0)) ∧ w'.cell? ⟨ad459.block, ad459.off + 1, none⟩ = some (.int .u8 (rd l0 1))) (ds := []) #[false, false, false, false, false, false, false, false, false, false, false, false, false] (by kernel_rfl) rfl rfl ⟨hx459_0, hx460_0⟩ (fun hHeld => ?_); refine with_tabW rowcode_number.tab3 rowcode_number.bits3 (fun HT_ HW_ => ?_)
 generalize w9.drew = w10 at HO0 BK458 HB hx459_0 hx460_0 hHeld ⊢
 refine pu HT_ (v := ?_) (a' := ?_) 0 15 rfl rfl (by kernel_rfl) (fun _ _ _ h => h) (Or.inl ⟨by rfl, ?_⟩) ?_ ?_
 rotate_left
 ·
  intro w'
  go_simp
  with_reducible rfl
 rotate_left
 ·
  simp only [Act.put, sa, sb, sc, i64_w, i32_w]
  rfl
 refine pu HT_ (v := ?_) (a' := ?_) 1 16 rfl rfl (by kernel_rfl) (fun _ _ _ h => h) (Or.inl ⟨by rfl, ?_⟩) ?_ ?_
 rotate_left
 ·
  intro w'
  go_simp
  with_reducible rfl
 rotate_left
 ·
  simp only [Act.put, sa, sb, sc, i64_w, i32_w]
  rfl
 refine pu HT_ (v := ?_) (a' := ?_) 5 20 rfl rfl (by kernel_rfl) (fun _ _ _ h => h) (Or.inl ⟨by rfl, ?_⟩) ?_ ?_
 rotate_left
 ·
  intro w'
  go_simp
  with_reducible rfl
 rotate_left
 ·
  simp only [Act.put, sa, sb, sc, i64_w, i32_w]
  rfl
 refine pu HT_ (v := ?_) (a' := ?_) 6 21 rfl rfl (by kernel_rfl) (fun _ _ _ h => h) (Or.inl ⟨by rfl, ?_⟩) ?_ ?_
 rotate_left
 ·
  intro w'
  go_simp
  with_reducible rfl
 rotate_left
 ·
  simp only [Act.put, sa, sb, sc, i64_w, i32_w]
  rfl
 refine take_ (i := 2) (N := some 17) (v := ?_) (a' := ?_) #[true, true, true, false, false, true, true, false, false, false, false, false, false] rfl rfl (take_ofW HT_.out HW_.out (by kernel_rfl)) (fun _ _ _ h => h) (Or.inl ⟨by rfl, ?_⟩) hHeld ?_ ?_
 rotate_left
 ·
  rintro w' ⟨s0, s1⟩
  go_simp
  with_reducible rfl
 rotate_left
 ·
  simp only [Act.put, sa, sb, sc, i64_w, i32_w]
  rfl
 refine pu HT_ (v := ?_) (a' := ?_) 3 18 rfl rfl (by kernel_rfl) (fun _ _ _ h => h) (Or.inl ⟨by rfl, ?_⟩) ?_ ?_
 rotate_left
 ·
  intro w'
  go_simp
  with_reducible rfl
 rotate_left
 ·
  simp only [Act.put, sa, sb, sc, i64_w, i32_w]
  rfl
 refine pu HT_ (v := ?_) (a' := ?_) 4 19 rfl rfl (by kernel_rfl) (fun _ _ _ h => h) (Or.inl ⟨by rfl, ?_⟩) ?_ ?_
 rotate_left
 ·
  intro w'
  go_simp
  with_reducible rfl
 rotate_left
 ·
  simp only [Act.put, sa, sb, sc, i64_w, i32_w]
  rfl
 refine take_ (i := 7) (N := some 22) (v := ?_) (a' := ?_) #[true, true, true, true, true, true, true, true, false, false, false, false, false] rfl rfl (take_ofW HT_.out HW_.out (by kernel_rfl)) (fun _ _ _ h => h) (Or.inl ⟨by rfl, ?_⟩) hHeld ?_ ?_
 rotate_left
 ·
  rintro w' ⟨s0, s1⟩
  go_simp
  with_reducible rfl
 rotate_left
 ·
  simp only [Act.put, sa, sb, sc, i64_w, i32_w]
  rfl
 refine pu HT_ (v := ?_) (a' := ?_) 8 23 rfl rfl (by kernel_rfl) (fun _ _ _ h => h) (Or.inl ⟨by rfl, ?_⟩) ?_ ?_
 rotate_left
 ·
  intro w'
  go_simp
  with_reducible rfl
 rotate_left
 ·
  simp only [Act.put, sa, sb, sc, i64_w, i32_w]
  rfl
 refine pu HT_ (v := ?_) (a' := ?_) 9 24 rfl rfl (by kernel_rfl) (fun _ _ _ h => h) (Or.inl ⟨by rfl, ?_⟩) ?_ ?_
 rotate_left
 ·
  intro w'
  go_simp
  with_reducible rfl
 rotate_left
 ·
  simp only [Act.put, sa, sb, sc, i64_w, i32_w]
  rfl
 refine pu HT_ (v := ?_) (a' := ?_) 10 25 rfl rfl (by kernel_rfl) (fun _ _ _ h => h) (Or.inl ⟨by rfl, ?_⟩) ?_ ?_
 rotate_left
 ·
  intro w'
  go_simp
  with_reducible rfl
 rotate_left
 ·
  simp only [Act.put, sa, sb, sc, i64_w, i32_w]
  rfl
 refine pu HT_ (v := ?_) (a' := ?_) 11 5 rfl rfl (by kernel_rfl) (fun _ _ _ h => h) (Or.inl ⟨by rfl, ?_⟩) ?_ ?_
 rotate_left
 ·
  intro w'
  go_simp
  with_reducible rfl
 rotate_left
 ·
  simp only [Act.put, sa, sb, sc, i64_w, i32_w]
  rfl
 refine pu HT_ (v := ?_) (a' := ?_) 12 6 rfl rfl (by kernel_rfl) (fun _ _ _ h => h) (Or.inl ⟨by rfl, ?_⟩) ?_ ?_
 rotate_left
 ·
  intro w'
  go_simp
  with_reducible rfl
 rotate_left
 ·
  simp only [Act.put, sa, sb, sc, i64_w, i32_w]
  rfl
 refine done_ (done_of HT_.out (by kernel_rfl)) ?_
 have q11 : (10 : Int) ≤ ((l0.length : Int) : Int) := of_decide_eq_true (by assumption)
 obtain ⟨i011, hi011, _, hsz11, _⟩ := info_parts info5
 have hroom11 : l0.length ≤ c0 := (Kd.V_reads' HO0.out).2.1
 have hC11 : Kd.F (Kd.int .u8) _ _ (some ad459) l0.length l0 := (Kd.V_at (base := w.heap.size) HO0.out).2.2
 have ql11 : (2 : Int) ≤ (10 : Int) := (by omega)
 have hcut11 := cut_mid (P := Tryd.prog) 47 5 .i64 .i64 Tryd.underlying47 hi011 1 hsz11 (some ad459) l0.length c0 2 10 (by omega) ql11 q11 hroom11
 have hr11 := Kd.F_mid (lo := (2 : Int).toNat) (hi := (10 : Int).toNat) (c := c0) hC11 (by omega) (by omega) hroom11
 obtain ⟨A11, hA11⟩ : ∃ A1, A1 = (if c0 = (2 : Int).toNat then (some ad459) else ((some ad459) : Option Addr).map (·.add ((2 : Int).toNat * 1))) := ⟨_, rfl⟩
 obtain ⟨c11, hc11⟩ : ∃ c1, c1 = c0 - (2 : Int).toNat := ⟨_, rfl⟩
 have hy11 : y461.length = (10 : Int).toNat - (2 : Int).toNat := (by rw [Ny461.out, List.length_drop, List.length_take] <;> omega)
 rw [show ((l0).take (10 : Int).toNat).drop (2 : Int).toNat = y461 from Ny461.out.symm] at hr11
 replace hr11 : Kd.F (Kd.int .u8) _ _ A11 y461.length y461 := (by rw [hA11]; exact hr11)
 rw [← hy11, ← hA11, ← hc11] at hcut11
 have HO465 := am (show Kd.V (Kd.int .u8) 5 _ w.heap.size _ (.slice A11 y461.length c11) y461 from Kd.V_mk (by rw [hy11, hc11]; exact Nat.sub_le_sub_right (Nat.le_trans (by omega) hroom11) _) hr11)
 have HC465 := am (show y461.length ≤ c11 from by rw [hy11, hc11]; exact Nat.sub_le_sub_right (Nat.le_trans (by omega) hroom11) _)
 clear hr11 hC11 hroom11 hi011 hsz11 hc11
 have KY11 := am hy11
 have KA11 := am hA11
 clear hy11 hA11
 replace q11 := eq_true q11
 try go_wp2
 go_loopg [6, 29] k (fun kq v6 v29 w' => ∃ (x6_1 : Int) (x29_1 : Int), v6 = .int .u64 x6_1 ∧ v29 = .int .i64 x29_1 ∧ Aside0 (rowcode_number.l0 kq l0 (wrap64 ((wrap64 ((wrap64 ((wrap64 (rd l0 0)) * 256)) + (wrap64 (rd l0 1)))) - 32768)) x6_1 y461 (y461.length : Int) x29_1 = some (r1, r2, r3, r4, r5)) ∧ Aside0 (kq ≤ k) ∧ Aside0 (Kd.V (Kd.int .u8) 5 w' w.heap.size (fun k_ => (P0_ k_ ∨ w.heap.size ≤ k_) ∧ k_ ≠ gb458) (.slice (some ad459) l0.length c0) l0) ∧ Aside0 (Kd.V (Kd.int .u8) 5 w' w.heap.size (fun k_ => (P0_ k_ ∨ w.heap.size ≤ k_) ∧ k_ ≠ gb458) (.slice A11 y461.length c11) y461) ∧ Aside0 (w'.heap[gb458]? = some (.cells #[.int .i64 0, .int .i64 0, .string (⟨#[]⟩ : ByteArray)] 42 (0, 0))) ∧ Aside0 (Below w.heap.size w w'))
 case atStart => exact ⟨(0), (0), (by rfl), (by rfl), H', ⟨Nat.le_refl _⟩, ⟨by exact HO0.out⟩, ⟨by exact HO465.out⟩, ⟨by exact BK458.out⟩, ⟨by exact HB.out⟩⟩
 case round =>
  clear H'
  (try clear c2b0); (try clear c2b1); (try clear c5b0); (try clear c5b1); (try clear c6b0); (try clear c6b1); (try clear c7b0); (try clear c7b1); (try clear c8b0); (try clear c8b1); (try clear q11); (try clear hx459_0); (try clear hx460_0); (try clear p459); (try clear p460); (try clear q459); (try clear q460)
  obtain ⟨x6_1, x29_1, rfl, rfl, HA, HK1, HO_0, HO_27, BK458, HB⟩ := hrel
  cases gk with
  | zero => exact absurd HA.out (by simp [rowcode_number.l0])
  | succ k1 =>
   have H := HA.out
   clear HA
   simp only [rowcode_number.l0] at H
   by_cases c12 : x29_1 < (y461.length : Int)
   ·
    rw [if_pos c12] at H
    have c12b0 := decide_eq_true c12
    clear c12
    replace H := its H
    obtain ⟨c13, H⟩ := H
    have c13b0 := decide_eq_true c13
    clear c13
    replace H := its H
    obtain ⟨c14, H⟩ := H
    have c14b0 := decide_eq_true c14
    clear c14
    have H' := am H
    clear H
    have p466 : 0 ≤ (x29_1 : Int) := of_decide_eq_true (by assumption)
    have q466 : x29_1 < (y461.length : Int) := of_decide_eq_true (by assumption)
    obtain ⟨ad466, e466, hx466_0⟩ := Kd.at_int (Kd.V_reads' HO_27.out).2.2 x29_1 p466 q466
    cases e466
    replace p466 := eq_true p466
    replace q466 := eq_true q466
    go_wp2
    go_roundg k1
    case measure => have := HK1.out; omega
    case rel => exact ⟨(Go.bits .or .u64 (IntKind.u64.wrap (x6_1 * 256)) (IntKind.u64.wrap (rd y461 x29_1))), (wrap64 (x29_1 + 1)), (by rfl), (by rfl), H', ⟨by have := HK1.out; omega⟩, ⟨by exact HO_0.out⟩, ⟨by exact HO_27.out⟩, ⟨by exact BK458.out⟩, ⟨by exact HB.out⟩⟩
   rw [if_neg c12] at H
   have c12b0 := decide_eq_false c12
   clear c12
   replace H := its H
   obtain ⟨c15, H⟩ := H
   have c15b0 := decide_eq_true c15
   have c15b1 : decide (10 < l0.length) = true := decide_eq_true (by omega)
   clear c15
   by_cases c16 : (rd l0 10) = 2
   ·
    rw [if_pos c16] at H
    have c16b0 : ((rd l0 10) == 2) = true := beq_iff_eq.mpr c16
    have c16b1 : ((rd l0 10) != 2) = false := bne_eq_false_iff_eq.mpr c16
    clear c16
    by_cases c17 : (wrap64 ((wrap64 ((wrap64 ((wrap64 (rd l0 0)) * 256)) + (wrap64 (rd l0 1)))) - 32768)) = ((wrap64 (x6_1)) / 9223372036854775808)
    rotate_left
    ·
     rw [if_neg c17] at H
     have c17b0 : ((wrap64 ((wrap64 ((wrap64 ((wrap64 (rd l0 0)) * 256)) + (wrap64 (rd l0 1)))) - 32768)) == ((wrap64 (x6_1)) / 9223372036854775808)) = false := beq_eq_false_iff_ne.mpr c17
     have c17b1 : ((wrap64 ((wrap64 ((wrap64 ((wrap64 (rd l0 0)) * 256)) + (wrap64 (rd l0 1)))) - 32768)) != ((wrap64 (x6_1)) / 9223372036854775808)) = true := bne_iff_ne.mpr c17
     simp only [Option.some.injEq, Prod.mk.injEq] at H
     obtain ⟨rfl, rfl, rfl, rfl, rfl⟩ := H
     have p467 : 0 ≤ (10 : Int) := (by omega)
     have q467 : 10 < (l0.length : Int) := of_decide_eq_true (by assumption)
     obtain ⟨ad467, e467, hx467_0⟩ := Kd.at_int (Kd.V_reads' HO_0.out).2.2 10 p467 q467
     obtain rfl : ad459 = ad467 := (by injection e467)
     (try simp only [show (10 : Int).toNat = 10 from rfl, Nat.reduceMul, Nat.reduceEqDiff, Go.Addr.add, ↓reduceIte] at hx467_0)
     have qi467 : (10 < l0.length) = True := eq_true (by omega)
     replace p467 := eq_true p467
     replace q467 := eq_true q467
     have hcz24_0 : wr.cell? ⟨gb458, 0, none⟩ = some (.int .i64 0) := (blk_cell BK458.out 0).trans rfl
     have hcz24_1 : wr.cell? ⟨gb458, 1, none⟩ = some (.int .i64 0) := (blk_cell BK458.out 1).trans rfl
     have hcz24_2 : wr.cell? ⟨gb458, 2, none⟩ = some (.string (⟨#[]⟩ : ByteArray)) := (blk_cell BK458.out 2).trans rfl
     have hfz24_0 := blk_frozen BK458.out 0
     have hfz24_1 := blk_frozen BK458.out 1
     have hfz24_2 := blk_frozen BK458.out 2
     go_wp2
     refine bodyPost_ret (results_ctt rfl _ _ gb458 42 #[.int .i64 0, .int .i64 0, .string (⟨#[]⟩ : ByteArray)] (0, 0) _ rfl (by refine blk_put (cs := #[.int .i64 0, .int .i64 0, .string (⟨#[]⟩ : ByteArray)]) ?_ 2 _ rfl; refine blk_put (cs := #[.int .i64 0, .int .i64 0, .string (⟨#[]⟩ : ByteArray)]) ?_ 1 _ rfl; refine blk_put (cs := #[.int .i64 0, .int .i64 0, .string (⟨#[]⟩ : ByteArray)]) ?_ 0 _ rfl; exact BK458.out) Tryd.underlying42 rfl (by kernel_rfl)) rfl ?_
     exact ⟨_, by rfl, Kd.V_nil _ _ _ _ _, by repeat ((with_reducible first | exact HB.out | refine below_set ?_ GE458.out))⟩
    rw [if_pos c17] at H
    have c17b0 : ((wrap64 ((wrap64 ((wrap64 ((wrap64 (rd l0 0)) * 256)) + (wrap64 (rd l0 1)))) - 32768)) == ((wrap64 (x6_1)) / 9223372036854775808)) = true := beq_iff_eq.mpr c17
    have c17b1 : ((wrap64 ((wrap64 ((wrap64 ((wrap64 (rd l0 0)) * 256)) + (wrap64 (rd l0 1)))) - 32768)) != ((wrap64 (x6_1)) / 9223372036854775808)) = false := bne_eq_false_iff_eq.mpr c17
    clear c17
    replace H := its H
    obtain ⟨c18, H⟩ := H
    have c18b0 := eq_true c18
    have c18b1 := decide_eq_true c18
    clear c18
    obtain ⟨y469, hy469⟩ : ∃ y_ : List Int, y_ = (l0.drop 11) := ⟨_, rfl⟩
    replace H : (some (wrap64 (rd l0 10), wrap64 (x6_1), (⟨#[]⟩ : ByteArray), y469, 0)) = some (r1, r2, r3, r4, r5) := by (rw [hy469]; with_reducible exact H)
    have Ny469 := am hy469
    clear hy469
    simp only [Option.some.injEq, Prod.mk.injEq] at H
    obtain ⟨rfl, rfl, rfl, rfl, rfl⟩ := H
    have p467 : 0 ≤ (10 : Int) := (by omega)
    have q467 : 10 < (l0.length : Int) := of_decide_eq_true (by assumption)
    obtain ⟨ad467, e467, hx467_0⟩ := Kd.at_int (Kd.V_reads' HO_0.out).2.2 10 p467 q467
    obtain rfl : ad459 = ad467 := (by injection e467)
    (try simp only [show (10 : Int).toNat = 10 from rfl, Nat.reduceMul, Nat.reduceEqDiff, Go.Addr.add, ↓reduceIte] at hx467_0)
    have qi467 : (10 < l0.length) = True := eq_true (by omega)
    replace p467 := eq_true p467
    replace q467 := eq_true q467
    try go_wp2
    have n0_ := am (Kd.V_drew HO_0.out)
    have n1_ := am (Kd.V_drew HO_27.out)
    have n2_ := am (blk_drew BK458.out)
    have n3_ := am (below_drew1 HB.out)
    clear HO_0
    clear HO_27
    clear BK458
    clear HB
    have HO_0 := n0_
    have HO_27 := n1_
    have BK458 := n2_
    have HB := n3_
    clear n0_ n1_ n2_ n3_
    have p468 : 0 ≤ (10 : Int) := (by omega)
    have q468 : 10 < (l0.length : Int) := of_decide_eq_true (by assumption)
    obtain ⟨ad468, e468, hx468_0⟩ := Kd.at_int (Kd.V_reads' HO_0.out).2.2 10 p468 q468
    obtain rfl : ad459 = ad468 := (by injection e468)
    (try simp only [show (10 : Int).toNat = 10 from rfl, Nat.reduceMul, Nat.reduceEqDiff, Go.Addr.add, ↓reduceIte] at hx468_0)
    have qi468 : (10 < l0.length) = True := eq_true (by omega)
    replace p468 := eq_true p468
    replace q468 := eq_true q468
    have q20 : (11 : Int) ≤ ((l0.length : Int) : Int) := of_decide_eq_true (by assumption)
    obtain ⟨i020, hi020, _, hsz20, _⟩ := info_parts info5
    have hroom20 : l0.length ≤ c0 := (Kd.V_reads' HO_0.out).2.1
    have hC20 : Kd.F (Kd.int .u8) _ _ (some ad459) l0.length l0 := (Kd.V_at (base := w.heap.size) HO_0.out).2.2
    have hcut20 := cut_from (P := Tryd.prog) 47 5 .i64 Tryd.underlying47 hi020 1 hsz20 (some ad459) l0.length c0 11 (by omega) q20
    have hr20 := Kd.F_cut (m := (11 : Int).toNat) (c := c0) hC20 (by omega) hroom20
    obtain ⟨A20, hA20⟩ : ∃ A1, A1 = (if c0 = (11 : Int).toNat then (some ad459) else ((some ad459) : Option Addr).map (·.add ((11 : Int).toNat * 1))) := ⟨_, rfl⟩
    obtain ⟨c20, hc20⟩ : ∃ c1, c1 = c0 - (11 : Int).toNat := ⟨_, rfl⟩
    have hy20 : y469.length = l0.length - (11 : Int).toNat := (by rw [Ny469.out, List.length_drop] <;> omega)
    rw [show (l0).drop (11 : Int).toNat = y469 from Ny469.out.symm] at hr20
    replace hr20 : Kd.F (Kd.int .u8) _ _ A20 y469.length y469 := (by rw [hA20]; exact hr20)
    rw [← hy20, ← hA20, ← hc20] at hcut20
    have HO473 := am (show Kd.V (Kd.int .u8) 5 _ w.heap.size _ (.slice A20 y469.length c20) y469 from Kd.V_mk (by rw [hy20, hc20]; exact Nat.sub_le_sub_right hroom20 _) hr20)
    have HC473 := am (show y469.length ≤ c20 from by rw [hy20, hc20]; exact Nat.sub_le_sub_right hroom20 _)
    clear hr20 hC20 hroom20 hi020 hsz20 hc20
    have KY20 := am hy20
    have KA20 := am hA20
    clear hy20 hA20
    replace q20 := eq_true q20
    refine start_ (n := 11) (S := fun w' => w'.cell? ⟨ad459.block, ad459.off + 10, none⟩ = some (.int .u8 (rd l0 10))) (ds := []) #[false, false, false, false, false, false, false, false, false, false, false] (by kernel_rfl) rfl rfl (hx468_0) (fun hHeld => ?_); refine with_tabW rowcode_number.tab19 rowcode_number.bits19 (fun HT_ HW_ => ?_)
    generalize wr.drew = w19 at HO_0 HO_27 BK458 HB HO473 hx468_0 hHeld ⊢
    refine pu HT_ (v := ?_) (a' := ?_) 0 60 rfl rfl (by kernel_rfl) (fun _ _ _ h => h) (Or.inl ⟨by rfl, ?_⟩) ?_ ?_
    rotate_left
    ·
     intro w'
     go_simp
     with_reducible rfl
    rotate_left
    ·
     simp only [Act.put, sa, sb, sc, i64_w, i32_w]
     rfl
    refine pu HT_ (v := ?_) (a' := ?_) 1 61 rfl rfl (by kernel_rfl) (fun _ _ _ h => h) (Or.inl ⟨by rfl, ?_⟩) ?_ ?_
    rotate_left
    ·
     intro w'
     go_simp
     with_reducible rfl
    rotate_left
    ·
     simp only [Act.put, sa, sb, sc, i64_w, i32_w]
     rfl
    refine pu HT_ (v := ?_) (a' := ?_) 4 64 rfl rfl (by kernel_rfl) (fun _ _ _ h => h) (Or.inl ⟨by rfl, ?_⟩) ?_ ?_
    rotate_left
    ·
     intro w'
     go_simp
     with_reducible rfl
    rotate_left
    ·
     simp only [Act.put, sa, sb, sc, i64_w, i32_w]
     rfl
    refine pu HT_ (v := ?_) (a' := ?_) 6 66 rfl rfl (by kernel_rfl) (fun _ _ _ h => h) (Or.inl ⟨by rfl, ?_⟩) ?_ ?_
    rotate_left
    ·
     intro w'
     go_simp
     with_reducible rfl
    rotate_left
    ·
     simp only [Act.put, sa, sb, sc, i64_w, i32_w]
     rfl
    refine pu HT_ (v := ?_) (a' := ?_) 7 67 rfl rfl (by kernel_rfl) (fun _ _ _ h => h) (Or.inl ⟨by rfl, ?_⟩) ?_ ?_
    rotate_left
    ·
     intro w'
     go_simp
     with_reducible rfl
    rotate_left
    ·
     simp only [Act.put, sa, sb, sc, i64_w, i32_w]
     rfl
    refine take_ (i := 2) (N := some 62) (v := ?_) (a' := ?_) #[true, true, true, false, true, false, true, true, false, false, false] rfl rfl (take_ofW HT_.out HW_.out (by kernel_rfl)) (fun _ _ _ h => h) (Or.inl ⟨by rfl, ?_⟩) hHeld ?_ ?_
    rotate_left
    ·
     intro w' s0
     go_simp
     with_reducible rfl
    rotate_left
    ·
     simp only [Act.put, sa, sb, sc, i64_w, i32_w]
     rfl
    refine pu HT_ (v := ?_) (a' := ?_) 3 63 rfl rfl (by kernel_rfl) (fun _ _ _ h => h) (Or.inl ⟨by rfl, ?_⟩) ?_ ?_
    rotate_left
    ·
     intro w'
     go_simp
     with_reducible rfl
    rotate_left
    ·
     simp only [Act.put, sa, sb, sc, i64_w, i32_w]
     rfl
    refine pu HT_ (v := ?_) (a' := ?_) 5 65 rfl rfl (by kernel_rfl) (fun _ _ _ h => h) (Or.inl ⟨by rfl, ?_⟩) ?_ ?_
    rotate_left
    ·
     intro w'
     go_simp
     with_reducible rfl
    rotate_left
    ·
     simp only [Act.put, sa, sb, sc, i64_w, i32_w]
     rfl
    refine one_ (i := 8) (N := none) #[true, true, true, true, true, true, true, true, true, false, false] rfl rfl (one_of HT_.out (by kernel_rfl)) (by decide) (fun K hK => ?_)
    have hs21 : w19.cell? ⟨gb458, 0, none⟩ = some (.int .i64 0) := (blk_cell BK458.out 0).trans rfl
    have hfs21 := blk_frozen BK458.out 0
    have hs22 : w19.cell? ⟨gb458, 1, none⟩ = some (.int .i64 0) := (blk_cell BK458.out 1).trans rfl
    have hfs22 := blk_frozen BK458.out 1
    have hs23 : w19.cell? ⟨gb458, 2, none⟩ = some (.string (⟨#[]⟩ : ByteArray)) := (blk_cell BK458.out 2).trans rfl
    have hfs23 := blk_frozen BK458.out 2
    refine skip_ (w1 := ?_) (by rfl) rfl ?_ ?_
    rotate_left
    ·
     go_simp
     rfl
    refine hK.out _ _ (((cell_far (p := ⟨gb458, _, none⟩) (by (dsimp only; exact Kd.own_blk (Kd.V_away HO_0.out (fun _ hk => hk.2)))) _).trans (((cell_far (p := ⟨gb458, _, none⟩) (by (dsimp only; exact Kd.own_blk (Kd.V_away HO_0.out (fun _ hk => hk.2)))) _).trans (((cell_far (p := ⟨gb458, _, none⟩) (by (dsimp only; exact Kd.own_blk (Kd.V_away HO_0.out (fun _ hk => hk.2)))) _).trans (hHeld))))))) (fun hHeld => ?_)
    clear hK K
    refine pu HT_ (v := ?_) (a' := ?_) 9 3 rfl rfl (by kernel_rfl) (fun _ _ _ h => h) (Or.inl ⟨by rfl, ?_⟩) ?_ ?_
    rotate_left
    ·
     intro w'
     go_simp
     with_reducible rfl
    rotate_left
    ·
     simp only [Act.put, sa, sb, sc, i64_w, i32_w]
     rfl
    refine pu HT_ (v := ?_) (a' := ?_) 10 4 rfl rfl (by kernel_rfl) (fun _ _ _ h => h) (Or.inl ⟨by rfl, ?_⟩) ?_ ?_
    rotate_left
    ·
     intro w'
     go_simp
     with_reducible rfl
    rotate_left
    ·
     simp only [Act.put, sa, sb, sc, i64_w, i32_w]
     rfl
    refine done_ (done_of HT_.out (by kernel_rfl)) ?_
    try go_wp2
    refine bodyPost_ret (results_ctt rfl _ _ gb458 42 #[.int .i64 (wrap64 (rd l0 10)), .int .i64 (wrap64 (x6_1)), .string (⟨#[]⟩ : ByteArray)] (0, 0) _ rfl (by refine blk_put (cs := #[.int .i64 (wrap64 (rd l0 10)), .int .i64 (wrap64 (x6_1)), .string (⟨#[]⟩ : ByteArray)]) ?_ 2 _ rfl; refine blk_put (cs := #[.int .i64 (wrap64 (rd l0 10)), .int .i64 0, .string (⟨#[]⟩ : ByteArray)]) ?_ 1 _ rfl; refine blk_put (cs := #[.int .i64 0, .int .i64 0, .string (⟨#[]⟩ : ByteArray)]) ?_ 0 _ rfl; exact BK458.out) Tryd.underlying42 rfl (by kernel_rfl)) rfl ?_
    exact ⟨_, by rfl, by exact Kd.V_mono (Kd.V_far (p := ⟨gb458, 2, none⟩) (Kd.V_far (p := ⟨gb458, 1, none⟩) (Kd.V_far (p := ⟨gb458, 0, none⟩) (Kd.V_mono HO473.out (fun k_ hk => (⟨hk, hk.2⟩ : _ ∧ k_ ≠ gb458))) (fun _ hk => hk.2) (.int .i64 (wrap64 (rd l0 10)))) (fun _ hk => hk.2) (.int .i64 (wrap64 (x6_1)))) (fun _ hk => hk.2) (.string (⟨#[]⟩ : ByteArray))) (fun _ hk => hk.1.1), by repeat ((with_reducible first | exact HB.out | refine below_set ?_ GE458.out))⟩
   rw [if_neg c16] at H
   have c16b0 : ((rd l0 10) == 2) = false := beq_eq_false_iff_ne.mpr c16
   have c16b1 : ((rd l0 10) != 2) = true := bne_iff_ne.mpr c16
   by_cases c25 : (rd l0 10) = 1
   rotate_left
   ·
    rw [if_neg c25] at H
    have c25b0 : ((rd l0 10) == 1) = false := beq_eq_false_iff_ne.mpr c25
    have c25b1 : ((rd l0 10) != 1) = true := bne_iff_ne.mpr c25
    simp only [Option.some.injEq, Prod.mk.injEq] at H
    obtain ⟨rfl, rfl, rfl, rfl, rfl⟩ := H
    have p467 : 0 ≤ (10 : Int) := (by omega)
    have q467 : 10 < (l0.length : Int) := of_decide_eq_true (by assumption)
    obtain ⟨ad467, e467, hx467_0⟩ := Kd.at_int (Kd.V_reads' HO_0.out).2.2 10 p467 q467
    obtain rfl : ad459 = ad467 := (by injection e467)
    (try simp only [show (10 : Int).toNat = 10 from rfl, Nat.reduceMul, Nat.reduceEqDiff, Go.Addr.add, ↓reduceIte] at hx467_0)
    have qi467 : (10 < l0.length) = True := eq_true (by omega)
    replace p467 := eq_true p467
    replace q467 := eq_true q467
    have hcz35_0 : wr.cell? ⟨gb458, 0, none⟩ = some (.int .i64 0) := (blk_cell BK458.out 0).trans rfl
    have hcz35_1 : wr.cell? ⟨gb458, 1, none⟩ = some (.int .i64 0) := (blk_cell BK458.out 1).trans rfl
    have hcz35_2 : wr.cell? ⟨gb458, 2, none⟩ = some (.string (⟨#[]⟩ : ByteArray)) := (blk_cell BK458.out 2).trans rfl
    have hfz35_0 := blk_frozen BK458.out 0
    have hfz35_1 := blk_frozen BK458.out 1
    have hfz35_2 := blk_frozen BK458.out 2
    go_wp2
    refine bodyPost_ret (results_ctt rfl _ _ gb458 42 #[.int .i64 0, .int .i64 0, .string (⟨#[]⟩ : ByteArray)] (0, 0) _ rfl (by refine blk_put (cs := #[.int .i64 0, .int .i64 0, .string (⟨#[]⟩ : ByteArray)]) ?_ 2 _ rfl; refine blk_put (cs := #[.int .i64 0, .int .i64 0, .string (⟨#[]⟩ : ByteArray)]) ?_ 1 _ rfl; refine blk_put (cs := #[.int .i64 0, .int .i64 0, .string (⟨#[]⟩ : ByteArray)]) ?_ 0 _ rfl; exact BK458.out) Tryd.underlying42 rfl (by kernel_rfl)) rfl ?_
    exact ⟨_, by rfl, Kd.V_nil _ _ _ _ _, by repeat ((with_reducible first | exact HB.out | refine below_set ?_ GE458.out))⟩
   rw [if_pos c25] at H
   have c25b0 : ((rd l0 10) == 1) = true := beq_iff_eq.mpr c25
   have c25b1 : ((rd l0 10) != 1) = false := bne_eq_false_iff_eq.mpr c25
   clear c25
   replace H := Option.bind_eq_some_iff.mp H
   obtain ⟨⟨t474, t475⟩, A260, H⟩ := H
   replace H : (if t475 = true then (some (0, 0, (⟨#[]⟩ : ByteArray), ([] : List Int), 20)) else (if 11 ≤ (l0.length : Int) then (some (wrap64 (rd l0 10), t474, (⟨#[]⟩ : ByteArray), (l0.drop 11), 0)) else (none))) = some (r1, r2, r3, r4, r5) := H
   have A26 := am A260
   clear A260
   by_cases c27 : t475 = true
   ·
    subst c27
    have H1 : (some (0, 0, (⟨#[]⟩ : ByteArray), ([] : List Int), 20)) = some (r1, r2, r3, r4, r5) := by rw [if_pos rfl] at H; exact H
    clear H
    have H := H1
    clear H1
    simp only [Option.some.injEq, Prod.mk.injEq] at H
    obtain ⟨rfl, rfl, rfl, rfl, rfl⟩ := H
    have p467 : 0 ≤ (10 : Int) := (by omega)
    have q467 : 10 < (l0.length : Int) := of_decide_eq_true (by assumption)
    obtain ⟨ad467, e467, hx467_0⟩ := Kd.at_int (Kd.V_reads' HO_0.out).2.2 10 p467 q467
    obtain rfl : ad459 = ad467 := (by injection e467)
    (try simp only [show (10 : Int).toNat = 10 from rfl, Nat.reduceMul, Nat.reduceEqDiff, Go.Addr.add, ↓reduceIte] at hx467_0)
    have qi467 : (10 < l0.length) = True := eq_true (by omega)
    replace p467 := eq_true p467
    replace q467 := eq_true q467
    go_wp2_with (((with_reducible refine gate_callee (f := 89) rfl ?_); refine goesL_ (some 55) rfl rfl Tryd.func89 (by kernel_rfl) rfl #[.int .i64 (wrap64 ((wrap64 ((wrap64 ((wrap64 (rd l0 0)) * 256)) + (wrap64 (rd l0 1)))) - 32768)), .int .u64 x6_1] rfl (by (try simp only [List.map_toArray, List.map_cons, List.map_nil]); rfl) ?_; (with_reducible refine (rowcode_units.calls k1 (wrap64 ((wrap64 ((wrap64 ((wrap64 (rd l0 0)) * 256)) + (wrap64 (rd l0 1)))) - 32768)) x6_1 t474 true _ A26.out).mono ?_); rintro e w' ⟨rfl, ⟨nd, rfl⟩⟩; refine ⟨_, rfl, ?_⟩; (try (rw [drewN_self wr]; generalize hq_ : World.drewN wr _ = wr; have n0_ : Aside0 (Kd.V (Kd.int .u8) 5 wr w.heap.size (fun k_ => (P0_ k_ ∨ w.heap.size ≤ k_) ∧ k_ ≠ gb458) (.slice (some ad459) l0.length c0) l0) := ⟨by rw [← hq_]; exact (by (with_reducible repeat (apply Kd.V_drewN)); exact HO_0.out)⟩; have n1_ : Aside0 (Kd.V (Kd.int .u8) 5 wr w.heap.size (fun k_ => (P0_ k_ ∨ w.heap.size ≤ k_) ∧ k_ ≠ gb458) (.slice A11 y461.length c11) y461) := ⟨by rw [← hq_]; exact (by (with_reducible repeat (apply Kd.V_drewN)); exact HO_27.out)⟩; have n2_ : Aside0 (wr.heap[gb458]? = some (.cells #[.int .i64 0, .int .i64 0, .string (⟨#[]⟩ : ByteArray)] 42 (0, 0))) := ⟨by rw [← hq_]; exact (by (with_reducible repeat (refine blk_drewN ?_ _)); exact BK458.out)⟩; have n3_ : Aside0 (Below w.heap.size w wr) := ⟨by rw [← hq_]; exact (by repeat ((with_reducible first | exact HB.out | apply pw_below_drewN)))⟩; clear HO_0 HO_27 BK458 HB hq_; have HO_0 := n0_; have HO_27 := n1_; have BK458 := n2_; have HB := n3_; clear n0_ n1_ n2_ n3_)); have hcz28_0 : wr.cell? ⟨gb458, 0, none⟩ = some (.int .i64 0) := (blk_cell BK458.out 0).trans rfl; have hcz28_1 : wr.cell? ⟨gb458, 1, none⟩ = some (.int .i64 0) := (blk_cell BK458.out 1).trans rfl; have hcz28_2 : wr.cell? ⟨gb458, 2, none⟩ = some (.string (⟨#[]⟩ : ByteArray)) := (blk_cell BK458.out 2).trans rfl; have hfz28_0 := blk_frozen BK458.out 0; have hfz28_1 := blk_frozen BK458.out 1; have hfz28_2 := blk_frozen BK458.out 2))
    refine bodyPost_ret (results_ctt rfl _ _ gb458 42 #[.int .i64 0, .int .i64 0, .string (⟨#[]⟩ : ByteArray)] (0, 0) _ rfl (by refine blk_put (cs := #[.int .i64 0, .int .i64 0, .string (⟨#[]⟩ : ByteArray)]) ?_ 2 _ rfl; refine blk_put (cs := #[.int .i64 0, .int .i64 0, .string (⟨#[]⟩ : ByteArray)]) ?_ 1 _ rfl; refine blk_put (cs := #[.int .i64 0, .int .i64 0, .string (⟨#[]⟩ : ByteArray)]) ?_ 0 _ rfl; exact BK458.out) Tryd.underlying42 rfl (by kernel_rfl)) rfl ?_
    exact ⟨_, by rfl, Kd.V_nil _ _ _ _ _, by repeat ((with_reducible first | exact HB.out | refine below_set ?_ GE458.out))⟩
   replace c27 := Bool.eq_false_iff.mpr c27
   subst c27
   have H1 : (if 11 ≤ (l0.length : Int) then (some (wrap64 (rd l0 10), t474, (⟨#[]⟩ : ByteArray), (l0.drop 11), 0)) else (none)) = some (r1, r2, r3, r4, r5) := by rw [if_neg (show ¬ (false = true) by decide)] at H; exact H
   clear H
   have H := H1
   clear H1
   replace H := its H
   obtain ⟨c29, H⟩ := H
   have c29b0 := eq_true c29
   have c29b1 := decide_eq_true c29
   clear c29
   obtain ⟨y477, hy477⟩ : ∃ y_ : List Int, y_ = (l0.drop 11) := ⟨_, rfl⟩
   replace H : (some (wrap64 (rd l0 10), t474, (⟨#[]⟩ : ByteArray), y477, 0)) = some (r1, r2, r3, r4, r5) := by (rw [hy477]; with_reducible exact H)
   have Ny477 := am hy477
   clear hy477
   simp only [Option.some.injEq, Prod.mk.injEq] at H
   obtain ⟨rfl, rfl, rfl, rfl, rfl⟩ := H
   have p467 : 0 ≤ (10 : Int) := (by omega)
   have q467 : 10 < (l0.length : Int) := of_decide_eq_true (by assumption)
   obtain ⟨ad467, e467, hx467_0⟩ := Kd.at_int (Kd.V_reads' HO_0.out).2.2 10 p467 q467
   obtain rfl : ad459 = ad467 := (by injection e467)
   (try simp only [show (10 : Int).toNat = 10 from rfl, Nat.reduceMul, Nat.reduceEqDiff, Go.Addr.add, ↓reduceIte] at hx467_0)
   have qi467 : (10 < l0.length) = True := eq_true (by omega)
   replace p467 := eq_true p467
   replace q467 := eq_true q467
   try go_wp2_with (((with_reducible refine gate_callee (f := 89) rfl ?_); refine goesL_ (some 55) rfl rfl Tryd.func89 (by kernel_rfl) rfl #[.int .i64 (wrap64 ((wrap64 ((wrap64 ((wrap64 (rd l0 0)) * 256)) + (wrap64 (rd l0 1)))) - 32768)), .int .u64 x6_1] rfl (by (try simp only [List.map_toArray, List.map_cons, List.map_nil]); rfl) ?_; (with_reducible refine (rowcode_units.calls k1 (wrap64 ((wrap64 ((wrap64 ((wrap64 (rd l0 0)) * 256)) + (wrap64 (rd l0 1)))) - 32768)) x6_1 t474 false _ A26.out).mono ?_); rintro e w' ⟨rfl, ⟨nd, rfl⟩⟩; refine ⟨_, rfl, ?_⟩; (try (rw [drewN_self wr]; generalize hq_ : World.drewN wr _ = wr; have n0_ : Aside0 (Kd.V (Kd.int .u8) 5 wr w.heap.size (fun k_ => (P0_ k_ ∨ w.heap.size ≤ k_) ∧ k_ ≠ gb458) (.slice (some ad459) l0.length c0) l0) := ⟨by rw [← hq_]; exact (by (with_reducible repeat (apply Kd.V_drewN)); exact HO_0.out)⟩; have n1_ : Aside0 (Kd.V (Kd.int .u8) 5 wr w.heap.size (fun k_ => (P0_ k_ ∨ w.heap.size ≤ k_) ∧ k_ ≠ gb458) (.slice A11 y461.length c11) y461) := ⟨by rw [← hq_]; exact (by (with_reducible repeat (apply Kd.V_drewN)); exact HO_27.out)⟩; have n2_ : Aside0 (wr.heap[gb458]? = some (.cells #[.int .i64 0, .int .i64 0, .string (⟨#[]⟩ : ByteArray)] 42 (0, 0))) := ⟨by rw [← hq_]; exact (by (with_reducible repeat (refine blk_drewN ?_ _)); exact BK458.out)⟩; have n3_ : Aside0 (Below w.heap.size w wr) := ⟨by rw [← hq_]; exact (by repeat ((with_reducible first | exact HB.out | apply pw_below_drewN)))⟩; clear HO_0 HO_27 BK458 HB hq_; have HO_0 := n0_; have HO_27 := n1_; have BK458 := n2_; have HB := n3_; clear n0_ n1_ n2_ n3_))))
   have n0_ := am (Kd.V_drew HO_0.out)
   have n1_ := am (Kd.V_drew HO_27.out)
   have n2_ := am (blk_drew BK458.out)
   have n3_ := am (below_drew1 HB.out)
   clear HO_0
   clear HO_27
   clear BK458
   clear HB
   have HO_0 := n0_
   have HO_27 := n1_
   have BK458 := n2_
   have HB := n3_
   clear n0_ n1_ n2_ n3_
   have p476 : 0 ≤ (10 : Int) := (by omega)
   have q476 : 10 < (l0.length : Int) := of_decide_eq_true (by assumption)
   obtain ⟨ad476, e476, hx476_0⟩ := Kd.at_int (Kd.V_reads' HO_0.out).2.2 10 p476 q476
   obtain rfl : ad459 = ad476 := (by injection e476)
   (try simp only [show (10 : Int).toNat = 10 from rfl, Nat.reduceMul, Nat.reduceEqDiff, Go.Addr.add, ↓reduceIte] at hx476_0)
   have qi476 : (10 < l0.length) = True := eq_true (by omega)
   replace p476 := eq_true p476
   replace q476 := eq_true q476
   have q31 : (11 : Int) ≤ ((l0.length : Int) : Int) := of_decide_eq_true (by assumption)
   obtain ⟨i031, hi031, _, hsz31, _⟩ := info_parts info5
   have hroom31 : l0.length ≤ c0 := (Kd.V_reads' HO_0.out).2.1
   have hC31 : Kd.F (Kd.int .u8) _ _ (some ad459) l0.length l0 := (Kd.V_at (base := w.heap.size) HO_0.out).2.2
   have hcut31 := cut_from (P := Tryd.prog) 47 5 .i64 Tryd.underlying47 hi031 1 hsz31 (some ad459) l0.length c0 11 (by omega) q31
   have hr31 := Kd.F_cut (m := (11 : Int).toNat) (c := c0) hC31 (by omega) hroom31
   obtain ⟨A31, hA31⟩ : ∃ A1, A1 = (if c0 = (11 : Int).toNat then (some ad459) else ((some ad459) : Option Addr).map (·.add ((11 : Int).toNat * 1))) := ⟨_, rfl⟩
   obtain ⟨c31, hc31⟩ : ∃ c1, c1 = c0 - (11 : Int).toNat := ⟨_, rfl⟩
   have hy31 : y477.length = l0.length - (11 : Int).toNat := (by rw [Ny477.out, List.length_drop] <;> omega)
   rw [show (l0).drop (11 : Int).toNat = y477 from Ny477.out.symm] at hr31
   replace hr31 : Kd.F (Kd.int .u8) _ _ A31 y477.length y477 := (by rw [hA31]; exact hr31)
   rw [← hy31, ← hA31, ← hc31] at hcut31
   have HO481 := am (show Kd.V (Kd.int .u8) 5 _ w.heap.size _ (.slice A31 y477.length c31) y477 from Kd.V_mk (by rw [hy31, hc31]; exact Nat.sub_le_sub_right hroom31 _) hr31)
   have HC481 := am (show y477.length ≤ c31 from by rw [hy31, hc31]; exact Nat.sub_le_sub_right hroom31 _)
   clear hr31 hC31 hroom31 hi031 hsz31 hc31
   have KY31 := am hy31
   have KA31 := am hA31
   clear hy31 hA31
   replace q31 := eq_true q31
   refine start_ (n := 11) (S := fun w' => w'.cell? ⟨ad459.block, ad459.off + 10, none⟩ = some (.int .u8 (rd l0 10))) (ds := []) #[false, false, false, false, false, false, false, false, false, false, false] (by kernel_rfl) rfl rfl (hx476_0) (fun hHeld => ?_); refine with_tabW rowcode_number.tab19 rowcode_number.bits19 (fun HT_ HW_ => ?_)
   generalize wr.drew = w30 at HO_0 HO_27 BK458 HB HO481 hx476_0 hHeld ⊢
   refine pu HT_ (v := ?_) (a' := ?_) 0 60 rfl rfl (by kernel_rfl) (fun _ _ _ h => h) (Or.inl ⟨by rfl, ?_⟩) ?_ ?_
   rotate_left
   ·
    intro w'
    go_simp
    with_reducible rfl
   rotate_left
   ·
    simp only [Act.put, sa, sb, sc, i64_w, i32_w]
    rfl
   refine pu HT_ (v := ?_) (a' := ?_) 1 61 rfl rfl (by kernel_rfl) (fun _ _ _ h => h) (Or.inl ⟨by rfl, ?_⟩) ?_ ?_
   rotate_left
   ·
    intro w'
    go_simp
    with_reducible rfl
   rotate_left
   ·
    simp only [Act.put, sa, sb, sc, i64_w, i32_w]
    rfl
   refine pu HT_ (v := ?_) (a' := ?_) 4 64 rfl rfl (by kernel_rfl) (fun _ _ _ h => h) (Or.inl ⟨by rfl, ?_⟩) ?_ ?_
   rotate_left
   ·
    intro w'
    go_simp
    with_reducible rfl
   rotate_left
   ·
    simp only [Act.put, sa, sb, sc, i64_w, i32_w]
    rfl
   refine pu HT_ (v := ?_) (a' := ?_) 6 66 rfl rfl (by kernel_rfl) (fun _ _ _ h => h) (Or.inl ⟨by rfl, ?_⟩) ?_ ?_
   rotate_left
   ·
    intro w'
    go_simp
    with_reducible rfl
   rotate_left
   ·
    simp only [Act.put, sa, sb, sc, i64_w, i32_w]
    rfl
   refine pu HT_ (v := ?_) (a' := ?_) 7 67 rfl rfl (by kernel_rfl) (fun _ _ _ h => h) (Or.inl ⟨by rfl, ?_⟩) ?_ ?_
   rotate_left
   ·
    intro w'
    go_simp
    with_reducible rfl
   rotate_left
   ·
    simp only [Act.put, sa, sb, sc, i64_w, i32_w]
    rfl
   refine take_ (i := 2) (N := some 62) (v := ?_) (a' := ?_) #[true, true, true, false, true, false, true, true, false, false, false] rfl rfl (take_ofW HT_.out HW_.out (by kernel_rfl)) (fun _ _ _ h => h) (Or.inl ⟨by rfl, ?_⟩) hHeld ?_ ?_
   rotate_left
   ·
    intro w' s0
    go_simp
    with_reducible rfl
   rotate_left
   ·
    simp only [Act.put, sa, sb, sc, i64_w, i32_w]
    rfl
   refine pu HT_ (v := ?_) (a' := ?_) 3 63 rfl rfl (by kernel_rfl) (fun _ _ _ h => h) (Or.inl ⟨by rfl, ?_⟩) ?_ ?_
   rotate_left
   ·
    intro w'
    go_simp
    with_reducible rfl
   rotate_left
   ·
    simp only [Act.put, sa, sb, sc, i64_w, i32_w]
    rfl
   refine pu HT_ (v := ?_) (a' := ?_) 5 65 rfl rfl (by kernel_rfl) (fun _ _ _ h => h) (Or.inl ⟨by rfl, ?_⟩) ?_ ?_
   rotate_left
   ·
    intro w'
    go_simp
    with_reducible rfl
   rotate_left
   ·
    simp only [Act.put, sa, sb, sc, i64_w, i32_w]
    rfl
   refine one_ (i := 8) (N := none) #[true, true, true, true, true, true, true, true, true, false, false] rfl rfl (one_of HT_.out (by kernel_rfl)) (by decide) (fun K hK => ?_)
   have hs32 : w30.cell? ⟨gb458, 0, none⟩ = some (.int .i64 0) := (blk_cell BK458.out 0).trans rfl
   have hfs32 := blk_frozen BK458.out 0
   have hs33 : w30.cell? ⟨gb458, 1, none⟩ = some (.int .i64 0) := (blk_cell BK458.out 1).trans rfl
   have hfs33 := blk_frozen BK458.out 1
   have hs34 : w30.cell? ⟨gb458, 2, none⟩ = some (.string (⟨#[]⟩ : ByteArray)) := (blk_cell BK458.out 2).trans rfl
   have hfs34 := blk_frozen BK458.out 2
   refine skip_ (w1 := ?_) (by rfl) rfl ?_ ?_
   rotate_left
   ·
    go_simp
    rfl
   refine hK.out _ _ (((cell_far (p := ⟨gb458, _, none⟩) (by (dsimp only; exact Kd.own_blk (Kd.V_away HO_0.out (fun _ hk => hk.2)))) _).trans (((cell_far (p := ⟨gb458, _, none⟩) (by (dsimp only; exact Kd.own_blk (Kd.V_away HO_0.out (fun _ hk => hk.2)))) _).trans (((cell_far (p := ⟨gb458, _, none⟩) (by (dsimp only; exact Kd.own_blk (Kd.V_away HO_0.out (fun _ hk => hk.2)))) _).trans (hHeld))))))) (fun hHeld => ?_)
   clear hK K
   refine pu HT_ (v := ?_) (a' := ?_) 9 3 rfl rfl (by kernel_rfl) (fun _ _ _ h => h) (Or.inl ⟨by rfl, ?_⟩) ?_ ?_
   rotate_left
   ·
    intro w'
    go_simp
    with_reducible rfl
   rotate_left
   ·
    simp only [Act.put, sa, sb, sc, i64_w, i32_w]
    rfl
   refine pu HT_ (v := ?_) (a' := ?_) 10 4 rfl rfl (by kernel_rfl) (fun _ _ _ h => h) (Or.inl ⟨by rfl, ?_⟩) ?_ ?_
   rotate_left
   ·
    intro w'
    go_simp
    with_reducible rfl
   rotate_left
   ·
    simp only [Act.put, sa, sb, sc, i64_w, i32_w]
    rfl
   refine done_ (done_of HT_.out (by kernel_rfl)) ?_
   try go_wp2
   refine bodyPost_ret (results_ctt rfl _ _ gb458 42 #[.int .i64 (wrap64 (rd l0 10)), .int .i64 t474, .string (⟨#[]⟩ : ByteArray)] (0, 0) _ rfl (by refine blk_put (cs := #[.int .i64 (wrap64 (rd l0 10)), .int .i64 t474, .string (⟨#[]⟩ : ByteArray)]) ?_ 2 _ rfl; refine blk_put (cs := #[.int .i64 (wrap64 (rd l0 10)), .int .i64 0, .string (⟨#[]⟩ : ByteArray)]) ?_ 1 _ rfl; refine blk_put (cs := #[.int .i64 0, .int .i64 0, .string (⟨#[]⟩ : ByteArray)]) ?_ 0 _ rfl; exact BK458.out) Tryd.underlying42 rfl (by kernel_rfl)) rfl ?_
   exact ⟨_, by rfl, by exact Kd.V_mono (Kd.V_far (p := ⟨gb458, 2, none⟩) (Kd.V_far (p := ⟨gb458, 1, none⟩) (Kd.V_far (p := ⟨gb458, 0, none⟩) (Kd.V_mono HO481.out (fun k_ hk => (⟨hk, hk.2⟩ : _ ∧ k_ ≠ gb458))) (fun _ hk => hk.2) (.int .i64 (wrap64 (rd l0 10)))) (fun _ hk => hk.2) (.int .i64 t474)) (fun _ hk => hk.2) (.string (⟨#[]⟩ : ByteArray))) (fun _ hk => hk.1.1), by repeat ((with_reducible first | exact HB.out | refine below_set ?_ GE458.out))⟩
mutual
def rowcode_text.l0 : Nat → List Int → List Int → Option (Int × Int × ByteArray × List Int × Int)
 | 0, _, _ => none
 | k + 1, x0, x5 => (bytes_IndexByte.f x0 0).bind fun t483 => (if t483 < 0 then (rowcode_text.j1 k x0 x5 t483 true) else (rowcode_text.j1 k x0 x5 t483 ((wrap64 (t483 + 1)) == (x0.length : Int))))
def rowcode_text.j1 : Nat → List Int → List Int → Int → Bool → Option (Int × Int × ByteArray × List Int × Int)
 | 0, _, _, _, _ => none
 | k + 1, x0, x5, x6, x19 => if x19 = true then (some (0, 0, (⟨#[]⟩ : ByteArray), ([] : List Int), 4)) else (if 0 ≤ x6 then (if x6 ≤ (x0.length : Int) then ((some (x0.take (x6 : Int).toNat : List Int)).bind fun y484 => (if x5.length + y484.length < 140737488355328 then ((some (x5 ++ y484 : List Int)).bind fun y489 => (if 0 ≤ (wrap64 (x6 + 1)) then (if (wrap64 (x6 + 1)) < (x0.length : Int) then (if 0 ≤ (wrap64 (x6 + 2)) then (if (wrap64 (x6 + 2)) ≤ (x0.length : Int) then ((some (x0.drop ((wrap64 (x6 + 2)) : Int).toNat : List Int)).bind fun y493 => (if (rd x0 (wrap64 (x6 + 1))) = 255 then (if y489.length < 140737488355328 then (rowcode_text.l0 k y493 (y489 ++ [0])) else (none)) else (if (rd x0 (wrap64 (x6 + 1))) = 0 then ((value_Check.f k 3 0 (strOfNums y489)).bind fun t502 => (if t502 = 0 then (some (3, 0, strOfNums y489, y493, 0)) else (some (0, 0, (⟨#[]⟩ : ByteArray), ([] : List Int), 20)))) else (some (0, 0, (⟨#[]⟩ : ByteArray), ([] : List Int), 20))))) else (none)) else (none)) else (none)) else (none))) else (none))) else (none)) else (none))
end
def rowcode_text.f (k : Nat) (l0 : List Int) : Option (Int × Int × ByteArray × List Int × Int) := rowcode_text.l0 k l0 ([] : List Int)
set_option maxHeartbeats 8000000 in
set_option maxRecDepth 100000 in
theorem rowcode_text.calls (k : Nat) (P0_ : Nat → Prop) (A0 : Option Addr) (c0 : Nat) (l0 : List Int) (r1 : Int) (r2 : Int) (r3 : ByteArray) (r4 : List Int) (r5 : Int) (w : World) (hT : Tabs w) (hs0 : Kd.V (Kd.int .u8) 5 w w.heap.size (fun k_ => P0_ k_) (.slice A0 l0.length c0) l0) (h : rowcode_text.f k l0 = some (r1, r2, r3, r4, r5)) :
  Calls Tryd.prog 77 #[.slice A0 l0.length c0] w fun e w' => ∃ v3_ : Value, e = .returned (.tuple #[.agg #[.int .i64 r1, .int .i64 r2, .string r3], v3_, .int .i64 r5]) ∧ Kd.V (Kd.int .u8) 5 w' w.heap.size (fun k_ => (P0_ k_ ∨ w.heap.size ≤ k_)) v3_ r4 ∧ Below w.heap.size w w' := by
 have hu42 := Tryd.underlying42
 have HT := am hT
 clear hT
 have HO0 := am (show Kd.V (Kd.int .u8) 5 w w.heap.size (fun k_ => (P0_ k_ ∨ w.heap.size ≤ k_)) (.slice A0 l0.length c0) l0 from Kd.V_mono hs0 (fun k_ hk => .inl hk))
 have HB := am (Below.refl w.heap.size w)
 have H : (rowcode_text.l0 k l0 ([] : List Int)) = some (r1, r2, r3, r4, r5) := h
 clear h
 have H' := am H
 clear H
 go_enter Tryd.func77, Tryd.ntmps77
 go_wp2_with (((with_reducible refine gate_dst (N := 2) rfl ?_); (try (refine gate_guard (by rfl) ?_; dsimp only)); refine box_event ?hg (N := 2) ?hd (cs := #[.int .i64 0, .int .i64 0, .string (⟨#[]⟩ : ByteArray)]) (t := 42) ?hr ?_; (case hd => rfl); (case hg => rfl); (case hr => (go_simp; done)); intro gb482 hg w2 hbox hb; replace HO0 := am (Kd.V_below (Kd.V_elderB HO0.out gb482 (Nat.le_of_eq hg.symm)) hb); have BK482 := am (hbox); have GW482 := am ((by rw [hg]; exact (below_size HB.out) : w.heap.size ≤ gb482)); have GE482 := am ((by rw [hg]; exact (below_size HB.out) : w.heap.size ≤ gb482)); replace HB := am (below_step HB.out hb); clear hb hbox hg))
 go_loopg [0, 5] k (fun kq v0 v5 w' => ∃ (x0_1 : List Int) (x5_1 : List Int) (x483000_1 : Int) (x483001_1 : Int) (x483002_1 : ByteArray), Aside0 (rowcode_text.l0 kq x0_1 x5_1 = some (r1, r2, r3, r4, r5)) ∧ Aside0 (kq ≤ k) ∧ Aside0 (Kd.V (Kd.int .u8) 5 w' w.heap.size (fun k_ => (P0_ k_ ∨ w.heap.size ≤ k_) ∧ some k_ ≠ (v5 : Value).ownBlock ∧ k_ ≠ gb482) v0 x0_1) ∧ Aside0 (Kd.R (Kd.int .u8) 5 w' w.heap.size (fun k_ => (w.heap.size ≤ k_)) v5 x5_1) ∧ Aside0 (w'.heap[gb482]? = some (.cells #[.int .i64 x483000_1, .int .i64 x483001_1, .string x483002_1] 42 (0, 0))) ∧ Aside0 (Below w.heap.size w w'))
 case atStart => exact ⟨(l0), (([] : List Int)), (0), (0), ((⟨#[]⟩ : ByteArray)), H', ⟨Nat.le_refl _⟩, ⟨by exact Kd.V_mono HO0.out (fun _ hk => ⟨hk.1, ⟨(by simp [Value.ownBlock]), hk.2⟩⟩)⟩, ⟨by exact Kd.R_nil _ _ _ _ _⟩, ⟨by exact BK482.out⟩, ⟨by exact HB.out⟩⟩
 case round =>
  clear H'
  obtain ⟨x0_1, x5_1, x483000_1, x483001_1, x483002_1, HA, HK1, HO_0, HO_5, BK482, HB⟩ := hrel
  cases gk with
  | zero => exact absurd HA.out (by simp [rowcode_text.l0])
  | succ k1 =>
   have H := HA.out
   clear HA
   simp only [rowcode_text.l0] at H
   replace H := Option.bind_eq_some_iff.mp H
   obtain ⟨t483, A30, H⟩ := H
   replace H : (if t483 < 0 then (rowcode_text.j1 k1 x0_1 x5_1 t483 true) else (rowcode_text.j1 k1 x0_1 x5_1 t483 ((wrap64 (t483 + 1)) == (x0_1.length : Int)))) = some (r1, r2, r3, r4, r5) := H
   have A3 := am A30
   clear A30
   have HC4 := am H
   clear H
   obtain ⟨Ao5, co5, eo5⟩ := Kd.V_slice HO_0.out
   subst eo5
   go_upto_region 3 with (((with_reducible refine gate_callee (f := 90) rfl ?_); refine goesL_ (some 10) rfl rfl Tryd.func90 (by kernel_rfl) rfl #[.slice Ao5 x0_1.length co5, .int .u8 0] rfl (by (try simp only [List.map_toArray, List.map_cons, List.map_nil]); rfl) ?_; (with_reducible refine (bytes_IndexByte.calls _ _ x0_1 0 t483 _ ?side1 ?side2 A3.out).mono ?_); (case side1 => exact (Kd.V_reads' HO_0.out).2.2); (case side2 => exact (Kd.V_reads' HO_0.out).2.1); rintro e w6 ⟨rfl, hb⟩; refine ⟨_, rfl, ?_⟩; replace HO_0 := am (Kd.V_below HO_0.out hb); replace HO_5 := am (Kd.R_below HO_5.out hb); replace BK482 := am (blk_below (g := gb482) (o := .cells #[.int .i64 x483000_1, .int .i64 x483001_1, .string x483002_1] 42 (0, 0)) (by exact BK482.out) hb); replace HB := am (below_step HB.out hb); (try clear hb)))
   go_cut [19] (fun v19 wc => ∃ (kq : Nat) (x19_3 : Bool), v19 = .bool x19_3 ∧ Aside0 (rowcode_text.j1 kq x0_1 x5_1 t483 x19_3 = some (r1, r2, r3, r4, r5)) ∧ Aside0 (kq ≤ k1) ∧ Aside0 (Kd.V (Kd.int .u8) 5 wc w.heap.size (fun k_ => (P0_ k_ ∨ w.heap.size ≤ k_) ∧ some k_ ≠ (u5 : Value).ownBlock ∧ k_ ≠ gb482) (.slice Ao5 x0_1.length co5) x0_1) ∧ Aside0 (Kd.R (Kd.int .u8) 5 wc w.heap.size (fun k_ => (w.heap.size ≤ k_)) u5 x5_1) ∧ Aside0 (wc.heap[gb482]? = some (.cells #[.int .i64 x483000_1, .int .i64 x483001_1, .string x483002_1] 42 (0, 0))) ∧ Aside0 (Below w.heap.size w wc))
   case first =>
    have H := HC4.out
    clear HC4
    by_cases c7 : t483 < 0
    ·
     rw [if_pos c7] at H
     have c7b0 := decide_eq_true c7
     clear c7
     (skip)
     have H' := am H
     clear H
     go_wp2
     go_meet
     case rel => exact ⟨_, (true), (by with_reducible rfl), H', ⟨by have := HK1.out; omega⟩, ⟨by exact HO_0.out⟩, ⟨by exact HO_5.out⟩, ⟨by exact BK482.out⟩, ⟨by exact HB.out⟩⟩
    rw [if_neg c7] at H
    have c7b0 := decide_eq_false c7
    clear c7
    (skip)
    have H' := am H
    clear H
    go_wp2
    go_meet
    case rel => exact ⟨_, (((wrap64 (t483 + 1)) == (x0_1.length : Int))), (by with_reducible rfl), H', ⟨by have := HK1.out; omega⟩, ⟨by exact HO_0.out⟩, ⟨by exact HO_5.out⟩, ⟨by exact BK482.out⟩, ⟨by exact HB.out⟩⟩
   case rest =>
    clear HC4
    obtain ⟨kq, x19_3, rfl, HA, HJ3, HO_0, HO_5, BK482, HB⟩ := hcut
    cases kq with
    | zero => exact absurd HA.out (by simp [rowcode_text.j1])
    | succ kj3 =>
     have H := HA.out
     clear HA
     simp only [rowcode_text.j1] at H
     by_cases c8 : x19_3 = true
     ·
      subst c8
      have H1 : (some (0, 0, (⟨#[]⟩ : ByteArray), ([] : List Int), 4)) = some (r1, r2, r3, r4, r5) := by rw [if_pos rfl] at H; exact H
      clear H
      have H := H1
      clear H1
      simp only [Option.some.injEq, Prod.mk.injEq] at H
      obtain ⟨rfl, rfl, rfl, rfl, rfl⟩ := H
      have hcz9_0 : wc.cell? ⟨gb482, 0, none⟩ = some (.int .i64 x483000_1) := (blk_cell BK482.out 0).trans rfl
      have hcz9_1 : wc.cell? ⟨gb482, 1, none⟩ = some (.int .i64 x483001_1) := (blk_cell BK482.out 1).trans rfl
      have hcz9_2 : wc.cell? ⟨gb482, 2, none⟩ = some (.string x483002_1) := (blk_cell BK482.out 2).trans rfl
      have hfz9_0 := blk_frozen BK482.out 0
      have hfz9_1 := blk_frozen BK482.out 1
      have hfz9_2 := blk_frozen BK482.out 2
      go_wp2
      refine bodyPost_ret (results_ctt rfl _ _ gb482 42 #[.int .i64 0, .int .i64 0, .string (⟨#[]⟩ : ByteArray)] (0, 0) _ rfl (by refine blk_put (cs := #[.int .i64 0, .int .i64 0, .string x483002_1]) ?_ 2 _ rfl; refine blk_put (cs := #[.int .i64 0, .int .i64 x483001_1, .string x483002_1]) ?_ 1 _ rfl; refine blk_put (cs := #[.int .i64 x483000_1, .int .i64 x483001_1, .string x483002_1]) ?_ 0 _ rfl; exact BK482.out) Tryd.underlying42 rfl (by kernel_rfl)) rfl ?_
      exact ⟨_, by rfl, Kd.V_nil _ _ _ _ _, by repeat ((with_reducible first | exact HB.out | refine below_set ?_ GE482.out))⟩
     replace c8 := Bool.eq_false_iff.mpr c8
     subst c8
     have H1 : (if 0 ≤ t483 then (if t483 ≤ (x0_1.length : Int) then ((some (x0_1.take (t483 : Int).toNat : List Int)).bind fun y484 => (if x5_1.length + y484.length < 140737488355328 then ((some (x5_1 ++ y484 : List Int)).bind fun y489 => (if 0 ≤ (wrap64 (t483 + 1)) then (if (wrap64 (t483 + 1)) < (x0_1.length : Int) then (if 0 ≤ (wrap64 (t483 + 2)) then (if (wrap64 (t483 + 2)) ≤ (x0_1.length : Int) then ((some (x0_1.drop ((wrap64 (t483 + 2)) : Int).toNat : List Int)).bind fun y493 => (if (rd x0_1 (wrap64 (t483 + 1))) = 255 then (if y489.length < 140737488355328 then (rowcode_text.l0 kj3 y493 (y489 ++ [0])) else (none)) else (if (rd x0_1 (wrap64 (t483 + 1))) = 0 then ((value_Check.f kj3 3 0 (strOfNums y489)).bind fun t502 => (if t502 = 0 then (some (3, 0, strOfNums y489, y493, 0)) else (some (0, 0, (⟨#[]⟩ : ByteArray), ([] : List Int), 20)))) else (some (0, 0, (⟨#[]⟩ : ByteArray), ([] : List Int), 20))))) else (none)) else (none)) else (none)) else (none))) else (none))) else (none)) else (none)) = some (r1, r2, r3, r4, r5) := by rw [if_neg (show ¬ (false = true) by decide)] at H; exact H
     clear H
     have H := H1
     clear H1
     replace H := its H
     obtain ⟨c10, H⟩ := H
     have c10b0 := eq_true c10
     have c10b1 := decide_eq_true c10
     clear c10
     replace H := its H
     obtain ⟨c11, H⟩ := H
     have c11b0 := eq_true c11
     have c11b1 := decide_eq_true c11
     clear c11
     obtain ⟨y484, hy484⟩ : ∃ y_ : List Int, y_ = (x0_1.take (t483 : Int).toNat) := ⟨_, rfl⟩
     replace H : (if x5_1.length + y484.length < 140737488355328 then ((some (x5_1 ++ y484 : List Int)).bind fun y489 => (if 0 ≤ (wrap64 (t483 + 1)) then (if (wrap64 (t483 + 1)) < (x0_1.length : Int) then (if 0 ≤ (wrap64 (t483 + 2)) then (if (wrap64 (t483 + 2)) ≤ (x0_1.length : Int) then ((some (x0_1.drop ((wrap64 (t483 + 2)) : Int).toNat : List Int)).bind fun y493 => (if (rd x0_1 (wrap64 (t483 + 1))) = 255 then (if y489.length < 140737488355328 then (rowcode_text.l0 kj3 y493 (y489 ++ [0])) else (none)) else (if (rd x0_1 (wrap64 (t483 + 1))) = 0 then ((value_Check.f kj3 3 0 (strOfNums y489)).bind fun t502 => (if t502 = 0 then (some (3, 0, strOfNums y489, y493, 0)) else (some (0, 0, (⟨#[]⟩ : ByteArray), ([] : List Int), 20)))) else (some (0, 0, (⟨#[]⟩ : ByteArray), ([] : List Int), 20))))) else (none)) else (none)) else (none)) else (none))) else (none)) = some (r1, r2, r3, r4, r5) := by (have H2_ := (Option.bind_some _ _).symm.trans H; rw [hy484]; with_reducible exact H2_)
     have Ny484 := am hy484
     clear hy484
     replace H := its H
     obtain ⟨c12, H⟩ := H
     have LMc12 := am c12
     clear c12
     obtain ⟨y489, hy489⟩ : ∃ y_ : List Int, y_ = (x5_1 ++ y484) := ⟨_, rfl⟩
     replace H : (if 0 ≤ (wrap64 (t483 + 1)) then (if (wrap64 (t483 + 1)) < (x0_1.length : Int) then (if 0 ≤ (wrap64 (t483 + 2)) then (if (wrap64 (t483 + 2)) ≤ (x0_1.length : Int) then ((some (x0_1.drop ((wrap64 (t483 + 2)) : Int).toNat : List Int)).bind fun y493 => (if (rd x0_1 (wrap64 (t483 + 1))) = 255 then (if y489.length < 140737488355328 then (rowcode_text.l0 kj3 y493 (y489 ++ [0])) else (none)) else (if (rd x0_1 (wrap64 (t483 + 1))) = 0 then ((value_Check.f kj3 3 0 (strOfNums y489)).bind fun t502 => (if t502 = 0 then (some (3, 0, strOfNums y489, y493, 0)) else (some (0, 0, (⟨#[]⟩ : ByteArray), ([] : List Int), 20)))) else (some (0, 0, (⟨#[]⟩ : ByteArray), ([] : List Int), 20))))) else (none)) else (none)) else (none)) else (none)) = some (r1, r2, r3, r4, r5) := by (have H2_ := (Option.bind_some _ _).symm.trans H; rw [hy489]; with_reducible exact H2_)
     have Ny489 := am hy489
     clear hy489
     obtain ⟨ji13, hji13⟩ : ∃ j_ : Int, (wrap64 (t483 + 1)) = j_ := ⟨_, rfl⟩
     replace H : (if 0 ≤ (ji13) then (if (ji13) < (x0_1.length : Int) then (if 0 ≤ (wrap64 (t483 + 2)) then (if (wrap64 (t483 + 2)) ≤ (x0_1.length : Int) then ((some (x0_1.drop ((wrap64 (t483 + 2)) : Int).toNat : List Int)).bind fun y493 => (if (rd x0_1 (ji13)) = 255 then (if y489.length < 140737488355328 then (rowcode_text.l0 kj3 y493 (y489 ++ [0])) else (none)) else (if (rd x0_1 (ji13)) = 0 then ((value_Check.f kj3 3 0 (strOfNums y489)).bind fun t502 => (if t502 = 0 then (some (3, 0, strOfNums y489, y493, 0)) else (some (0, 0, (⟨#[]⟩ : ByteArray), ([] : List Int), 20)))) else (some (0, 0, (⟨#[]⟩ : ByteArray), ([] : List Int), 20))))) else (none)) else (none)) else (none)) else (none)) = some (r1, r2, r3, r4, r5) := by (rw [hji13] at H; exact H)
     have hji13w : (IntKind.i64.wrap (t483 + 1)) = ji13 := (i64_w _).trans hji13
     replace H := its H
     obtain ⟨c14, H⟩ := H
     have c14b0 := decide_eq_true c14
     clear c14
     replace H := its H
     obtain ⟨c15, H⟩ := H
     have c15b0 := decide_eq_true c15
     clear c15
     obtain ⟨ji16, hji16⟩ : ∃ j_ : Int, (wrap64 (t483 + 2)) = j_ := ⟨_, rfl⟩
     replace H : (if 0 ≤ (ji16) then (if (ji16) ≤ (x0_1.length : Int) then ((some (x0_1.drop ((ji16) : Int).toNat : List Int)).bind fun y493 => (if (rd x0_1 (ji13)) = 255 then (if y489.length < 140737488355328 then (rowcode_text.l0 kj3 y493 (y489 ++ [0])) else (none)) else (if (rd x0_1 (ji13)) = 0 then ((value_Check.f kj3 3 0 (strOfNums y489)).bind fun t502 => (if t502 = 0 then (some (3, 0, strOfNums y489, y493, 0)) else (some (0, 0, (⟨#[]⟩ : ByteArray), ([] : List Int), 20)))) else (some (0, 0, (⟨#[]⟩ : ByteArray), ([] : List Int), 20))))) else (none)) else (none)) = some (r1, r2, r3, r4, r5) := by (rw [hji16] at H; exact H)
     have hji16w : (IntKind.i64.wrap (t483 + 2)) = ji16 := (i64_w _).trans hji16
     replace H := its H
     obtain ⟨c17, H⟩ := H
     have c17b0 := eq_true c17
     have c17b1 := decide_eq_true c17
     clear c17
     replace H := its H
     obtain ⟨c18, H⟩ := H
     have c18b0 := eq_true c18
     have c18b1 := decide_eq_true c18
     clear c18
     obtain ⟨y493, hy493⟩ : ∃ y_ : List Int, y_ = (x0_1.drop ((ji16) : Int).toNat) := ⟨_, rfl⟩
     replace H : (if (rd x0_1 (ji13)) = 255 then (if y489.length < 140737488355328 then (rowcode_text.l0 kj3 y493 (y489 ++ [0])) else (none)) else (if (rd x0_1 (ji13)) = 0 then ((value_Check.f kj3 3 0 (strOfNums y489)).bind fun t502 => (if t502 = 0 then (some (3, 0, strOfNums y489, y493, 0)) else (some (0, 0, (⟨#[]⟩ : ByteArray), ([] : List Int), 20)))) else (some (0, 0, (⟨#[]⟩ : ByteArray), ([] : List Int), 20)))) = some (r1, r2, r3, r4, r5) := by (have H2_ := (Option.bind_some _ _).symm.trans H; rw [hy493]; with_reducible exact H2_)
     have Ny493 := am hy493
     clear hy493
     by_cases c19 : (rd x0_1 (ji13)) = 255
     ·
      rw [if_pos c19] at H
      have c19b0 : ((rd x0_1 (ji13)) == 255) = true := beq_iff_eq.mpr c19
      have c19b1 : ((rd x0_1 (ji13)) != 255) = false := bne_eq_false_iff_eq.mpr c19
      clear c19
      replace H := its H
      obtain ⟨c20, H⟩ := H
      have LMc20 := am c20
      clear c20
      obtain ⟨y498, hy498⟩ : ∃ y_ : List Int, y_ = (y489 ++ [0]) := ⟨_, rfl⟩
      replace H : (rowcode_text.l0 kj3 y493 y498) = some (r1, r2, r3, r4, r5) := by (rw [hy498]; with_reducible exact H)
      have Ny498 := am hy498
      clear hy498
      have H' := am H
      clear H
      have q21 : (t483 : Int) ≤ ((x0_1.length : Int) : Int) := of_decide_eq_true (by assumption)
      obtain ⟨i021, hi021, _, hsz21, _⟩ := info_parts info5
      have hroom21 : x0_1.length ≤ co5 := (Kd.V_reads' HO_0.out).2.1
      have hC21 : Kd.F (Kd.int .u8) _ _ Ao5 x0_1.length x0_1 := (Kd.V_at (base := w.heap.size) HO_0.out).2.2
      have hcut21 := cut_to (P := Tryd.prog) 47 5 .i64 Tryd.underlying47 hi021 Ao5 x0_1.length co5 t483 (of_decide_eq_true (by assumption)) q21 hroom21
      have hr21 := Kd.F_take (m := (t483 : Int).toNat) hC21 (by omega)
      have hy21 : y484.length = (t483 : Int).toNat := (by rw [Ny484.out, List.length_take]; omega)
      rw [← Ny484.out] at hr21
      rw [← hy21] at hcut21
      have HO488 := am (show Kd.V (Kd.int .u8) 5 _ w.heap.size _ (.slice Ao5 y484.length co5) y484 from Kd.V_mk (by omega) hr21)
      have HC488 := am (show y484.length ≤ co5 from by omega)
      clear hr21 hC21 hroom21 hi021 hsz21
      have KY21 := am hy21
      clear hy21
      replace q21 := eq_true q21
      go_wp2_with (first | ((with_reducible refine gate_builtin (b := .append) (xs := #[.tmp 21, .tmp 24]) rfl ?_); (try (refine gate_guard (by rfl) ?_; dsimp only)); at_builtin; refine Kd.R_append_rows (Kd.int .u8) (w0 := w) w.heap.size rfl (.tmp 21) (.tmp 24) 47 5 (.int .u8 0) 1 rfl Tryd.underlying47 info5 rfl (by decide) (by omega) u5 x5_1 y484 _ _ _ (fun k_ => (w.heap.size ≤ k_)) (fun _ => False) rfl rfl ?aO ?aR (fun _ _ h => h) (fun _ h => h.elim) ?aF ?aB ?aS ?aL ?_; (case aR => exact (Kd.V_reads' HO488.out).2.2); (case aB => exact HB.out); (case aF => exact (fun k_ hk => (Nat.le_trans (below_size HB.out) hk))); (case aO => exact HO_5.out); (case aS => exact (below_size HB.out)); (case aL => have := LMc12.out; omega); intro v490 w22 ho hb hg hat; rw [← Ny489.out] at ho; replace HO_0 := am (Kd.V_afterv (ok := (fun k_ => (P0_ k_ ∨ w.heap.size ≤ k_) ∧ k_ ≠ gb482)) (by exact Kd.V_mono HO_0.out (fun _ hk => ⟨⟨hk.1, hk.2.2⟩, hk.2.1⟩)) hg hat); replace BK482 := am (blk_grown (g := gb482) (o := .cells #[.int .i64 x483000_1, .int .i64 x483001_1, .string x483002_1] 42 (0, 0)) (by exact BK482.out) hg (Kd.R_ne HO_5.out BK482.out (by decide))); replace HO488 := am (Kd.V_afterv (ok := (fun k_ => (P0_ k_ ∨ w.heap.size ≤ k_) ∧ k_ ≠ gb482)) (by exact Kd.V_mono HO488.out (fun _ hk => ⟨⟨hk.1, hk.2.2⟩, hk.2.1⟩)) hg hat); replace HB := am (hb); have HO491 := am (ho); clear HO_5; clear ho hb hg hat; have p492 : 0 ≤ ((ji13) : Int) := of_decide_eq_true (by assumption); have q492 : (ji13) < (x0_1.length : Int) := of_decide_eq_true (by assumption); obtain ⟨ad492, e492, hx492_0⟩ := Kd.at_int (Kd.V_reads' HO_0.out).2.2 (ji13) p492 q492; cases e492; replace p492 := eq_true p492; replace q492 := eq_true q492; have q23 : ((ji16) : Int) ≤ ((x0_1.length : Int) : Int) := of_decide_eq_true (by assumption); obtain ⟨i023, hi023, _, hsz23, _⟩ := info_parts info5; have hroom23 : x0_1.length ≤ co5 := (Kd.V_reads' HO_0.out).2.1; have hC23 : Kd.F (Kd.int .u8) _ _ (some ad492) x0_1.length x0_1 := (Kd.V_at (base := w.heap.size) HO_0.out).2.2; have q023 : (0 : Int) ≤ ((ji16) : Int) := of_decide_eq_true (by assumption); have hcut23 := cut_from (P := Tryd.prog) 47 5 .i64 Tryd.underlying47 hi023 1 hsz23 (some ad492) x0_1.length co5 (ji16) q023 q23; have hr23 := Kd.F_cut (m := ((ji16) : Int).toNat) (c := co5) hC23 (by omega) hroom23; obtain ⟨A23, hA23⟩ : ∃ A1, A1 = (if co5 = ((ji16) : Int).toNat then (some ad492) else ((some ad492) : Option Addr).map (·.add (((ji16) : Int).toNat * 1))) := ⟨_, rfl⟩; obtain ⟨c23, hc23⟩ : ∃ c1, c1 = co5 - ((ji16) : Int).toNat := ⟨_, rfl⟩; have hy23 : y493.length = x0_1.length - ((ji16) : Int).toNat := (by rw [Ny493.out, List.length_drop] <;> omega); rw [show (x0_1).drop ((ji16) : Int).toNat = y493 from Ny493.out.symm] at hr23; replace hr23 : Kd.F (Kd.int .u8) _ _ A23 y493.length y493 := (by rw [hA23]; exact hr23); rw [← hy23, ← hA23, ← hc23] at hcut23; have HO497 := am (show Kd.V (Kd.int .u8) 5 _ w.heap.size _ (.slice A23 y493.length c23) y493 from Kd.V_mk (by rw [hy23, hc23]; exact Nat.sub_le_sub_right hroom23 _) hr23); have HC497 := am (show y493.length ≤ c23 from by rw [hy23, hc23]; exact Nat.sub_le_sub_right hroom23 _); clear hr23 hC23 hroom23 hi023 hsz23 hc23; have KY23 := am hy23; have KA23 := am hA23; clear hy23 hA23; replace q23 := eq_true q23) | ((with_reducible refine gate_builtin (b := .append) (xs := #[.tmp 38, .tmp 39]) rfl ?_); (try (refine gate_guard (by rfl) ?_; dsimp only)); at_builtin; refine Kd.R_append (Kd.int .u8) (w0 := w) w.heap.size rfl (.tmp 38) (.tmp 39) 47 5 (.int .u8 0) 1 rfl Tryd.underlying47 info5 rfl (by decide) (by omega) v490 y489 0 [.int .u8 0] (fun k_ => (w.heap.size ≤ k_)) (fun _ => False) rfl rfl ?aP (fun _ hk => hk.elim) ?aF ?aO ?aB ?aS ?aL ?_; (case aP => exact rfl); (case aB => exact HB.out); (case aF => exact (fun k_ hk => (Nat.le_trans (below_size HB.out) hk))); (case aO => exact HO491.out); (case aS => exact (below_size HB.out)); (case aL => have := LMc20.out; omega); intro v499 w24 ho hb hg hat; rw [← Ny498.out] at ho; replace HO_0 := am (Kd.V_afterv (ok := (fun k_ => (P0_ k_ ∨ w.heap.size ≤ k_) ∧ k_ ≠ gb482)) HO_0.out hg hat); replace BK482 := am (blk_grown (g := gb482) (o := .cells #[.int .i64 x483000_1, .int .i64 x483001_1, .string x483002_1] 42 (0, 0)) (by exact BK482.out) hg (Kd.R_ne HO491.out BK482.out (by decide))); replace HO488 := am (Kd.V_afterv (ok := (fun k_ => (P0_ k_ ∨ w.heap.size ≤ k_) ∧ k_ ≠ gb482)) HO488.out hg hat); replace HO497 := am (Kd.V_afterv (ok := (fun k_ => (P0_ k_ ∨ w.heap.size ≤ k_) ∧ k_ ≠ gb482)) HO497.out hg hat); replace HB := am (hb); have HO500 := am (ho); clear HO491; clear ho hb hg hat))
      go_roundg kj3
      case measure => have := HK1.out; have := HJ3.out; omega
      case rel => exact ⟨(y493), (y498), (x483000_1), (x483001_1), (x483002_1), H', ⟨by have := HK1.out; have := HJ3.out; omega⟩, ⟨by exact Kd.V_mono HO497.out (fun _ hk => ⟨hk.1.1, ⟨hk.2, hk.1.2⟩⟩)⟩, ⟨by exact HO500.out⟩, ⟨by exact BK482.out⟩, ⟨by exact HB.out⟩⟩
     rw [if_neg c19] at H
     have c19b0 : ((rd x0_1 (ji13)) == 255) = false := beq_eq_false_iff_ne.mpr c19
     have c19b1 : ((rd x0_1 (ji13)) != 255) = true := bne_iff_ne.mpr c19
     by_cases c25 : (rd x0_1 (ji13)) = 0
     rotate_left
     ·
      rw [if_neg c25] at H
      have c25b0 : ((rd x0_1 (ji13)) == 0) = false := beq_eq_false_iff_ne.mpr c25
      have c25b1 : ((rd x0_1 (ji13)) != 0) = true := bne_iff_ne.mpr c25
      simp only [Option.some.injEq, Prod.mk.injEq] at H
      obtain ⟨rfl, rfl, rfl, rfl, rfl⟩ := H
      have q47 : (t483 : Int) ≤ ((x0_1.length : Int) : Int) := of_decide_eq_true (by assumption)
      obtain ⟨i047, hi047, _, hsz47, _⟩ := info_parts info5
      have hroom47 : x0_1.length ≤ co5 := (Kd.V_reads' HO_0.out).2.1
      have hC47 : Kd.F (Kd.int .u8) _ _ Ao5 x0_1.length x0_1 := (Kd.V_at (base := w.heap.size) HO_0.out).2.2
      have hcut47 := cut_to (P := Tryd.prog) 47 5 .i64 Tryd.underlying47 hi047 Ao5 x0_1.length co5 t483 (of_decide_eq_true (by assumption)) q47 hroom47
      have hr47 := Kd.F_take (m := (t483 : Int).toNat) hC47 (by omega)
      have hy47 : y484.length = (t483 : Int).toNat := (by rw [Ny484.out, List.length_take]; omega)
      rw [← Ny484.out] at hr47
      rw [← hy47] at hcut47
      have HO488 := am (show Kd.V (Kd.int .u8) 5 _ w.heap.size _ (.slice Ao5 y484.length co5) y484 from Kd.V_mk (by omega) hr47)
      have HC488 := am (show y484.length ≤ co5 from by omega)
      clear hr47 hC47 hroom47 hi047 hsz47
      have KY47 := am hy47
      clear hy47
      replace q47 := eq_true q47
      go_wp2_with (((with_reducible refine gate_builtin (b := .append) (xs := #[.tmp 21, .tmp 24]) rfl ?_); (try (refine gate_guard (by rfl) ?_; dsimp only)); at_builtin; refine Kd.R_append_rows (Kd.int .u8) (w0 := w) w.heap.size rfl (.tmp 21) (.tmp 24) 47 5 (.int .u8 0) 1 rfl Tryd.underlying47 info5 rfl (by decide) (by omega) u5 x5_1 y484 _ _ _ (fun k_ => (w.heap.size ≤ k_)) (fun _ => False) rfl rfl ?aO ?aR (fun _ _ h => h) (fun _ h => h.elim) ?aF ?aB ?aS ?aL ?_; (case aR => exact (Kd.V_reads' HO488.out).2.2); (case aB => exact HB.out); (case aF => exact (fun k_ hk => (Nat.le_trans (below_size HB.out) hk))); (case aO => exact HO_5.out); (case aS => exact (below_size HB.out)); (case aL => have := LMc12.out; omega); intro v490 w48 ho hb hg hat; rw [← Ny489.out] at ho; replace HO_0 := am (Kd.V_afterv (ok := (fun k_ => (P0_ k_ ∨ w.heap.size ≤ k_) ∧ k_ ≠ gb482)) (by exact Kd.V_mono HO_0.out (fun _ hk => ⟨⟨hk.1, hk.2.2⟩, hk.2.1⟩)) hg hat); replace BK482 := am (blk_grown (g := gb482) (o := .cells #[.int .i64 x483000_1, .int .i64 x483001_1, .string x483002_1] 42 (0, 0)) (by exact BK482.out) hg (Kd.R_ne HO_5.out BK482.out (by decide))); replace HO488 := am (Kd.V_afterv (ok := (fun k_ => (P0_ k_ ∨ w.heap.size ≤ k_) ∧ k_ ≠ gb482)) (by exact Kd.V_mono HO488.out (fun _ hk => ⟨⟨hk.1, hk.2.2⟩, hk.2.1⟩)) hg hat); replace HB := am (hb); have HO491 := am (ho); clear HO_5; clear ho hb hg hat; have p492 : 0 ≤ ((ji13) : Int) := of_decide_eq_true (by assumption); have q492 : (ji13) < (x0_1.length : Int) := of_decide_eq_true (by assumption); obtain ⟨ad492, e492, hx492_0⟩ := Kd.at_int (Kd.V_reads' HO_0.out).2.2 (ji13) p492 q492; cases e492; replace p492 := eq_true p492; replace q492 := eq_true q492; have q49 : ((ji16) : Int) ≤ ((x0_1.length : Int) : Int) := of_decide_eq_true (by assumption); obtain ⟨i049, hi049, _, hsz49, _⟩ := info_parts info5; have hroom49 : x0_1.length ≤ co5 := (Kd.V_reads' HO_0.out).2.1; have hC49 : Kd.F (Kd.int .u8) _ _ (some ad492) x0_1.length x0_1 := (Kd.V_at (base := w.heap.size) HO_0.out).2.2; have q049 : (0 : Int) ≤ ((ji16) : Int) := of_decide_eq_true (by assumption); have hcut49 := cut_from (P := Tryd.prog) 47 5 .i64 Tryd.underlying47 hi049 1 hsz49 (some ad492) x0_1.length co5 (ji16) q049 q49; have hr49 := Kd.F_cut (m := ((ji16) : Int).toNat) (c := co5) hC49 (by omega) hroom49; obtain ⟨A49, hA49⟩ : ∃ A1, A1 = (if co5 = ((ji16) : Int).toNat then (some ad492) else ((some ad492) : Option Addr).map (·.add (((ji16) : Int).toNat * 1))) := ⟨_, rfl⟩; obtain ⟨c49, hc49⟩ : ∃ c1, c1 = co5 - ((ji16) : Int).toNat := ⟨_, rfl⟩; have hy49 : y493.length = x0_1.length - ((ji16) : Int).toNat := (by rw [Ny493.out, List.length_drop] <;> omega); rw [show (x0_1).drop ((ji16) : Int).toNat = y493 from Ny493.out.symm] at hr49; replace hr49 : Kd.F (Kd.int .u8) _ _ A49 y493.length y493 := (by rw [hA49]; exact hr49); rw [← hy49, ← hA49, ← hc49] at hcut49; have HO497 := am (show Kd.V (Kd.int .u8) 5 _ w.heap.size _ (.slice A49 y493.length c49) y493 from Kd.V_mk (by rw [hy49, hc49]; exact Nat.sub_le_sub_right hroom49 _) hr49); have HC497 := am (show y493.length ≤ c49 from by rw [hy49, hc49]; exact Nat.sub_le_sub_right hroom49 _); clear hr49 hC49 hroom49 hi049 hsz49 hc49; have KY49 := am hy49; have KA49 := am hA49; clear hy49 hA49; replace q49 := eq_true q49; have hcz50_0 : w48.cell? ⟨gb482, 0, none⟩ = some (.int .i64 x483000_1) := (blk_cell BK482.out 0).trans rfl; have hcz50_1 : w48.cell? ⟨gb482, 1, none⟩ = some (.int .i64 x483001_1) := (blk_cell BK482.out 1).trans rfl; have hcz50_2 : w48.cell? ⟨gb482, 2, none⟩ = some (.string x483002_1) := (blk_cell BK482.out 2).trans rfl; have hfz50_0 := blk_frozen BK482.out 0; have hfz50_1 := blk_frozen BK482.out 1; have hfz50_2 := blk_frozen BK482.out 2))
      refine bodyPost_ret (results_ctt rfl _ _ gb482 42 #[.int .i64 0, .int .i64 0, .string (⟨#[]⟩ : ByteArray)] (0, 0) _ rfl (by refine blk_put (cs := #[.int .i64 0, .int .i64 0, .string x483002_1]) ?_ 2 _ rfl; refine blk_put (cs := #[.int .i64 0, .int .i64 x483001_1, .string x483002_1]) ?_ 1 _ rfl; refine blk_put (cs := #[.int .i64 x483000_1, .int .i64 x483001_1, .string x483002_1]) ?_ 0 _ rfl; exact BK482.out) Tryd.underlying42 rfl (by kernel_rfl)) rfl ?_
      exact ⟨_, by rfl, Kd.V_nil _ _ _ _ _, by repeat ((with_reducible first | exact HB.out | refine below_set ?_ GE482.out))⟩
     rw [if_pos c25] at H
     have c25b0 : ((rd x0_1 (ji13)) == 0) = true := beq_iff_eq.mpr c25
     have c25b1 : ((rd x0_1 (ji13)) != 0) = false := bne_eq_false_iff_eq.mpr c25
     clear c25
     replace H := Option.bind_eq_some_iff.mp H
     obtain ⟨t502, A260, H⟩ := H
     replace H : (if t502 = 0 then (some (3, 0, strOfNums y489, y493, 0)) else (some (0, 0, (⟨#[]⟩ : ByteArray), ([] : List Int), 20))) = some (r1, r2, r3, r4, r5) := H
     have A26 := am A260
     clear A260
     by_cases c27 : t502 = 0
     rotate_left
     ·
      rw [if_neg c27] at H
      have c27b0 : (t502 == 0) = false := beq_eq_false_iff_ne.mpr c27
      have c27b1 : (t502 != 0) = true := bne_iff_ne.mpr c27
      simp only [Option.some.injEq, Prod.mk.injEq] at H
      obtain ⟨rfl, rfl, rfl, rfl, rfl⟩ := H
      have q38 : (t483 : Int) ≤ ((x0_1.length : Int) : Int) := of_decide_eq_true (by assumption)
      obtain ⟨i038, hi038, _, hsz38, _⟩ := info_parts info5
      have hroom38 : x0_1.length ≤ co5 := (Kd.V_reads' HO_0.out).2.1
      have hC38 : Kd.F (Kd.int .u8) _ _ Ao5 x0_1.length x0_1 := (Kd.V_at (base := w.heap.size) HO_0.out).2.2
      have hcut38 := cut_to (P := Tryd.prog) 47 5 .i64 Tryd.underlying47 hi038 Ao5 x0_1.length co5 t483 (of_decide_eq_true (by assumption)) q38 hroom38
      have hr38 := Kd.F_take (m := (t483 : Int).toNat) hC38 (by omega)
      have hy38 : y484.length = (t483 : Int).toNat := (by rw [Ny484.out, List.length_take]; omega)
      rw [← Ny484.out] at hr38
      rw [← hy38] at hcut38
      have HO488 := am (show Kd.V (Kd.int .u8) 5 _ w.heap.size _ (.slice Ao5 y484.length co5) y484 from Kd.V_mk (by omega) hr38)
      have HC488 := am (show y484.length ≤ co5 from by omega)
      clear hr38 hC38 hroom38 hi038 hsz38
      have KY38 := am hy38
      clear hy38
      replace q38 := eq_true q38
      go_wp2_with (first | ((with_reducible refine gate_builtin (b := .append) (xs := #[.tmp 21, .tmp 24]) rfl ?_); (try (refine gate_guard (by rfl) ?_; dsimp only)); at_builtin; refine Kd.R_append_rows (Kd.int .u8) (w0 := w) w.heap.size rfl (.tmp 21) (.tmp 24) 47 5 (.int .u8 0) 1 rfl Tryd.underlying47 info5 rfl (by decide) (by omega) u5 x5_1 y484 _ _ _ (fun k_ => (w.heap.size ≤ k_)) (fun _ => False) rfl rfl ?aO ?aR (fun _ _ h => h) (fun _ h => h.elim) ?aF ?aB ?aS ?aL ?_; (case aR => exact (Kd.V_reads' HO488.out).2.2); (case aB => exact HB.out); (case aF => exact (fun k_ hk => (Nat.le_trans (below_size HB.out) hk))); (case aO => exact HO_5.out); (case aS => exact (below_size HB.out)); (case aL => have := LMc12.out; omega); intro v490 w39 ho hb hg hat; rw [← Ny489.out] at ho; replace HO_0 := am (Kd.V_afterv (ok := (fun k_ => (P0_ k_ ∨ w.heap.size ≤ k_) ∧ k_ ≠ gb482)) (by exact Kd.V_mono HO_0.out (fun _ hk => ⟨⟨hk.1, hk.2.2⟩, hk.2.1⟩)) hg hat); replace BK482 := am (blk_grown (g := gb482) (o := .cells #[.int .i64 x483000_1, .int .i64 x483001_1, .string x483002_1] 42 (0, 0)) (by exact BK482.out) hg (Kd.R_ne HO_5.out BK482.out (by decide))); replace HO488 := am (Kd.V_afterv (ok := (fun k_ => (P0_ k_ ∨ w.heap.size ≤ k_) ∧ k_ ≠ gb482)) (by exact Kd.V_mono HO488.out (fun _ hk => ⟨⟨hk.1, hk.2.2⟩, hk.2.1⟩)) hg hat); replace HB := am (hb); have HO491 := am (ho); clear HO_5; clear ho hb hg hat; have p492 : 0 ≤ ((ji13) : Int) := of_decide_eq_true (by assumption); have q492 : (ji13) < (x0_1.length : Int) := of_decide_eq_true (by assumption); obtain ⟨ad492, e492, hx492_0⟩ := Kd.at_int (Kd.V_reads' HO_0.out).2.2 (ji13) p492 q492; cases e492; replace p492 := eq_true p492; replace q492 := eq_true q492; have q40 : ((ji16) : Int) ≤ ((x0_1.length : Int) : Int) := of_decide_eq_true (by assumption); obtain ⟨i040, hi040, _, hsz40, _⟩ := info_parts info5; have hroom40 : x0_1.length ≤ co5 := (Kd.V_reads' HO_0.out).2.1; have hC40 : Kd.F (Kd.int .u8) _ _ (some ad492) x0_1.length x0_1 := (Kd.V_at (base := w.heap.size) HO_0.out).2.2; have q040 : (0 : Int) ≤ ((ji16) : Int) := of_decide_eq_true (by assumption); have hcut40 := cut_from (P := Tryd.prog) 47 5 .i64 Tryd.underlying47 hi040 1 hsz40 (some ad492) x0_1.length co5 (ji16) q040 q40; have hr40 := Kd.F_cut (m := ((ji16) : Int).toNat) (c := co5) hC40 (by omega) hroom40; obtain ⟨A40, hA40⟩ : ∃ A1, A1 = (if co5 = ((ji16) : Int).toNat then (some ad492) else ((some ad492) : Option Addr).map (·.add (((ji16) : Int).toNat * 1))) := ⟨_, rfl⟩; obtain ⟨c40, hc40⟩ : ∃ c1, c1 = co5 - ((ji16) : Int).toNat := ⟨_, rfl⟩; have hy40 : y493.length = x0_1.length - ((ji16) : Int).toNat := (by rw [Ny493.out, List.length_drop] <;> omega); rw [show (x0_1).drop ((ji16) : Int).toNat = y493 from Ny493.out.symm] at hr40; replace hr40 : Kd.F (Kd.int .u8) _ _ A40 y493.length y493 := (by rw [hA40]; exact hr40); rw [← hy40, ← hA40, ← hc40] at hcut40; have HO497 := am (show Kd.V (Kd.int .u8) 5 _ w.heap.size _ (.slice A40 y493.length c40) y493 from Kd.V_mk (by rw [hy40, hc40]; exact Nat.sub_le_sub_right hroom40 _) hr40); have HC497 := am (show y493.length ≤ c40 from by rw [hy40, hc40]; exact Nat.sub_le_sub_right hroom40 _); clear hr40 hC40 hroom40 hi040 hsz40 hc40; have KY40 := am hy40; have KA40 := am hA40; clear hy40 hA40; replace q40 := eq_true q40; have hcv41 := own_string (P := Tryd.prog) Tryd.underlying47 Tryd.underlying5 Tryd.underlying9 (Kd.own_of_R HO491.out)) | ((with_reducible refine gate_dst (N := 8) rfl ?_); (try (refine gate_guard (by rfl) ?_; dsimp only)); refine box_event ?hg (N := 8) ?hd (cs := #[.int .i64 0, .int .i64 0, .string (⟨#[]⟩ : ByteArray)]) (t := 42) ?hr ?_; (case hd => rfl); (case hg => rfl); (case hr => (go_simp; done)); intro gb501 hg w42 hbox hb; replace HO_0 := am (Kd.V_below (Kd.V_elderB HO_0.out gb501 (Nat.le_of_eq hg.symm)) hb); replace HO488 := am (Kd.V_below (Kd.V_elderB HO488.out gb501 (Nat.le_of_eq hg.symm)) hb); replace HO491 := am (Kd.R_below HO491.out hb); replace HO497 := am (Kd.V_below (Kd.V_elderB HO497.out gb501 (Nat.le_of_eq hg.symm)) hb); have BK501 := am (hbox); have GW501 := am ((by rw [hg]; exact (below_size HB.out) : w.heap.size ≤ gb501)); have GE501 := am ((by rw [hg]; exact (below_size HB.out) : w.heap.size ≤ gb501)); replace HB := am (below_step HB.out hb); have NB482_501 := am ((by rw [hg]; exact Nat.ne_of_lt (blk_lt (g := gb482) (o := .cells #[.int .i64 x483000_1, .int .i64 x483001_1, .string x483002_1] 42 (0, 0)) (by exact BK482.out)) : gb482 ≠ gb501)); have NB501_482 := am ((by rw [hg]; exact Nat.ne_of_gt (blk_lt (g := gb482) (o := .cells #[.int .i64 x483000_1, .int .i64 x483001_1, .string x483002_1] 42 (0, 0)) (by exact BK482.out)) : gb501 ≠ gb482)); replace BK482 := am (blk_below (g := gb482) (o := .cells #[.int .i64 x483000_1, .int .i64 x483001_1, .string x483002_1] 42 (0, 0)) (by exact BK482.out) hb); clear hb hbox hg; have hnb43 := eq_false NB501_482.out; have hnc43 := eq_false NB482_501.out; have hcz44_0 : w42.cell? ⟨gb501, 0, none⟩ = some (.int .i64 0) := (blk_cell BK501.out 0).trans rfl; have hcz44_1 : w42.cell? ⟨gb501, 1, none⟩ = some (.int .i64 0) := (blk_cell BK501.out 1).trans rfl; have hcz44_2 : w42.cell? ⟨gb501, 2, none⟩ = some (.string (⟨#[]⟩ : ByteArray)) := (blk_cell BK501.out 2).trans rfl; have hfz44_0 := blk_frozen BK501.out 0; have hfz44_1 := blk_frozen BK501.out 1; have hfz44_2 := blk_frozen BK501.out 2) | ((with_reducible refine gate_callee (f := 47) rfl ?_); refine goesL_ (some 47) rfl rfl Tryd.func47 (by kernel_rfl) rfl #[.agg #[.int .i64 3, .int .i64 0, .string (strOfNums y489)]] rfl (by (try simp only [List.map_toArray, List.map_cons, List.map_nil]); rfl) ?_; (with_reducible refine (value_Check.calls kj3 3 0 (strOfNums y489) t502 _ ?side1 A26.out).mono ?_); (case side1 => exact Tabs.below HT.out (by repeat ((with_reducible first | exact HB.out | refine below_set ?_ GE501.out)))); rintro e w45 ⟨rfl, hb⟩; refine ⟨_, rfl, ?_⟩; replace HO_0 := am (Kd.V_below (by exact (Kd.V_mono (Kd.V_far (p := ⟨gb501, 2, none⟩) (Kd.V_far (p := ⟨gb501, 1, none⟩) (Kd.V_far (p := ⟨gb501, 0, none⟩) (Kd.V_mono HO_0.out (fun k_ hk => (⟨hk, hk.2⟩ : _ ∧ k_ ≠ gb501))) (fun _ hk => hk.2) (.int .i64 3)) (fun _ hk => hk.2) (.int .i64 0)) (fun _ hk => hk.2) (.string (strOfNums y489))) (fun _ h_ => h_.1))) hb); replace HO488 := am (Kd.V_below (by exact (Kd.V_mono (Kd.V_far (p := ⟨gb501, 2, none⟩) (Kd.V_far (p := ⟨gb501, 1, none⟩) (Kd.V_far (p := ⟨gb501, 0, none⟩) (Kd.V_mono HO488.out (fun k_ hk => (⟨hk, hk.2⟩ : _ ∧ k_ ≠ gb501))) (fun _ hk => hk.2) (.int .i64 3)) (fun _ hk => hk.2) (.int .i64 0)) (fun _ hk => hk.2) (.string (strOfNums y489))) (fun _ h_ => h_.1))) hb); replace HO491 := am (Kd.R_below (by exact (Kd.R_mono (Kd.R_far (p := ⟨gb501, 2, none⟩) (Kd.R_far (p := ⟨gb501, 1, none⟩) (Kd.R_far (p := ⟨gb501, 0, none⟩) (Kd.R_types HO491.out BK501.out (by decide)) (fun _ hk => hk.2) (.int .i64 3)) (fun _ hk => hk.2) (.int .i64 0)) (fun _ hk => hk.2) (.string (strOfNums y489))) (fun _ h_ => h_.1))) hb); replace HO497 := am (Kd.V_below (by exact (Kd.V_mono (Kd.V_far (p := ⟨gb501, 2, none⟩) (Kd.V_far (p := ⟨gb501, 1, none⟩) (Kd.V_far (p := ⟨gb501, 0, none⟩) (Kd.V_mono HO497.out (fun k_ hk => (⟨hk, hk.2⟩ : _ ∧ k_ ≠ gb501))) (fun _ hk => hk.2) (.int .i64 3)) (fun _ hk => hk.2) (.int .i64 0)) (fun _ hk => hk.2) (.string (strOfNums y489))) (fun _ h_ => h_.1))) hb); replace BK482 := am (blk_below (g := gb482) (o := .cells #[.int .i64 x483000_1, .int .i64 x483001_1, .string x483002_1] 42 (0, 0)) (by refine blk_far ?_ NB482_501.out _; refine blk_far ?_ NB482_501.out _; refine blk_far ?_ NB482_501.out _; exact BK482.out) hb); replace BK501 := am (blk_below (g := gb501) (o := .cells #[.int .i64 3, .int .i64 0, .string (strOfNums y489)] 42 (0, 0)) (by refine blk_put (cs := #[.int .i64 3, .int .i64 0, .string (⟨#[]⟩ : ByteArray)]) ?_ 2 _ rfl; refine blk_put (cs := #[.int .i64 3, .int .i64 0, .string (⟨#[]⟩ : ByteArray)]) ?_ 1 _ rfl; refine blk_put (cs := #[.int .i64 0, .int .i64 0, .string (⟨#[]⟩ : ByteArray)]) ?_ 0 _ rfl; exact BK501.out) hb); replace HB := am (below_step (by repeat ((with_reducible first | exact HB.out | refine below_set ?_ GE501.out))) hb); (try clear hb); have hcz46_0 : w45.cell? ⟨gb482, 0, none⟩ = some (.int .i64 x483000_1) := (blk_cell BK482.out 0).trans rfl; have hcz46_1 : w45.cell? ⟨gb482, 1, none⟩ = some (.int .i64 x483001_1) := (blk_cell BK482.out 1).trans rfl; have hcz46_2 : w45.cell? ⟨gb482, 2, none⟩ = some (.string x483002_1) := (blk_cell BK482.out 2).trans rfl; have hfz46_0 := blk_frozen BK482.out 0; have hfz46_1 := blk_frozen BK482.out 1; have hfz46_2 := blk_frozen BK482.out 2))
      refine bodyPost_ret (results_ctt rfl _ _ gb482 42 #[.int .i64 0, .int .i64 0, .string (⟨#[]⟩ : ByteArray)] (0, 0) _ rfl (by refine blk_put (cs := #[.int .i64 0, .int .i64 0, .string x483002_1]) ?_ 2 _ rfl; refine blk_put (cs := #[.int .i64 0, .int .i64 x483001_1, .string x483002_1]) ?_ 1 _ rfl; refine blk_put (cs := #[.int .i64 x483000_1, .int .i64 x483001_1, .string x483002_1]) ?_ 0 _ rfl; exact BK482.out) Tryd.underlying42 rfl (by kernel_rfl)) rfl ?_
      exact ⟨_, by rfl, Kd.V_nil _ _ _ _ _, by repeat ((with_reducible first | exact HB.out | refine below_set ?_ GE482.out))⟩
     rw [if_pos c27] at H
     have c27b0 : (t502 == 0) = true := beq_iff_eq.mpr c27
     have c27b1 : (t502 != 0) = false := bne_eq_false_iff_eq.mpr c27
     clear c27
     simp only [Option.some.injEq, Prod.mk.injEq] at H
     obtain ⟨rfl, rfl, rfl, rfl, rfl⟩ := H
     have q28 : (t483 : Int) ≤ ((x0_1.length : Int) : Int) := of_decide_eq_true (by assumption)
     obtain ⟨i028, hi028, _, hsz28, _⟩ := info_parts info5
     have hroom28 : x0_1.length ≤ co5 := (Kd.V_reads' HO_0.out).2.1
     have hC28 : Kd.F (Kd.int .u8) _ _ Ao5 x0_1.length x0_1 := (Kd.V_at (base := w.heap.size) HO_0.out).2.2
     have hcut28 := cut_to (P := Tryd.prog) 47 5 .i64 Tryd.underlying47 hi028 Ao5 x0_1.length co5 t483 (of_decide_eq_true (by assumption)) q28 hroom28
     have hr28 := Kd.F_take (m := (t483 : Int).toNat) hC28 (by omega)
     have hy28 : y484.length = (t483 : Int).toNat := (by rw [Ny484.out, List.length_take]; omega)
     rw [← Ny484.out] at hr28
     rw [← hy28] at hcut28
     have HO488 := am (show Kd.V (Kd.int .u8) 5 _ w.heap.size _ (.slice Ao5 y484.length co5) y484 from Kd.V_mk (by omega) hr28)
     have HC488 := am (show y484.length ≤ co5 from by omega)
     clear hr28 hC28 hroom28 hi028 hsz28
     have KY28 := am hy28
     clear hy28
     replace q28 := eq_true q28
     go_wp2_with (first | ((with_reducible refine gate_builtin (b := .append) (xs := #[.tmp 21, .tmp 24]) rfl ?_); (try (refine gate_guard (by rfl) ?_; dsimp only)); at_builtin; refine Kd.R_append_rows (Kd.int .u8) (w0 := w) w.heap.size rfl (.tmp 21) (.tmp 24) 47 5 (.int .u8 0) 1 rfl Tryd.underlying47 info5 rfl (by decide) (by omega) u5 x5_1 y484 _ _ _ (fun k_ => (w.heap.size ≤ k_)) (fun _ => False) rfl rfl ?aO ?aR (fun _ _ h => h) (fun _ h => h.elim) ?aF ?aB ?aS ?aL ?_; (case aR => exact (Kd.V_reads' HO488.out).2.2); (case aB => exact HB.out); (case aF => exact (fun k_ hk => (Nat.le_trans (below_size HB.out) hk))); (case aO => exact HO_5.out); (case aS => exact (below_size HB.out)); (case aL => have := LMc12.out; omega); intro v490 w29 ho hb hg hat; rw [← Ny489.out] at ho; replace HO_0 := am (Kd.V_afterv (ok := (fun k_ => (P0_ k_ ∨ w.heap.size ≤ k_) ∧ k_ ≠ gb482)) (by exact Kd.V_mono HO_0.out (fun _ hk => ⟨⟨hk.1, hk.2.2⟩, hk.2.1⟩)) hg hat); replace BK482 := am (blk_grown (g := gb482) (o := .cells #[.int .i64 x483000_1, .int .i64 x483001_1, .string x483002_1] 42 (0, 0)) (by exact BK482.out) hg (Kd.R_ne HO_5.out BK482.out (by decide))); replace HO488 := am (Kd.V_afterv (ok := (fun k_ => (P0_ k_ ∨ w.heap.size ≤ k_) ∧ k_ ≠ gb482)) (by exact Kd.V_mono HO488.out (fun _ hk => ⟨⟨hk.1, hk.2.2⟩, hk.2.1⟩)) hg hat); replace HB := am (hb); have HO491 := am (ho); clear HO_5; clear ho hb hg hat; have p492 : 0 ≤ ((ji13) : Int) := of_decide_eq_true (by assumption); have q492 : (ji13) < (x0_1.length : Int) := of_decide_eq_true (by assumption); obtain ⟨ad492, e492, hx492_0⟩ := Kd.at_int (Kd.V_reads' HO_0.out).2.2 (ji13) p492 q492; cases e492; replace p492 := eq_true p492; replace q492 := eq_true q492; have q30 : ((ji16) : Int) ≤ ((x0_1.length : Int) : Int) := of_decide_eq_true (by assumption); obtain ⟨i030, hi030, _, hsz30, _⟩ := info_parts info5; have hroom30 : x0_1.length ≤ co5 := (Kd.V_reads' HO_0.out).2.1; have hC30 : Kd.F (Kd.int .u8) _ _ (some ad492) x0_1.length x0_1 := (Kd.V_at (base := w.heap.size) HO_0.out).2.2; have q030 : (0 : Int) ≤ ((ji16) : Int) := of_decide_eq_true (by assumption); have hcut30 := cut_from (P := Tryd.prog) 47 5 .i64 Tryd.underlying47 hi030 1 hsz30 (some ad492) x0_1.length co5 (ji16) q030 q30; have hr30 := Kd.F_cut (m := ((ji16) : Int).toNat) (c := co5) hC30 (by omega) hroom30; obtain ⟨A30, hA30⟩ : ∃ A1, A1 = (if co5 = ((ji16) : Int).toNat then (some ad492) else ((some ad492) : Option Addr).map (·.add (((ji16) : Int).toNat * 1))) := ⟨_, rfl⟩; obtain ⟨c30, hc30⟩ : ∃ c1, c1 = co5 - ((ji16) : Int).toNat := ⟨_, rfl⟩; have hy30 : y493.length = x0_1.length - ((ji16) : Int).toNat := (by rw [Ny493.out, List.length_drop] <;> omega); rw [show (x0_1).drop ((ji16) : Int).toNat = y493 from Ny493.out.symm] at hr30; replace hr30 : Kd.F (Kd.int .u8) _ _ A30 y493.length y493 := (by rw [hA30]; exact hr30); rw [← hy30, ← hA30, ← hc30] at hcut30; have HO497 := am (show Kd.V (Kd.int .u8) 5 _ w.heap.size _ (.slice A30 y493.length c30) y493 from Kd.V_mk (by rw [hy30, hc30]; exact Nat.sub_le_sub_right hroom30 _) hr30); have HC497 := am (show y493.length ≤ c30 from by rw [hy30, hc30]; exact Nat.sub_le_sub_right hroom30 _); clear hr30 hC30 hroom30 hi030 hsz30 hc30; have KY30 := am hy30; have KA30 := am hA30; clear hy30 hA30; replace q30 := eq_true q30; have hcv31 := own_string (P := Tryd.prog) Tryd.underlying47 Tryd.underlying5 Tryd.underlying9 (Kd.own_of_R HO491.out)) | ((with_reducible refine gate_dst (N := 8) rfl ?_); (try (refine gate_guard (by rfl) ?_; dsimp only)); refine box_event ?hg (N := 8) ?hd (cs := #[.int .i64 0, .int .i64 0, .string (⟨#[]⟩ : ByteArray)]) (t := 42) ?hr ?_; (case hd => rfl); (case hg => rfl); (case hr => (go_simp; done)); intro gb501 hg w32 hbox hb; replace HO_0 := am (Kd.V_below (Kd.V_elderB HO_0.out gb501 (Nat.le_of_eq hg.symm)) hb); replace HO488 := am (Kd.V_below (Kd.V_elderB HO488.out gb501 (Nat.le_of_eq hg.symm)) hb); replace HO491 := am (Kd.R_below HO491.out hb); replace HO497 := am (Kd.V_below (Kd.V_elderB HO497.out gb501 (Nat.le_of_eq hg.symm)) hb); have BK501 := am (hbox); have GW501 := am ((by rw [hg]; exact (below_size HB.out) : w.heap.size ≤ gb501)); have GE501 := am ((by rw [hg]; exact (below_size HB.out) : w.heap.size ≤ gb501)); replace HB := am (below_step HB.out hb); have NB482_501 := am ((by rw [hg]; exact Nat.ne_of_lt (blk_lt (g := gb482) (o := .cells #[.int .i64 x483000_1, .int .i64 x483001_1, .string x483002_1] 42 (0, 0)) (by exact BK482.out)) : gb482 ≠ gb501)); have NB501_482 := am ((by rw [hg]; exact Nat.ne_of_gt (blk_lt (g := gb482) (o := .cells #[.int .i64 x483000_1, .int .i64 x483001_1, .string x483002_1] 42 (0, 0)) (by exact BK482.out)) : gb501 ≠ gb482)); replace BK482 := am (blk_below (g := gb482) (o := .cells #[.int .i64 x483000_1, .int .i64 x483001_1, .string x483002_1] 42 (0, 0)) (by exact BK482.out) hb); clear hb hbox hg; have hnb33 := eq_false NB501_482.out; have hnc33 := eq_false NB482_501.out; have hcz34_0 : w32.cell? ⟨gb501, 0, none⟩ = some (.int .i64 0) := (blk_cell BK501.out 0).trans rfl; have hcz34_1 : w32.cell? ⟨gb501, 1, none⟩ = some (.int .i64 0) := (blk_cell BK501.out 1).trans rfl; have hcz34_2 : w32.cell? ⟨gb501, 2, none⟩ = some (.string (⟨#[]⟩ : ByteArray)) := (blk_cell BK501.out 2).trans rfl; have hfz34_0 := blk_frozen BK501.out 0; have hfz34_1 := blk_frozen BK501.out 1; have hfz34_2 := blk_frozen BK501.out 2) | ((with_reducible refine gate_callee (f := 47) rfl ?_); refine goesL_ (some 47) rfl rfl Tryd.func47 (by kernel_rfl) rfl #[.agg #[.int .i64 3, .int .i64 0, .string (strOfNums y489)]] rfl (by (try simp only [List.map_toArray, List.map_cons, List.map_nil]); rfl) ?_; (with_reducible refine (value_Check.calls kj3 3 0 (strOfNums y489) t502 _ ?side1 A26.out).mono ?_); (case side1 => exact Tabs.below HT.out (by repeat ((with_reducible first | exact HB.out | refine below_set ?_ GE501.out)))); rintro e w35 ⟨rfl, hb⟩; refine ⟨_, rfl, ?_⟩; replace HO_0 := am (Kd.V_below (by exact (Kd.V_mono (Kd.V_far (p := ⟨gb501, 2, none⟩) (Kd.V_far (p := ⟨gb501, 1, none⟩) (Kd.V_far (p := ⟨gb501, 0, none⟩) (Kd.V_mono HO_0.out (fun k_ hk => (⟨hk, hk.2⟩ : _ ∧ k_ ≠ gb501))) (fun _ hk => hk.2) (.int .i64 3)) (fun _ hk => hk.2) (.int .i64 0)) (fun _ hk => hk.2) (.string (strOfNums y489))) (fun _ h_ => h_.1))) hb); replace HO488 := am (Kd.V_below (by exact (Kd.V_mono (Kd.V_far (p := ⟨gb501, 2, none⟩) (Kd.V_far (p := ⟨gb501, 1, none⟩) (Kd.V_far (p := ⟨gb501, 0, none⟩) (Kd.V_mono HO488.out (fun k_ hk => (⟨hk, hk.2⟩ : _ ∧ k_ ≠ gb501))) (fun _ hk => hk.2) (.int .i64 3)) (fun _ hk => hk.2) (.int .i64 0)) (fun _ hk => hk.2) (.string (strOfNums y489))) (fun _ h_ => h_.1))) hb); replace HO491 := am (Kd.R_below (by exact (Kd.R_mono (Kd.R_far (p := ⟨gb501, 2, none⟩) (Kd.R_far (p := ⟨gb501, 1, none⟩) (Kd.R_far (p := ⟨gb501, 0, none⟩) (Kd.R_types HO491.out BK501.out (by decide)) (fun _ hk => hk.2) (.int .i64 3)) (fun _ hk => hk.2) (.int .i64 0)) (fun _ hk => hk.2) (.string (strOfNums y489))) (fun _ h_ => h_.1))) hb); replace HO497 := am (Kd.V_below (by exact (Kd.V_mono (Kd.V_far (p := ⟨gb501, 2, none⟩) (Kd.V_far (p := ⟨gb501, 1, none⟩) (Kd.V_far (p := ⟨gb501, 0, none⟩) (Kd.V_mono HO497.out (fun k_ hk => (⟨hk, hk.2⟩ : _ ∧ k_ ≠ gb501))) (fun _ hk => hk.2) (.int .i64 3)) (fun _ hk => hk.2) (.int .i64 0)) (fun _ hk => hk.2) (.string (strOfNums y489))) (fun _ h_ => h_.1))) hb); replace BK482 := am (blk_below (g := gb482) (o := .cells #[.int .i64 x483000_1, .int .i64 x483001_1, .string x483002_1] 42 (0, 0)) (by refine blk_far ?_ NB482_501.out _; refine blk_far ?_ NB482_501.out _; refine blk_far ?_ NB482_501.out _; exact BK482.out) hb); replace BK501 := am (blk_below (g := gb501) (o := .cells #[.int .i64 3, .int .i64 0, .string (strOfNums y489)] 42 (0, 0)) (by refine blk_put (cs := #[.int .i64 3, .int .i64 0, .string (⟨#[]⟩ : ByteArray)]) ?_ 2 _ rfl; refine blk_put (cs := #[.int .i64 3, .int .i64 0, .string (⟨#[]⟩ : ByteArray)]) ?_ 1 _ rfl; refine blk_put (cs := #[.int .i64 0, .int .i64 0, .string (⟨#[]⟩ : ByteArray)]) ?_ 0 _ rfl; exact BK501.out) hb); replace HB := am (below_step (by repeat ((with_reducible first | exact HB.out | refine below_set ?_ GE501.out))) hb); (try clear hb); have hcz36_0 : w35.cell? ⟨gb501, 0, none⟩ = some (.int .i64 3) := (blk_cell BK501.out 0).trans rfl; have hcz36_1 : w35.cell? ⟨gb501, 1, none⟩ = some (.int .i64 0) := (blk_cell BK501.out 1).trans rfl; have hcz36_2 : w35.cell? ⟨gb501, 2, none⟩ = some (.string (strOfNums y489)) := (blk_cell BK501.out 2).trans rfl; have hfz36_0 := blk_frozen BK501.out 0; have hfz36_1 := blk_frozen BK501.out 1; have hfz36_2 := blk_frozen BK501.out 2; have hcz37_0 : w35.cell? ⟨gb482, 0, none⟩ = some (.int .i64 x483000_1) := (blk_cell BK482.out 0).trans rfl; have hcz37_1 : w35.cell? ⟨gb482, 1, none⟩ = some (.int .i64 x483001_1) := (blk_cell BK482.out 1).trans rfl; have hcz37_2 : w35.cell? ⟨gb482, 2, none⟩ = some (.string x483002_1) := (blk_cell BK482.out 2).trans rfl; have hfz37_0 := blk_frozen BK482.out 0; have hfz37_1 := blk_frozen BK482.out 1; have hfz37_2 := blk_frozen BK482.out 2))
     refine bodyPost_ret (results_ctt rfl _ _ gb482 42 #[.int .i64 3, .int .i64 0, .string (strOfNums y489)] (0, 0) _ rfl (by refine blk_put (cs := #[.int .i64 3, .int .i64 0, .string x483002_1]) ?_ 2 _ rfl; refine blk_put (cs := #[.int .i64 3, .int .i64 x483001_1, .string x483002_1]) ?_ 1 _ rfl; refine blk_put (cs := #[.int .i64 x483000_1, .int .i64 x483001_1, .string x483002_1]) ?_ 0 _ rfl; exact BK482.out) Tryd.underlying42 rfl (by kernel_rfl)) rfl ?_
     exact ⟨_, by rfl, by exact Kd.V_mono (Kd.V_far (p := ⟨gb482, 2, none⟩) (Kd.V_far (p := ⟨gb482, 1, none⟩) (Kd.V_far (p := ⟨gb482, 0, none⟩) (Kd.V_mono HO497.out (fun k_ hk => (⟨hk, hk.1.1.2⟩ : _ ∧ k_ ≠ gb482))) (fun _ hk => hk.2) (.int .i64 3)) (fun _ hk => hk.2) (.int .i64 0)) (fun _ hk => hk.2) (.string (strOfNums y489))) (fun _ hk => hk.1.1.1.1), by repeat ((with_reducible first | exact HB.out | refine below_set ?_ GE482.out))⟩
end Go.Proofs.YthghcpeedmconaaDoor.X
end

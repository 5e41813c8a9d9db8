/- RowcodeDigests: a digest's number is the sum of its rows' hashes, whatever rows come and go; for every input. -/
import Derived.Test.YthghcpeedmconaaDoorZDi0
import Derived.Test.YthghcpeedmconaaDoorZDi1
import Derived.Test.YthghcpeedmconaaDoorZDi2
import Derived.Test.YthghcpeedmconaaDoorZDi3
import Derived.Deep.RegionWith
import Derived.Deep.Slices
import Derived.Deep.Strs
import Derived.Lib.SmallJoins
import Derived.OpenShut
import Derived.Carry
import Derived.Test.YthghcpeedmconaaDoorCards
import Derived.Test.YthghcpeedmconaaDoorTie
import Derived.Lib.LaidU8T
import Derived.Lib.LaidTab
import Derived.Shelf.Vars
import Derived.LaidMore
import Derived.ShutString
import Derived.SizedLaws
import Derived.ProofKit
import Derived.Deep.DeepHandedRow
import Derived.SevenTiedAt
section
namespace Go.Proofs.YthghcpeedmconaaDoor.X
open Go.RowKit Go.Proofs.YthghcpeedmconaaDoorW.PrintWords Go.Proofs.YthghcpeedmconaaDoorW.PrintLast Go.Proofs.YthghcpeedmconaaDoorW.PrintMore
attribute [local go_sem] max2_int min2_int max_two min_two max_three min_three max_four min_four
set_option linter.unusedVariables false
set_option linter.unusedSimpArgs false
def rowcode_Digest_Add.f (k : Nat) (s0_0 : Int) (s0_1 : Int) (l1 : List (S42)) : Option (Int × Int × Int) := (rowcode_row.f k l1).bind fun bt164 => (if bt164.2 = 0 then ((rowcode_hash.f k bt164.1).bind fun t168 => (some (bt164.2, IntKind.u64.wrap (s0_0 + t168), wrap64 (s0_1 + 1)))) else (some (bt164.2, s0_0, s0_1)))
set_option maxHeartbeats 8000000 in
set_option maxRecDepth 100000 in
theorem rowcode_Digest_Add.calls (k : Nat) (g : Nat) (s0_0 : Int) (s0_1 : Int) (A1 : Option Addr) (c1 : Nat) (l1 : List (S42)) (r1 : Int) (r2 : Int) (r3 : Int) (w0 w : World) (hT : Tabs w0) (hI : IsS26 w0 w g s0_0 s0_1) (hB : Below w0.heap.size w0 w) (hr1 : ∀ W_, KeepBut w W_ g none → Kd.C k42 W_ A1 l1.length l1) (hc1 : l1.length ≤ c1) (h : rowcode_Digest_Add.f k s0_0 s0_1 l1 = some (r1, r2, r3)) :
  Calls Tryd.prog 14 #[.pointer (some ⟨g, 0, none⟩), .slice A1 l1.length c1] w fun e w' => e = .returned (.int .i64 r1) ∧ IsS26 w0 w' g r2 r3 ∧ Below w0.heap.size w0 w' ∧ KeepBut w w' g none := by
 have HT := Aside0.mk hT
 clear hT
 have HR1 := Aside0.mk hr1
 have HC1 := Aside0.mk hc1
 clear hr1 hc1
 have HI0 := Aside0.mk hI
 have HK := Aside0.mk (KeepBut.refl w g none)
 have HL := Aside0.mk hB.size
 clear hI
 have HW0 := Aside0.mk hB.size
 have HB := Aside0.mk hB
 clear hB
 have H : ((rowcode_row.f k l1).bind fun bt164 => (if bt164.2 = 0 then ((rowcode_hash.f k bt164.1).bind fun t168 => (some (bt164.2, IntKind.u64.wrap (s0_0 + t168), wrap64 (s0_1 + 1)))) else (some (bt164.2, s0_0, s0_1)))) = some (r1, r2, r3) := h
 clear h
 replace H := Option.bind_eq_some_iff.mp H
 obtain ⟨⟨t164, t165⟩, A30, H⟩ := H
 replace H : (if t165 = 0 then ((rowcode_hash.f k t164).bind fun t168 => (some (t165, IntKind.u64.wrap (s0_0 + t168), wrap64 (s0_1 + 1)))) else (some (t165, s0_0, s0_1))) = some (r1, r2, r3) := H
 have A3 := Aside0.mk A30
 clear A30
 by_cases c4 : t165 = 0
 ·
  rw [if_pos c4] at H
  have c4b0 : (t165 == 0) = true := beq_iff_eq.mpr c4
  have c4b1 : (t165 != 0) = false := bne_eq_false_iff_eq.mpr c4
  clear c4
  replace H := Option.bind_eq_some_iff.mp H
  obtain ⟨t168, A50, H⟩ := H
  replace H : (some (t165, IntKind.u64.wrap (s0_0 + t168), wrap64 (s0_1 + 1))) = some (r1, r2, r3) := H
  have A5 := Aside0.mk A50
  clear A50
  simp only [Option.some.injEq, Prod.mk.injEq] at H
  obtain ⟨rfl, rfl, rfl⟩ := H
  go_enter Tryd.func14, Tryd.ntmps14
  go_wp2_with (first | ((with_reducible refine gate_callee (f := 45) rfl ?_); refine goesL_ (some 9) rfl rfl Tryd.func45 (by kernel_rfl) rfl #[.slice A1 l1.length c1] rfl (by (try simp only [List.map_toArray, List.map_cons, List.map_nil]); first | done | rfl | (simp only [List.length_drop, List.length_take]; rfl)) ?_; (with_reducible refine (rowcode_row.calls k _ _ l1 t164 t165 _ ?side1 ?side2 ?side3 A3.out).mono ?_); (case side1 => exact Tabs.below HT.out (by repeat (first | (with_reducible first | exact HB.out | apply below_alloc | apply pw_below_drewN | apply below_drew1 | refine below_set ?_ (IsS26.ge HI0.out)) | exact HB.out))); (case side2 => exact Kd.C_foot_now HR1.out (by repeat (first | (with_reducible first | exact HK.out | apply KeepBut.set_ | apply keep_drewN | apply keep_drew | apply keep_alloc) | exact HK.out))); (case side3 => exact HC1.out); rintro e w6 ⟨v166, rfl, ho0, hb⟩; refine ⟨_, rfl, ?_⟩; have n0_ := Aside0.mk (Kd.R_lower ho0 (keep_size (w := w) (g := g) (row := none) (by repeat (first | (with_reducible first | exact HK.out | apply KeepBut.set_ | apply keep_drewN | apply keep_drew | apply keep_alloc) | exact HK.out)))); have n1_ := Aside0.mk (IsS26.below (by repeat (first | (with_reducible first | exact HI0.out | apply IsS26.alloc | apply IsS26.drewN | apply IsS26.drew | apply IsS26.set_0 | apply IsS26.set_1) | exact HI0.out)) hb); have n2_ := Aside0.mk (KeepBut.trans (by repeat (first | (with_reducible first | exact HK.out | apply KeepBut.set_ | apply keep_drewN | apply keep_drew | apply keep_alloc) | exact HK.out)) (KeepBut.of_below hb g none) (.inl rfl)); have n3_ := Aside0.mk (below_step (by repeat (first | (with_reducible first | exact HB.out | apply below_alloc | apply pw_below_drewN | apply below_drew1 | refine below_set ?_ (IsS26.ge HI0.out)) | exact HB.out)) hb); clear HI0; clear HK; clear HB; have HO167 := n0_; have HI0 := n1_; have HK := n2_; have HB := n3_; clear n0_ n1_ n2_ n3_; (try clear hb); (try clear hb2); (try clear hk); (try clear hi); (try clear ho0); obtain ⟨HGz7, hgz7⟩ := HI0.out; have hcz7_0 := cellS26_0 HGz7; have hcz7_1 := cellS26_1 HGz7; have hfz7_0 := blk_frozen HGz7 0; have hfz7_1 := blk_frozen HGz7 1; clear HGz7 hgz7; obtain ⟨Ao8, co8, eo8⟩ := Kd.R_slice HO167.out; subst eo8) | ((with_reducible refine gate_callee (f := 46) rfl ?_); refine goesL_ (some 19) rfl rfl Tryd.func46 (by kernel_rfl) rfl #[.slice Ao8 t164.length co8] rfl (by (try simp only [List.map_toArray, List.map_cons, List.map_nil]); first | done | rfl | (simp only [List.length_drop, List.length_take]; rfl)) ?_; (with_reducible refine (rowcode_hash.calls k _ _ t164 t168 _ ?side1 ?side2 A5.out).mono ?_); (case side1 => repeat (first | exact (Kd.R_reads' HO167.out).2.2 | (with_reducible refine Kd.C_alloc ?_ _) | (with_reducible refine Kd.C_drewN ?_ _) | (with_reducible refine Kd.C_drew ?_))); (case side2 => exact (Kd.R_reads' HO167.out).2.1); rintro e w' ⟨rfl, ⟨nd, rfl⟩⟩; refine ⟨_, rfl, ?_⟩; (try (rw [drewN_self w6]; generalize hq_ : World.drewN w6 _ = w6; have n0_ : Aside0 (Kd.R (Kd.int .u8) 5 w6 w.heap.size (fun _ => True) (.slice Ao8 t164.length co8) t164) := ⟨by rw [← hq_]; exact (by (with_reducible repeat (first | apply Kd.R_alloc | apply Kd.R_drewN | apply Kd.R_drew)); exact HO167.out)⟩; have n1_ : Aside0 (IsS26 w0 w6 g s0_0 s0_1) := ⟨by rw [← hq_]; exact (by repeat (first | (with_reducible first | exact HI0.out | apply IsS26.alloc | apply IsS26.drewN | apply IsS26.drew | apply IsS26.set_0 | apply IsS26.set_1) | exact HI0.out))⟩; have n2_ : Aside0 (KeepBut w w6 g none) := ⟨by rw [← hq_]; exact (by repeat (first | (with_reducible first | exact HK.out | apply KeepBut.set_ | apply keep_drewN | apply keep_drew | apply keep_alloc) | exact HK.out))⟩; have n3_ : Aside0 (Below w0.heap.size w0 w6) := ⟨by rw [← hq_]; exact (by repeat (first | (with_reducible first | exact HB.out | apply below_alloc | apply pw_below_drewN | apply below_drew1 | refine below_set ?_ (IsS26.ge HI0.out)) | exact HB.out))⟩; clear HO167 HI0 HK HB hq_; have HO167 := n0_; have HI0 := n1_; have HK := n2_; have HB := n3_; clear n0_ n1_ n2_ n3_))))
  all_goals (try (go_region_with (go_at_call 46; (with_reducible refine (rowcode_hash.calls k _ _ t164 t168 _ ?side1 ?side2 A5.out).mono ?_); (case side1 => repeat (first | exact (Kd.R_reads' HO167.out).2.2 | (with_reducible refine Kd.C_alloc ?_ _) | (with_reducible refine Kd.C_drewN ?_ _) | (with_reducible refine Kd.C_drew ?_))); (case side2 => exact (Kd.R_reads' HO167.out).2.1); rintro e w' ⟨rfl, ⟨nd, rfl⟩⟩)))
  all_goals (try go_wp2)
  all_goals (go_ret; exact ⟨by first | rfl | (simp [errW_none, errW_some] <;> rfl) | (simp [*, errW_none, errW_some] <;> rfl), by repeat (first | (with_reducible first | exact HI0.out | apply IsS26.alloc | apply IsS26.drewN | apply IsS26.drew | apply IsS26.set_0 | apply IsS26.set_1) | exact HI0.out), by repeat (first | (with_reducible first | exact HB.out | apply below_alloc | apply pw_below_drewN | apply below_drew1 | refine below_set ?_ (IsS26.ge HI0.out)) | exact HB.out), by repeat (first | (with_reducible first | exact HK.out | apply KeepBut.set_ | apply keep_drewN | apply keep_drew | apply keep_alloc) | exact HK.out)⟩)
 ·
  rw [if_neg c4] at H
  have c4b0 : (t165 == 0) = false := beq_eq_false_iff_ne.mpr c4
  have c4b1 : (t165 != 0) = true := bne_iff_ne.mpr c4
  simp only [Option.some.injEq, Prod.mk.injEq] at H
  obtain ⟨rfl, rfl, rfl⟩ := H
  go_enter Tryd.func14, Tryd.ntmps14
  go_wp2_with (first | ((with_reducible refine gate_callee (f := 45) rfl ?_); refine goesL_ (some 9) rfl rfl Tryd.func45 (by kernel_rfl) rfl #[.slice A1 l1.length c1] rfl (by (try simp only [List.map_toArray, List.map_cons, List.map_nil]); first | done | rfl | (simp only [List.length_drop, List.length_take]; rfl)) ?_; (with_reducible refine (rowcode_row.calls k _ _ l1 t164 t165 _ ?side1 ?side2 ?side3 A3.out).mono ?_); (case side1 => exact Tabs.below HT.out (by repeat (first | (with_reducible first | exact HB.out | apply below_alloc | apply pw_below_drewN | apply below_drew1 | refine below_set ?_ (IsS26.ge HI0.out)) | exact HB.out))); (case side2 => exact Kd.C_foot_now HR1.out (by repeat (first | (with_reducible first | exact HK.out | apply KeepBut.set_ | apply keep_drewN | apply keep_drew | apply keep_alloc) | exact HK.out))); (case side3 => exact HC1.out); rintro e w9 ⟨v166, rfl, ho0, hb⟩; refine ⟨_, rfl, ?_⟩; have n0_ := Aside0.mk (Kd.R_lower ho0 (keep_size (w := w) (g := g) (row := none) (by repeat (first | (with_reducible first | exact HK.out | apply KeepBut.set_ | apply keep_drewN | apply keep_drew | apply keep_alloc) | exact HK.out)))); have n1_ := Aside0.mk (IsS26.below (by repeat (first | (with_reducible first | exact HI0.out | apply IsS26.alloc | apply IsS26.drewN | apply IsS26.drew | apply IsS26.set_0 | apply IsS26.set_1) | exact HI0.out)) hb); have n2_ := Aside0.mk (KeepBut.trans (by repeat (first | (with_reducible first | exact HK.out | apply KeepBut.set_ | apply keep_drewN | apply keep_drew | apply keep_alloc) | exact HK.out)) (KeepBut.of_below hb g none) (.inl rfl)); have n3_ := Aside0.mk (below_step (by repeat (first | (with_reducible first | exact HB.out | apply below_alloc | apply pw_below_drewN | apply below_drew1 | refine below_set ?_ (IsS26.ge HI0.out)) | exact HB.out)) hb); clear HI0; clear HK; clear HB; have HO167 := n0_; have HI0 := n1_; have HK := n2_; have HB := n3_; clear n0_ n1_ n2_ n3_; (try clear hb); (try clear hb2); (try clear hk); (try clear hi); (try clear ho0)))
  go_ret
  exact ⟨by first | rfl | (simp [errW_none, errW_some] <;> rfl) | (simp [*, errW_none, errW_some] <;> rfl), by repeat (first | (with_reducible first | exact HI0.out | apply IsS26.alloc | apply IsS26.drewN | apply IsS26.drew | apply IsS26.set_0 | apply IsS26.set_1) | exact HI0.out), by repeat (first | (with_reducible first | exact HB.out | apply below_alloc | apply pw_below_drewN | apply below_drew1 | refine below_set ?_ (IsS26.ge HI0.out)) | exact HB.out), by repeat (first | (with_reducible first | exact HK.out | apply KeepBut.set_ | apply keep_drewN | apply keep_drew | apply keep_alloc) | exact HK.out)⟩
def locksteplaw02_Spoil.l0 : Nat → List (S42) → Int → Option (Unit)
 | 0, _, _ => none
 | k + 1, x0, x2 => if x2 < (x0.length : Int) then (if 0 ≤ x2 then (locksteplaw02_Spoil.l0 k (x0.set (x2 : Int).toNat (⟨77, 0, (⟨#[115, 112, 111, 105, 108, 116]⟩ : ByteArray)⟩ : S42)) (wrap64 (x2 + 1))) else (none)) else (if x0.length < 4398046511104 then (some ()) else (none))
def locksteplaw02_Spoil.f (k : Nat) (l0 : List (S42)) : Option (Unit) := locksteplaw02_Spoil.l0 k l0 0
set_option maxHeartbeats 8000000 in
set_option maxRecDepth 100000 in
theorem locksteplaw02_Spoil.calls (k : Nat) (P0_ : Nat → Prop) (u9000_ : Value) (l0 : List (S42)) (w0 w : World) (hB : Below w0.heap.size w0 w) (ho0 : Kd.R k42 42 w w0.heap.size P0_ u9000_ l0) (h : locksteplaw02_Spoil.f k l0 = some ()) :
  Calls Tryd.prog 15 #[u9000_] w fun e w' => e = .returned (.tuple #[]) ∧ Below w0.heap.size w0 w' ∧ Kept w w' (fun k_ => P0_ k_) := by
 have hu42 := Tryd.underlying42
 have HO0 := Aside0.mk (show Kd.R k42 42 w w0.heap.size (fun k_ => (P0_ k_ ∨ w.heap.size ≤ k_)) u9000_ l0 from Kd.R_mono ho0 (fun k_ hk => (.inl hk)))
 have HK := Aside0.mk (Kept.refl w (fun k_ => P0_ k_))
 have HW0 := Aside0.mk hB.size
 have HB := Aside0.mk hB
 clear hB
 have H : (locksteplaw02_Spoil.l0 k l0 0) = some () := h
 clear h
 have H' := Aside0.mk H
 clear H
 go_enter Tryd.func15, Tryd.ntmps15
 go_wp2
 go_loopg [2] k (fun kq v2 w' => ∃ (x0_1 : List (S42)) (x2_1 : Int), v2 = .int .i64 x2_1 ∧ Aside0 (locksteplaw02_Spoil.l0 kq x0_1 x2_1 = some ()) ∧ Aside0 (kq ≤ k) ∧ Aside0 (Kd.R k42 42 w' w0.heap.size (fun k_ => (P0_ k_ ∨ w.heap.size ≤ k_)) u9000_ x0_1) ∧ Aside0 (Kept w w' (fun k_ => P0_ k_)) ∧ Aside0 (Below w0.heap.size w0 w'))
 case atStart => exact ⟨(l0), (0), (by first | rfl | (simp; done) | (simp [*]; done)), H', ⟨Nat.le_refl _⟩, ⟨by (with_reducible repeat (first | apply Kd.R_alloc | apply Kd.R_drewN | apply Kd.R_drew)); exact HO0.out⟩, ⟨by repeat (first | (with_reducible first | exact HK.out | apply Kept.alloc | apply Kept.drewN | apply Kept.drew) | exact HK.out)⟩, ⟨by repeat (first | (with_reducible first | exact HB.out | apply below_alloc | apply pw_below_drewN | apply below_drew1) | exact HB.out)⟩⟩
 case round =>
  clear H'
  (try clear c1)
  obtain ⟨x0_1, x2_1, rfl, HA, HK1, HO_0, HK, HB⟩ := hrel
  cases gk with
  | zero => exact absurd HA.out (by simp [locksteplaw02_Spoil.l0])
  | succ k1 =>
   have H := HA.out
   clear HA
   simp only [locksteplaw02_Spoil.l0] at H
   by_cases c2 : x2_1 < (x0_1.length : Int)
   ·
    rw [if_pos c2] at H
    have c2b0 : decide (x2_1 < (x0_1.length : Int)) = true := decide_eq_true c2
    clear c2
    by_cases c3 : 0 ≤ x2_1
    ·
     rw [if_pos c3] at H
     have c3b0 : decide (0 ≤ x2_1) = true := decide_eq_true c3
     clear c3
     obtain ⟨y169, hy169⟩ : ∃ y_ : List (S42), y_ = (x0_1.set (x2_1 : Int).toNat (⟨77, 0, (⟨#[115, 112, 111, 105, 108, 116]⟩ : ByteArray)⟩ : S42)) := ⟨_, rfl⟩
     replace H : (locksteplaw02_Spoil.l0 k1 y169 (wrap64 (x2_1 + 1))) = some () := by first | (rw [hy169]; with_reducible exact H) | (have H2_ := (Option.bind_some _ _).symm.trans H; rw [hy169]; with_reducible exact H2_) | (have H2_ := (Option.bind_some _ _).symm.trans H; with_reducible exact H2_) | with_reducible exact H | (rw [hy169]; exact H) | exact H
     have Ny169 := Aside0.mk hy169
     clear hy169
     have H' := Aside0.mk H
     clear H
     obtain ⟨Ao5, co5, eo5⟩ := Kd.R_slice HO_0.out
     subst eo5
     have p4 : 0 ≤ (x2_1 : Int) := of_decide_eq_true (by first | (with_reducible assumption) | assumption)
     have q4 : (x2_1 : Int) < ((x0_1.length : Int) : Int) := of_decide_eq_true (by first | (with_reducible assumption) | assumption)
     obtain ⟨go4, co4, eo4, gb4, gl4, cl4, HG4⟩ := Kd.R_form HO_0.out (by omega)
     (first | cases eo4 | (injection eo4 with ea_ en_ ec_; (first | subst ea_ | (injection ea_ with ea_; subst ea_)); subst ec_; clear en_))
     have GB4 := Aside0.mk gb4
     have GG4 := Aside0.mk HG4
     clear gb4 gl4 HG4
     have HMgo4 := Aside0.mk (show (P0_ go4 ∨ w.heap.size ≤ go4) from (HO_0.out.1 _ rfl))
     obtain ⟨ce4, hcl4, hM4, hcc4, hfr4⟩ := Kd.R_elem HO_0.out z42 (x2_1 : Int) p4 q4
     obtain rfl := k42_openM hM4
     have hx4_0 : wr.cell? ⟨go4, (x2_1 : Int).toNat * 3, none⟩ = some (.int .i64 ((rd_T42 x0_1 x2_1).f0)) := hcc4 0 _ rfl
     have hx4_1 : wr.cell? ⟨go4, (x2_1 : Int).toNat * 3 + 1, none⟩ = some (.int .i64 ((rd_T42 x0_1 x2_1).f1)) := hcc4 1 _ rfl
     have hx4_2 : wr.cell? ⟨go4, (x2_1 : Int).toNat * 3 + 2, none⟩ = some (.string ((rd_T42 x0_1 x2_1).f2)) := hcc4 2 _ rfl
     have hf4_0 : wr.frozen? ⟨go4, (x2_1 : Int).toNat * 3, none⟩ = false := hfr4 0
     have hf4_1 : wr.frozen? ⟨go4, (x2_1 : Int).toNat * 3 + 1, none⟩ = false := hfr4 1
     have hf4_2 : wr.frozen? ⟨go4, (x2_1 : Int).toNat * 3 + 2, none⟩ = false := hfr4 2
     clear hcl4 hcc4 hfr4 hM4
     replace p4 := eq_true p4
     replace q4 := eq_true q4
     have HX6 := Aside0.mk (show Kd.R k42 42 wr w0.heap.size (fun k_ => (P0_ k_ ∨ w.heap.size ≤ k_)) (.slice (some ⟨go4, 0, none⟩) x0_1.length co5) x0_1 from (by (with_reducible repeat (first | apply Kd.R_alloc | apply Kd.R_drewN | apply Kd.R_drew)); exact HO_0.out))
     obtain ⟨ce6, hcl6, hM6, hcc6, hfr6⟩ := Kd.R_elem HX6.out z42 (x2_1 : Int) (of_decide_eq_true (by first | (with_reducible assumption) | assumption)) (by have h_ : (x2_1 : Int) < ((x0_1.length : Int) : Int) := of_decide_eq_true (by first | (with_reducible assumption) | assumption); first | exact h_ | (have e_ := (Kd.R_reads' HO_0.out).1; omega) | simpa using h_)
     obtain rfl := k42_openM hM6
     have HP6 := Kd.R_seg HX6.out (x2_1 : Int) (of_decide_eq_true (by first | (with_reducible assumption) | assumption)) (by have h_ : (x2_1 : Int) < ((x0_1.length : Int) : Int) := of_decide_eq_true (by first | (with_reducible assumption) | assumption); first | exact h_ | (have e_ := (Kd.R_reads' HO_0.out).1; omega) | simpa using h_) (seg := [.int .i64 77, .int .i64 0, .string (⟨#[115, 112, 111, 105, 108, 116]⟩ : ByteArray)]) (j := 0) hcl6 hcc6 (show 3 ≤ 3 from by decide) (x' := (⟨77, 0, (⟨#[115, 112, 111, 105, 108, 116]⟩ : ByteArray)⟩ : S42)) (k42_mkM _ _ _ (⟨77, 0, (⟨#[115, 112, 111, 105, 108, 116]⟩ : ByteArray)⟩ : S42) ) (fun _ hk => hk)
     have hx6_0 := hcc6 0 _ rfl
     (try simp only [show (k42).sz = 3 from rfl, Nat.mul_one, Nat.add_zero] at hx6_0)
     have hf6_0 := hfr6 0
     (try simp only [show (k42).sz = 3 from rfl, Nat.mul_one, Nat.add_zero] at hf6_0)
     have hx6_1 := hcc6 1 _ rfl
     (try simp only [show (k42).sz = 3 from rfl, Nat.mul_one, Nat.add_zero] at hx6_1)
     have hf6_1 := hfr6 1
     (try simp only [show (k42).sz = 3 from rfl, Nat.mul_one, Nat.add_zero] at hf6_1)
     have hx6_2 := hcc6 2 _ rfl
     (try simp only [show (k42).sz = 3 from rfl, Nat.mul_one, Nat.add_zero] at hx6_2)
     have hf6_2 := hfr6 2
     (try simp only [show (k42).sz = 3 from rfl, Nat.mul_one, Nat.add_zero] at hf6_2)
     clear hcl6 hcc6 hfr6 hM6
     go_wp2_with (first | ((with_reducible refine gate_store (t := 42) (p := 12) rfl ?_); refine store_event (t := 42) (p := 12) (v := ?vo_w7) (w1 := (((wr.setCell ⟨go4, (x2_1 : Int).toNat * 3, none⟩ (.int .i64 77)).setCell ⟨go4, (x2_1 : Int).toNat * 3 + 1, none⟩ (.int .i64 0)).setCell ⟨go4, (x2_1 : Int).toNat * 3 + 2, none⟩ (.string (⟨#[115, 112, 111, 105, 108, 116]⟩ : ByteArray)))) ?hg ?ho ?hn ?hr ?_; (case ho => rfl); (case hg => rfl); (case hn => rfl); (case hr => first | (go_simp; done) | (go_simp; rfl)); intro w7 hw; have hg : wr.grownBy w7 (some go4) := (by rw [hw]; exact HP6.2); have hp_ : Kd.R k42 42 w7 w0.heap.size (fun k_ => (P0_ k_ ∨ w.heap.size ≤ k_)) (.slice (some ⟨go4, 0, none⟩) x0_1.length co5) y169 := (by rw [hw, Ny169.out]; exact HP6.1); clear HP6; have n0_ := Aside0.mk (hp_); have n1_ := Aside0.mk ((by rw [hw]; exact below_set (below_set (below_set (HB.out) GB4.out) GB4.out) GB4.out : Below w0.heap.size w0 w7)); have n2_ := Aside0.mk (Kept.of_grown (S := (fun k_ => P0_ k_)) hg (by repeat (first | (with_reducible first | exact HK.out | apply Kept.alloc | apply Kept.drewN | apply Kept.drew) | exact HK.out)) (fun k_ e_ => (HO_0.out.1 k_ e_))); clear HO_0; clear HB; clear HK; have HO_0 := n0_; have HB := n1_; have HK := n2_; clear n0_ n1_ n2_; clear hg hw hp_))
     go_roundg k1
     case measure => have := HK1.out; omega
     case rel => exact ⟨(y169), (wrap64 (x2_1 + 1)), (by first | rfl | (simp; done) | (simp [*]; done)), H', ⟨by have := HK1.out; omega⟩, ⟨by (with_reducible repeat (first | apply Kd.R_alloc | apply Kd.R_drewN | apply Kd.R_drew)); exact HO_0.out⟩, ⟨by repeat (first | (with_reducible first | exact HK.out | apply Kept.alloc | apply Kept.drewN | apply Kept.drew) | exact HK.out)⟩, ⟨by repeat (first | (with_reducible first | exact HB.out | apply below_alloc | apply pw_below_drewN | apply below_drew1) | exact HB.out)⟩⟩
    ·
     rw [if_neg c3] at H
     exact absurd H (by simp)
   ·
    rw [if_neg c2] at H
    have c2b0 : decide (x2_1 < (x0_1.length : Int)) = false := decide_eq_false c2
    clear c2
    by_cases c8 : x0_1.length < 4398046511104
    ·
     rw [if_pos c8] at H
     have LMc8 := Aside0.mk c8
     clear c8
     obtain ⟨y170, hy170⟩ : ∃ y_ : List (S42), y_ = (x0_1 ++ [(⟨77, 0, (⟨#[]⟩ : ByteArray)⟩ : S42)]) := ⟨_, rfl⟩
     replace H : (some ()) = some () := by first | (rw [hy170]; with_reducible exact H) | (have H2_ := (Option.bind_some _ _).symm.trans H; rw [hy170]; with_reducible exact H2_) | (have H2_ := (Option.bind_some _ _).symm.trans H; with_reducible exact H2_) | with_reducible exact H | (rw [hy170]; exact H) | exact H
     have Ny170 := Aside0.mk hy170
     clear hy170
     obtain ⟨Ao9, co9, eo9⟩ := Kd.R_slice HO_0.out
     subst eo9
     go_wp2_with (first | ((with_reducible refine gate_builtin (b := .append) (xs := #[.tmp 13, .tmp 15]) rfl ?_); at_builtin; refine Kd.R_append k42 (w0 := w0) w0.heap.size rfl (.tmp 13) (.tmp 15) 33 42 (.agg #[(.int .i64 0), (.int .i64 0), (.string ⟨#[]⟩)]) 32 rfl Tryd.underlying33 info42 rfl (by decide) (by omega) (.slice Ao9 x0_1.length co9) x0_1 (⟨77, 0, (⟨#[]⟩ : ByteArray)⟩ : S42) [.int .i64 77, .int .i64 0, .string (⟨#[]⟩ : ByteArray)] (fun k_ => (P0_ k_ ∨ w.heap.size ≤ k_)) (fun _ => False) rfl rfl ?aP (fun _ hk => hk.elim) ?aF ?aO ?aB ?aS ?aL ?_; (case aP => exact k42_mkM _ _ _ (⟨77, 0, (⟨#[]⟩ : ByteArray)⟩ : S42)); (case aB => exact (by repeat (first | (with_reducible first | exact HB.out | apply below_alloc | apply pw_below_drewN | apply below_drew1) | exact HB.out))); (case aF => exact (fun k_ hk => (.inr (Nat.le_trans (by first | exact HK.out.1 | exact (show Kept w _ (fun k_ => P0_ k_) from by repeat (first | (with_reducible first | exact HK.out | apply Kept.alloc | apply Kept.drewN | apply Kept.drew) | exact HK.out)).1) hk)))); (case aO => exact (by (with_reducible repeat (first | apply Kd.R_alloc | apply Kd.R_drewN | apply Kd.R_drew)); exact HO_0.out)); (case aS => exact (below_size (by repeat (first | (with_reducible first | exact HB.out | apply below_alloc | apply pw_below_drewN | apply below_drew1) | exact HB.out)))); (case aL => have := LMc8.out; omega); intro v171 w10 ho hb hg hat; rw [← Ny170.out] at ho; have n0_ := Aside0.mk (hb); have n1_ := Aside0.mk (Kept.of_grown (S := (fun k_ => P0_ k_)) hg (by repeat (first | (with_reducible first | exact HK.out | apply Kept.alloc | apply Kept.drewN | apply Kept.drew) | exact HK.out)) (fun k_ e_ => (HO_0.out.1 k_ e_))); have n2_ := Aside0.mk (ho); clear HB; clear HK; clear HO_0; have HB := n0_; have HK := n1_; have HO172 := n2_; clear n0_ n1_ n2_; clear ho hb hg hat))
     first | go_end0 | ((try simp only [Exit.inBlock, Exit.then]); refine bodyPost_ret (results_none rfl _ _ _) rfl ?_)
     exact ⟨by first | rfl | (simp [errW_none, errW_some] <;> rfl) | (simp [*, errW_none, errW_some] <;> rfl), by repeat (first | (with_reducible first | exact HB.out | apply below_alloc | apply pw_below_drewN | apply below_drew1) | exact HB.out), by repeat (first | (with_reducible first | exact HK.out | apply Kept.alloc | apply Kept.drewN | apply Kept.drew) | exact HK.out)⟩
    ·
     rw [if_neg c8] at H
     exact absurd H (by simp)
def lockstepref02_Row.l0 : Nat → List (S42) → List Int → Int → Option (List Int × Int)
 | 0, _, _, _ => none
 | k + 1, x0, x4, x5 => if x5 < (x0.length : Int) then (if 0 ≤ x5 then ((lockstepref02_Value.f k ((rd_T42 x0 x5).f0) ((rd_T42 x0 x5).f1) ((rd_T42 x0 x5).f2)).bind fun bt233 => (if bt233.2 = 0 then (if x4.length + bt233.1.length < 140737488355328 then (lockstepref02_Row.l0 k x0 (x4 ++ bt233.1) (wrap64 (x5 + 1))) else (none)) else (some (([] : List Int), bt233.2)))) else (none)) else (if x4.length < 140737488355328 then (some ((x4 ++ [0]), 0)) else (none))
def lockstepref02_Row.f (k : Nat) (l0 : List (S42)) : Option (List Int × Int) := if (l0.length : Int) > 16 then (some (([] : List Int), 2)) else (lockstepref02_Row.l0 k l0 ([] : List Int) 0)
set_option maxHeartbeats 8000000 in
set_option maxRecDepth 100000 in
theorem lockstepref02_Row.calls (k : Nat) (A0 : Option Addr) (c0 : Nat) (l0 : List (S42)) (r1 : List Int) (r2 : Int) (w : World) (hr0 : Kd.C k42 w A0 l0.length l0) (hc0 : l0.length ≤ c0) (h : lockstepref02_Row.f k l0 = some (r1, r2)) :
  Calls Tryd.prog 38 #[.slice A0 l0.length c0] w fun e w' => ∃ v0_ : Value, e = .returned (.tuple #[v0_, .int .i64 r2]) ∧ Kd.R (Kd.int .u8) 5 w' w.heap.size (fun _ => True) v0_ r1 ∧ Below w.heap.size w w' := by
 have hu42 := Tryd.underlying42
 have HR0 := Aside0.mk hr0
 have HC0 := Aside0.mk hc0
 clear hr0 hc0
 have HB := Aside0.mk (Below.refl w.heap.size w)
 have H : (if (l0.length : Int) > 16 then (some (([] : List Int), 2)) else (lockstepref02_Row.l0 k l0 ([] : List Int) 0)) = some (r1, r2) := h
 clear h
 by_cases c2 : (l0.length : Int) > 16
 ·
  rw [if_pos c2] at H
  have c2b0 : decide (16 < (l0.length : Int)) = true := decide_eq_true c2
  have c2b1 : decide (16 < l0.length) = true := decide_eq_true (by omega)
  clear c2
  simp only [Option.some.injEq, Prod.mk.injEq] at H
  obtain ⟨rfl, rfl⟩ := H
  go_enter Tryd.func38, Tryd.ntmps38
  go_wp2
  go_ret2
  exact ⟨_, by first | rfl | (simp [errW_none, errW_some] <;> rfl) | (simp [*, errW_none, errW_some] <;> rfl), by first | exact Kd.R_nil _ _ _ _ _ | exact Kd.N_nil _ _ _ _ _ | exact Kd.V_nil _ _ _ _ _ | exact Kd.Q_nil _ _ _ _ _ | exact Kd.S_nil _ _ _ _ _, by repeat (first | (with_reducible first | exact HB.out | apply below_alloc | apply pw_below_drewN | apply below_drew1) | exact HB.out)⟩
 ·
  rw [if_neg c2] at H
  have c2b0 : decide (16 < (l0.length : Int)) = false := decide_eq_false c2
  have c2b1 : decide (16 < l0.length) = false := decide_eq_false (by omega)
  clear c2
  have H' := Aside0.mk H
  clear H
  go_enter Tryd.func38, Tryd.ntmps38
  go_wp2
  go_loopg [4, 5] k (fun kq v4 v5 w' => ∃ (x4_1 : List Int) (x5_1 : Int), v5 = .int .i64 x5_1 ∧ Aside0 (lockstepref02_Row.l0 kq l0 x4_1 x5_1 = some (r1, r2)) ∧ Aside0 (kq ≤ k) ∧ Aside0 (Kd.R (Kd.int .u8) 5 w' w.heap.size (fun _ => True) v4 x4_1) ∧ Aside0 (Below w.heap.size w w'))
  case atStart => exact ⟨(([] : List Int)), (0), (by first | rfl | (simp; done) | (simp [*]; done)), H', ⟨Nat.le_refl _⟩, ⟨by first | exact Kd.R_nil _ _ _ _ _ | exact Kd.N_nil _ _ _ _ _ | exact Kd.V_nil _ _ _ _ _ | exact Kd.Q_nil _ _ _ _ _ | exact Kd.S_nil _ _ _ _ _⟩, ⟨by repeat (first | (with_reducible first | exact HB.out | apply below_alloc | apply pw_below_drewN | apply below_drew1) | exact HB.out)⟩⟩
  case round =>
   clear H'
   (try clear c2); (try clear c2b0); (try clear c2b1); (try clear p2)
   obtain ⟨x4_1, x5_1, rfl, HA, HK1, HO_4, HB⟩ := hrel
   cases gk with
   | zero => exact absurd HA.out (by simp [lockstepref02_Row.l0])
   | succ k1 =>
    have H := HA.out
    clear HA
    simp only [lockstepref02_Row.l0] at H
    by_cases c3 : x5_1 < (l0.length : Int)
    ·
     rw [if_pos c3] at H
     have c3b0 : decide (x5_1 < (l0.length : Int)) = true := decide_eq_true c3
     clear c3
     by_cases c4 : 0 ≤ x5_1
     ·
      rw [if_pos c4] at H
      have c4b0 : decide (0 ≤ x5_1) = true := decide_eq_true c4
      clear c4
      replace H := Option.bind_eq_some_iff.mp H
      obtain ⟨⟨t233, t236⟩, A50, H⟩ := H
      replace H : (if t236 = 0 then (if x4_1.length + t233.length < 140737488355328 then (lockstepref02_Row.l0 k1 l0 (x4_1 ++ t233) (wrap64 (x5_1 + 1))) else (none)) else (some (([] : List Int), t236))) = some (r1, r2) := H
      have A5 := Aside0.mk A50
      clear A50
      by_cases c6 : t236 = 0
      ·
       rw [if_pos c6] at H
       have c6b0 : (t236 == 0) = true := beq_iff_eq.mpr c6
       have c6b1 : (t236 != 0) = false := bne_eq_false_iff_eq.mpr c6
       clear c6
       by_cases c7 : x4_1.length + t233.length < 140737488355328
       ·
        rw [if_pos c7] at H
        have LMc7 := Aside0.mk c7
        clear c7
        obtain ⟨y237, hy237⟩ : ∃ y_ : List Int, y_ = (x4_1 ++ t233) := ⟨_, rfl⟩
        replace H : (lockstepref02_Row.l0 k1 l0 y237 (wrap64 (x5_1 + 1))) = some (r1, r2) := by first | (rw [hy237]; with_reducible exact H) | (have H2_ := (Option.bind_some _ _).symm.trans H; rw [hy237]; with_reducible exact H2_) | (have H2_ := (Option.bind_some _ _).symm.trans H; with_reducible exact H2_) | with_reducible exact H | (rw [hy237]; exact H) | exact H
        have Ny237 := Aside0.mk hy237
        clear hy237
        have H' := Aside0.mk H
        clear H
        have p232 : 0 ≤ (x5_1 : Int) := of_decide_eq_true (by first | (with_reducible assumption) | assumption)
        have q232 : x5_1 < (l0.length : Int) := of_decide_eq_true (by first | (with_reducible assumption) | assumption)
        obtain ⟨ad232, e232, hx232_0, hx232_1, hx232_2⟩ := at_T42 HR0.out x5_1 p232 q232
        cases e232
        replace hx232_0 := (HB.out.cell (World.block_lt_of_cell? w _ hx232_0)).trans hx232_0
        replace hx232_1 := (HB.out.cell (World.block_lt_of_cell? w _ hx232_1)).trans hx232_1
        replace hx232_2 := (HB.out.cell (World.block_lt_of_cell? w _ hx232_2)).trans hx232_2
        replace p232 := eq_true p232
        replace q232 := eq_true q232
        go_wp2_with (first | ((with_reducible refine gate_callee (f := 26) rfl ?_); refine goesL_ (some 22) rfl rfl Tryd.func26 (by kernel_rfl) rfl #[.agg #[.int .i64 ((rd_T42 l0 x5_1).f0), .int .i64 ((rd_T42 l0 x5_1).f1), .string ((rd_T42 l0 x5_1).f2)]] rfl (by (try simp only [List.map_toArray, List.map_cons, List.map_nil]); first | done | rfl | (simp only [List.length_drop, List.length_take]; rfl)) ?_; (with_reducible refine (lockstepref02_Value.calls k1 ((rd_T42 l0 x5_1).f0) ((rd_T42 l0 x5_1).f1) ((rd_T42 l0 x5_1).f2) t233 t236 _ A5.out).mono ?_); rintro e w8 ⟨v234, rfl, ho0, hb⟩; refine ⟨_, rfl, ?_⟩; have n0_ := Aside0.mk (Kd.R_elder' (by (with_reducible repeat (first | apply Kd.R_alloc | apply Kd.R_drewN | apply Kd.R_drew)); exact HO_4.out) (Kd.R_base ho0) hb); have n1_ := Aside0.mk (Kd.R_lower (Kd.R_new' ho0 (Kd.R_lt (by (with_reducible repeat (first | apply Kd.R_alloc | apply Kd.R_drewN | apply Kd.R_drew)); exact HO_4.out))) (below_size (by repeat (first | (with_reducible first | exact HB.out | apply below_alloc | apply pw_below_drewN | apply below_drew1) | exact HB.out)))); have n2_ := Aside0.mk (below_step (by repeat (first | (with_reducible first | exact HB.out | apply below_alloc | apply pw_below_drewN | apply below_drew1) | exact HB.out)) hb); clear HO_4; clear HB; have HO_4 := n0_; have HO235 := n1_; have HB := n2_; clear n0_ n1_ n2_; (try clear hb); (try clear hb2); (try clear hk); (try clear hi); (try clear ho0); obtain ⟨Ao10, co10, eo10⟩ := Kd.R_slice HO235.out; subst eo10) | ((with_reducible refine gate_builtin (b := .append) (xs := #[.tmp 28, .tmp 29]) rfl ?_); at_builtin; refine Kd.R_append_rows (Kd.int .u8) (w0 := w) w.heap.size rfl (.tmp 28) (.tmp 29) 47 5 (.int .u8 0) 1 rfl Tryd.underlying47 info5 rfl (by decide) (by omega) u4 x4_1 t233 _ _ _ (fun k_ => some k_ ≠ (.slice Ao10 t233.length co10 : Value).ownBlock) (fun _ => False) rfl rfl ?aO ?aR (fun _ _ h => h) (fun _ h => h.elim) ?aF ?aB ?aS ?aL ?_; (case aR => repeat (first | exact (Kd.R_reads' HO235.out).2.2 | (with_reducible refine Kd.C_alloc ?_ _) | (with_reducible refine Kd.C_drewN ?_ _) | (with_reducible refine Kd.C_drew ?_))); (case aB => exact (by repeat (first | (with_reducible first | exact HB.out | apply below_alloc | apply pw_below_drewN | apply below_drew1) | exact HB.out))); (case aF => exact (fun k_ hk => Kd.fresh' (Kd.R_lt (by (with_reducible repeat (first | apply Kd.R_alloc | apply Kd.R_drewN | apply Kd.R_drew)); exact HO235.out)) k_ hk)); (case aO => exact (by (with_reducible repeat (first | apply Kd.R_alloc | apply Kd.R_drewN | apply Kd.R_drew)); exact Kd.R_mono HO_4.out (fun _ hk => hk.2))); (case aS => exact (below_size (by repeat (first | (with_reducible first | exact HB.out | apply below_alloc | apply pw_below_drewN | apply below_drew1) | exact HB.out)))); (case aL => have := LMc7.out; omega); intro v238 w9 ho hb hg hat; rw [← Ny237.out] at ho; have n0_ := Aside0.mk (Kd.R_after (ok := (fun _ => True)) (by (with_reducible repeat (first | apply Kd.R_alloc | apply Kd.R_drewN | apply Kd.R_drew)); exact HO235.out) hg hat); have n1_ := Aside0.mk (hb); have n2_ := Aside0.mk (ho); clear HO235; clear HB; clear HO_4; have HO235 := n0_; have HB := n1_; have HO239 := n2_; clear n0_ n1_ n2_; clear ho hb hg hat))
        go_roundg k1
        case measure => have := HK1.out; omega
        case rel => exact ⟨(y237), (wrap64 (x5_1 + 1)), (by first | rfl | (simp; done) | (simp [*]; done)), H', ⟨by have := HK1.out; omega⟩, ⟨by (with_reducible repeat (first | apply Kd.R_alloc | apply Kd.R_drewN | apply Kd.R_drew)); exact Kd.R_mono HO239.out (fun _ hk => trivial)⟩, ⟨by repeat (first | (with_reducible first | exact HB.out | apply below_alloc | apply pw_below_drewN | apply below_drew1) | exact HB.out)⟩⟩
       ·
        rw [if_neg c7] at H
        exact absurd H (by simp)
      ·
       rw [if_neg c6] at H
       have c6b0 : (t236 == 0) = false := beq_eq_false_iff_ne.mpr c6
       have c6b1 : (t236 != 0) = true := bne_iff_ne.mpr c6
       simp only [Option.some.injEq, Prod.mk.injEq] at H
       obtain ⟨rfl, rfl⟩ := H
       have p232 : 0 ≤ (x5_1 : Int) := of_decide_eq_true (by first | (with_reducible assumption) | assumption)
       have q232 : x5_1 < (l0.length : Int) := of_decide_eq_true (by first | (with_reducible assumption) | assumption)
       obtain ⟨ad232, e232, hx232_0, hx232_1, hx232_2⟩ := at_T42 HR0.out x5_1 p232 q232
       cases e232
       replace hx232_0 := (HB.out.cell (World.block_lt_of_cell? w _ hx232_0)).trans hx232_0
       replace hx232_1 := (HB.out.cell (World.block_lt_of_cell? w _ hx232_1)).trans hx232_1
       replace hx232_2 := (HB.out.cell (World.block_lt_of_cell? w _ hx232_2)).trans hx232_2
       replace p232 := eq_true p232
       replace q232 := eq_true q232
       go_wp2_with (first | ((with_reducible refine gate_callee (f := 26) rfl ?_); refine goesL_ (some 22) rfl rfl Tryd.func26 (by kernel_rfl) rfl #[.agg #[.int .i64 ((rd_T42 l0 x5_1).f0), .int .i64 ((rd_T42 l0 x5_1).f1), .string ((rd_T42 l0 x5_1).f2)]] rfl (by (try simp only [List.map_toArray, List.map_cons, List.map_nil]); first | done | rfl | (simp only [List.length_drop, List.length_take]; rfl)) ?_; (with_reducible refine (lockstepref02_Value.calls k1 ((rd_T42 l0 x5_1).f0) ((rd_T42 l0 x5_1).f1) ((rd_T42 l0 x5_1).f2) t233 t236 _ A5.out).mono ?_); rintro e w11 ⟨v234, rfl, ho0, hb⟩; refine ⟨_, rfl, ?_⟩; have n0_ := Aside0.mk (Kd.R_elder' (by (with_reducible repeat (first | apply Kd.R_alloc | apply Kd.R_drewN | apply Kd.R_drew)); exact HO_4.out) (Kd.R_base ho0) hb); have n1_ := Aside0.mk (Kd.R_lower (Kd.R_new' ho0 (Kd.R_lt (by (with_reducible repeat (first | apply Kd.R_alloc | apply Kd.R_drewN | apply Kd.R_drew)); exact HO_4.out))) (below_size (by repeat (first | (with_reducible first | exact HB.out | apply below_alloc | apply pw_below_drewN | apply below_drew1) | exact HB.out)))); have n2_ := Aside0.mk (below_step (by repeat (first | (with_reducible first | exact HB.out | apply below_alloc | apply pw_below_drewN | apply below_drew1) | exact HB.out)) hb); clear HO_4; clear HB; have HO_4 := n0_; have HO235 := n1_; have HB := n2_; clear n0_ n1_ n2_; (try clear hb); (try clear hb2); (try clear hk); (try clear hi); (try clear ho0)))
       go_ret2
       exact ⟨_, by first | rfl | (simp [errW_none, errW_some] <;> rfl) | (simp [*, errW_none, errW_some] <;> rfl), by first | exact Kd.R_nil _ _ _ _ _ | exact Kd.N_nil _ _ _ _ _ | exact Kd.V_nil _ _ _ _ _ | exact Kd.Q_nil _ _ _ _ _ | exact Kd.S_nil _ _ _ _ _, by repeat (first | (with_reducible first | exact HB.out | apply below_alloc | apply pw_below_drewN | apply below_drew1) | exact HB.out)⟩
     ·
      rw [if_neg c4] at H
      exact absurd H (by simp)
    ·
     rw [if_neg c3] at H
     have c3b0 : decide (x5_1 < (l0.length : Int)) = false := decide_eq_false c3
     clear c3
     by_cases c12 : x4_1.length < 140737488355328
     ·
      rw [if_pos c12] at H
      have LMc12 := Aside0.mk c12
      clear c12
      obtain ⟨y240, hy240⟩ : ∃ y_ : List Int, y_ = (x4_1 ++ [0]) := ⟨_, rfl⟩
      replace H : (some (y240, 0)) = some (r1, r2) := by first | (rw [hy240]; with_reducible exact H) | (have H2_ := (Option.bind_some _ _).symm.trans H; rw [hy240]; with_reducible exact H2_) | (have H2_ := (Option.bind_some _ _).symm.trans H; with_reducible exact H2_) | with_reducible exact H | (rw [hy240]; exact H) | exact H
      have Ny240 := Aside0.mk hy240
      clear hy240
      simp only [Option.some.injEq, Prod.mk.injEq] at H
      obtain ⟨rfl, rfl⟩ := H
      go_wp2_with (first | ((with_reducible refine gate_builtin (b := .append) (xs := #[.tmp 31, .tmp 32]) rfl ?_); at_builtin; refine Kd.R_append (Kd.int .u8) (w0 := w) w.heap.size rfl (.tmp 31) (.tmp 32) 47 5 (.int .u8 0) 1 rfl Tryd.underlying47 info5 rfl (by decide) (by omega) u4 x4_1 0 [.int .u8 0] (fun _ => True) (fun _ => False) rfl rfl ?aP (fun _ hk => hk.elim) ?aF ?aO ?aB ?aS ?aL ?_; (case aP => exact rfl); (case aB => exact (by repeat (first | (with_reducible first | exact HB.out | apply below_alloc | apply pw_below_drewN | apply below_drew1) | exact HB.out))); (case aF => exact (fun _ _ => trivial)); (case aO => exact (by (with_reducible repeat (first | apply Kd.R_alloc | apply Kd.R_drewN | apply Kd.R_drew)); exact HO_4.out)); (case aS => exact (below_size (by repeat (first | (with_reducible first | exact HB.out | apply below_alloc | apply pw_below_drewN | apply below_drew1) | exact HB.out)))); (case aL => have := LMc12.out; omega); intro v241 w13 ho hb hg hat; rw [← Ny240.out] at ho; have n0_ := Aside0.mk (hb); have n1_ := Aside0.mk (ho); clear HB; clear HO_4; have HB := n0_; have HO242 := n1_; clear n0_ n1_; clear ho hb hg hat))
      go_ret2
      exact ⟨_, by first | rfl | (simp [errW_none, errW_some] <;> rfl) | (simp [*, errW_none, errW_some] <;> rfl), by (with_reducible repeat (first | apply Kd.R_alloc | apply Kd.R_drewN | apply Kd.R_drew)); exact HO242.out, by repeat (first | (with_reducible first | exact HB.out | apply below_alloc | apply pw_below_drewN | apply below_drew1) | exact HB.out)⟩
     ·
      rw [if_neg c12] at H
      exact absurd H (by simp)
def IsS29 (w0 W : World) (g : Nat) (f0 : Int) (f1 : Int) : Prop := W.heap[g]? = some (.cells #[.int .u64 f0, .int .i64 f1] 29 (0, 0)) ∧ w0.heap.size ≤ g
theorem IsS29.grown {w0 W : World} {g : Nat} {f0 : Int} {f1 : Int} {W1 : World} {row : Option Nat} (h : IsS29 w0 W g f0 f1) (hw : W.grownBy W1 row) (hne : some g ≠ row) : IsS29 w0 W1 g f0 f1 := by
 obtain ⟨hb, hg⟩ := h
 exact ⟨blk_grown hb hw hne, hg⟩
theorem IsS29.kept {w0 W : World} {g : Nat} {f0 : Int} {f1 : Int} {W1 : World} {S : Nat → Prop} (h : IsS29 w0 W g f0 f1) (hk : Kept W W1 S) (hne : ¬ S g) : IsS29 w0 W1 g f0 f1 := by
 obtain ⟨hb, hg⟩ := h
 exact ⟨blk_kept hb hk hne, hg⟩
theorem IsS29.below {w0 W : World} {g : Nat} {f0 : Int} {f1 : Int} {W1 : World} (h : IsS29 w0 W g f0 f1) (hw : Below W.heap.size W W1) : IsS29 w0 W1 g f0 f1 := h.grown (grown_of_below hw none) (by simp)
theorem IsS29.alloc {w0 W : World} {g : Nat} {f0 : Int} {f1 : Int} (h : IsS29 w0 W g f0 f1) (o : Obj) : IsS29 w0 (W.alloc o) g f0 f1 := h.below (below_alloc (Below.refl _ _) o)
theorem IsS29.drewN {w0 W : World} {g : Nat} {f0 : Int} {f1 : Int} (h : IsS29 w0 W g f0 f1) (m : Nat) : IsS29 w0 (W.drewN m) g f0 f1 := h
theorem IsS29.drew {w0 W : World} {g : Nat} {f0 : Int} {f1 : Int} (h : IsS29 w0 W g f0 f1) : IsS29 w0 W.drew g f0 f1 := h
theorem IsS29.at_ {w0 W : World} {g : Nat} {f0 : Int} {f1 : Int} {w' : World} {m : Nat} (hq : W.drewN m = w') (h : IsS29 w0 W g f0 f1) : IsS29 w0 w' g f0 f1 := by subst hq; exact IsS29.drewN h m
theorem IsS29.apart {w0 W : World} {g : Nat} {f0 : Int} {f1 : Int} {α : Type} {d : Kd α} {e : Nat} {base : Nat} {ok : Nat → Prop} {v : Value} {xs : List α} (h : IsS29 w0 W g f0 f1) (ho : d.R e W base ok v xs) (ht : ∀ q, q ∈ e :: d.E → q ≠ 29) : d.R e W base (fun k => ok k ∧ k ≠ g) v xs := by
 obtain ⟨hb, hg⟩ := h
 exact Kd.R_types ho hb ht
theorem IsS29.own_ne {w0 W : World} {g : Nat} {f0 : Int} {f1 : Int} {α : Type} {d : Kd α} {e : Nat} {base : Nat} {ok : Nat → Prop} {v : Value} {xs : List α} (h : IsS29 w0 W g f0 f1) (ho : d.R e W base ok v xs) (ht : e ≠ 29) : some g ≠ v.ownBlock := by
 obtain ⟨hb, hg⟩ := h
 exact Kd.R_ne ho hb ht
theorem IsS29.lt {w0 W : World} {g : Nat} {f0 : Int} {f1 : Int} (h : IsS29 w0 W g f0 f1) : g < W.heap.size := by
 obtain ⟨hb, hg⟩ := h
 exact blk_lt hb
theorem IsS29.ge {w0 W : World} {g : Nat} {f0 : Int} {f1 : Int} (h : IsS29 w0 W g f0 f1) : w0.heap.size ≤ g := by
 obtain ⟨hb, hg⟩ := h
 exact hg
theorem IsS29.far {w0 W : World} {g : Nat} {f0 : Int} {f1 : Int} {p : Addr} (h : IsS29 w0 W g f0 f1) (hne : g ≠ p.block) (u : Value) : IsS29 w0 (W.setCell p u) g f0 f1 := by
 obtain ⟨hb, hg⟩ := h
 exact ⟨blk_far hb hne u, hg⟩
theorem cellS29_0 {W : World} {g : Nat} {f0 : Int} {f1 : Int} (h : W.heap[g]? = some (.cells #[.int .u64 f0, .int .i64 f1] 29 (0, 0))) : W.cell? ⟨g, 0, none⟩ = some (.int .u64 f0) := (blk_cell h 0).trans rfl
theorem IsS29.set_0 {w0 W : World} {g : Nat} {f0 : Int} {f1 : Int} (h : IsS29 w0 W g f0 f1) (x : Int) : IsS29 w0 (W.setCell ⟨g, 0, none⟩ (.int .u64 x)) g x f1 := by
 obtain ⟨hb, hg⟩ := h
 exact ⟨by simpa using blk_set hb 0 (.int .u64 x), hg⟩
theorem cellS29_1 {W : World} {g : Nat} {f0 : Int} {f1 : Int} (h : W.heap[g]? = some (.cells #[.int .u64 f0, .int .i64 f1] 29 (0, 0))) : W.cell? ⟨g, 1, none⟩ = some (.int .i64 f1) := (blk_cell h 1).trans rfl
theorem IsS29.set_1 {w0 W : World} {g : Nat} {f0 : Int} {f1 : Int} (h : IsS29 w0 W g f0 f1) (x : Int) : IsS29 w0 (W.setCell ⟨g, 1, none⟩ (.int .i64 x)) g f0 x := by
 obtain ⟨hb, hg⟩ := h
 exact ⟨by simpa using blk_set hb 1 (.int .i64 x), hg⟩
theorem IsS29.new (w0 W : World) (f0 : Int) (f1 : Int) (hB : Below w0.heap.size w0 W) : IsS29 w0 (W.alloc (.cells #[.int .u64 f0, .int .i64 f1] 29)) W.heap.size f0 f1 := ⟨by simpa using heap_alloc_new W _, hB.size⟩
def lockstepref02_Digest_Take.f (k : Nat) (s0_0 : Int) (s0_1 : Int) (l1 : List (S42)) (a2 : Bool) : Option (Int × Int × Int) := (lockstepref02_Row.f k l1).bind fun bt244 => (if bt244.2 = 0 then (if a2 = true then ((lockstepref02_Hash.f k bt244.1).bind fun t248 => (some (0, IntKind.u64.wrap (s0_0 + t248), wrap64 (s0_1 + 1)))) else ((lockstepref02_Hash.f k bt244.1).bind fun t249 => (some (0, IntKind.u64.wrap (s0_0 - t249), wrap64 (s0_1 - 1))))) else (some (bt244.2, s0_0, s0_1)))
set_option maxHeartbeats 8000000 in
set_option maxRecDepth 100000 in
theorem lockstepref02_Digest_Take.calls (k : Nat) (g : Nat) (s0_0 : Int) (s0_1 : Int) (A1 : Option Addr) (c1 : Nat) (l1 : List (S42)) (a2 : Bool) (r1 : Int) (r2 : Int) (r3 : Int) (w0 w : World) (hI : IsS29 w0 w g s0_0 s0_1) (hB : Below w0.heap.size w0 w) (hr1 : ∀ W_, KeepBut w W_ g none → Kd.C k42 W_ A1 l1.length l1) (hc1 : l1.length ≤ c1) (h : lockstepref02_Digest_Take.f k s0_0 s0_1 l1 a2 = some (r1, r2, r3)) :
  Calls Tryd.prog 16 #[.pointer (some ⟨g, 0, none⟩), .slice A1 l1.length c1, .bool a2] w fun e w' => e = .returned (.int .i64 r1) ∧ IsS29 w0 w' g r2 r3 ∧ Below w0.heap.size w0 w' ∧ KeepBut w w' g none := by
 have HR1 := Aside0.mk hr1
 have HC1 := Aside0.mk hc1
 clear hr1 hc1
 have HI0 := Aside0.mk hI
 have HK := Aside0.mk (KeepBut.refl w g none)
 have HL := Aside0.mk hB.size
 clear hI
 have HW0 := Aside0.mk hB.size
 have HB := Aside0.mk hB
 clear hB
 have H : ((lockstepref02_Row.f k l1).bind fun bt244 => (if bt244.2 = 0 then (if a2 = true then ((lockstepref02_Hash.f k bt244.1).bind fun t248 => (some (0, IntKind.u64.wrap (s0_0 + t248), wrap64 (s0_1 + 1)))) else ((lockstepref02_Hash.f k bt244.1).bind fun t249 => (some (0, IntKind.u64.wrap (s0_0 - t249), wrap64 (s0_1 - 1))))) else (some (bt244.2, s0_0, s0_1)))) = some (r1, r2, r3) := h
 clear h
 replace H := Option.bind_eq_some_iff.mp H
 obtain ⟨⟨t244, t245⟩, A40, H⟩ := H
 replace H : (if t245 = 0 then (if a2 = true then ((lockstepref02_Hash.f k t244).bind fun t248 => (some (0, IntKind.u64.wrap (s0_0 + t248), wrap64 (s0_1 + 1)))) else ((lockstepref02_Hash.f k t244).bind fun t249 => (some (0, IntKind.u64.wrap (s0_0 - t249), wrap64 (s0_1 - 1))))) else (some (t245, s0_0, s0_1))) = some (r1, r2, r3) := H
 have A4 := Aside0.mk A40
 clear A40
 by_cases c5 : t245 = 0
 ·
  rw [if_pos c5] at H
  have c5b0 : (t245 == 0) = true := beq_iff_eq.mpr c5
  have c5b1 : (t245 != 0) = false := bne_eq_false_iff_eq.mpr c5
  clear c5
  by_cases c6 : a2 = true
  ·
   subst c6
   have H1 : ((lockstepref02_Hash.f k t244).bind fun t248 => (some (0, IntKind.u64.wrap (s0_0 + t248), wrap64 (s0_1 + 1)))) = some (r1, r2, r3) := by rw [if_pos rfl] at H; exact H
   clear H
   have H := H1
   clear H1
   replace H := Option.bind_eq_some_iff.mp H
   obtain ⟨t248, A70, H⟩ := H
   replace H : (some (0, IntKind.u64.wrap (s0_0 + t248), wrap64 (s0_1 + 1))) = some (r1, r2, r3) := H
   have A7 := Aside0.mk A70
   clear A70
   simp only [Option.some.injEq, Prod.mk.injEq] at H
   obtain ⟨rfl, rfl, rfl⟩ := H
   go_enter Tryd.func16, Tryd.ntmps16
   go_wp2_with (first | ((with_reducible refine gate_callee (f := 38) rfl ?_); refine goesL_ (some 11) rfl rfl Tryd.func38 (by kernel_rfl) rfl #[.slice A1 l1.length c1] rfl (by (try simp only [List.map_toArray, List.map_cons, List.map_nil]); first | done | rfl | (simp only [List.length_drop, List.length_take]; rfl)) ?_; (with_reducible refine (lockstepref02_Row.calls k _ _ l1 t244 t245 _ ?side1 ?side2 A4.out).mono ?_); (case side1 => exact Kd.C_foot_now HR1.out (by repeat (first | (with_reducible first | exact HK.out | apply KeepBut.set_ | apply keep_drewN | apply keep_drew | apply keep_alloc) | exact HK.out))); (case side2 => exact HC1.out); rintro e w8 ⟨v246, rfl, ho0, hb⟩; refine ⟨_, rfl, ?_⟩; have n0_ := Aside0.mk (Kd.R_lower ho0 (keep_size (w := w) (g := g) (row := none) (by repeat (first | (with_reducible first | exact HK.out | apply KeepBut.set_ | apply keep_drewN | apply keep_drew | apply keep_alloc) | exact HK.out)))); have n1_ := Aside0.mk (IsS29.below (by repeat (first | (with_reducible first | exact HI0.out | apply IsS29.alloc | apply IsS29.drewN | apply IsS29.drew | apply IsS29.set_0 | apply IsS29.set_1) | exact HI0.out)) hb); have n2_ := Aside0.mk (KeepBut.trans (by repeat (first | (with_reducible first | exact HK.out | apply KeepBut.set_ | apply keep_drewN | apply keep_drew | apply keep_alloc) | exact HK.out)) (KeepBut.of_below hb g none) (.inl rfl)); have n3_ := Aside0.mk (below_step (by repeat (first | (with_reducible first | exact HB.out | apply below_alloc | apply pw_below_drewN | apply below_drew1 | refine below_set ?_ (IsS29.ge HI0.out)) | exact HB.out)) hb); clear HI0; clear HK; clear HB; have HO247 := n0_; have HI0 := n1_; have HK := n2_; have HB := n3_; clear n0_ n1_ n2_ n3_; (try clear hb); (try clear hb2); (try clear hk); (try clear hi); (try clear ho0); obtain ⟨HGz9, hgz9⟩ := HI0.out; have hcz9_0 := cellS29_0 HGz9; have hcz9_1 := cellS29_1 HGz9; have hfz9_0 := blk_frozen HGz9 0; have hfz9_1 := blk_frozen HGz9 1; clear HGz9 hgz9; obtain ⟨Ao10, co10, eo10⟩ := Kd.R_slice HO247.out; subst eo10) | ((with_reducible refine gate_callee (f := 32) rfl ?_); refine goesL_ (some 25) rfl rfl Tryd.func32 (by kernel_rfl) rfl #[.slice Ao10 t244.length co10] rfl (by (try simp only [List.map_toArray, List.map_cons, List.map_nil]); first | done | rfl | (simp only [List.length_drop, List.length_take]; rfl)) ?_; (with_reducible refine (lockstepref02_Hash.calls k _ _ t244 t248 _ ?side1 ?side2 A7.out).mono ?_); (case side1 => repeat (first | exact (Kd.R_reads' HO247.out).2.2 | (with_reducible refine Kd.C_alloc ?_ _) | (with_reducible refine Kd.C_drewN ?_ _) | (with_reducible refine Kd.C_drew ?_))); (case side2 => exact (Kd.R_reads' HO247.out).2.1); rintro e w' ⟨rfl, ⟨nd, rfl⟩⟩; refine ⟨_, rfl, ?_⟩; (try (rw [drewN_self w8]; generalize hq_ : World.drewN w8 _ = w8; have n0_ : Aside0 (Kd.R (Kd.int .u8) 5 w8 w.heap.size (fun _ => True) (.slice Ao10 t244.length co10) t244) := ⟨by rw [← hq_]; exact (by (with_reducible repeat (first | apply Kd.R_alloc | apply Kd.R_drewN | apply Kd.R_drew)); exact HO247.out)⟩; have n1_ : Aside0 (IsS29 w0 w8 g s0_0 s0_1) := ⟨by rw [← hq_]; exact (by repeat (first | (with_reducible first | exact HI0.out | apply IsS29.alloc | apply IsS29.drewN | apply IsS29.drew | apply IsS29.set_0 | apply IsS29.set_1) | exact HI0.out))⟩; have n2_ : Aside0 (KeepBut w w8 g none) := ⟨by rw [← hq_]; exact (by repeat (first | (with_reducible first | exact HK.out | apply KeepBut.set_ | apply keep_drewN | apply keep_drew | apply keep_alloc) | exact HK.out))⟩; have n3_ : Aside0 (Below w0.heap.size w0 w8) := ⟨by rw [← hq_]; exact (by repeat (first | (with_reducible first | exact HB.out | apply below_alloc | apply pw_below_drewN | apply below_drew1 | refine below_set ?_ (IsS29.ge HI0.out)) | exact HB.out))⟩; clear HO247 HI0 HK HB hq_; have HO247 := n0_; have HI0 := n1_; have HK := n2_; have HB := n3_; clear n0_ n1_ n2_ n3_))))
   all_goals (try (go_region_with (go_at_call 32; (with_reducible refine (lockstepref02_Hash.calls k _ _ t244 t248 _ ?side1 ?side2 A7.out).mono ?_); (case side1 => repeat (first | exact (Kd.R_reads' HO247.out).2.2 | (with_reducible refine Kd.C_alloc ?_ _) | (with_reducible refine Kd.C_drewN ?_ _) | (with_reducible refine Kd.C_drew ?_))); (case side2 => exact (Kd.R_reads' HO247.out).2.1); rintro e w' ⟨rfl, ⟨nd, rfl⟩⟩)))
   all_goals (try go_wp2)
   all_goals (go_ret; (try simp only [Go.IntWalk.i64_left]); exact ⟨by first | rfl | (simp [errW_none, errW_some] <;> rfl) | (simp [*, errW_none, errW_some] <;> rfl), by repeat (first | (with_reducible first | exact HI0.out | apply IsS29.alloc | apply IsS29.drewN | apply IsS29.drew | apply IsS29.set_0 | apply IsS29.set_1) | exact HI0.out), by repeat (first | (with_reducible first | exact HB.out | apply below_alloc | apply pw_below_drewN | apply below_drew1 | refine below_set ?_ (IsS29.ge HI0.out)) | exact HB.out), by repeat (first | (with_reducible first | exact HK.out | apply KeepBut.set_ | apply keep_drewN | apply keep_drew | apply keep_alloc) | exact HK.out)⟩)
  ·
   replace c6 := Bool.eq_false_iff.mpr c6
   subst c6
   have H1 : ((lockstepref02_Hash.f k t244).bind fun t249 => (some (0, IntKind.u64.wrap (s0_0 - t249), wrap64 (s0_1 - 1)))) = some (r1, r2, r3) := by rw [if_neg (show ¬ (false = true) by decide)] at H; exact H
   clear H
   have H := H1
   clear H1
   replace H := Option.bind_eq_some_iff.mp H
   obtain ⟨t249, A110, H⟩ := H
   replace H : (some (0, IntKind.u64.wrap (s0_0 - t249), wrap64 (s0_1 - 1))) = some (r1, r2, r3) := H
   have A11 := Aside0.mk A110
   clear A110
   simp only [Option.some.injEq, Prod.mk.injEq] at H
   obtain ⟨rfl, rfl, rfl⟩ := H
   go_enter Tryd.func16, Tryd.ntmps16
   go_wp2_with (first | ((with_reducible refine gate_callee (f := 38) rfl ?_); refine goesL_ (some 11) rfl rfl Tryd.func38 (by kernel_rfl) rfl #[.slice A1 l1.length c1] rfl (by (try simp only [List.map_toArray, List.map_cons, List.map_nil]); first | done | rfl | (simp only [List.length_drop, List.length_take]; rfl)) ?_; (with_reducible refine (lockstepref02_Row.calls k _ _ l1 t244 t245 _ ?side1 ?side2 A4.out).mono ?_); (case side1 => exact Kd.C_foot_now HR1.out (by repeat (first | (with_reducible first | exact HK.out | apply KeepBut.set_ | apply keep_drewN | apply keep_drew | apply keep_alloc) | exact HK.out))); (case side2 => exact HC1.out); rintro e w12 ⟨v246, rfl, ho0, hb⟩; refine ⟨_, rfl, ?_⟩; have n0_ := Aside0.mk (Kd.R_lower ho0 (keep_size (w := w) (g := g) (row := none) (by repeat (first | (with_reducible first | exact HK.out | apply KeepBut.set_ | apply keep_drewN | apply keep_drew | apply keep_alloc) | exact HK.out)))); have n1_ := Aside0.mk (IsS29.below (by repeat (first | (with_reducible first | exact HI0.out | apply IsS29.alloc | apply IsS29.drewN | apply IsS29.drew | apply IsS29.set_0 | apply IsS29.set_1) | exact HI0.out)) hb); have n2_ := Aside0.mk (KeepBut.trans (by repeat (first | (with_reducible first | exact HK.out | apply KeepBut.set_ | apply keep_drewN | apply keep_drew | apply keep_alloc) | exact HK.out)) (KeepBut.of_below hb g none) (.inl rfl)); have n3_ := Aside0.mk (below_step (by repeat (first | (with_reducible first | exact HB.out | apply below_alloc | apply pw_below_drewN | apply below_drew1 | refine below_set ?_ (IsS29.ge HI0.out)) | exact HB.out)) hb); clear HI0; clear HK; clear HB; have HO247 := n0_; have HI0 := n1_; have HK := n2_; have HB := n3_; clear n0_ n1_ n2_ n3_; (try clear hb); (try clear hb2); (try clear hk); (try clear hi); (try clear ho0); obtain ⟨HGz13, hgz13⟩ := HI0.out; have hcz13_0 := cellS29_0 HGz13; have hcz13_1 := cellS29_1 HGz13; have hfz13_0 := blk_frozen HGz13 0; have hfz13_1 := blk_frozen HGz13 1; clear HGz13 hgz13; obtain ⟨Ao14, co14, eo14⟩ := Kd.R_slice HO247.out; subst eo14) | ((with_reducible refine gate_callee (f := 32) rfl ?_); refine goesL_ (some 43) rfl rfl Tryd.func32 (by kernel_rfl) rfl #[.slice Ao14 t244.length co14] rfl (by (try simp only [List.map_toArray, List.map_cons, List.map_nil]); first | done | rfl | (simp only [List.length_drop, List.length_take]; rfl)) ?_; (with_reducible refine (lockstepref02_Hash.calls k _ _ t244 t249 _ ?side1 ?side2 A11.out).mono ?_); (case side1 => repeat (first | exact (Kd.R_reads' HO247.out).2.2 | (with_reducible refine Kd.C_alloc ?_ _) | (with_reducible refine Kd.C_drewN ?_ _) | (with_reducible refine Kd.C_drew ?_))); (case side2 => exact (Kd.R_reads' HO247.out).2.1); rintro e w' ⟨rfl, ⟨nd, rfl⟩⟩; refine ⟨_, rfl, ?_⟩; (try (rw [drewN_self w12]; generalize hq_ : World.drewN w12 _ = w12; have n0_ : Aside0 (Kd.R (Kd.int .u8) 5 w12 w.heap.size (fun _ => True) (.slice Ao14 t244.length co14) t244) := ⟨by rw [← hq_]; exact (by (with_reducible repeat (first | apply Kd.R_alloc | apply Kd.R_drewN | apply Kd.R_drew)); exact HO247.out)⟩; have n1_ : Aside0 (IsS29 w0 w12 g s0_0 s0_1) := ⟨by rw [← hq_]; exact (by repeat (first | (with_reducible first | exact HI0.out | apply IsS29.alloc | apply IsS29.drewN | apply IsS29.drew | apply IsS29.set_0 | apply IsS29.set_1) | exact HI0.out))⟩; have n2_ : Aside0 (KeepBut w w12 g none) := ⟨by rw [← hq_]; exact (by repeat (first | (with_reducible first | exact HK.out | apply KeepBut.set_ | apply keep_drewN | apply keep_drew | apply keep_alloc) | exact HK.out))⟩; have n3_ : Aside0 (Below w0.heap.size w0 w12) := ⟨by rw [← hq_]; exact (by repeat (first | (with_reducible first | exact HB.out | apply below_alloc | apply pw_below_drewN | apply below_drew1 | refine below_set ?_ (IsS29.ge HI0.out)) | exact HB.out))⟩; clear HO247 HI0 HK HB hq_; have HO247 := n0_; have HI0 := n1_; have HK := n2_; have HB := n3_; clear n0_ n1_ n2_ n3_))))
   all_goals (try (go_region_with (go_at_call 32; (with_reducible refine (lockstepref02_Hash.calls k _ _ t244 t249 _ ?side1 ?side2 A11.out).mono ?_); (case side1 => repeat (first | exact (Kd.R_reads' HO247.out).2.2 | (with_reducible refine Kd.C_alloc ?_ _) | (with_reducible refine Kd.C_drewN ?_ _) | (with_reducible refine Kd.C_drew ?_))); (case side2 => exact (Kd.R_reads' HO247.out).2.1); rintro e w' ⟨rfl, ⟨nd, rfl⟩⟩)))
   all_goals (try go_wp2)
   all_goals (go_ret; (try simp only [Go.IntWalk.i64_left]); exact ⟨by first | rfl | (simp [errW_none, errW_some] <;> rfl) | (simp [*, errW_none, errW_some] <;> rfl), by repeat (first | (with_reducible first | exact HI0.out | apply IsS29.alloc | apply IsS29.drewN | apply IsS29.drew | apply IsS29.set_0 | apply IsS29.set_1) | exact HI0.out), by repeat (first | (with_reducible first | exact HB.out | apply below_alloc | apply pw_below_drewN | apply below_drew1 | refine below_set ?_ (IsS29.ge HI0.out)) | exact HB.out), by repeat (first | (with_reducible first | exact HK.out | apply KeepBut.set_ | apply keep_drewN | apply keep_drew | apply keep_alloc) | exact HK.out)⟩)
 ·
  rw [if_neg c5] at H
  have c5b0 : (t245 == 0) = false := beq_eq_false_iff_ne.mpr c5
  have c5b1 : (t245 != 0) = true := bne_iff_ne.mpr c5
  simp only [Option.some.injEq, Prod.mk.injEq] at H
  obtain ⟨rfl, rfl, rfl⟩ := H
  go_enter Tryd.func16, Tryd.ntmps16
  go_wp2_with (first | ((with_reducible refine gate_callee (f := 38) rfl ?_); refine goesL_ (some 11) rfl rfl Tryd.func38 (by kernel_rfl) rfl #[.slice A1 l1.length c1] rfl (by (try simp only [List.map_toArray, List.map_cons, List.map_nil]); first | done | rfl | (simp only [List.length_drop, List.length_take]; rfl)) ?_; (with_reducible refine (lockstepref02_Row.calls k _ _ l1 t244 t245 _ ?side1 ?side2 A4.out).mono ?_); (case side1 => exact Kd.C_foot_now HR1.out (by repeat (first | (with_reducible first | exact HK.out | apply KeepBut.set_ | apply keep_drewN | apply keep_drew | apply keep_alloc) | exact HK.out))); (case side2 => exact HC1.out); rintro e w15 ⟨v246, rfl, ho0, hb⟩; refine ⟨_, rfl, ?_⟩; have n0_ := Aside0.mk (Kd.R_lower ho0 (keep_size (w := w) (g := g) (row := none) (by repeat (first | (with_reducible first | exact HK.out | apply KeepBut.set_ | apply keep_drewN | apply keep_drew | apply keep_alloc) | exact HK.out)))); have n1_ := Aside0.mk (IsS29.below (by repeat (first | (with_reducible first | exact HI0.out | apply IsS29.alloc | apply IsS29.drewN | apply IsS29.drew | apply IsS29.set_0 | apply IsS29.set_1) | exact HI0.out)) hb); have n2_ := Aside0.mk (KeepBut.trans (by repeat (first | (with_reducible first | exact HK.out | apply KeepBut.set_ | apply keep_drewN | apply keep_drew | apply keep_alloc) | exact HK.out)) (KeepBut.of_below hb g none) (.inl rfl)); have n3_ := Aside0.mk (below_step (by repeat (first | (with_reducible first | exact HB.out | apply below_alloc | apply pw_below_drewN | apply below_drew1 | refine below_set ?_ (IsS29.ge HI0.out)) | exact HB.out)) hb); clear HI0; clear HK; clear HB; have HO247 := n0_; have HI0 := n1_; have HK := n2_; have HB := n3_; clear n0_ n1_ n2_ n3_; (try clear hb); (try clear hb2); (try clear hk); (try clear hi); (try clear ho0)))
  go_ret
  exact ⟨by first | rfl | (simp [errW_none, errW_some] <;> rfl) | (simp [*, errW_none, errW_some] <;> rfl), by repeat (first | (with_reducible first | exact HI0.out | apply IsS29.alloc | apply IsS29.drewN | apply IsS29.drew | apply IsS29.set_0 | apply IsS29.set_1) | exact HI0.out), by repeat (first | (with_reducible first | exact HB.out | apply below_alloc | apply pw_below_drewN | apply below_drew1 | refine below_set ?_ (IsS29.ge HI0.out)) | exact HB.out), by repeat (first | (with_reducible first | exact HK.out | apply KeepBut.set_ | apply keep_drewN | apply keep_drew | apply keep_alloc) | exact HK.out)⟩
mutual
def locksteplaw02_RowcodeDigests.j0 : Nat → List (S36) → Bool → Int → Int → Int → Int → Option (Bool)
 | 0, _, _, _, _, _, _ => none
 | k + 1, x0, x19, x251000, x251001, x252000, x252001 => if x19 = true then (some false) else (locksteplaw02_RowcodeDigests.l0 k x0 0 x251000 x251001 x252000 x252001)
def locksteplaw02_RowcodeDigests.l0 : Nat → List (S36) → Int → Int → Int → Int → Int → Option (Bool)
 | 0, _, _, _, _, _, _ => none
 | k + 1, x0, x5, x251000, x251001, x252000, x252001 => if x5 < (x0.length : Int) then (if 0 ≤ x5 then ((locksteplaw02_Own.f ((rd_T36 x0 x5).f1)).bind fun t271 => (if (rd_T36 x0 x5).f0 = true then ((rowcode_Digest_Drop.f k x251000 x251001 t271).bind fun bt275 => (locksteplaw02_RowcodeDigests.j2 k x0 x5 t271 bt275.1 bt275.2.1 bt275.2.2 x252000 x252001)) else ((rowcode_Digest_Add.f k x251000 x251001 t271).bind fun bt278 => (locksteplaw02_RowcodeDigests.j2 k x0 x5 t271 bt278.1 bt278.2.1 bt278.2.2 x252000 x252001)))) else (none)) else ((rowcode_Digest_Add.f k x251000 x251001 (([(⟨99, 0, (⟨#[]⟩ : ByteArray)⟩ : S42)] : List (S42)))).bind fun bt261 => (if bt261.1 = 1 then ((rowcode_Digest_Add.f k bt261.2.1 bt261.2.2 ([] : List (S42))).bind fun bt264 => (if bt264.1 = 0 then ((rowcode_Digest_Len.f bt264.2.1 bt264.2.2).bind fun bt267 => (some (bt267.1 == (wrap64 (x252001 + 1))))) else (some false))) else (some false)))
def locksteplaw02_RowcodeDigests.j2 : Nat → List (S36) → Int → List (S42) → Int → Int → Int → Int → Int → Option (Bool)
 | 0, _, _, _, _, _, _, _, _ => none
 | k + 1, x0, x5, x6, x7, x251000, x251001, x252000, x252001 => (locksteplaw02_Spoil.f k x6).bind fun _ => (if 0 ≤ x5 then (if x5 < (x0.length : Int) then ((lockstepref02_Digest_Take.f k x252000 x252001 ((rd_T36 x0 x5).f1) (!((rd_T36 x0 x5).f0))).bind fun bt283 => (if x7 = bt283.1 then ((rowcode_Digest_Sum.f x251000 x251001).bind fun bt286 => (if bt286.1 = bt283.2.1 then ((rowcode_Digest_Len.f bt286.2.1 bt286.2.2).bind fun bt289 => (if bt289.1 = bt283.2.2 then (locksteplaw02_RowcodeDigests.l0 k x0 (wrap64 (x5 + 1)) bt289.2.1 bt289.2.2 bt283.2.1 bt283.2.2) else (some false))) else (some false))) else (some false))) else (none)) else (none))
end
def locksteplaw02_RowcodeDigests.f (k : Nat) (l0 : List (S36)) : Option (Bool) := (rowcode_Digest_Sum.f 0 0).bind fun bt252 => (if bt252.1 = 0 then ((rowcode_Digest_Len.f bt252.2.1 bt252.2.2).bind fun bt255 => (locksteplaw02_RowcodeDigests.j0 k l0 (bt255.1 != 0) bt255.2.1 bt255.2.2 0 0)) else (locksteplaw02_RowcodeDigests.j0 k l0 true bt252.2.1 bt252.2.2 0 0))
def locksteplaw02_RowcodeDigests.T13 : Bool × List (List Nat × List Nat) := (true, [([], []), ([], []), ([], []), ([], []), ([2, 3], [2, 3]), ([4], [4]), ([5], [5]), ([], []), ([], []), ([7, 8], [7, 8]), ([9], [9]), ([10], [10]), ([11], [11]), ([1, 6, 12], [1, 6, 12]), ([0, 13], [0, 13]), ([14, 13], [14]), ([15], [15]), ([16, 15, 15], [15, 16]), ([15], [15]), ([18, 15], [15, 18]), ([19, 15], [15, 19]), ([20, 15], [15, 20]), ([17, 21, 15], [15, 17, 21]), ([15, 22], [15, 22]), ([23, 17], [23]), ([24], [24]), ([25, 24, 24], [24, 25]), ([24], [24]), ([27, 24], [24, 27]), ([28, 24], [24, 28]), ([29, 24], [24, 29]), ([26, 30, 24], [24, 26, 30]), ([24, 31], [24, 31])])
def locksteplaw02_RowcodeDigests.B13 : List Nat := [0, 0, 0, 0, 12, 28, 60, 0, 0, 384, 896, 1920, 3968, 8190, 16383, 32767, 65535, 131071, 65535, 327679, 851967, 1900543, 4194303, 8388607, 16777215, 33554431, 67108863, 33554431, 167772159, 436207615, 973078527, 2147483647, 4294967295]
theorem locksteplaw02_RowcodeDigests.tab13 : rtab .any (opsOf Tryd.f3 13) = locksteplaw02_RowcodeDigests.T13 := by kernel_rfl
theorem locksteplaw02_RowcodeDigests.bits13 : waitsOk locksteplaw02_RowcodeDigests.T13.2 locksteplaw02_RowcodeDigests.B13 = true := by kernel_rfl
def locksteplaw02_RowcodeDigests.T15 : Bool × List (List Nat × List Nat) := (true, [([], []), ([], []), ([1], [1]), ([0, 2], [0, 2]), ([3], [3]), ([4, 3], [4]), ([5], [5]), ([6, 5, 5], [5, 6]), ([7, 5], [5, 7]), ([5, 8], [5, 8]), ([9, 7], [9]), ([10], [10]), ([11, 10, 10], [10, 11]), ([10], [10]), ([13, 10], [10, 13]), ([14, 10], [10, 14]), ([15, 10], [10, 15]), ([16, 10], [10, 16]), ([12, 17, 10], [10, 12, 17]), ([10, 18], [10, 18]), ([19, 12, 0, 1, 2, 3, 4, 5, 6, 7, 8, 9, 10, 11, 12, 13, 14, 15, 16, 17, 18, 19], [19])])
def locksteplaw02_RowcodeDigests.B15 : List Nat := [0, 0, 2, 7, 15, 31, 63, 127, 255, 511, 1023, 2047, 4095, 2047, 10239, 26623, 59391, 124927, 262143, 524287, 1048575]
theorem locksteplaw02_RowcodeDigests.tab15 : rtab .any (opsOf Tryd.f3 15) = locksteplaw02_RowcodeDigests.T15 := by kernel_rfl
theorem locksteplaw02_RowcodeDigests.bits15 : waitsOk locksteplaw02_RowcodeDigests.T15.2 locksteplaw02_RowcodeDigests.B15 = true := by kernel_rfl
set_option maxHeartbeats 8000000 in
set_option maxRecDepth 100000 in
theorem locksteplaw02_RowcodeDigests.calls (k : Nat) (A0 : Option Addr) (c0 : Nat) (l0 : List (S36)) (r : Bool) (w : World) (hT : Tabs w) (hr0 : Kd.C k36 w A0 l0.length l0) (hc0 : l0.length ≤ c0) (h : locksteplaw02_RowcodeDigests.f k l0 = some r) (hr : r = true) :
  Calls Tryd.prog 3 #[.slice A0 l0.length c0] w fun e w' => e = .returned (.bool r) ∧ Below w.heap.size w w' := by
 have HR := Aside0.mk hr
 clear hr
 have hu26 := Tryd.underlying26
 have hu29 := Tryd.underlying29
 have hu42 := Tryd.underlying42
 have HT := Aside0.mk hT
 clear hT
 have HR0 := Aside0.mk hr0
 have HC0 := Aside0.mk hc0
 clear hr0 hc0
 have HB := Aside0.mk (Below.refl w.heap.size w)
 have H : ((rowcode_Digest_Sum.f 0 0).bind fun bt252 => (if bt252.1 = 0 then ((rowcode_Digest_Len.f bt252.2.1 bt252.2.2).bind fun bt255 => (locksteplaw02_RowcodeDigests.j0 k l0 (bt255.1 != 0) bt255.2.1 bt255.2.2 0 0)) else (locksteplaw02_RowcodeDigests.j0 k l0 true bt252.2.1 bt252.2.2 0 0))) = some r := h
 clear h
 have HC2 := Aside0.mk H
 clear H
 go_enter Tryd.func3, Tryd.ntmps3
 go_upto_region 2 with (first | ((with_reducible refine gate_dst (N := 9) rfl ?_); refine box_event ?hg (N := 9) ?hd (cs := #[.int .u64 0, .int .i64 0]) (t := 26) ?hr ?_; (case hd => rfl); (case hg => rfl); (case hr => first | (go_simp; done) | (go_simp; rfl)); intro gb250 hg w3 hbox hb; have n0_ := Aside0.mk (below_step (by repeat (first | (with_reducible first | exact HB.out | apply below_alloc | apply pw_below_drewN | apply below_drew1) | exact HB.out)) hb); have n1_ := Aside0.mk (hbox); have n2_ := Aside0.mk ((by rw [hg]; exact (below_size (by repeat (first | (with_reducible first | exact HB.out | apply below_alloc | apply pw_below_drewN | apply below_drew1) | exact HB.out))) : w.heap.size ≤ gb250)); have n3_ := Aside0.mk ((by rw [hg]; exact (below_size (by repeat (first | (with_reducible first | exact HB.out | apply below_alloc | apply pw_below_drewN | apply below_drew1) | exact HB.out))) : w.heap.size ≤ gb250)); clear HB; have HB := n0_; have BK250 := n1_; have GW250 := n2_; have GE250 := n3_; clear n0_ n1_ n2_ n3_; clear hb hbox hg) | ((with_reducible refine gate_dst (N := 11) rfl ?_); refine box_event ?hg (N := 11) ?hd (cs := #[.int .u64 0, .int .i64 0]) (t := 29) ?hr ?_; (case hd => rfl); (case hg => rfl); (case hr => first | (go_simp; done) | (go_simp; rfl)); intro gb251 hg w4 hbox hb; have n0_ := Aside0.mk (blk_below (g := gb250) (o := .cells #[.int .u64 0, .int .i64 0] 26 (0, 0)) (by (with_reducible repeat (first | refine blk_drewN ?_ _ | refine blk_drew ?_ | refine blk_alloc ?_ _)); exact BK250.out) hb); have n1_ := Aside0.mk (below_step (by repeat (first | (with_reducible first | exact HB.out | apply below_alloc | apply pw_below_drewN | apply below_drew1 | refine below_set ?_ GE250.out) | exact HB.out)) hb); have n2_ := Aside0.mk (hbox); have n3_ := Aside0.mk ((by rw [hg]; exact (below_size (by repeat (first | (with_reducible first | exact HB.out | apply below_alloc | apply pw_below_drewN | apply below_drew1 | refine below_set ?_ GE250.out) | exact HB.out))) : w.heap.size ≤ gb251)); have n4_ := Aside0.mk ((by rw [hg]; exact (below_size (by repeat (first | (with_reducible first | exact HB.out | apply below_alloc | apply pw_below_drewN | apply below_drew1 | refine below_set ?_ GE250.out) | exact HB.out))) : w.heap.size ≤ gb251)); have n5_ := Aside0.mk ((by rw [hg]; exact Nat.ne_of_lt (blk_lt (g := gb250) (o := .cells #[.int .u64 0, .int .i64 0] 26 (0, 0)) (by (with_reducible repeat (first | refine blk_drewN ?_ _ | refine blk_drew ?_ | refine blk_alloc ?_ _)); exact BK250.out)) : gb250 ≠ gb251)); have n6_ := Aside0.mk ((by rw [hg]; exact Nat.ne_of_gt (blk_lt (g := gb250) (o := .cells #[.int .u64 0, .int .i64 0] 26 (0, 0)) (by (with_reducible repeat (first | refine blk_drewN ?_ _ | refine blk_drew ?_ | refine blk_alloc ?_ _)); exact BK250.out)) : gb251 ≠ gb250)); clear BK250; clear HB; have BK250 := n0_; have HB := n1_; have BK251 := n2_; have GW251 := n3_; have GE251 := n4_; have NB250_251 := n5_; have NB251_250 := n6_; clear n0_ n1_ n2_ n3_ n4_ n5_ n6_; clear hb hbox hg))
 (try simp only [Act.put, List.setIfInBounds_toArray, List.set_cons_zero, List.set_cons_succ])
 go_cut [19] (fun v19 wc => ∃ (kq : Nat) (x19_1 : Bool) (x251000_1 : Int) (x251001_1 : Int), v19 = .bool x19_1 ∧ Aside0 (locksteplaw02_RowcodeDigests.j0 kq l0 x19_1 x251000_1 x251001_1 0 0 = some r) ∧ Aside0 (kq ≤ k) ∧ Aside0 (wc.heap[gb250]? = some (.cells #[.int .u64 x251000_1, .int .i64 x251001_1] 26 (0, 0))) ∧ Aside0 (wc.heap[gb251]? = some (.cells #[.int .u64 0, .int .i64 0] 29 (0, 0))) ∧ Aside0 (Below w.heap.size w wc))
 case first =>
  have H := HC2.out
  clear HC2
  replace H := Option.bind_eq_some_iff.mp H
  obtain ⟨⟨t252, t253, t254⟩, A50, H⟩ := H
  replace H : (if t252 = 0 then ((rowcode_Digest_Len.f t253 t254).bind fun bt255 => (locksteplaw02_RowcodeDigests.j0 k l0 (bt255.1 != 0) bt255.2.1 bt255.2.2 0 0)) else (locksteplaw02_RowcodeDigests.j0 k l0 true t253 t254 0 0)) = some r := H
  have A5 := Aside0.mk A50
  clear A50
  by_cases c6 : t252 = 0
  ·
   rw [if_pos c6] at H
   have c6b0 : (t252 == 0) = true := beq_iff_eq.mpr c6
   have c6b1 : (t252 != 0) = false := bne_eq_false_iff_eq.mpr c6
   clear c6
   (first | rw [c6b0] | (simp only [i64_w, i32_w]; rw [c6b0]) | skip)
   replace H := Option.bind_eq_some_iff.mp H
   obtain ⟨⟨t255, t256, t257⟩, A70, H⟩ := H
   replace H : (locksteplaw02_RowcodeDigests.j0 k l0 (t255 != 0) t256 t257 0 0) = some r := H
   have A7 := Aside0.mk A70
   clear A70
   have H' := Aside0.mk H
   clear H
   go_wp2_with (first | ((with_reducible refine gate_callee (f := 10) rfl ?_); refine goesL_ (some 13) rfl rfl Tryd.func10 (by kernel_rfl) rfl #[.pointer (some ⟨gb250, 0, none⟩)] rfl (by (try simp only [List.map_toArray, List.map_cons, List.map_nil]); first | done | rfl | (simp only [List.length_drop, List.length_take]; rfl)) ?_; (with_reducible refine (rowcode_Digest_Sum.calls gb250 0 0 t252 t253 t254 w _ ?side1 ?side2 A5.out).mono ?_); (case side1 => repeat (first | (with_reducible first | exact (Aside0.mk (show IsS26 w _ gb250 0 0 from And.intro BK250.out GE250.out)).out | apply IsS26.alloc | apply IsS26.drewN | apply IsS26.drew | apply IsS26.set_0 | apply IsS26.set_1 | refine IsS26.far ?_ NB250_251.out _) | exact (Aside0.mk (show IsS26 w _ gb250 0 0 from And.intro BK250.out GE250.out)).out)); (case side2 => repeat (first | (with_reducible first | exact HB.out | apply below_alloc | apply pw_below_drewN | apply below_drew1 | refine below_set ?_ (IsS26.ge (Aside0.mk (show IsS26 w _ gb250 0 0 from And.intro BK250.out GE250.out)).out) | refine below_set ?_ GE251.out) | exact HB.out)); rintro e w8 ⟨rfl, hi, hb, hk⟩; refine ⟨_, rfl, ?_⟩; have n0_ := Aside0.mk (KeepBut.blk hk (g' := gb251) (o := .cells #[.int .u64 0, .int .i64 0] 29 (0, 0)) (by (with_reducible repeat (first | refine blk_drewN ?_ _ | refine blk_drew ?_ | refine blk_alloc ?_ _)); exact BK251.out) NB251_250.out (by simp)); have n1_ := Aside0.mk (hb); have n2_ := Aside0.mk (hi.1); clear BK251; clear HB; clear BK250; have BK251 := n0_; have HB := n1_; have BK250 := n2_; clear n0_ n1_ n2_; (try clear hb); (try clear hb2); (try clear hk); (try clear hi)) | (go_at_call 11; (with_reducible refine (rowcode_Digest_Len.calls gb250 t253 t254 t255 t256 t257 w _ ?side1 ?side2 A7.out).mono ?_); (case side1 => repeat (first | (with_reducible first | exact (Aside0.mk (show IsS26 w _ gb250 t253 t254 from And.intro BK250.out GE250.out)).out | apply IsS26.alloc | apply IsS26.drewN | apply IsS26.drew | apply IsS26.set_0 | apply IsS26.set_1 | refine IsS26.far ?_ NB250_251.out _) | exact (Aside0.mk (show IsS26 w _ gb250 t253 t254 from And.intro BK250.out GE250.out)).out)); (case side2 => repeat (first | (with_reducible first | exact HB.out | apply below_alloc | apply pw_below_drewN | apply below_drew1 | refine below_set ?_ (IsS26.ge (Aside0.mk (show IsS26 w _ gb250 t253 t254 from And.intro BK250.out GE250.out)).out) | refine below_set ?_ GE251.out) | exact HB.out)); rintro e w9 ⟨rfl, hi, hb, hk⟩; have n0_ := Aside0.mk (KeepBut.blk hk (g' := gb251) (o := .cells #[.int .u64 0, .int .i64 0] 29 (0, 0)) (by (with_reducible repeat (first | refine blk_drewN ?_ _ | refine blk_drew ?_ | refine blk_alloc ?_ _)); exact BK251.out) NB251_250.out (by simp)); have n1_ := Aside0.mk (hb); have n2_ := Aside0.mk (hi.1); clear BK251; clear HB; clear BK250; have BK251 := n0_; have HB := n1_; have BK250 := n2_; clear n0_ n1_ n2_; (try clear hb); (try clear hb2); (try clear hk); (try clear hi)))
   go_meet
   case rel => exact ⟨_, ((t255 != 0)), (t256), (t257), (by first | with_reducible rfl | (simp; done) | (simp [*]; done) | rfl), H', ⟨by first | omega | exact Nat.le_refl _⟩, ⟨by (with_reducible repeat (first | refine blk_drewN ?_ _ | refine blk_drew ?_ | refine blk_alloc ?_ _)); exact BK250.out⟩, ⟨by (with_reducible repeat (first | refine blk_drewN ?_ _ | refine blk_drew ?_ | refine blk_alloc ?_ _)); exact BK251.out⟩, ⟨by repeat (first | (with_reducible first | exact HB.out | apply below_alloc | apply pw_below_drewN | apply below_drew1 | refine below_set ?_ GE250.out | refine below_set ?_ GE251.out) | exact HB.out)⟩⟩
  ·
   rw [if_neg c6] at H
   have c6b0 : (t252 == 0) = false := beq_eq_false_iff_ne.mpr c6
   have c6b1 : (t252 != 0) = true := bne_iff_ne.mpr c6
   (first | rw [c6b0] | (simp only [i64_w, i32_w]; rw [c6b0]) | skip)
   have H' := Aside0.mk H
   clear H
   go_wp2_with (first | ((with_reducible refine gate_callee (f := 10) rfl ?_); refine goesL_ (some 13) rfl rfl Tryd.func10 (by kernel_rfl) rfl #[.pointer (some ⟨gb250, 0, none⟩)] rfl (by (try simp only [List.map_toArray, List.map_cons, List.map_nil]); first | done | rfl | (simp only [List.length_drop, List.length_take]; rfl)) ?_; (with_reducible refine (rowcode_Digest_Sum.calls gb250 0 0 t252 t253 t254 w _ ?side1 ?side2 A5.out).mono ?_); (case side1 => repeat (first | (with_reducible first | exact (Aside0.mk (show IsS26 w _ gb250 0 0 from And.intro BK250.out GE250.out)).out | apply IsS26.alloc | apply IsS26.drewN | apply IsS26.drew | apply IsS26.set_0 | apply IsS26.set_1 | refine IsS26.far ?_ NB250_251.out _) | exact (Aside0.mk (show IsS26 w _ gb250 0 0 from And.intro BK250.out GE250.out)).out)); (case side2 => repeat (first | (with_reducible first | exact HB.out | apply below_alloc | apply pw_below_drewN | apply below_drew1 | refine below_set ?_ (IsS26.ge (Aside0.mk (show IsS26 w _ gb250 0 0 from And.intro BK250.out GE250.out)).out) | refine below_set ?_ GE251.out) | exact HB.out)); rintro e w10 ⟨rfl, hi, hb, hk⟩; refine ⟨_, rfl, ?_⟩; have n0_ := Aside0.mk (KeepBut.blk hk (g' := gb251) (o := .cells #[.int .u64 0, .int .i64 0] 29 (0, 0)) (by (with_reducible repeat (first | refine blk_drewN ?_ _ | refine blk_drew ?_ | refine blk_alloc ?_ _)); exact BK251.out) NB251_250.out (by simp)); have n1_ := Aside0.mk (hb); have n2_ := Aside0.mk (hi.1); clear BK251; clear HB; clear BK250; have BK251 := n0_; have HB := n1_; have BK250 := n2_; clear n0_ n1_ n2_; (try clear hb); (try clear hb2); (try clear hk); (try clear hi)))
   go_meet
   case rel => exact ⟨_, (true), (t253), (t254), (by first | with_reducible rfl | (simp; done) | (simp [*]; done) | rfl), H', ⟨by first | omega | exact Nat.le_refl _⟩, ⟨by (with_reducible repeat (first | refine blk_drewN ?_ _ | refine blk_drew ?_ | refine blk_alloc ?_ _)); exact BK250.out⟩, ⟨by (with_reducible repeat (first | refine blk_drewN ?_ _ | refine blk_drew ?_ | refine blk_alloc ?_ _)); exact BK251.out⟩, ⟨by repeat (first | (with_reducible first | exact HB.out | apply below_alloc | apply pw_below_drewN | apply below_drew1 | refine below_set ?_ GE250.out | refine below_set ?_ GE251.out) | exact HB.out)⟩⟩
 case rest =>
  clear HC2
  (try clear c1); (try clear p2); (try clear c3); (try clear c6); (try clear c6b0); (try clear c6b1); (try clear c10)
  obtain ⟨kq, x19_1, x251000_1, x251001_1, rfl, HA, HJ1, BK250, BK251, HB⟩ := hcut
  cases kq with
  | zero => exact absurd HA.out (by simp [locksteplaw02_RowcodeDigests.j0])
  | succ kj1 =>
   have H := HA.out
   clear HA
   simp only [locksteplaw02_RowcodeDigests.j0] at H
   by_cases c11 : x19_1 = true
   ·
    subst c11
    have H1 : (some false) = some r := by rw [if_pos rfl] at H; exact H
    clear H
    have H := H1
    clear H1
    exact absurd (Option.some.inj H) (by rw [HR.out]; simp)
   ·
    replace c11 := Bool.eq_false_iff.mpr c11
    subst c11
    have H1 : (locksteplaw02_RowcodeDigests.l0 kj1 l0 0 x251000_1 x251001_1 0 0) = some r := by rw [if_neg (show ¬ (false = true) by decide)] at H; exact H
    clear H
    have H := H1
    clear H1
    have H' := Aside0.mk H
    clear H
    go_wp2
    go_loopg [5] kj1 (fun kq v5 w' => ∃ (x5_2 : Int) (x251000_2 : Int) (x251001_2 : Int) (x252000_2 : Int) (x252001_2 : Int), v5 = .int .i64 x5_2 ∧ Aside0 (locksteplaw02_RowcodeDigests.l0 kq l0 x5_2 x251000_2 x251001_2 x252000_2 x252001_2 = some r) ∧ Aside0 (kq ≤ kj1) ∧ Aside0 (w'.heap[gb250]? = some (.cells #[.int .u64 x251000_2, .int .i64 x251001_2] 26 (0, 0))) ∧ Aside0 (w'.heap[gb251]? = some (.cells #[.int .u64 x252000_2, .int .i64 x252001_2] 29 (0, 0))) ∧ Aside0 (Below w.heap.size w w'))
    case atStart => exact ⟨(0), (x251000_1), (x251001_1), (0), (0), (by first | rfl | (simp; done) | (simp [*]; done)), H', ⟨Nat.le_refl _⟩, ⟨by (with_reducible repeat (first | refine blk_drewN ?_ _ | refine blk_drew ?_ | refine blk_alloc ?_ _)); exact BK250.out⟩, ⟨by (with_reducible repeat (first | refine blk_drewN ?_ _ | refine blk_drew ?_ | refine blk_alloc ?_ _)); exact BK251.out⟩, ⟨by repeat (first | (with_reducible first | exact HB.out | apply below_alloc | apply pw_below_drewN | apply below_drew1 | refine below_set ?_ GE250.out | refine below_set ?_ GE251.out) | exact HB.out)⟩⟩
    case round =>
     clear H'
     (try clear c1); (try clear p2); (try clear c3); (try clear c6); (try clear c6b0); (try clear c6b1); (try clear c10); (try clear c11); (try clear p2)
     obtain ⟨x5_2, x251000_2, x251001_2, x252000_2, x252001_2, rfl, HA, HK2, BK250, BK251, HB⟩ := hrel
     cases gk with
     | zero => exact absurd HA.out (by simp [locksteplaw02_RowcodeDigests.l0])
     | succ k2 =>
      have H := HA.out
      clear HA
      simp only [locksteplaw02_RowcodeDigests.l0] at H
      by_cases c12 : x5_2 < (l0.length : Int)
      ·
       rw [if_pos c12] at H
       have c12b0 : decide (x5_2 < (l0.length : Int)) = true := decide_eq_true c12
       clear c12
       by_cases c13 : 0 ≤ x5_2
       ·
        rw [if_pos c13] at H
        have c13b0 : decide (0 ≤ x5_2) = true := decide_eq_true c13
        clear c13
        replace H := Option.bind_eq_some_iff.mp H
        obtain ⟨t271, A140, H⟩ := H
        replace H : (if (rd_T36 l0 x5_2).f0 = true then ((rowcode_Digest_Drop.f k2 x251000_2 x251001_2 t271).bind fun bt275 => (locksteplaw02_RowcodeDigests.j2 k2 l0 x5_2 t271 bt275.1 bt275.2.1 bt275.2.2 x252000_2 x252001_2)) else ((rowcode_Digest_Add.f k2 x251000_2 x251001_2 t271).bind fun bt278 => (locksteplaw02_RowcodeDigests.j2 k2 l0 x5_2 t271 bt278.1 bt278.2.1 bt278.2.2 x252000_2 x252001_2))) = some r := H
        have A14 := Aside0.mk A140
        clear A140
        have HC15 := Aside0.mk H
        clear H
        have p270 : 0 ≤ (x5_2 : Int) := of_decide_eq_true (by first | (with_reducible assumption) | assumption)
        have q270 : x5_2 < (l0.length : Int) := of_decide_eq_true (by first | (with_reducible assumption) | assumption)
        obtain ⟨ad270, A270_1, c270_1, e270, hx270_0, hx270_1, hl270_1, hi270_1⟩ := at_T36 HR0.out x5_2 p270 q270
        cases e270
        replace hx270_0 := (HB.out.cell (World.block_lt_of_cell? w _ hx270_0)).trans hx270_0
        replace hx270_1 := (HB.out.cell (World.block_lt_of_cell? w _ hx270_1)).trans hx270_1
        have HR270_1 := Aside0.mk hi270_1
        have HC270_1 := Aside0.mk hl270_1
        clear hi270_1 hl270_1
        replace p270 := eq_true p270
        replace q270 := eq_true q270
        go_upto_if 36 with (first | ((with_reducible refine gate_callee (f := 12) rfl ?_); refine goesL_ (some 31) rfl rfl Tryd.func12 (by kernel_rfl) rfl #[.slice A270_1 ((rd_T36 l0 x5_2).f1).length c270_1] rfl (by (try simp only [List.map_toArray, List.map_cons, List.map_nil]); first | done | rfl | (simp only [List.length_drop, List.length_take]; rfl)) ?_; (with_reducible refine (locksteplaw02_Own.calls _ _ ((rd_T36 l0 x5_2).f1) t271 _ ?side1 ?side2 A14.out).mono ?_); (case side1 => repeat (first | exact (Kd.C_below HR270_1.out HB.out) | (with_reducible refine Kd.C_alloc ?_ _) | (with_reducible refine Kd.C_drewN ?_ _) | (with_reducible refine Kd.C_drew ?_))); (case side2 => exact HC270_1.out); rintro e w16 ⟨v272, rfl, ho0, hb⟩; refine ⟨_, rfl, ?_⟩; have n0_ := Aside0.mk (Kd.R_lower ho0 (below_size (by repeat (first | (with_reducible first | exact HB.out | apply below_alloc | apply pw_below_drewN | apply below_drew1 | refine below_set ?_ GE250.out | refine below_set ?_ GE251.out) | exact HB.out)))); have n1_ := Aside0.mk (blk_below (g := gb250) (o := .cells #[.int .u64 x251000_2, .int .i64 x251001_2] 26 (0, 0)) (by (with_reducible repeat (first | refine blk_drewN ?_ _ | refine blk_drew ?_ | refine blk_alloc ?_ _)); exact BK250.out) hb); have n2_ := Aside0.mk (blk_below (g := gb251) (o := .cells #[.int .u64 x252000_2, .int .i64 x252001_2] 29 (0, 0)) (by (with_reducible repeat (first | refine blk_drewN ?_ _ | refine blk_drew ?_ | refine blk_alloc ?_ _)); exact BK251.out) hb); have n3_ := Aside0.mk (below_step (by repeat (first | (with_reducible first | exact HB.out | apply below_alloc | apply pw_below_drewN | apply below_drew1 | refine below_set ?_ GE250.out | refine below_set ?_ GE251.out) | exact HB.out)) hb); clear BK250; clear BK251; clear HB; have HO273 := n0_; have BK250 := n1_; have BK251 := n2_; have HB := n3_; clear n0_ n1_ n2_ n3_; (try clear hb); (try clear hb2); (try clear hk); (try clear hi); (try clear ho0); have p274 : 0 ≤ (x5_2 : Int) := of_decide_eq_true (by first | (with_reducible assumption) | assumption); have q274 : x5_2 < (l0.length : Int) := of_decide_eq_true (by first | (with_reducible assumption) | assumption); obtain ⟨ad274, A274_1, c274_1, e274, hx274_0, hx274_1, hl274_1, hi274_1⟩ := at_T36 HR0.out x5_2 p274 q274; obtain rfl : ad270 = ad274 := (by injection e274); replace hx274_0 := (HB.out.cell (World.block_lt_of_cell? w _ hx274_0)).trans hx274_0; replace hx274_1 := (HB.out.cell (World.block_lt_of_cell? w _ hx274_1)).trans hx274_1; have HR274_1 := Aside0.mk hi274_1; have HC274_1 := Aside0.mk hl274_1; clear hi274_1 hl274_1; replace p274 := eq_true p274; replace q274 := eq_true q274))
        (try simp only [Act.put, List.setIfInBounds_toArray, List.set_cons_zero, List.set_cons_succ])
        go_cut [7] (fun v7 wc => ∃ (kq : Nat) (x7_14 : Int) (x251000_14 : Int) (x251001_14 : Int), v7 = .int .i64 x7_14 ∧ Aside0 (locksteplaw02_RowcodeDigests.j2 kq l0 x5_2 t271 x7_14 x251000_14 x251001_14 x252000_2 x252001_2 = some r) ∧ Aside0 (kq ≤ k2) ∧ Aside0 (Kd.R k42 42 wc w.heap.size (fun _ => True) v272 t271) ∧ Aside0 (wc.heap[gb250]? = some (.cells #[.int .u64 x251000_14, .int .i64 x251001_14] 26 (0, 0))) ∧ Aside0 (wc.heap[gb251]? = some (.cells #[.int .u64 x252000_2, .int .i64 x252001_2] 29 (0, 0))) ∧ Aside0 (Below w.heap.size w wc))
        case first =>
         have H := HC15.out
         clear HC15
         obtain ⟨bq17, hbq17⟩ : ∃ b_ : Bool, b_ = ((rd_T36 l0 x5_2).f0) := ⟨_, rfl⟩
         replace H : (if bq17 = true then ((rowcode_Digest_Drop.f k2 x251000_2 x251001_2 t271).bind fun bt275 => (locksteplaw02_RowcodeDigests.j2 k2 l0 x5_2 t271 bt275.1 bt275.2.1 bt275.2.2 x252000_2 x252001_2)) else ((rowcode_Digest_Add.f k2 x251000_2 x251001_2 t271).bind fun bt278 => (locksteplaw02_RowcodeDigests.j2 k2 l0 x5_2 t271 bt278.1 bt278.2.1 bt278.2.2 x252000_2 x252001_2))) = some r := by rw [← hbq17] at H; exact H
         have Nbq17 := Aside0.mk hbq17
         clear hbq17
         (try rw [← Nbq17.out])
         by_cases c18 : bq17 = true
         ·
          subst c18
          have H1 : ((rowcode_Digest_Drop.f k2 x251000_2 x251001_2 t271).bind fun bt275 => (locksteplaw02_RowcodeDigests.j2 k2 l0 x5_2 t271 bt275.1 bt275.2.1 bt275.2.2 x252000_2 x252001_2)) = some r := by rw [if_pos rfl] at H; exact H
          clear H
          have H := H1
          clear H1
          replace H := Option.bind_eq_some_iff.mp H
          obtain ⟨⟨t275, t276, t277⟩, A190, H⟩ := H
          replace H : (locksteplaw02_RowcodeDigests.j2 k2 l0 x5_2 t271 t275 t276 t277 x252000_2 x252001_2) = some r := H
          have A19 := Aside0.mk A190
          clear A190
          have H' := Aside0.mk H
          clear H
          obtain ⟨Ao20, co20, eo20⟩ := Kd.R_slice HO273.out
          subst eo20
          go_wp2_with (first | ((with_reducible refine gate_callee (f := 13) rfl ?_); refine goesL_ (some 39) rfl rfl Tryd.func13 (by kernel_rfl) rfl #[.pointer (some ⟨gb250, 0, none⟩), .slice Ao20 t271.length co20] rfl (by (try simp only [List.map_toArray, List.map_cons, List.map_nil]); first | done | rfl | (simp only [List.length_drop, List.length_take]; rfl)) ?_; (with_reducible refine (rowcode_Digest_Drop.calls k2 gb250 x251000_2 x251001_2 _ _ t271 t275 t276 t277 w _ ?side1 ?side2 ?side3 ?side4 ?side5 A19.out).mono ?_); (case side1 => exact HT.out); (case side2 => repeat (first | (with_reducible first | exact (Aside0.mk (show IsS26 w _ gb250 x251000_2 x251001_2 from And.intro BK250.out GE250.out)).out | apply IsS26.alloc | apply IsS26.drewN | apply IsS26.drew | apply IsS26.set_0 | apply IsS26.set_1 | refine IsS26.far ?_ NB250_251.out _) | exact (Aside0.mk (show IsS26 w _ gb250 x251000_2 x251001_2 from And.intro BK250.out GE250.out)).out)); (case side3 => repeat (first | (with_reducible first | exact HB.out | apply below_alloc | apply pw_below_drewN | apply below_drew1 | refine below_set ?_ (IsS26.ge (Aside0.mk (show IsS26 w _ gb250 x251000_2 x251001_2 from And.intro BK250.out GE250.out)).out) | refine below_set ?_ GE251.out) | exact HB.out)); (case side4 => exact Kd.C_foot_own (IsS26.apart (show IsS26 w _ gb250 x251000_2 x251001_2 from by repeat (first | (with_reducible first | exact (Aside0.mk (show IsS26 w _ gb250 x251000_2 x251001_2 from And.intro BK250.out GE250.out)).out | apply IsS26.alloc | apply IsS26.drewN | apply IsS26.drew | apply IsS26.set_0 | apply IsS26.set_1 | refine IsS26.far ?_ NB250_251.out _) | exact (Aside0.mk (show IsS26 w _ gb250 x251000_2 x251001_2 from And.intro BK250.out GE250.out)).out)) (by (with_reducible repeat (first | apply Kd.R_alloc | apply Kd.R_drewN | apply Kd.R_drew)); exact HO273.out) (by decide)) (fun _ h_ => h_.2)); (case side5 => exact (Kd.R_reads' HO273.out).2.1); rintro e w21 ⟨rfl, hi, hb, hk⟩; refine ⟨_, rfl, ?_⟩; have n0_ := Aside0.mk (KeepBut.blk hk (g' := gb251) (o := .cells #[.int .u64 x252000_2, .int .i64 x252001_2] 29 (0, 0)) (by (with_reducible repeat (first | refine blk_drewN ?_ _ | refine blk_drew ?_ | refine blk_alloc ?_ _)); exact BK251.out) NB251_250.out (by simp)); have n1_ := Aside0.mk (Kd.R_mono (Kd.R_keep (IsS26.apart (show IsS26 w _ gb250 x251000_2 x251001_2 from by repeat (first | (with_reducible first | exact (Aside0.mk (show IsS26 w _ gb250 x251000_2 x251001_2 from And.intro BK250.out GE250.out)).out | apply IsS26.alloc | apply IsS26.drewN | apply IsS26.drew | apply IsS26.set_0 | apply IsS26.set_1 | refine IsS26.far ?_ NB250_251.out _) | exact (Aside0.mk (show IsS26 w _ gb250 x251000_2 x251001_2 from And.intro BK250.out GE250.out)).out)) (by (with_reducible repeat (first | apply Kd.R_alloc | apply Kd.R_drewN | apply Kd.R_drew)); exact HO273.out) (by decide)) hk (fun _ h => h.2)) (fun _ h => h.1)); have n2_ := Aside0.mk (hb); have n3_ := Aside0.mk (hi.1); clear BK251; clear HO273; clear HB; clear BK250; have BK251 := n0_; have HO273 := n1_; have HB := n2_; have BK250 := n3_; clear n0_ n1_ n2_ n3_; (try clear hb); (try clear hb2); (try clear hk); (try clear hi)))
          go_meet
          case rel => exact ⟨_, (t275), (t276), (t277), (by first | rfl | (simp; done) | (simp [*]; done)), H', ⟨by have := HJ1.out; have := HK2.out; first | omega | exact Nat.le_refl _⟩, ⟨by (with_reducible repeat (first | apply Kd.R_alloc | apply Kd.R_drewN | apply Kd.R_drew)); exact HO273.out⟩, ⟨by (with_reducible repeat (first | refine blk_drewN ?_ _ | refine blk_drew ?_ | refine blk_alloc ?_ _)); exact BK250.out⟩, ⟨by (with_reducible repeat (first | refine blk_drewN ?_ _ | refine blk_drew ?_ | refine blk_alloc ?_ _)); exact BK251.out⟩, ⟨by repeat (first | (with_reducible first | exact HB.out | apply below_alloc | apply pw_below_drewN | apply below_drew1 | refine below_set ?_ GE250.out | refine below_set ?_ GE251.out) | exact HB.out)⟩⟩
         ·
          replace c18 := Bool.eq_false_iff.mpr c18
          subst c18
          have H1 : ((rowcode_Digest_Add.f k2 x251000_2 x251001_2 t271).bind fun bt278 => (locksteplaw02_RowcodeDigests.j2 k2 l0 x5_2 t271 bt278.1 bt278.2.1 bt278.2.2 x252000_2 x252001_2)) = some r := by rw [if_neg (show ¬ (false = true) by decide)] at H; exact H
          clear H
          have H := H1
          clear H1
          replace H := Option.bind_eq_some_iff.mp H
          obtain ⟨⟨t278, t279, t280⟩, A220, H⟩ := H
          replace H : (locksteplaw02_RowcodeDigests.j2 k2 l0 x5_2 t271 t278 t279 t280 x252000_2 x252001_2) = some r := H
          have A22 := Aside0.mk A220
          clear A220
          have H' := Aside0.mk H
          clear H
          obtain ⟨Ao23, co23, eo23⟩ := Kd.R_slice HO273.out
          subst eo23
          go_wp2_with (first | ((with_reducible refine gate_callee (f := 14) rfl ?_); refine goesL_ (some 42) rfl rfl Tryd.func14 (by kernel_rfl) rfl #[.pointer (some ⟨gb250, 0, none⟩), .slice Ao23 t271.length co23] rfl (by (try simp only [List.map_toArray, List.map_cons, List.map_nil]); first | done | rfl | (simp only [List.length_drop, List.length_take]; rfl)) ?_; (with_reducible refine (rowcode_Digest_Add.calls k2 gb250 x251000_2 x251001_2 _ _ t271 t278 t279 t280 w _ ?side1 ?side2 ?side3 ?side4 ?side5 A22.out).mono ?_); (case side1 => exact HT.out); (case side2 => repeat (first | (with_reducible first | exact (Aside0.mk (show IsS26 w _ gb250 x251000_2 x251001_2 from And.intro BK250.out GE250.out)).out | apply IsS26.alloc | apply IsS26.drewN | apply IsS26.drew | apply IsS26.set_0 | apply IsS26.set_1 | refine IsS26.far ?_ NB250_251.out _) | exact (Aside0.mk (show IsS26 w _ gb250 x251000_2 x251001_2 from And.intro BK250.out GE250.out)).out)); (case side3 => repeat (first | (with_reducible first | exact HB.out | apply below_alloc | apply pw_below_drewN | apply below_drew1 | refine below_set ?_ (IsS26.ge (Aside0.mk (show IsS26 w _ gb250 x251000_2 x251001_2 from And.intro BK250.out GE250.out)).out) | refine below_set ?_ GE251.out) | exact HB.out)); (case side4 => exact Kd.C_foot_own (IsS26.apart (show IsS26 w _ gb250 x251000_2 x251001_2 from by repeat (first | (with_reducible first | exact (Aside0.mk (show IsS26 w _ gb250 x251000_2 x251001_2 from And.intro BK250.out GE250.out)).out | apply IsS26.alloc | apply IsS26.drewN | apply IsS26.drew | apply IsS26.set_0 | apply IsS26.set_1 | refine IsS26.far ?_ NB250_251.out _) | exact (Aside0.mk (show IsS26 w _ gb250 x251000_2 x251001_2 from And.intro BK250.out GE250.out)).out)) (by (with_reducible repeat (first | apply Kd.R_alloc | apply Kd.R_drewN | apply Kd.R_drew)); exact HO273.out) (by decide)) (fun _ h_ => h_.2)); (case side5 => exact (Kd.R_reads' HO273.out).2.1); rintro e w24 ⟨rfl, hi, hb, hk⟩; refine ⟨_, rfl, ?_⟩; have n0_ := Aside0.mk (KeepBut.blk hk (g' := gb251) (o := .cells #[.int .u64 x252000_2, .int .i64 x252001_2] 29 (0, 0)) (by (with_reducible repeat (first | refine blk_drewN ?_ _ | refine blk_drew ?_ | refine blk_alloc ?_ _)); exact BK251.out) NB251_250.out (by simp)); have n1_ := Aside0.mk (Kd.R_mono (Kd.R_keep (IsS26.apart (show IsS26 w _ gb250 x251000_2 x251001_2 from by repeat (first | (with_reducible first | exact (Aside0.mk (show IsS26 w _ gb250 x251000_2 x251001_2 from And.intro BK250.out GE250.out)).out | apply IsS26.alloc | apply IsS26.drewN | apply IsS26.drew | apply IsS26.set_0 | apply IsS26.set_1 | refine IsS26.far ?_ NB250_251.out _) | exact (Aside0.mk (show IsS26 w _ gb250 x251000_2 x251001_2 from And.intro BK250.out GE250.out)).out)) (by (with_reducible repeat (first | apply Kd.R_alloc | apply Kd.R_drewN | apply Kd.R_drew)); exact HO273.out) (by decide)) hk (fun _ h => h.2)) (fun _ h => h.1)); have n2_ := Aside0.mk (hb); have n3_ := Aside0.mk (hi.1); clear BK251; clear HO273; clear HB; clear BK250; have BK251 := n0_; have HO273 := n1_; have HB := n2_; have BK250 := n3_; clear n0_ n1_ n2_ n3_; (try clear hb); (try clear hb2); (try clear hk); (try clear hi)))
          go_meet
          case rel => exact ⟨_, (t278), (t279), (t280), (by first | rfl | (simp; done) | (simp [*]; done)), H', ⟨by have := HJ1.out; have := HK2.out; first | omega | exact Nat.le_refl _⟩, ⟨by (with_reducible repeat (first | apply Kd.R_alloc | apply Kd.R_drewN | apply Kd.R_drew)); exact HO273.out⟩, ⟨by (with_reducible repeat (first | refine blk_drewN ?_ _ | refine blk_drew ?_ | refine blk_alloc ?_ _)); exact BK250.out⟩, ⟨by (with_reducible repeat (first | refine blk_drewN ?_ _ | refine blk_drew ?_ | refine blk_alloc ?_ _)); exact BK251.out⟩, ⟨by repeat (first | (with_reducible first | exact HB.out | apply below_alloc | apply pw_below_drewN | apply below_drew1 | refine below_set ?_ GE250.out | refine below_set ?_ GE251.out) | exact HB.out)⟩⟩
        case rest =>
         clear HC15
         (try clear c1); (try clear q1); (try clear c2); (try clear p2); (try clear q2); (try clear hx2); (try clear c3); (try clear c6); (try clear c6b0); (try clear c6b1); (try clear c10); (try clear c11); (try clear c12); (try clear c12b0); (try clear c13); (try clear c13b0); (try clear c14); (try clear q17); (try clear c18); (try clear hx270_0); (try clear hx270_1); (try clear hx274_0); (try clear hx274_1)
         (try clear p2); (try clear p270); (try clear p274); (try clear q270); (try clear q274)
         obtain ⟨kq, x7_14, x251000_14, x251001_14, rfl, HA, HJ14, HO_6, BK250, BK251, HB⟩ := hcut
         cases kq with
         | zero => exact absurd HA.out (by simp [locksteplaw02_RowcodeDigests.j2])
         | succ kj14 =>
          have H := HA.out
          clear HA
          simp only [locksteplaw02_RowcodeDigests.j2] at H
          replace H := Option.bind_eq_some_iff.mp H
          obtain ⟨_, A250, H⟩ := H
          replace H : (if 0 ≤ x5_2 then (if x5_2 < (l0.length : Int) then ((lockstepref02_Digest_Take.f kj14 x252000_2 x252001_2 ((rd_T36 l0 x5_2).f1) (!((rd_T36 l0 x5_2).f0))).bind fun bt283 => (if x7_14 = bt283.1 then ((rowcode_Digest_Sum.f x251000_14 x251001_14).bind fun bt286 => (if bt286.1 = bt283.2.1 then ((rowcode_Digest_Len.f bt286.2.1 bt286.2.2).bind fun bt289 => (if bt289.1 = bt283.2.2 then (locksteplaw02_RowcodeDigests.l0 kj14 l0 (wrap64 (x5_2 + 1)) bt289.2.1 bt289.2.2 bt283.2.1 bt283.2.2) else (some false))) else (some false))) else (some false))) else (none)) else (none)) = some r := H
          have A25 := Aside0.mk A250
          clear A250
          by_cases c26 : 0 ≤ x5_2
          ·
           rw [if_pos c26] at H
           have c26b0 : decide (0 ≤ x5_2) = true := decide_eq_true c26
           clear c26
           by_cases c27 : x5_2 < (l0.length : Int)
           ·
            rw [if_pos c27] at H
            have c27b0 : decide (x5_2 < (l0.length : Int)) = true := decide_eq_true c27
            clear c27
            replace H := Option.bind_eq_some_iff.mp H
            obtain ⟨⟨t283, t284, t285⟩, A280, H⟩ := H
            replace H : (if x7_14 = t283 then ((rowcode_Digest_Sum.f x251000_14 x251001_14).bind fun bt286 => (if bt286.1 = t284 then ((rowcode_Digest_Len.f bt286.2.1 bt286.2.2).bind fun bt289 => (if bt289.1 = t285 then (locksteplaw02_RowcodeDigests.l0 kj14 l0 (wrap64 (x5_2 + 1)) bt289.2.1 bt289.2.2 t284 t285) else (some false))) else (some false))) else (some false)) = some r := H
            have A28 := Aside0.mk A280
            clear A280
            by_cases c29 : x7_14 = t283
            ·
             rw [if_pos c29] at H
             have c29b0 : (x7_14 == t283) = true := beq_iff_eq.mpr c29
             have c29b1 : (x7_14 != t283) = false := bne_eq_false_iff_eq.mpr c29
             clear c29
             replace H := Option.bind_eq_some_iff.mp H
             obtain ⟨⟨t286, t287, t288⟩, A300, H⟩ := H
             replace H : (if t286 = t284 then ((rowcode_Digest_Len.f t287 t288).bind fun bt289 => (if bt289.1 = t285 then (locksteplaw02_RowcodeDigests.l0 kj14 l0 (wrap64 (x5_2 + 1)) bt289.2.1 bt289.2.2 t284 t285) else (some false))) else (some false)) = some r := H
             have A30 := Aside0.mk A300
             clear A300
             by_cases c31 : t286 = t284
             ·
              rw [if_pos c31] at H
              have c31b0 : (t286 == t284) = true := beq_iff_eq.mpr c31
              have c31b1 : (t286 != t284) = false := bne_eq_false_iff_eq.mpr c31
              clear c31
              replace H := Option.bind_eq_some_iff.mp H
              obtain ⟨⟨t289, t290, t291⟩, A320, H⟩ := H
              replace H : (if t289 = t285 then (locksteplaw02_RowcodeDigests.l0 kj14 l0 (wrap64 (x5_2 + 1)) t290 t291 t284 t285) else (some false)) = some r := H
              have A32 := Aside0.mk A320
              clear A320
              by_cases c33 : t289 = t285
              ·
               rw [if_pos c33] at H
               have c33b0 : (t289 == t285) = true := beq_iff_eq.mpr c33
               have c33b1 : (t289 != t285) = false := bne_eq_false_iff_eq.mpr c33
               clear c33
               have H' := Aside0.mk H
               clear H
               obtain ⟨Ao34, co34, eo34⟩ := Kd.R_slice HO_6.out
               subst eo34
               try go_wp2_with (first | ((with_reducible refine gate_callee (f := 15) rfl ?_); refine goesL_ (some 44) rfl rfl Tryd.func15 (by kernel_rfl) rfl #[.slice Ao34 t271.length co34] rfl (by (try simp only [List.map_toArray, List.map_cons, List.map_nil]); first | done | rfl | (simp only [List.length_drop, List.length_take]; rfl)) ?_; (with_reducible refine (locksteplaw02_Spoil.calls kj14 (fun k_ => some k_ = (.slice Ao34 t271.length co34 : Value).ownBlock) (.slice Ao34 t271.length co34) t271  w _ ?side1 ?side2 A25.out).mono ?_); (case side1 => repeat (first | (with_reducible first | exact HB.out | apply below_alloc | apply pw_below_drewN | apply below_drew1 | refine below_set ?_ GE250.out | refine below_set ?_ GE251.out) | exact HB.out)); (case side2 => exact Kd.R_tight rfl HO_6.out); rintro e w35 ⟨rfl, hb, hkp⟩; refine ⟨_, rfl, ?_⟩; have n0_ := Aside0.mk (blk_kept (by (with_reducible repeat (first | refine blk_drewN ?_ _ | refine blk_drew ?_ | refine blk_alloc ?_ _)); exact BK250.out) hkp (fun hs_ => (fun e_ => (Kd.R_ne HO_6.out BK250.out (by decide)) e_) hs_)); have n1_ := Aside0.mk (blk_kept (by (with_reducible repeat (first | refine blk_drewN ?_ _ | refine blk_drew ?_ | refine blk_alloc ?_ _)); exact BK251.out) hkp (fun hs_ => (fun e_ => (Kd.R_ne HO_6.out BK251.out (by decide)) e_) hs_)); have n2_ := Aside0.mk (hb); clear BK250; clear BK251; clear HB; clear HO_6; have BK250 := n0_; have BK251 := n1_; have HB := n2_; clear n0_ n1_ n2_; (try clear hb); (try clear hkp)))
               have n0_ := Aside0.mk (blk_drew BK250.out)
               have n1_ := Aside0.mk (blk_drew BK251.out)
               have n2_ := Aside0.mk (below_drew1 HB.out)
               clear BK250
               clear BK251
               clear HB
               have BK250 := n0_
               have BK251 := n1_
               have HB := n2_
               clear n0_ n1_ n2_
               have p281 : 0 ≤ (x5_2 : Int) := of_decide_eq_true (by first | (with_reducible assumption) | assumption)
               have q281 : x5_2 < (l0.length : Int) := of_decide_eq_true (by first | (with_reducible assumption) | assumption)
               obtain ⟨ad281, A281_1, c281_1, e281, hx281_0, hx281_1, hl281_1, hi281_1⟩ := at_T36 HR0.out x5_2 p281 q281
               have hw281_1 := hx281_1
               have hw281_0 := hx281_0
               obtain rfl : ad270 = ad281 := (by injection e281)
               replace hx281_0 := (HB.out.cell (World.block_lt_of_cell? w _ hx281_0)).trans hx281_0
               replace hx281_1 := (HB.out.cell (World.block_lt_of_cell? w _ hx281_1)).trans hx281_1
               have HR281_1 := Aside0.mk hi281_1
               have HC281_1 := Aside0.mk hl281_1
               clear hi281_1 hl281_1
               replace p281 := eq_true p281
               replace q281 := eq_true q281
               have p282 : 0 ≤ (x5_2 : Int) := of_decide_eq_true (by first | (with_reducible assumption) | assumption)
               have q282 : x5_2 < (l0.length : Int) := of_decide_eq_true (by first | (with_reducible assumption) | assumption)
               obtain ⟨ad282, A282_1, c282_1, e282, hx282_0, hx282_1, hl282_1, hi282_1⟩ := at_T36 HR0.out x5_2 p282 q282
               have hw282_1 := hx282_1
               have hw282_0 := hx282_0
               obtain rfl : ad270 = ad282 := (by injection e282)
               replace hx282_0 := (HB.out.cell (World.block_lt_of_cell? w _ hx282_0)).trans hx282_0
               replace hx282_1 := (HB.out.cell (World.block_lt_of_cell? w _ hx282_1)).trans hx282_1
               have HR282_1 := Aside0.mk hi282_1
               have HC282_1 := Aside0.mk hl282_1
               clear hi282_1 hl282_1
               replace p282 := eq_true p282
               replace q282 := eq_true q282
               have ea_ := Option.some.inj (hx281_1.symm.trans hx282_1)
               injection ea_ with ea_ en_ ec_
               subst ea_
               subst ec_
               clear en_
               refine start_ (n := 33) (S := fun w' => w'.cell? ⟨gb251, 0, none⟩ = some (.int .u64 x252000_2) ∧ w'.cell? ⟨gb251, 1, none⟩ = some (.int .i64 x252001_2) ∧ w'.cell? (ad270.add ((x5_2).toNat * 2)) = some (.bool ((rd_T36 l0 x5_2).f0)) ∧ w'.cell? ⟨(ad270.add ((x5_2).toNat * 2)).block, (ad270.add ((x5_2).toNat * 2)).off + 1, none⟩ = some (.slice A281_1 ((rd_T36 l0 x5_2).f1).length c281_1) ∧ w'.cell? (ad270.add ((x5_2).toNat * 2)) = some (.bool ((rd_T36 l0 x5_2).f0)) ∧ w'.cell? ⟨(ad270.add ((x5_2).toNat * 2)).block, (ad270.add ((x5_2).toNat * 2)).off + 1, none⟩ = some (.slice A281_1 ((rd_T36 l0 x5_2).f1).length c281_1)) (ds := [13, 14, 15, 16, 17, 18, 19, 20, 21, 22, 23, 24, 25, 26, 27, 28, 29, 30, 31, 32]) #[false, false, false, false, false, false, false, false, false, false, false, false, false, false, false, false, false, false, false, false, false, false, false, false, false, false, false, false, false, false, false, false, false] (by kernel_rfl) rfl rfl ⟨(blk_cell BK251.out 0).trans rfl, (blk_cell BK251.out 1).trans rfl, ((HB.out.cell (World.block_lt_of_cell? w _ hw281_0)).trans hw281_0), ((HB.out.cell (World.block_lt_of_cell? w _ hw281_1)).trans hw281_1), ((HB.out.cell (World.block_lt_of_cell? w _ hw282_0)).trans hw282_0), ((HB.out.cell (World.block_lt_of_cell? w _ hw282_1)).trans hw282_1)⟩ (fun hHeld => ?_); refine with_tabW locksteplaw02_RowcodeDigests.tab13 locksteplaw02_RowcodeDigests.bits13 (fun HT_ HW_ => ?_)
               generalize w35.drew = w36 at BK250 BK251 HB HR281_1 HR282_1 hx281_0 hx281_1 hx282_0 hx282_1 hHeld ⊢
               refine pure_ (i := 0) (N := some 45) (v := ?_) (a' := ?_) #[true, false, false, false, false, false, false, false, false, false, false, false, false, false, false, false, false, false, false, false, false, false, false, false, false, false, false, false, false, false, false, false, false] rfl rfl (any_of HT_.out (by kernel_rfl)) (fun _ _ _ h => h) (Or.inl ⟨by rfl, ?_⟩) ?_ ?_
               rotate_left
               ·
                intro w'
                go_simp
                with_reducible rfl
               rotate_left
               ·
                simp only [Act.put, List.setIfInBounds_toArray, List.set_cons_zero, List.set_cons_succ, i64_w, i32_w]
                rfl
               refine pure_ (i := 1) (N := some 46) (v := ?_) (a' := ?_) #[true, true, false, false, false, false, false, false, false, false, false, false, false, false, false, false, false, false, false, false, false, false, false, false, false, false, false, false, false, false, false, false, false] rfl rfl (any_of HT_.out (by kernel_rfl)) (fun _ _ _ h => h) (Or.inl ⟨by rfl, ?_⟩) ?_ ?_
               rotate_left
               ·
                intro w'
                go_simp
                with_reducible rfl
               rotate_left
               ·
                simp only [Act.put, List.setIfInBounds_toArray, List.set_cons_zero, List.set_cons_succ, i64_w, i32_w]
                rfl
               refine pure_ (i := 2) (N := some 47) (v := ?_) (a' := ?_) #[true, true, true, false, false, false, false, false, false, false, false, false, false, false, false, false, false, false, false, false, false, false, false, false, false, false, false, false, false, false, false, false, false] rfl rfl (any_of HT_.out (by kernel_rfl)) (fun _ _ _ h => h) (Or.inl ⟨by rfl, ?_⟩) ?_ ?_
               rotate_left
               ·
                intro w'
                go_simp
                with_reducible rfl
               rotate_left
               ·
                simp only [Act.put, List.setIfInBounds_toArray, List.set_cons_zero, List.set_cons_succ, i64_w, i32_w]
                rfl
               refine pure_ (i := 3) (N := some 48) (v := ?_) (a' := ?_) #[true, true, true, true, false, false, false, false, false, false, false, false, false, false, false, false, false, false, false, false, false, false, false, false, false, false, false, false, false, false, false, false, false] rfl rfl (any_of HT_.out (by kernel_rfl)) (fun _ _ _ h => h) (Or.inl ⟨by rfl, ?_⟩) ?_ ?_
               rotate_left
               ·
                intro w'
                go_simp
                with_reducible rfl
               rotate_left
               ·
                simp only [Act.put, List.setIfInBounds_toArray, List.set_cons_zero, List.set_cons_succ, i64_w, i32_w]
                rfl
               refine pure_ (i := 4) (N := some 49) (v := ?_) (a' := ?_) #[true, true, true, true, true, false, false, false, false, false, false, false, false, false, false, false, false, false, false, false, false, false, false, false, false, false, false, false, false, false, false, false, false] rfl rfl (any_of HT_.out (by kernel_rfl)) (fun _ _ _ h => h) (Or.inl ⟨by rfl, ?_⟩) ?_ ?_
               rotate_left
               ·
                intro w'
                go_simp
                with_reducible rfl
               rotate_left
               ·
                simp only [Act.put, List.setIfInBounds_toArray, List.set_cons_zero, List.set_cons_succ, i64_w, i32_w]
                rfl
               refine pure_ (i := 5) (N := some 50) (v := ?_) (a' := ?_) #[true, true, true, true, true, true, false, false, false, false, false, false, false, false, false, false, false, false, false, false, false, false, false, false, false, false, false, false, false, false, false, false, false] rfl rfl (any_of HT_.out (by kernel_rfl)) (fun _ _ _ h => h) (Or.inl ⟨by rfl, ?_⟩) ?_ ?_
               rotate_left
               ·
                intro w'
                go_simp
                with_reducible rfl
               rotate_left
               ·
                simp only [Act.put, List.setIfInBounds_toArray, List.set_cons_zero, List.set_cons_succ, i64_w, i32_w]
                rfl
               refine pure_ (i := 7) (N := some 52) (v := ?_) (a' := ?_) #[true, true, true, true, true, true, false, true, false, false, false, false, false, false, false, false, false, false, false, false, false, false, false, false, false, false, false, false, false, false, false, false, false] rfl rfl (any_of HT_.out (by kernel_rfl)) (fun _ _ _ h => h) (Or.inl ⟨by rfl, ?_⟩) ?_ ?_
               rotate_left
               ·
                intro w'
                go_simp
                with_reducible rfl
               rotate_left
               ·
                simp only [Act.put, List.setIfInBounds_toArray, List.set_cons_zero, List.set_cons_succ, i64_w, i32_w]
                rfl
               refine pure_ (i := 8) (N := some 53) (v := ?_) (a' := ?_) #[true, true, true, true, true, true, false, true, true, false, false, false, false, false, false, false, false, false, false, false, false, false, false, false, false, false, false, false, false, false, false, false, false] rfl rfl (any_of HT_.out (by kernel_rfl)) (fun _ _ _ h => h) (Or.inl ⟨by rfl, ?_⟩) ?_ ?_
               rotate_left
               ·
                intro w'
                go_simp
                with_reducible rfl
               rotate_left
               ·
                simp only [Act.put, List.setIfInBounds_toArray, List.set_cons_zero, List.set_cons_succ, i64_w, i32_w]
                rfl
               refine pure_ (i := 9) (N := some 54) (v := ?_) (a' := ?_) #[true, true, true, true, true, true, false, true, true, true, false, false, false, false, false, false, false, false, false, false, false, false, false, false, false, false, false, false, false, false, false, false, false] rfl rfl (any_of HT_.out (by kernel_rfl)) (fun _ _ _ h => h) (Or.inl ⟨by rfl, ?_⟩) ?_ ?_
               rotate_left
               ·
                intro w'
                go_simp
                with_reducible rfl
               rotate_left
               ·
                simp only [Act.put, List.setIfInBounds_toArray, List.set_cons_zero, List.set_cons_succ, i64_w, i32_w]
                rfl
               refine pure_ (i := 10) (N := some 55) (v := ?_) (a' := ?_) #[true, true, true, true, true, true, false, true, true, true, true, false, false, false, false, false, false, false, false, false, false, false, false, false, false, false, false, false, false, false, false, false, false] rfl rfl (any_of HT_.out (by kernel_rfl)) (fun _ _ _ h => h) (Or.inl ⟨by rfl, ?_⟩) ?_ ?_
               rotate_left
               ·
                intro w'
                go_simp
                with_reducible rfl
               rotate_left
               ·
                simp only [Act.put, List.setIfInBounds_toArray, List.set_cons_zero, List.set_cons_succ, i64_w, i32_w]
                rfl
               refine take_ (i := 6) (N := some 51) (v := ?_) (a' := ?_) #[true, true, true, true, true, true, true, true, true, true, true, false, false, false, false, false, false, false, false, false, false, false, false, false, false, false, false, false, false, false, false, false, false] rfl rfl (take_ofW HT_.out HW_.out (by kernel_rfl)) (fun _ _ _ h => h) (Or.inl ⟨by rfl, ?_⟩) hHeld ?_ ?_
               rotate_left
               ·
                rintro w' ⟨s0, s1, s2, s3, s4, s5⟩
                go_simp
                with_reducible rfl
               rotate_left
               ·
                simp only [Act.put, List.setIfInBounds_toArray, List.set_cons_zero, List.set_cons_succ, i64_w, i32_w]
                rfl
               refine take_ (i := 11) (N := some 56) (v := ?_) (a' := ?_) #[true, true, true, true, true, true, true, true, true, true, true, true, false, false, false, false, false, false, false, false, false, false, false, false, false, false, false, false, false, false, false, false, false] rfl rfl (take_ofW HT_.out HW_.out (by kernel_rfl)) (fun _ _ _ h => h) (Or.inl ⟨by rfl, ?_⟩) hHeld ?_ ?_
               rotate_left
               ·
                rintro w' ⟨s0, s1, s2, s3, s4, s5⟩
                go_simp
                with_reducible rfl
               rotate_left
               ·
                simp only [Act.put, List.setIfInBounds_toArray, List.set_cons_zero, List.set_cons_succ, i64_w, i32_w]
                rfl
               refine pure_ (i := 12) (N := some 57) (v := ?_) (a' := ?_) #[true, true, true, true, true, true, true, true, true, true, true, true, true, false, false, false, false, false, false, false, false, false, false, false, false, false, false, false, false, false, false, false, false] rfl rfl (any_of HT_.out (by kernel_rfl)) (fun _ _ _ h => h) (Or.inl ⟨by rfl, ?_⟩) ?_ ?_
               rotate_left
               ·
                intro w'
                go_simp
                with_reducible rfl
               rotate_left
               ·
                simp only [Act.put, List.setIfInBounds_toArray, List.set_cons_zero, List.set_cons_succ, i64_w, i32_w]
                rfl
               refine last_ (i := 13) (N := some 58) #[true, true, true, true, true, true, true, true, true, true, true, true, true, true, false, false, false, false, false, false, false, false, false, false, false, false, false, false, false, false, false, false, false] rfl rfl (one_of HT_.out (by kernel_rfl)) (by decide) (fun K hK => ?_)
               refine goes_ Tryd.func16 (by kernel_rfl) rfl #[.pointer (some ⟨gb251, 0, none⟩), .slice A281_1 ((rd_T36 l0 x5_2).f1).length c281_1, .bool (!((rd_T36 l0 x5_2).f0))] (by rfl) rfl rfl (by (try simp only [List.map_toArray, List.map_cons, List.map_nil]); first | done | rfl | (simp only [List.length_drop, List.length_take]; rfl)) ?_
               with_reducible refine (lockstepref02_Digest_Take.calls kj14 gb251 x252000_2 x252001_2 _ _ ((rd_T36 l0 x5_2).f1) (!((rd_T36 l0 x5_2).f0)) t283 t284 t285 w _ ?side1 ?side2 ?side3 ?side4 A28.out).mono ?_
               (case side1 => repeat (first | (with_reducible first | exact (Aside0.mk (show IsS29 w _ gb251 x252000_2 x252001_2 from And.intro BK251.out GE251.out)).out | apply IsS29.alloc | apply IsS29.drewN | apply IsS29.drew | apply IsS29.set_0 | apply IsS29.set_1 | refine IsS29.far ?_ NB251_250.out _) | exact (Aside0.mk (show IsS29 w _ gb251 x252000_2 x252001_2 from And.intro BK251.out GE251.out)).out))
               (case side2 => repeat (first | (with_reducible first | exact HB.out | apply below_alloc | apply pw_below_drewN | apply below_drew1 | refine below_set ?_ (IsS29.ge (Aside0.mk (show IsS29 w _ gb251 x252000_2 x252001_2 from And.intro BK251.out GE251.out)).out) | refine below_set ?_ GE250.out) | exact HB.out))
               (case side3 => exact Kd.C_foot_came k42_heap HR281_1.out (by repeat (first | (with_reducible first | exact HB.out | apply below_alloc | apply pw_below_drewN | apply below_drew1 | refine below_set ?_ (IsS29.ge (Aside0.mk (show IsS29 w _ gb251 x252000_2 x252001_2 from And.intro BK251.out GE251.out)).out) | refine below_set ?_ GE250.out) | exact HB.out)) (IsS29.ge (Aside0.mk (show IsS29 w _ gb251 x252000_2 x252001_2 from And.intro BK251.out GE251.out)).out))
               (case side4 => exact HC281_1.out)
               rintro e w37 ⟨rfl, hi, hb, hk⟩
               refine ⟨_, rfl, ?_⟩
               have n0_ := Aside0.mk (KeepBut.blk hk (g' := gb250) (o := .cells #[.int .u64 x251000_14, .int .i64 x251001_14] 26 (0, 0)) (by (with_reducible repeat (first | refine blk_drewN ?_ _ | refine blk_drew ?_ | refine blk_alloc ?_ _)); exact BK250.out) NB250_251.out (by simp))
               have n1_ := Aside0.mk (hb)
               have n2_ := Aside0.mk (hi.1)
               clear BK250
               clear HB
               clear BK251
               have BK250 := n0_
               have HB := n1_
               have BK251 := n2_
               clear n0_ n1_ n2_
               (try clear hb)
               (try clear hb2)
               (try clear hk)
               (try clear hi)
               refine hK.out _ _ ?_
               refine switch_ (S' := fun w' => w'.cell? ⟨gb251, 0, none⟩ = some (.int .u64 t284) ∧ w'.cell? ⟨gb251, 1, none⟩ = some (.int .i64 t285) ∧ w'.cell? (ad270.add ((x5_2).toNat * 2)) = some (.bool ((rd_T36 l0 x5_2).f0)) ∧ w'.cell? ⟨(ad270.add ((x5_2).toNat * 2)).block, (ad270.add ((x5_2).toNat * 2)).off + 1, none⟩ = some (.slice A281_1 ((rd_T36 l0 x5_2).f1).length c281_1) ∧ w'.cell? (ad270.add ((x5_2).toNat * 2)) = some (.bool ((rd_T36 l0 x5_2).f0)) ∧ w'.cell? ⟨(ad270.add ((x5_2).toNat * 2)).block, (ad270.add ((x5_2).toNat * 2)).off + 1, none⟩ = some (.slice A281_1 ((rd_T36 l0 x5_2).f1).length c281_1)) (ds' := []) (by kernel_rfl) ?_
               have hHeld : (fun w' => w'.cell? ⟨gb251, 0, none⟩ = some (.int .u64 t284) ∧ w'.cell? ⟨gb251, 1, none⟩ = some (.int .i64 t285) ∧ w'.cell? (ad270.add ((x5_2).toNat * 2)) = some (.bool ((rd_T36 l0 x5_2).f0)) ∧ w'.cell? ⟨(ad270.add ((x5_2).toNat * 2)).block, (ad270.add ((x5_2).toNat * 2)).off + 1, none⟩ = some (.slice A281_1 ((rd_T36 l0 x5_2).f1).length c281_1) ∧ w'.cell? (ad270.add ((x5_2).toNat * 2)) = some (.bool ((rd_T36 l0 x5_2).f0)) ∧ w'.cell? ⟨(ad270.add ((x5_2).toNat * 2)).block, (ad270.add ((x5_2).toNat * 2)).off + 1, none⟩ = some (.slice A281_1 ((rd_T36 l0 x5_2).f1).length c281_1)) w37 := ⟨(blk_cell BK251.out 0).trans rfl, (blk_cell BK251.out 1).trans rfl, ((HB.out.cell (World.block_lt_of_cell? w _ hw281_0)).trans hw281_0), ((HB.out.cell (World.block_lt_of_cell? w _ hw281_1)).trans hw281_1), ((HB.out.cell (World.block_lt_of_cell? w _ hw282_0)).trans hw282_0), ((HB.out.cell (World.block_lt_of_cell? w _ hw282_1)).trans hw282_1)⟩
               clear hK K
               refine norm_ (a' := ?_) ?_ ?_
               rotate_left
               ·
                show Act.put _ (some 58) _ = _
                simp only [Act.put, List.setIfInBounds_toArray, List.set_cons_zero, List.set_cons_succ, i64_w, i32_w]
                rfl
               refine pure_ (i := 14) (N := some 59) (v := ?_) (a' := ?_) #[true, true, true, true, true, true, true, true, true, true, true, true, true, true, true, false, false, false, false, false, false, false, false, false, false, false, false, false, false, false, false, false, false] rfl rfl (any_of HT_.out (by kernel_rfl)) (fun _ _ _ h => h) (Or.inl ⟨by rfl, ?_⟩) ?_ ?_
               rotate_left
               ·
                intro w'
                go_simp
                with_reducible rfl
               rotate_left
               ·
                simp only [Act.put, List.setIfInBounds_toArray, List.set_cons_zero, List.set_cons_succ, i64_w, i32_w]
                rfl
               refine pure_ (i := 15) (N := some 60) (v := ?_) (a' := ?_) #[true, true, true, true, true, true, true, true, true, true, true, true, true, true, true, true, false, false, false, false, false, false, false, false, false, false, false, false, false, false, false, false, false] rfl rfl (any_of HT_.out (by kernel_rfl)) (fun _ _ _ h => h) (Or.inl ⟨by rfl, ?_⟩) ?_ ?_
               rotate_left
               ·
                intro w'
                go_simp
                with_reducible rfl
               rotate_left
               ·
                simp only [Act.put, List.setIfInBounds_toArray, List.set_cons_zero, List.set_cons_succ, i64_w, i32_w]
                rfl
               refine pure_ (i := 16) (N := some 61) (v := ?_) (a' := ?_) #[true, true, true, true, true, true, true, true, true, true, true, true, true, true, true, true, true, false, false, false, false, false, false, false, false, false, false, false, false, false, false, false, false] rfl rfl (any_of HT_.out (by kernel_rfl)) (fun _ _ _ h => h) (Or.inl ⟨by rfl, ?_⟩) ?_ ?_
               rotate_left
               ·
                intro w'
                go_simp
                with_reducible rfl
               rotate_left
               ·
                simp only [Act.put, List.setIfInBounds_toArray, List.set_cons_zero, List.set_cons_succ, i64_w, i32_w]
                rfl
               refine pure_ (i := 18) (N := some 63) (v := ?_) (a' := ?_) #[true, true, true, true, true, true, true, true, true, true, true, true, true, true, true, true, true, false, true, false, false, false, false, false, false, false, false, false, false, false, false, false, false] rfl rfl (any_of HT_.out (by kernel_rfl)) (fun _ _ _ h => h) (Or.inl ⟨by rfl, ?_⟩) ?_ ?_
               rotate_left
               ·
                intro w'
                go_simp
                with_reducible rfl
               rotate_left
               ·
                simp only [Act.put, List.setIfInBounds_toArray, List.set_cons_zero, List.set_cons_succ, i64_w, i32_w]
                rfl
               refine pure_ (i := 19) (N := some 64) (v := ?_) (a' := ?_) #[true, true, true, true, true, true, true, true, true, true, true, true, true, true, true, true, true, false, true, true, false, false, false, false, false, false, false, false, false, false, false, false, false] rfl rfl (any_of HT_.out (by kernel_rfl)) (fun _ _ _ h => h) (Or.inl ⟨by rfl, ?_⟩) ?_ ?_
               rotate_left
               ·
                intro w'
                go_simp
                with_reducible rfl
               rotate_left
               ·
                simp only [Act.put, List.setIfInBounds_toArray, List.set_cons_zero, List.set_cons_succ, i64_w, i32_w]
                rfl
               refine pure_ (i := 20) (N := some 65) (v := ?_) (a' := ?_) #[true, true, true, true, true, true, true, true, true, true, true, true, true, true, true, true, true, false, true, true, true, false, false, false, false, false, false, false, false, false, false, false, false] rfl rfl (any_of HT_.out (by kernel_rfl)) (fun _ _ _ h => h) (Or.inl ⟨by rfl, ?_⟩) ?_ ?_
               rotate_left
               ·
                intro w'
                go_simp
                with_reducible rfl
               rotate_left
               ·
                simp only [Act.put, List.setIfInBounds_toArray, List.set_cons_zero, List.set_cons_succ, i64_w, i32_w]
                rfl
               refine take_ (i := 21) (N := some 66) (v := ?_) (a' := ?_) #[true, true, true, true, true, true, true, true, true, true, true, true, true, true, true, true, true, false, true, true, true, true, false, false, false, false, false, false, false, false, false, false, false] rfl rfl (take_ofW HT_.out HW_.out (by kernel_rfl)) (fun _ _ _ h => h) (Or.inl ⟨by rfl, ?_⟩) hHeld ?_ ?_
               rotate_left
               ·
                rintro w' ⟨s0, s1, s2, s3, s4, s5⟩
                go_simp
                with_reducible rfl
               rotate_left
               ·
                simp only [Act.put, List.setIfInBounds_toArray, List.set_cons_zero, List.set_cons_succ, i64_w, i32_w]
                rfl
               refine one_ (i := 17) (N := some 62) #[true, true, true, true, true, true, true, true, true, true, true, true, true, true, true, true, true, true, true, true, true, true, false, false, false, false, false, false, false, false, false, false, false] rfl rfl (one_of HT_.out (by kernel_rfl)) (by decide) (fun K hK => ?_)
               refine goes_ Tryd.func10 (by kernel_rfl) rfl #[.pointer (some ⟨gb250, 0, none⟩)] (by rfl) rfl rfl (by (try simp only [List.map_toArray, List.map_cons, List.map_nil]); first | done | rfl | (simp only [List.length_drop, List.length_take]; rfl)) ?_
               with_reducible refine (rowcode_Digest_Sum.calls gb250 x251000_14 x251001_14 t286 t287 t288 w _ ?side1 ?side2 A30.out).mono ?_
               (case side1 => repeat (first | (with_reducible first | exact (Aside0.mk (show IsS26 w _ gb250 x251000_14 x251001_14 from And.intro BK250.out GE250.out)).out | apply IsS26.alloc | apply IsS26.drewN | apply IsS26.drew | apply IsS26.set_0 | apply IsS26.set_1 | refine IsS26.far ?_ NB250_251.out _) | exact (Aside0.mk (show IsS26 w _ gb250 x251000_14 x251001_14 from And.intro BK250.out GE250.out)).out))
               (case side2 => repeat (first | (with_reducible first | exact HB.out | apply below_alloc | apply pw_below_drewN | apply below_drew1 | refine below_set ?_ (IsS26.ge (Aside0.mk (show IsS26 w _ gb250 x251000_14 x251001_14 from And.intro BK250.out GE250.out)).out) | refine below_set ?_ GE251.out) | exact HB.out))
               rintro e w38 ⟨rfl, hi, hb, hk⟩
               refine ⟨_, rfl, ?_⟩
               have n0_ := Aside0.mk (KeepBut.blk hk (g' := gb251) (o := .cells #[.int .u64 t284, .int .i64 t285] 29 (0, 0)) (by (with_reducible repeat (first | refine blk_drewN ?_ _ | refine blk_drew ?_ | refine blk_alloc ?_ _)); exact BK251.out) NB251_250.out (by simp))
               have n1_ := Aside0.mk (hb)
               have n2_ := Aside0.mk (hi.1)
               clear BK251
               clear HB
               clear BK250
               have BK251 := n0_
               have HB := n1_
               have BK250 := n2_
               clear n0_ n1_ n2_
               (try clear hb)
               (try clear hb2)
               (try clear hk)
               (try clear hi)
               refine hK.out _ _ ⟨(blk_cell BK251.out 0).trans rfl, (blk_cell BK251.out 1).trans rfl, ((HB.out.cell (World.block_lt_of_cell? w _ hw281_0)).trans hw281_0), ((HB.out.cell (World.block_lt_of_cell? w _ hw281_1)).trans hw281_1), ((HB.out.cell (World.block_lt_of_cell? w _ hw282_0)).trans hw282_0), ((HB.out.cell (World.block_lt_of_cell? w _ hw282_1)).trans hw282_1)⟩ (fun hHeld => ?_)
               clear hK K
               refine norm_ (a' := ?_) ?_ ?_
               rotate_left
               ·
                show Act.put _ (some 62) _ = _
                simp only [Act.put, List.setIfInBounds_toArray, List.set_cons_zero, List.set_cons_succ, i64_w, i32_w]
                rfl
               refine pure_ (i := 22) (N := some 67) (v := ?_) (a' := ?_) #[true, true, true, true, true, true, true, true, true, true, true, true, true, true, true, true, true, true, true, true, true, true, true, false, false, false, false, false, false, false, false, false, false] rfl rfl (any_of HT_.out (by kernel_rfl)) (fun _ _ _ h => h) (Or.inl ⟨by rfl, ?_⟩) ?_ ?_
               rotate_left
               ·
                intro w'
                go_simp
                with_reducible rfl
               rotate_left
               ·
                simp only [Act.put, List.setIfInBounds_toArray, List.set_cons_zero, List.set_cons_succ, i64_w, i32_w]
                rfl
               refine pure_ (i := 23) (N := some 68) (v := ?_) (a' := ?_) #[true, true, true, true, true, true, true, true, true, true, true, true, true, true, true, true, true, true, true, true, true, true, true, true, false, false, false, false, false, false, false, false, false] rfl rfl (any_of HT_.out (by kernel_rfl)) (fun _ _ _ h => h) (Or.inl ⟨by rfl, ?_⟩) ?_ ?_
               rotate_left
               ·
                intro w'
                go_simp
                with_reducible rfl
               rotate_left
               ·
                simp only [Act.put, List.setIfInBounds_toArray, List.set_cons_zero, List.set_cons_succ, i64_w, i32_w]
                rfl
               refine pure_ (i := 24) (N := some 69) (v := ?_) (a' := ?_) #[true, true, true, true, true, true, true, true, true, true, true, true, true, true, true, true, true, true, true, true, true, true, true, true, true, false, false, false, false, false, false, false, false] rfl rfl (any_of HT_.out (by kernel_rfl)) (fun _ _ _ h => h) (Or.inl ⟨by rfl, ?_⟩) ?_ ?_
               rotate_left
               ·
                intro w'
                go_simp
                with_reducible rfl
               rotate_left
               ·
                simp only [Act.put, List.setIfInBounds_toArray, List.set_cons_zero, List.set_cons_succ, i64_w, i32_w]
                rfl
               refine pure_ (i := 25) (N := some 70) (v := ?_) (a' := ?_) #[true, true, true, true, true, true, true, true, true, true, true, true, true, true, true, true, true, true, true, true, true, true, true, true, true, true, false, false, false, false, false, false, false] rfl rfl (any_of HT_.out (by kernel_rfl)) (fun _ _ _ h => h) (Or.inl ⟨by rfl, ?_⟩) ?_ ?_
               rotate_left
               ·
                intro w'
                go_simp
                with_reducible rfl
               rotate_left
               ·
                simp only [Act.put, List.setIfInBounds_toArray, List.set_cons_zero, List.set_cons_succ, i64_w, i32_w]
                rfl
               refine pure_ (i := 27) (N := some 72) (v := ?_) (a' := ?_) #[true, true, true, true, true, true, true, true, true, true, true, true, true, true, true, true, true, true, true, true, true, true, true, true, true, true, false, true, false, false, false, false, false] rfl rfl (any_of HT_.out (by kernel_rfl)) (fun _ _ _ h => h) (Or.inl ⟨by rfl, ?_⟩) ?_ ?_
               rotate_left
               ·
                intro w'
                go_simp
                with_reducible rfl
               rotate_left
               ·
                simp only [Act.put, List.setIfInBounds_toArray, List.set_cons_zero, List.set_cons_succ, i64_w, i32_w]
                rfl
               refine pure_ (i := 28) (N := some 73) (v := ?_) (a' := ?_) #[true, true, true, true, true, true, true, true, true, true, true, true, true, true, true, true, true, true, true, true, true, true, true, true, true, true, false, true, true, false, false, false, false] rfl rfl (any_of HT_.out (by kernel_rfl)) (fun _ _ _ h => h) (Or.inl ⟨by rfl, ?_⟩) ?_ ?_
               rotate_left
               ·
                intro w'
                go_simp
                with_reducible rfl
               rotate_left
               ·
                simp only [Act.put, List.setIfInBounds_toArray, List.set_cons_zero, List.set_cons_succ, i64_w, i32_w]
                rfl
               refine pure_ (i := 29) (N := some 74) (v := ?_) (a' := ?_) #[true, true, true, true, true, true, true, true, true, true, true, true, true, true, true, true, true, true, true, true, true, true, true, true, true, true, false, true, true, true, false, false, false] rfl rfl (any_of HT_.out (by kernel_rfl)) (fun _ _ _ h => h) (Or.inl ⟨by rfl, ?_⟩) ?_ ?_
               rotate_left
               ·
                intro w'
                go_simp
                with_reducible rfl
               rotate_left
               ·
                simp only [Act.put, List.setIfInBounds_toArray, List.set_cons_zero, List.set_cons_succ, i64_w, i32_w]
                rfl
               refine take_ (i := 30) (N := some 75) (v := ?_) (a' := ?_) #[true, true, true, true, true, true, true, true, true, true, true, true, true, true, true, true, true, true, true, true, true, true, true, true, true, true, false, true, true, true, true, false, false] rfl rfl (take_ofW HT_.out HW_.out (by kernel_rfl)) (fun _ _ _ h => h) (Or.inl ⟨by rfl, ?_⟩) hHeld ?_ ?_
               rotate_left
               ·
                rintro w' ⟨s0, s1, s2, s3, s4, s5⟩
                go_simp
                with_reducible rfl
               rotate_left
               ·
                simp only [Act.put, List.setIfInBounds_toArray, List.set_cons_zero, List.set_cons_succ, i64_w, i32_w]
                rfl
               refine one_ (i := 26) (N := some 71) #[true, true, true, true, true, true, true, true, true, true, true, true, true, true, true, true, true, true, true, true, true, true, true, true, true, true, true, true, true, true, true, false, false] rfl rfl (one_of HT_.out (by kernel_rfl)) (by decide) (fun K hK => ?_)
               refine goes_ Tryd.func11 (by kernel_rfl) rfl #[.pointer (some ⟨gb250, 0, none⟩)] (by rfl) rfl rfl (by (try simp only [List.map_toArray, List.map_cons, List.map_nil]); first | done | rfl | (simp only [List.length_drop, List.length_take]; rfl)) ?_
               with_reducible refine (rowcode_Digest_Len.calls gb250 t287 t288 t289 t290 t291 w _ ?side1 ?side2 A32.out).mono ?_
               (case side1 => repeat (first | (with_reducible first | exact (Aside0.mk (show IsS26 w _ gb250 t287 t288 from And.intro BK250.out GE250.out)).out | apply IsS26.alloc | apply IsS26.drewN | apply IsS26.drew | apply IsS26.set_0 | apply IsS26.set_1 | refine IsS26.far ?_ NB250_251.out _) | exact (Aside0.mk (show IsS26 w _ gb250 t287 t288 from And.intro BK250.out GE250.out)).out))
               (case side2 => repeat (first | (with_reducible first | exact HB.out | apply below_alloc | apply pw_below_drewN | apply below_drew1 | refine below_set ?_ (IsS26.ge (Aside0.mk (show IsS26 w _ gb250 t287 t288 from And.intro BK250.out GE250.out)).out) | refine below_set ?_ GE251.out) | exact HB.out))
               rintro e w39 ⟨rfl, hi, hb, hk⟩
               refine ⟨_, rfl, ?_⟩
               have n0_ := Aside0.mk (KeepBut.blk hk (g' := gb251) (o := .cells #[.int .u64 t284, .int .i64 t285] 29 (0, 0)) (by (with_reducible repeat (first | refine blk_drewN ?_ _ | refine blk_drew ?_ | refine blk_alloc ?_ _)); exact BK251.out) NB251_250.out (by simp))
               have n1_ := Aside0.mk (hb)
               have n2_ := Aside0.mk (hi.1)
               clear BK251
               clear HB
               clear BK250
               have BK251 := n0_
               have HB := n1_
               have BK250 := n2_
               clear n0_ n1_ n2_
               (try clear hb)
               (try clear hb2)
               (try clear hk)
               (try clear hi)
               refine hK.out _ _ ⟨(blk_cell BK251.out 0).trans rfl, (blk_cell BK251.out 1).trans rfl, ((HB.out.cell (World.block_lt_of_cell? w _ hw281_0)).trans hw281_0), ((HB.out.cell (World.block_lt_of_cell? w _ hw281_1)).trans hw281_1), ((HB.out.cell (World.block_lt_of_cell? w _ hw282_0)).trans hw282_0), ((HB.out.cell (World.block_lt_of_cell? w _ hw282_1)).trans hw282_1)⟩ (fun hHeld => ?_)
               clear hK K
               refine norm_ (a' := ?_) ?_ ?_
               rotate_left
               ·
                show Act.put _ (some 71) _ = _
                simp only [Act.put, List.setIfInBounds_toArray, List.set_cons_zero, List.set_cons_succ, i64_w, i32_w]
                rfl
               refine pure_ (i := 31) (N := some 76) (v := ?_) (a' := ?_) #[true, true, true, true, true, true, true, true, true, true, true, true, true, true, true, true, true, true, true, true, true, true, true, true, true, true, true, true, true, true, true, true, false] rfl rfl (any_of HT_.out (by kernel_rfl)) (fun _ _ _ h => h) (Or.inl ⟨by rfl, ?_⟩) ?_ ?_
               rotate_left
               ·
                intro w'
                go_simp
                with_reducible rfl
               rotate_left
               ·
                simp only [Act.put, List.setIfInBounds_toArray, List.set_cons_zero, List.set_cons_succ, i64_w, i32_w]
                rfl
               refine pure_ (i := 32) (N := some 77) (v := ?_) (a' := ?_) #[true, true, true, true, true, true, true, true, true, true, true, true, true, true, true, true, true, true, true, true, true, true, true, true, true, true, true, true, true, true, true, true, true] rfl rfl (any_of HT_.out (by kernel_rfl)) (fun _ _ _ h => h) (Or.inl ⟨by rfl, ?_⟩) ?_ ?_
               rotate_left
               ·
                intro w'
                go_simp
                with_reducible rfl
               rotate_left
               ·
                simp only [Act.put, List.setIfInBounds_toArray, List.set_cons_zero, List.set_cons_succ, i64_w, i32_w]
                rfl
               refine done_ (done_of HT_.out (by kernel_rfl)) ?_
               try go_wp2
               go_roundg kj14
               case measure => have := HJ1.out; have := HK2.out; have := HJ14.out; omega
               case rel => exact ⟨(wrap64 (x5_2 + 1)), (t290), (t291), (t284), (t285), (by first | rfl | (simp; done) | (simp [*]; done)), H', ⟨by have := HJ1.out; have := HK2.out; have := HJ14.out; omega⟩, ⟨by (with_reducible repeat (first | refine blk_drewN ?_ _ | refine blk_drew ?_ | refine blk_alloc ?_ _)); exact BK250.out⟩, ⟨by (with_reducible repeat (first | refine blk_drewN ?_ _ | refine blk_drew ?_ | refine blk_alloc ?_ _)); exact BK251.out⟩, ⟨by repeat (first | (with_reducible first | exact HB.out | apply below_alloc | apply pw_below_drewN | apply below_drew1 | refine below_set ?_ GE250.out | refine below_set ?_ GE251.out) | exact HB.out)⟩⟩
              ·
               rw [if_neg c33] at H
               have c33b0 : (t289 == t285) = false := beq_eq_false_iff_ne.mpr c33
               have c33b1 : (t289 != t285) = true := bne_iff_ne.mpr c33
               exact absurd (Option.some.inj H) (by rw [HR.out]; simp)
             ·
              rw [if_neg c31] at H
              have c31b0 : (t286 == t284) = false := beq_eq_false_iff_ne.mpr c31
              have c31b1 : (t286 != t284) = true := bne_iff_ne.mpr c31
              exact absurd (Option.some.inj H) (by rw [HR.out]; simp)
            ·
             rw [if_neg c29] at H
             have c29b0 : (x7_14 == t283) = false := beq_eq_false_iff_ne.mpr c29
             have c29b1 : (x7_14 != t283) = true := bne_iff_ne.mpr c29
             exact absurd (Option.some.inj H) (by rw [HR.out]; simp)
           ·
            rw [if_neg c27] at H
            exact absurd H (by simp)
          ·
           rw [if_neg c26] at H
           exact absurd H (by simp)
       ·
        rw [if_neg c13] at H
        exact absurd H (by simp)
      ·
       rw [if_neg c12] at H
       have c12b0 : decide (x5_2 < (l0.length : Int)) = false := decide_eq_false c12
       clear c12
       obtain ⟨y258, hy258⟩ : ∃ y_ : List (S42), y_ = (([(⟨99, 0, (⟨#[]⟩ : ByteArray)⟩ : S42)] : List (S42))) := ⟨_, rfl⟩
       replace H : ((rowcode_Digest_Add.f k2 x251000_2 x251001_2 y258).bind fun bt261 => (if bt261.1 = 1 then ((rowcode_Digest_Add.f k2 bt261.2.1 bt261.2.2 ([] : List (S42))).bind fun bt264 => (if bt264.1 = 0 then ((rowcode_Digest_Len.f bt264.2.1 bt264.2.2).bind fun bt267 => (some (bt267.1 == (wrap64 (x252001_2 + 1))))) else (some false))) else (some false))) = some r := by first | (rw [hy258]; with_reducible exact H) | (have H2_ := (Option.bind_some _ _).symm.trans H; rw [hy258]; with_reducible exact H2_) | (have H2_ := (Option.bind_some _ _).symm.trans H; with_reducible exact H2_) | with_reducible exact H | (rw [hy258]; exact H) | exact H
       have Ny258 := Aside0.mk hy258
       clear hy258
       replace H := Option.bind_eq_some_iff.mp H
       obtain ⟨⟨t261, t262, t263⟩, A400, H⟩ := H
       replace H : (if t261 = 1 then ((rowcode_Digest_Add.f k2 t262 t263 ([] : List (S42))).bind fun bt264 => (if bt264.1 = 0 then ((rowcode_Digest_Len.f bt264.2.1 bt264.2.2).bind fun bt267 => (some (bt267.1 == (wrap64 (x252001_2 + 1))))) else (some false))) else (some false)) = some r := H
       have A40 := Aside0.mk A400
       clear A400
       by_cases c41 : t261 = 1
       ·
        rw [if_pos c41] at H
        have c41b0 : (t261 == 1) = true := beq_iff_eq.mpr c41
        have c41b1 : (t261 != 1) = false := bne_eq_false_iff_eq.mpr c41
        clear c41
        replace H := Option.bind_eq_some_iff.mp H
        obtain ⟨⟨t264, t265, t266⟩, A420, H⟩ := H
        replace H : (if t264 = 0 then ((rowcode_Digest_Len.f t265 t266).bind fun bt267 => (some (bt267.1 == (wrap64 (x252001_2 + 1))))) else (some false)) = some r := H
        have A42 := Aside0.mk A420
        clear A420
        by_cases c43 : t264 = 0
        ·
         rw [if_pos c43] at H
         have c43b0 : (t264 == 0) = true := beq_iff_eq.mpr c43
         have c43b1 : (t264 != 0) = false := bne_eq_false_iff_eq.mpr c43
         clear c43
         replace H := Option.bind_eq_some_iff.mp H
         obtain ⟨⟨t267, t268, t269⟩, A440, H⟩ := H
         replace H : (some (t267 == (wrap64 (x252001_2 + 1)))) = some r := H
         have A44 := Aside0.mk A440
         clear A440
         obtain rfl := Option.some.inj H
         try go_wp2
         have n0_ := Aside0.mk (blk_drew BK250.out)
         have n1_ := Aside0.mk (blk_drew BK251.out)
         have n2_ := Aside0.mk (below_drew1 HB.out)
         clear BK250
         clear BK251
         clear HB
         have BK250 := n0_
         have BK251 := n1_
         have HB := n2_
         clear n0_ n1_ n2_
         refine start_ (n := 21) (S := fun w' => w'.cell? ⟨gb251, 0, none⟩ = some (.int .u64 x252000_2) ∧ w'.cell? ⟨gb251, 1, none⟩ = some (.int .i64 x252001_2)) (ds := []) #[false, false, false, false, false, false, false, false, false, false, false, false, false, false, false, false, false, false, false, false, false] (by kernel_rfl) rfl rfl ⟨(blk_cell BK251.out 0).trans rfl, (blk_cell BK251.out 1).trans rfl⟩ (fun hHeld => ?_); refine with_tabW locksteplaw02_RowcodeDigests.tab15 locksteplaw02_RowcodeDigests.bits15 (fun HT_ HW_ => ?_)
         generalize wr.drew = w45 at BK250 BK251 HB hHeld ⊢
         refine pure_ (i := 0) (N := some 78) (v := ?_) (a' := ?_) #[true, false, false, false, false, false, false, false, false, false, false, false, false, false, false, false, false, false, false, false, false] rfl rfl (any_of HT_.out (by kernel_rfl)) (fun _ _ _ h => h) (Or.inl ⟨by rfl, ?_⟩) ?_ ?_
         rotate_left
         ·
          intro w'
          go_simp
          with_reducible rfl
         rotate_left
         ·
          simp only [Act.put, List.setIfInBounds_toArray, List.set_cons_zero, List.set_cons_succ, i64_w, i32_w]
          rfl
         refine pure_ (i := 1) (N := some 79) (v := ?_) (a' := ?_) #[true, true, false, false, false, false, false, false, false, false, false, false, false, false, false, false, false, false, false, false, false] rfl rfl (any_of HT_.out (by kernel_rfl)) (fun _ _ _ h => h) (Or.inl ⟨by rfl, ?_⟩) ?_ ?_
         rotate_left
         ·
          intro w'
          go_simp
          with_reducible rfl
         rotate_left
         ·
          simp only [Act.put, List.setIfInBounds_toArray, List.set_cons_zero, List.set_cons_succ, i64_w, i32_w]
          rfl
         refine one_ (i := 2) (N := some 80) #[true, true, true, false, false, false, false, false, false, false, false, false, false, false, false, false, false, false, false, false, false] rfl rfl (one_of HT_.out (by kernel_rfl)) (by decide) (fun K hK => ?_)
         refine Kd.R_lit_step k42 _ 42 ?hg (N := 80) ?hd (xs := ([(⟨99, 0, (⟨#[]⟩ : ByteArray)⟩ : S42)] : List (S42))) (inner := [.int .i64 99, .int .i64 0, .string (⟨#[]⟩ : ByteArray)]) (ok := fun _ => True) (okp := fun _ => True) ?hr ?hp (fun _ hk => hk) trivial (Below.refl _ _) (Nat.le_refl _) (by simp) ?_; (case hd => rfl); (case hg => rfl); (case hr => first | (go_simp; done) | (go_simp; rfl)); (case hp => exact (Reps.c3 (show Kd.M k42 _ _ _ (⟨99, 0, (⟨#[]⟩ : ByteArray)⟩ : S42) [.int .i64 99, .int .i64 0, .string (⟨#[]⟩ : ByteArray)] from (k42_mkM _ _ _ (⟨99, 0, (⟨#[]⟩ : ByteArray)⟩ : S42) )) (Reps.none _ _)))
         intro v259 w46 ho47 hb hg_ hnew_
         clear hg_ hnew_
         (first | rw [← Ny258.out] at ho47 | (simp only [Int.reduceToNat] at ho47; rw [← Ny258.out] at ho47))
         have n0_ := Aside0.mk (Kd.R_lower ho47 (below_size (by repeat (first | (with_reducible first | exact HB.out | apply below_alloc | apply pw_below_drewN | apply below_drew1 | refine below_set ?_ GE250.out | refine below_set ?_ GE251.out) | exact HB.out))))
         have n1_ := Aside0.mk (blk_below (g := gb250) (o := .cells #[.int .u64 x251000_2, .int .i64 x251001_2] 26 (0, 0)) (by (with_reducible repeat (first | refine blk_drewN ?_ _ | refine blk_drew ?_ | refine blk_alloc ?_ _)); exact BK250.out) hb)
         have n2_ := Aside0.mk (blk_below (g := gb251) (o := .cells #[.int .u64 x252000_2, .int .i64 x252001_2] 29 (0, 0)) (by (with_reducible repeat (first | refine blk_drewN ?_ _ | refine blk_drew ?_ | refine blk_alloc ?_ _)); exact BK251.out) hb)
         have n3_ := Aside0.mk (below_step (by repeat (first | (with_reducible first | exact HB.out | apply below_alloc | apply pw_below_drewN | apply below_drew1 | refine below_set ?_ GE250.out | refine below_set ?_ GE251.out) | exact HB.out)) hb)
         clear BK250
         clear BK251
         clear HB
         have HO260 := n0_
         have BK250 := n1_
         have BK251 := n2_
         have HB := n3_
         clear n0_ n1_ n2_ n3_
         clear hb ho47
         obtain ⟨Ao48, co48, eo48⟩ := Kd.R_slice HO260.out
         (first | subst eo48 | (injection eo48 with f1_ f2_ f3_; have f4_ := f1_.symm; have f5_ := f3_.symm; clear f1_ f2_ f3_; subst f4_; subst f5_))
         refine hK.out _ _ ⟨(blk_cell BK251.out 0).trans rfl, (blk_cell BK251.out 1).trans rfl⟩ (fun hHeld => ?_)
         clear hK K
         refine norm_ (a' := ?_) ?_ ?_
         rotate_left
         ·
          show Act.put _ (some 80) _ = _
          simp only [Act.put, List.setIfInBounds_toArray, List.set_cons_zero, List.set_cons_succ, i64_w, i32_w]
          rfl
         refine one_ (i := 3) (N := some 81) #[true, true, true, true, false, false, false, false, false, false, false, false, false, false, false, false, false, false, false, false, false] rfl rfl (one_of HT_.out (by kernel_rfl)) (by decide) (fun K hK => ?_)
         refine goes_ Tryd.func14 (by kernel_rfl) rfl #[.pointer (some ⟨gb250, 0, none⟩), .slice Ao48 y258.length co48] (by rfl) rfl rfl (by (try simp only [List.map_toArray, List.map_cons, List.map_nil]); first | done | rfl | (simp only [List.length_drop, List.length_take]; rfl)) ?_
         with_reducible refine (rowcode_Digest_Add.calls k2 gb250 x251000_2 x251001_2 _ _ y258 t261 t262 t263 w _ ?side1 ?side2 ?side3 ?side4 ?side5 A40.out).mono ?_
         (case side1 => exact HT.out)
         (case side2 => repeat (first | (with_reducible first | exact (Aside0.mk (show IsS26 w _ gb250 x251000_2 x251001_2 from And.intro BK250.out GE250.out)).out | apply IsS26.alloc | apply IsS26.drewN | apply IsS26.drew | apply IsS26.set_0 | apply IsS26.set_1 | refine IsS26.far ?_ NB250_251.out _) | exact (Aside0.mk (show IsS26 w _ gb250 x251000_2 x251001_2 from And.intro BK250.out GE250.out)).out))
         (case side3 => repeat (first | (with_reducible first | exact HB.out | apply below_alloc | apply pw_below_drewN | apply below_drew1 | refine below_set ?_ (IsS26.ge (Aside0.mk (show IsS26 w _ gb250 x251000_2 x251001_2 from And.intro BK250.out GE250.out)).out) | refine below_set ?_ GE251.out) | exact HB.out))
         (case side4 => exact Kd.C_foot_own (IsS26.apart (show IsS26 w _ gb250 x251000_2 x251001_2 from by repeat (first | (with_reducible first | exact (Aside0.mk (show IsS26 w _ gb250 x251000_2 x251001_2 from And.intro BK250.out GE250.out)).out | apply IsS26.alloc | apply IsS26.drewN | apply IsS26.drew | apply IsS26.set_0 | apply IsS26.set_1 | refine IsS26.far ?_ NB250_251.out _) | exact (Aside0.mk (show IsS26 w _ gb250 x251000_2 x251001_2 from And.intro BK250.out GE250.out)).out)) (by (with_reducible repeat (first | apply Kd.R_alloc | apply Kd.R_drewN | apply Kd.R_drew)); exact HO260.out) (by decide)) (fun _ h_ => h_.2))
         (case side5 => exact (Kd.R_reads' HO260.out).2.1)
         rintro e w49 ⟨rfl, hi, hb, hk⟩
         refine ⟨_, rfl, ?_⟩
         have n0_ := Aside0.mk (KeepBut.blk hk (g' := gb251) (o := .cells #[.int .u64 x252000_2, .int .i64 x252001_2] 29 (0, 0)) (by (with_reducible repeat (first | refine blk_drewN ?_ _ | refine blk_drew ?_ | refine blk_alloc ?_ _)); exact BK251.out) NB251_250.out (by simp))
         have n1_ := Aside0.mk (Kd.R_mono (Kd.R_keep (IsS26.apart (show IsS26 w _ gb250 x251000_2 x251001_2 from by repeat (first | (with_reducible first | exact (Aside0.mk (show IsS26 w _ gb250 x251000_2 x251001_2 from And.intro BK250.out GE250.out)).out | apply IsS26.alloc | apply IsS26.drewN | apply IsS26.drew | apply IsS26.set_0 | apply IsS26.set_1 | refine IsS26.far ?_ NB250_251.out _) | exact (Aside0.mk (show IsS26 w _ gb250 x251000_2 x251001_2 from And.intro BK250.out GE250.out)).out)) (by (with_reducible repeat (first | apply Kd.R_alloc | apply Kd.R_drewN | apply Kd.R_drew)); exact HO260.out) (by decide)) hk (fun _ h => h.2)) (fun _ h => h.1))
         have n2_ := Aside0.mk (hb)
         have n3_ := Aside0.mk (hi.1)
         clear BK251
         clear HO260
         clear HB
         clear BK250
         have BK251 := n0_
         have HO260 := n1_
         have HB := n2_
         have BK250 := n3_
         clear n0_ n1_ n2_ n3_
         (try clear hb)
         (try clear hb2)
         (try clear hk)
         (try clear hi)
         refine hK.out _ _ ⟨(blk_cell BK251.out 0).trans rfl, (blk_cell BK251.out 1).trans rfl⟩ (fun hHeld => ?_)
         clear hK K
         refine norm_ (a' := ?_) ?_ ?_
         rotate_left
         ·
          show Act.put _ (some 81) _ = _
          simp only [Act.put, List.setIfInBounds_toArray, List.set_cons_zero, List.set_cons_succ, i64_w, i32_w]
          rfl
         refine pure_ (i := 4) (N := some 82) (v := ?_) (a' := ?_) #[true, true, true, true, true, false, false, false, false, false, false, false, false, false, false, false, false, false, false, false, false] rfl rfl (any_of HT_.out (by kernel_rfl)) (fun _ _ _ h => h) (Or.inl ⟨by rfl, ?_⟩) ?_ ?_
         rotate_left
         ·
          intro w'
          go_simp
          with_reducible rfl
         rotate_left
         ·
          simp only [Act.put, List.setIfInBounds_toArray, List.set_cons_zero, List.set_cons_succ, i64_w, i32_w]
          rfl
         refine pure_ (i := 5) (N := some 83) (v := ?_) (a' := ?_) #[true, true, true, true, true, true, false, false, false, false, false, false, false, false, false, false, false, false, false, false, false] rfl rfl (any_of HT_.out (by kernel_rfl)) (fun _ _ _ h => h) (Or.inl ⟨by rfl, ?_⟩) ?_ ?_
         rotate_left
         ·
          intro w'
          go_simp
          with_reducible rfl
         rotate_left
         ·
          simp only [Act.put, List.setIfInBounds_toArray, List.set_cons_zero, List.set_cons_succ, i64_w, i32_w]
          rfl
         refine pure_ (i := 6) (N := some 84) (v := ?_) (a' := ?_) #[true, true, true, true, true, true, true, false, false, false, false, false, false, false, false, false, false, false, false, false, false] rfl rfl (any_of HT_.out (by kernel_rfl)) (fun _ _ _ h => h) (Or.inl ⟨by rfl, ?_⟩) ?_ ?_
         rotate_left
         ·
          intro w'
          go_simp
          with_reducible rfl
         rotate_left
         ·
          simp only [Act.put, List.setIfInBounds_toArray, List.set_cons_zero, List.set_cons_succ, i64_w, i32_w]
          rfl
         refine one_ (i := 7) (N := some 85) #[true, true, true, true, true, true, true, true, false, false, false, false, false, false, false, false, false, false, false, false, false] rfl rfl (one_of HT_.out (by kernel_rfl)) (by decide) (fun K hK => ?_)
         refine goes_ Tryd.func14 (by kernel_rfl) rfl #[.pointer (some ⟨gb250, 0, none⟩), .slice none 0 0] (by rfl) rfl rfl (by (try simp only [List.map_toArray, List.map_cons, List.map_nil]); first | done | rfl | (simp only [List.length_drop, List.length_take]; rfl)) ?_
         refine (rowcode_Digest_Add.calls k2 gb250 t262 t263 _ _ ([] : List (S42)) t264 t265 t266 w _ ?side1 ?side2 ?side3 ?side4 ?side5 A42.out).mono ?_
         (case side1 => exact HT.out)
         (case side2 => repeat (first | (with_reducible first | exact (Aside0.mk (show IsS26 w _ gb250 t262 t263 from And.intro BK250.out GE250.out)).out | apply IsS26.alloc | apply IsS26.drewN | apply IsS26.drew | apply IsS26.set_0 | apply IsS26.set_1 | refine IsS26.far ?_ NB250_251.out _) | exact (Aside0.mk (show IsS26 w _ gb250 t262 t263 from And.intro BK250.out GE250.out)).out))
         (case side3 => repeat (first | (with_reducible first | exact HB.out | apply below_alloc | apply pw_below_drewN | apply below_drew1 | refine below_set ?_ (IsS26.ge (Aside0.mk (show IsS26 w _ gb250 t262 t263 from And.intro BK250.out GE250.out)).out) | refine below_set ?_ GE251.out) | exact HB.out))
         (case side4 => exact Kd.C_foot_nil)
         (case side5 => exact Nat.le_refl _)
         rintro e w50 ⟨rfl, hi, hb, hk⟩
         refine ⟨_, rfl, ?_⟩
         have n0_ := Aside0.mk (KeepBut.blk hk (g' := gb251) (o := .cells #[.int .u64 x252000_2, .int .i64 x252001_2] 29 (0, 0)) (by (with_reducible repeat (first | refine blk_drewN ?_ _ | refine blk_drew ?_ | refine blk_alloc ?_ _)); exact BK251.out) NB251_250.out (by simp))
         have n1_ := Aside0.mk (Kd.R_mono (Kd.R_keep (IsS26.apart (show IsS26 w _ gb250 t262 t263 from by repeat (first | (with_reducible first | exact (Aside0.mk (show IsS26 w _ gb250 t262 t263 from And.intro BK250.out GE250.out)).out | apply IsS26.alloc | apply IsS26.drewN | apply IsS26.drew | apply IsS26.set_0 | apply IsS26.set_1 | refine IsS26.far ?_ NB250_251.out _) | exact (Aside0.mk (show IsS26 w _ gb250 t262 t263 from And.intro BK250.out GE250.out)).out)) (by (with_reducible repeat (first | apply Kd.R_alloc | apply Kd.R_drewN | apply Kd.R_drew)); exact HO260.out) (by decide)) hk (fun _ h => h.2)) (fun _ h => h.1))
         have n2_ := Aside0.mk (hb)
         have n3_ := Aside0.mk (hi.1)
         clear BK251
         clear HO260
         clear HB
         clear BK250
         have BK251 := n0_
         have HO260 := n1_
         have HB := n2_
         have BK250 := n3_
         clear n0_ n1_ n2_ n3_
         (try clear hb)
         (try clear hb2)
         (try clear hk)
         (try clear hi)
         refine hK.out _ _ ⟨(blk_cell BK251.out 0).trans rfl, (blk_cell BK251.out 1).trans rfl⟩ (fun hHeld => ?_)
         clear hK K
         refine norm_ (a' := ?_) ?_ ?_
         rotate_left
         ·
          show Act.put _ (some 85) _ = _
          simp only [Act.put, List.setIfInBounds_toArray, List.set_cons_zero, List.set_cons_succ, i64_w, i32_w]
          rfl
         refine pure_ (i := 8) (N := some 86) (v := ?_) (a' := ?_) #[true, true, true, true, true, true, true, true, true, false, false, false, false, false, false, false, false, false, false, false, false] rfl rfl (any_of HT_.out (by kernel_rfl)) (fun _ _ _ h => h) (Or.inl ⟨by rfl, ?_⟩) ?_ ?_
         rotate_left
         ·
          intro w'
          go_simp
          with_reducible rfl
         rotate_left
         ·
          simp only [Act.put, List.setIfInBounds_toArray, List.set_cons_zero, List.set_cons_succ, i64_w, i32_w]
          rfl
         refine pure_ (i := 9) (N := some 87) (v := ?_) (a' := ?_) #[true, true, true, true, true, true, true, true, true, true, false, false, false, false, false, false, false, false, false, false, false] rfl rfl (any_of HT_.out (by kernel_rfl)) (fun _ _ _ h => h) (Or.inl ⟨by rfl, ?_⟩) ?_ ?_
         rotate_left
         ·
          intro w'
          go_simp
          with_reducible rfl
         rotate_left
         ·
          simp only [Act.put, List.setIfInBounds_toArray, List.set_cons_zero, List.set_cons_succ, i64_w, i32_w]
          rfl
         refine pure_ (i := 10) (N := some 88) (v := ?_) (a' := ?_) #[true, true, true, true, true, true, true, true, true, true, true, false, false, false, false, false, false, false, false, false, false] rfl rfl (any_of HT_.out (by kernel_rfl)) (fun _ _ _ h => h) (Or.inl ⟨by rfl, ?_⟩) ?_ ?_
         rotate_left
         ·
          intro w'
          go_simp
          with_reducible rfl
         rotate_left
         ·
          simp only [Act.put, List.setIfInBounds_toArray, List.set_cons_zero, List.set_cons_succ, i64_w, i32_w]
          rfl
         refine pure_ (i := 11) (N := some 89) (v := ?_) (a' := ?_) #[true, true, true, true, true, true, true, true, true, true, true, true, false, false, false, false, false, false, false, false, false] rfl rfl (any_of HT_.out (by kernel_rfl)) (fun _ _ _ h => h) (Or.inl ⟨by rfl, ?_⟩) ?_ ?_
         rotate_left
         ·
          intro w'
          go_simp
          with_reducible rfl
         rotate_left
         ·
          simp only [Act.put, List.setIfInBounds_toArray, List.set_cons_zero, List.set_cons_succ, i64_w, i32_w]
          rfl
         refine pure_ (i := 13) (N := some 91) (v := ?_) (a' := ?_) #[true, true, true, true, true, true, true, true, true, true, true, true, false, true, false, false, false, false, false, false, false] rfl rfl (any_of HT_.out (by kernel_rfl)) (fun _ _ _ h => h) (Or.inl ⟨by rfl, ?_⟩) ?_ ?_
         rotate_left
         ·
          intro w'
          go_simp
          with_reducible rfl
         rotate_left
         ·
          simp only [Act.put, List.setIfInBounds_toArray, List.set_cons_zero, List.set_cons_succ, i64_w, i32_w]
          rfl
         refine pure_ (i := 14) (N := some 92) (v := ?_) (a' := ?_) #[true, true, true, true, true, true, true, true, true, true, true, true, false, true, true, false, false, false, false, false, false] rfl rfl (any_of HT_.out (by kernel_rfl)) (fun _ _ _ h => h) (Or.inl ⟨by rfl, ?_⟩) ?_ ?_
         rotate_left
         ·
          intro w'
          go_simp
          with_reducible rfl
         rotate_left
         ·
          simp only [Act.put, List.setIfInBounds_toArray, List.set_cons_zero, List.set_cons_succ, i64_w, i32_w]
          rfl
         refine pure_ (i := 15) (N := some 93) (v := ?_) (a' := ?_) #[true, true, true, true, true, true, true, true, true, true, true, true, false, true, true, true, false, false, false, false, false] rfl rfl (any_of HT_.out (by kernel_rfl)) (fun _ _ _ h => h) (Or.inl ⟨by rfl, ?_⟩) ?_ ?_
         rotate_left
         ·
          intro w'
          go_simp
          with_reducible rfl
         rotate_left
         ·
          simp only [Act.put, List.setIfInBounds_toArray, List.set_cons_zero, List.set_cons_succ, i64_w, i32_w]
          rfl
         refine take_ (i := 16) (N := some 94) (v := ?_) (a' := ?_) #[true, true, true, true, true, true, true, true, true, true, true, true, false, true, true, true, true, false, false, false, false] rfl rfl (take_ofW HT_.out HW_.out (by kernel_rfl)) (fun _ _ _ h => h) (Or.inl ⟨by rfl, ?_⟩) hHeld ?_ ?_
         rotate_left
         ·
          rintro w' ⟨s0, s1⟩
          go_simp
          with_reducible rfl
         rotate_left
         ·
          simp only [Act.put, List.setIfInBounds_toArray, List.set_cons_zero, List.set_cons_succ, i64_w, i32_w]
          rfl
         refine pure_ (i := 17) (N := some 95) (v := ?_) (a' := ?_) #[true, true, true, true, true, true, true, true, true, true, true, true, false, true, true, true, true, true, false, false, false] rfl rfl (any_of HT_.out (by kernel_rfl)) (fun _ _ _ h => h) (Or.inl ⟨by rfl, ?_⟩) ?_ ?_
         rotate_left
         ·
          intro w'
          go_simp
          with_reducible rfl
         rotate_left
         ·
          simp only [Act.put, List.setIfInBounds_toArray, List.set_cons_zero, List.set_cons_succ, i64_w, i32_w]
          rfl
         refine one_ (i := 12) (N := some 90) #[true, true, true, true, true, true, true, true, true, true, true, true, true, true, true, true, true, true, false, false, false] rfl rfl (one_of HT_.out (by kernel_rfl)) (by decide) (fun K hK => ?_)
         refine goes_ Tryd.func11 (by kernel_rfl) rfl #[.pointer (some ⟨gb250, 0, none⟩)] (by rfl) rfl rfl (by (try simp only [List.map_toArray, List.map_cons, List.map_nil]); first | done | rfl | (simp only [List.length_drop, List.length_take]; rfl)) ?_
         with_reducible refine (rowcode_Digest_Len.calls gb250 t265 t266 t267 t268 t269 w _ ?side1 ?side2 A44.out).mono ?_
         (case side1 => repeat (first | (with_reducible first | exact (Aside0.mk (show IsS26 w _ gb250 t265 t266 from And.intro BK250.out GE250.out)).out | apply IsS26.alloc | apply IsS26.drewN | apply IsS26.drew | apply IsS26.set_0 | apply IsS26.set_1 | refine IsS26.far ?_ NB250_251.out _) | exact (Aside0.mk (show IsS26 w _ gb250 t265 t266 from And.intro BK250.out GE250.out)).out))
         (case side2 => repeat (first | (with_reducible first | exact HB.out | apply below_alloc | apply pw_below_drewN | apply below_drew1 | refine below_set ?_ (IsS26.ge (Aside0.mk (show IsS26 w _ gb250 t265 t266 from And.intro BK250.out GE250.out)).out) | refine below_set ?_ GE251.out) | exact HB.out))
         rintro e w51 ⟨rfl, hi, hb, hk⟩
         refine ⟨_, rfl, ?_⟩
         have n0_ := Aside0.mk (KeepBut.blk hk (g' := gb251) (o := .cells #[.int .u64 x252000_2, .int .i64 x252001_2] 29 (0, 0)) (by (with_reducible repeat (first | refine blk_drewN ?_ _ | refine blk_drew ?_ | refine blk_alloc ?_ _)); exact BK251.out) NB251_250.out (by simp))
         have n1_ := Aside0.mk (Kd.R_mono (Kd.R_keep (IsS26.apart (show IsS26 w _ gb250 t265 t266 from by repeat (first | (with_reducible first | exact (Aside0.mk (show IsS26 w _ gb250 t265 t266 from And.intro BK250.out GE250.out)).out | apply IsS26.alloc | apply IsS26.drewN | apply IsS26.drew | apply IsS26.set_0 | apply IsS26.set_1 | refine IsS26.far ?_ NB250_251.out _) | exact (Aside0.mk (show IsS26 w _ gb250 t265 t266 from And.intro BK250.out GE250.out)).out)) (by (with_reducible repeat (first | apply Kd.R_alloc | apply Kd.R_drewN | apply Kd.R_drew)); exact HO260.out) (by decide)) hk (fun _ h => h.2)) (fun _ h => h.1))
         have n2_ := Aside0.mk (hb)
         have n3_ := Aside0.mk (hi.1)
         clear BK251
         clear HO260
         clear HB
         clear BK250
         have BK251 := n0_
         have HO260 := n1_
         have HB := n2_
         have BK250 := n3_
         clear n0_ n1_ n2_ n3_
         (try clear hb)
         (try clear hb2)
         (try clear hk)
         (try clear hi)
         refine hK.out _ _ ⟨(blk_cell BK251.out 0).trans rfl, (blk_cell BK251.out 1).trans rfl⟩ (fun hHeld => ?_)
         clear hK K
         refine norm_ (a' := ?_) ?_ ?_
         rotate_left
         ·
          show Act.put _ (some 90) _ = _
          simp only [Act.put, List.setIfInBounds_toArray, List.set_cons_zero, List.set_cons_succ, i64_w, i32_w]
          rfl
         refine pure_ (i := 18) (N := some 96) (v := ?_) (a' := ?_) #[true, true, true, true, true, true, true, true, true, true, true, true, true, true, true, true, true, true, true, false, false] rfl rfl (any_of HT_.out (by kernel_rfl)) (fun _ _ _ h => h) (Or.inl ⟨by rfl, ?_⟩) ?_ ?_
         rotate_left
         ·
          intro w'
          go_simp
          with_reducible rfl
         rotate_left
         ·
          simp only [Act.put, List.setIfInBounds_toArray, List.set_cons_zero, List.set_cons_succ, i64_w, i32_w]
          rfl
         refine pure_ (i := 19) (N := some 97) (v := ?_) (a' := ?_) #[true, true, true, true, true, true, true, true, true, true, true, true, true, true, true, true, true, true, true, true, false] rfl rfl (any_of HT_.out (by kernel_rfl)) (fun _ _ _ h => h) (Or.inl ⟨by rfl, ?_⟩) ?_ ?_
         rotate_left
         ·
          intro w'
          go_simp
          with_reducible rfl
         rotate_left
         ·
          simp only [Act.put, List.setIfInBounds_toArray, List.set_cons_zero, List.set_cons_succ, i64_w, i32_w]
          rfl
         refine pure_ (i := 20) (N := some 2) (v := ?_) (a' := ?_) #[true, true, true, true, true, true, true, true, true, true, true, true, true, true, true, true, true, true, true, true, true] rfl rfl (any_of HT_.out (by kernel_rfl)) (fun _ _ _ h => h) (Or.inl ⟨by rfl, ?_⟩) ?_ ?_
         rotate_left
         ·
          intro w'
          go_simp
          with_reducible rfl
         rotate_left
         ·
          simp only [Act.put, List.setIfInBounds_toArray, List.set_cons_zero, List.set_cons_succ, i64_w, i32_w]
          rfl
         refine done_ (done_of HT_.out (by kernel_rfl)) ?_
         try go_wp2
         go_ret
         exact ⟨by first | rfl | (simp [errW_none, errW_some] <;> rfl) | (simp [*, errW_none, errW_some] <;> rfl), by repeat (first | (with_reducible first | exact HB.out | apply below_alloc | apply pw_below_drewN | apply below_drew1 | refine below_set ?_ GE250.out | refine below_set ?_ GE251.out) | exact HB.out)⟩
        ·
         rw [if_neg c43] at H
         have c43b0 : (t264 == 0) = false := beq_eq_false_iff_ne.mpr c43
         have c43b1 : (t264 != 0) = true := bne_iff_ne.mpr c43
         exact absurd (Option.some.inj H) (by rw [HR.out]; simp)
       ·
        rw [if_neg c41] at H
        have c41b0 : (t261 == 1) = false := beq_eq_false_iff_ne.mpr c41
        have c41b1 : (t261 != 1) = true := bne_iff_ne.mpr c41
        exact absurd (Option.some.inj H) (by rw [HR.out]; simp)
end Go.Proofs.YthghcpeedmconaaDoor.X
end
section
namespace Go.Proofs.YthghcpeedmconaaDoor.X
open Go.RowKit Go.Proofs.YthghcpeedmconaaDoorW.PrintWords Go.Proofs.YthghcpeedmconaaDoorW.PrintLast Go.Proofs.YthghcpeedmconaaDoorW.PrintMore
attribute [local go_sem] max2_int min2_int max_two min_two max_three min_three max_four min_four
end Go.Proofs.YthghcpeedmconaaDoor.X
end
section
namespace Go.Proofs.YthghcpeedmconaaDoor.X
open Go.RowKit Go.Proofs.YthghcpeedmconaaDoorW.PrintWords
set_option linter.unusedVariables false
set_option linter.unusedSimpArgs false
namespace Dig
theorem mem_rd {r : List S42} {i : Nat} (hi : i < r.length) : rd_T42 r (i : Int) ∈ r := by
  unfold rd_T42
  rw [List.getD_eq_getElem?_getD, Int.toNat_natCast, List.getElem?_eq_getElem hi]
  exact List.getElem_mem hi
theorem w1 (i : Nat) (h : i < 9223372036854775807) : wrap64 ((i : Int) + 1) = ((i + 1 : Nat) : Int) := by unfold wrap64; omega
theorem rRow_loop (r : List S42) (hr : r.length ≤ 16) (hn : ∀ v ∈ r, I64 v.f1) : ∀ (d i : Nat), i + d = r.length → ∀ (x : List Int) (k : Nat), x.length ≤ 8195 * i → d + 4302 ≤ k →
    lockstepref02_Row.l0 k r x (i : Int) = some (if rowErr (r.drop i) = 0 then (x ++ codes (r.drop i), 0) else ([], rowErr (r.drop i)))
  | 0, i, h, x, k, hx, hk => by
    obtain ⟨k, rfl⟩ : ∃ m, k = m + 1 := ⟨k - 1, by omega⟩
    rw [lockstepref02_Row.l0, if_neg (by omega), if_pos (by omega), List.drop_eq_nil_of_le (by omega)]
    rfl
  | d + 1, i, h, x, k, hx, hk => by
    obtain ⟨k, rfl⟩ : ∃ m, k = m + 1 := ⟨k - 1, by omega⟩
    have hi : i < r.length := by omega
    have hmem := mem_rd hi
    rw [lockstepref02_Row.l0, if_pos (by omega), if_pos (by omega), getD_drop hi]
    generalize rd_T42 r (i : Int) = v at *
    rw [rval_eq v (hn v hmem) k (by omega), Option.bind_some]
    unfold rowErr
    by_cases hc : chk v.f0 v.f1 v.f2 = 0
    · have hcan : Can v := ⟨hc, hn v hmem⟩
      have hl := Go.Proofs.YthghcpeedmconaaDoor.X.code_len hcan
      rw [if_pos hc, if_pos hc, if_pos rfl, if_pos (by show x.length + (code v).length < _; omega), w1 i (by omega)]
      show lockstepref02_Row.l0 k r (x ++ code v) _ = _
      rw [rRow_loop r hr hn d (i + 1) (by omega) (x ++ code v) k (by rw [List.length_append]; omega) (by omega), List.append_assoc]
      rfl
    · rw [if_neg hc, if_neg hc, if_neg hc, if_neg hc]
theorem rRow_eq (r : List S42) (hn : ∀ v ∈ r, I64 v.f1) (k : Nat) (hk : 4330 ≤ k) : lockstepref02_Row.f k r = some (rowOut r) := by
  unfold lockstepref02_Row.f rowOut
  by_cases h : 16 < r.length
  · rw [if_pos (by omega), if_pos h]
  · rw [if_neg (by omega), if_neg h]
    have := rRow_loop r (by omega) hn r.length 0 (by omega) [] k (by simp) (by omega)
    rw [List.drop_zero] at this
    exact this
theorem codes_len : ∀ (r : List S42), (∀ v ∈ r, Can v) → (codes r).length ≤ 8195 * r.length + 1
  | [], _ => by simp [codes]
  | v :: r, h => by
    have h1 := code_len (h v List.mem_cons_self)
    have h2 := codes_len r (fun x hx => h x (List.mem_cons_of_mem _ hx))
    rw [codes, List.length_append, List.length_cons]
    omega
theorem rowOut_len (r : List S42) (hn : ∀ v ∈ r, I64 v.f1) : (rowOut r).1.length ≤ 131121 := by
  unfold rowOut
  by_cases h1 : 16 < r.length
  · rw [if_pos h1]; simp
  · rw [if_neg h1]
    by_cases h2 : rowErr r = 0
    · rw [if_pos h2]
      have := codes_len r (rowErr_can r hn h2)
      show (codes r).length ≤ _
      omega
    · rw [if_neg h2]; simp
noncomputable def hs (l : List Int) : Int := (rowcode_hash.f (l.length + 1) l).getD 0
theorem hash_up (l : List Int) {r : Int} (k : Nat) : ∀ d, rowcode_hash.f k l = some r → rowcode_hash.f (k + d) l = some r
  | 0, h => h
  | d + 1, h => rowcode_hash.mono _ _ _ (hash_up l k d h)
theorem hash_at (l : List Int) (hm : l.length ≤ 9223372036854775807) (k : Nat) (hk : l.length + 1 ≤ k) : rowcode_hash.f k l = some (hs l) ∧ lockstepref02_Hash.f k l = some (hs l) := by
  have e : ∀ m, l.length + 1 ≤ m → ∃ r, rowcode_hash.f m l = some r ∧ lockstepref02_Hash.f m l = some r := fun m hk => by
    obtain ⟨r, h1, h2⟩ := hash_eq l hm l.length 0 (by omega) 14695981039346656037 m hk
    refine ⟨r, ?_, h2⟩
    unfold rowcode_hash.f
    rw [show ((0 : Int)) = ((0 : Nat) : Int) from rfl, h1]
  obtain ⟨r0, h0, _⟩ := e (l.length + 1) (Nat.le_refl _)
  have hr : hs l = r0 := by unfold hs; rw [h0]; rfl
  obtain ⟨r1, h1, h2⟩ := e k hk
  have h3 := hash_up l (l.length + 1) (k - (l.length + 1)) h0
  rw [show l.length + 1 + (k - (l.length + 1)) = k by omega, h1] at h3
  injection h3 with h3
  rw [hr, ← h3]
  exact ⟨h1, h2⟩
noncomputable def hr (r : List S42) : Int := hs (rowOut r).1
noncomputable def addO (s n : Int) (r : List S42) : Int × Int × Int := if (rowOut r).2 = 0 then (0, IntKind.u64.wrap (s + hr r), wrap64 (n + 1)) else ((rowOut r).2, s, n)
noncomputable def dropO (s n : Int) (r : List S42) : Int × Int × Int := if (rowOut r).2 = 0 then (0, IntKind.u64.wrap (s - hr r), wrap64 (n - 1)) else ((rowOut r).2, s, n)
theorem add_eq (s n : Int) (r : List S42) (hn : ∀ v ∈ r, I64 v.f1) (k : Nat) (hk : 131130 ≤ k) : rowcode_Digest_Add.f k s n r = some (addO s n r) := by
  have hl := rowOut_len r hn
  unfold rowcode_Digest_Add.f addO hr
  rw [row_eq r hn k (by omega), Option.bind_some]
  by_cases h : (rowOut r).2 = 0
  · rw [if_pos h, if_pos h, (hash_at _ (by omega) k (by omega)).1, Option.bind_some, h]
  · rw [if_neg h, if_neg h]
theorem drop_eq (s n : Int) (r : List S42) (hn : ∀ v ∈ r, I64 v.f1) (k : Nat) (hk : 131130 ≤ k) : rowcode_Digest_Drop.f k s n r = some (dropO s n r) := by
  have hl := rowOut_len r hn
  unfold rowcode_Digest_Drop.f dropO hr
  rw [row_eq r hn k (by omega), Option.bind_some]
  by_cases h : (rowOut r).2 = 0
  · rw [if_pos h, if_pos h, (hash_at _ (by omega) k (by omega)).1, Option.bind_some, h]
  · rw [if_neg h, if_neg h]
theorem take_eq (s n : Int) (r : List S42) (b : Bool) (hn : ∀ v ∈ r, I64 v.f1) (k : Nat) (hk : 131130 ≤ k) : lockstepref02_Digest_Take.f k s n r b = some (if b = true then addO s n r else dropO s n r) := by
  have hl := rowOut_len r hn
  unfold lockstepref02_Digest_Take.f addO dropO hr
  rw [rRow_eq r hn k (by omega), Option.bind_some]
  by_cases h : (rowOut r).2 = 0
  · rw [if_pos h, if_pos h, if_pos h]
    cases b
    · rw [if_neg (by decide), if_neg (by decide), (hash_at _ (by omega) k (by omega)).2, Option.bind_some]
    · rw [if_pos rfl, if_pos rfl, (hash_at _ (by omega) k (by omega)).2, Option.bind_some]
  · rw [if_neg h, if_neg h, if_neg h]
    split <;> rfl
theorem own_eq (r : List S42) (hr : r.length ≤ 4398046510976) : locksteplaw02_Own.f r = some r := by
  unfold locksteplaw02_Own.f
  have hw : wrap64 ((r.length : Int) + 1) = (r.length : Int) + 1 := by unfold wrap64; omega
  rw [hw, if_pos (by omega), if_pos (by omega), Option.bind_some, if_pos (by simp; omega), List.nil_append]
theorem spoil_loop (m : Nat) (hm : m ≤ 4398046510976) : ∀ (d i : Nat) (r : List S42) (k : Nat), r.length = m → i + d = m → d + 1 ≤ k → locksteplaw02_Spoil.l0 k r (i : Int) = some ()
  | 0, i, r, k, hr, h, hk => by
    obtain ⟨k, rfl⟩ : ∃ m, k = m + 1 := ⟨k - 1, by omega⟩
    rw [locksteplaw02_Spoil.l0, if_neg (by omega), if_pos (by omega)]
  | d + 1, i, r, k, hr, h, hk => by
    obtain ⟨k, rfl⟩ : ∃ m, k = m + 1 := ⟨k - 1, by omega⟩
    rw [locksteplaw02_Spoil.l0, if_pos (by omega), if_pos (by omega), w1 i (by omega)]
    exact spoil_loop m hm d (i + 1) _ k (by rw [List.length_set]; exact hr) (by omega) (by omega)
theorem spoil_eq (r : List S42) (hr : r.length ≤ 4398046510976) (k : Nat) (hk : 4398046510977 ≤ k) : locksteplaw02_Spoil.f k r = some () :=
  spoil_loop r.length hr r.length 0 r k rfl (by omega) (by omega)
theorem mem36 {l : List S36} {i : Nat} (hi : i < l.length) : rd_T36 l (i : Int) ∈ l := by
  unfold rd_T36
  rw [List.getD_eq_getElem?_getD, Int.toNat_natCast, List.getElem?_eq_getElem hi]
  exact List.getElem_mem hi
theorem nul_err (s n : Int) : addO s n [(⟨99, 0, (⟨#[]⟩ : ByteArray)⟩ : S42)] = (1, s, n) := by
  have h : (rowOut [(⟨99, 0, (⟨#[]⟩ : ByteArray)⟩ : S42)]).2 = 1 := by
    unfold rowOut rowErr
    rw [if_neg (by simp)]
    have hc : chk (99 : Int) 0 (⟨#[]⟩ : ByteArray) = 1 := by
      unfold chk
      first | rfl | decide | simp
    rw [hc, if_neg (by decide), if_neg (by decide)]
  unfold addO
  rw [h, if_neg (by decide)]
theorem nil_ok (s n : Int) : ∃ s', addO s n ([] : List S42) = (0, s', wrap64 (n + 1)) := by
  have h : (rowOut ([] : List S42)).2 = 0 := rfl
  unfold addO
  rw [if_pos h]
  exact ⟨_, rfl⟩
theorem i64_99 : ∀ v ∈ [(⟨99, 0, (⟨#[]⟩ : ByteArray)⟩ : S42)], I64 v.f1 := fun v hv => by
  rw [List.mem_singleton.1 hv]
  exact ⟨by decide, by decide⟩
theorem digests_loop (l : List S36) (hl : l.length < 9223372036854775807) (ha : ∀ a ∈ l, a.f1.length ≤ 4398046510976 ∧ ∀ v ∈ a.f1, I64 v.f1) : ∀ (d i : Nat), i + d = l.length → ∀ (s n : Int) (k : Nat), 2 * d + 4398046511000 ≤ k →
    locksteplaw02_RowcodeDigests.l0 k l (i : Int) s n s n = some true
  | 0, i, h, s, n, k, hk => by
    obtain ⟨k, rfl⟩ : ∃ m, k = m + 1 := ⟨k - 1, by omega⟩
    obtain ⟨s', hs'⟩ := nil_ok s n
    rw [locksteplaw02_RowcodeDigests.l0, if_neg (by omega), add_eq s n _ i64_99 k (by omega), Option.bind_some, nul_err, if_pos rfl]
    show (rowcode_Digest_Add.f k s n []).bind _ = _
    rw [add_eq s n [] (fun v hv => by cases hv) k (by omega), Option.bind_some, hs', if_pos rfl]
    show (rowcode_Digest_Len.f s' (wrap64 (n + 1))).bind _ = _
    unfold rowcode_Digest_Len.f
    rw [Option.bind_some]
    simp
  | d + 1, i, h, s, n, k, hk => by
    obtain ⟨k, rfl⟩ : ∃ m, k = m + 2 := ⟨k - 2, by omega⟩
    have hi : i < l.length := by omega
    have hm := ha _ (mem36 hi)
    have j2 : ∀ x7 s1 n1, (x7, s1, n1) = (if (!(rd_T36 l (i : Int)).f0) = true then addO s n (rd_T36 l (i : Int)).f1 else dropO s n (rd_T36 l (i : Int)).f1) →
        locksteplaw02_RowcodeDigests.j2 (k + 1) l (i : Int) (rd_T36 l (i : Int)).f1 x7 s1 n1 s n = some true := by
      intro x7 s1 n1 he
      rw [locksteplaw02_RowcodeDigests.j2, spoil_eq _ hm.1 k (by omega), Option.bind_some, if_pos (by omega), if_pos (by omega), take_eq s n _ _ hm.2 k (by omega), Option.bind_some, ← he]
      rw [if_pos rfl]
      unfold rowcode_Digest_Sum.f rowcode_Digest_Len.f
      rw [Option.bind_some, if_pos rfl, Option.bind_some, if_pos rfl, w1 i (by omega)]
      exact digests_loop l hl ha d (i + 1) (by omega) s1 n1 k (by omega)
    rw [locksteplaw02_RowcodeDigests.l0, if_pos (by omega), if_pos (by omega), own_eq _ hm.1, Option.bind_some]
    by_cases hd : (rd_T36 l (i : Int)).f0 = true
    · rw [if_pos hd, drop_eq s n _ hm.2 (k + 1) (by omega), Option.bind_some]
      exact j2 _ _ _ (by rw [hd]; rfl)
    · rw [if_neg hd, add_eq s n _ hm.2 (k + 1) (by omega), Option.bind_some]
      exact j2 _ _ _ (by rw [Bool.not_eq_true _ |>.mp hd]; rfl)
theorem RowcodeDigests_true (l : List S36) (hl : l.length < 9223372036854775807) (ha : ∀ a ∈ l, a.f1.length ≤ 4398046510976 ∧ ∀ v ∈ a.f1, I64 v.f1) : locksteplaw02_RowcodeDigests.f (2 * l.length + 4398046511001) l = some true := by
  unfold locksteplaw02_RowcodeDigests.f rowcode_Digest_Sum.f rowcode_Digest_Len.f
  rw [Option.bind_some, if_pos rfl, Option.bind_some]
  show locksteplaw02_RowcodeDigests.j0 (2 * l.length + 4398046511000 + 1) l (0 != 0) 0 0 0 0 = some true
  rw [locksteplaw02_RowcodeDigests.j0, if_neg (by decide)]
  exact digests_loop l hl ha l.length 0 (by omega) 0 0 _ (by omega)
end Dig
end Go.Proofs.YthghcpeedmconaaDoor.X
end
section
namespace Go.Proofs.YthghcpeedmconaaDoorW.PrintWords
open Go Go.RowKit Go.ChangeShapes Go.WideShapes Go.Deep
set_option linter.unusedVariables false
set_option linter.unusedSimpArgs false
def Opens {α : Type} (P : Program) (d : Kd α) (t : TypeId) (g : α → Prop) : Prop :=
  ∀ {H : Type} (enc : TypeId × Value → H) (W : World) (base : Nat) (spare : Nat → Bool) (held : Bool) (fuel : Nat) (cs : List Value) (x : DataW H × List MemPlace),
    DataW.trod enc P W base spare held fuel t cs = some x → ∃ a, d.K W a cs ∧ g a
def inKind (k : IntKind) (n : Int) : Prop := k.min ≤ n ∧ n ≤ k.max
section
variable {P : Program} {α β : Type}
theorem opens_int {t : TypeId} {k : IntKind} (ht : P.underlying t = some (.int k)) : Opens P (Kd.int k) t (inKind k) := by
  intro H enc W base spare held fuel cs x h
  obtain ⟨n, rfl, _, hw⟩ := DataW.trod_int ht h
  refine ⟨n, rfl, ?_⟩
  simpa [Lit.wf, inKind] using hw
theorem opens_bool {t : TypeId} (ht : P.underlying t = some .bool) : Opens P Kd.bool t (fun _ => True) := by
  intro H enc W base spare held fuel cs x h
  obtain ⟨n, rfl, _⟩ := DataW.trod_bool ht h
  exact ⟨n, rfl, trivial⟩
theorem opens_string {t : TypeId} (ht : P.underlying t = some .string) : Opens P Kd.string t (fun s => s.size ≤ 9223372036854775807) := by
  intro H enc W base spare held fuel cs x h
  obtain ⟨n, rfl, _, hw⟩ := DataW.trod_string ht h
  exact ⟨n, rfl, by simpa [maxLen] using hw⟩
theorem Opens.imp {d : Kd α} {t : TypeId} {g g' : α → Prop} (h : Opens P d t g) (hg : ∀ a, g a → g' a) : Opens P d t g' := by
  intro H enc W base spare held fuel cs x hx
  obtain ⟨a, h1, h2⟩ := h enc W base spare held fuel cs x hx
  exact ⟨a, h1, hg a h2⟩
theorem opens_iso {d : Kd α} {t : TypeId} {g : α → Prop} (h : Opens P d t g) (f : β → α) (b : α → β) (hf : ∀ a, f (b a) = a) : Opens P (Kd.iso d f) t (fun x => g (f x)) := by
  intro H enc W base spare held fuel cs x hx
  obtain ⟨a, h1, h2⟩ := h enc W base spare held fuel cs x hx
  exact ⟨b a, by show d.K W (f (b a)) cs; rw [hf]; exact h1, by show g (f (b a)); rw [hf]; exact h2⟩
theorem elems_of {γ : Type} {n : Nat} {p : Nat → γ → Prop} (h : ∀ i, i < n → ∃ a, p i a) : ∃ xs : List γ, xs.length = n ∧ ∀ i a, xs[i]? = some a → p i a := by
  induction n with
  | zero => exact ⟨[], rfl, fun i a h => by simp at h⟩
  | succ n ih =>
    obtain ⟨xs, hl, hx⟩ := ih (fun i hi => h i (by omega))
    obtain ⟨a, ha⟩ := h n (by omega)
    refine ⟨xs ++ [a], by simp [hl], fun i b hb => ?_⟩
    by_cases hi : i < xs.length
    · rw [List.getElem?_append_left hi] at hb
      exact hx i b hb
    · rw [List.getElem?_append_right (by omega)] at hb
      have : i = n := by
        have := (List.getElem?_eq_some_iff.1 hb).1
        simp at this
        omega
      subst this
      rw [hl, Nat.sub_self] at hb
      injection hb with hb
      exact hb ▸ ha
theorem opens_three {α β γ : Type} {a : Kd α} {b : Kd β} {c : Kd γ} {t : TypeId} {f0 f1 f2 : Field} {g0 : α → Prop} {g1 : β → Prop} {g2 : γ → Prop} (ht : P.underlying t = some (.struct #[f0, f1, f2]))
    (ho : f0.offset = 0 ∧ f1.offset = a.sz ∧ f2.offset = a.sz + b.sz) (hc : P.cellsOf t = a.sz + (b.sz + c.sz)) (h0 : P.cellsOf f0.type = a.sz) (h1 : P.cellsOf f1.type = b.sz) (h2 : P.cellsOf f2.type = c.sz)
    (k0 : Opens P a f0.type g0) (k1 : Opens P b f1.type g1) (k2 : Opens P c f2.type g2) : Opens P (Kd.pair a (Kd.pair b c)) t (fun x => g0 x.1 ∧ g1 x.2.1 ∧ g2 x.2.2) := by
  intro H enc W base spare held fuel cs x hx
  obtain ⟨y0, y1, y2, n, _, hl, e0, e1, e2⟩ := trod_struct3 ht hx
  rw [ho.1, h0, List.drop_zero] at e0
  rw [ho.2.1, h1] at e1
  rw [ho.2.2, h2] at e2
  obtain ⟨p0, q0, r0⟩ := k0 enc W base spare held n _ _ e0
  obtain ⟨p1, q1, r1⟩ := k1 enc W base spare held n _ _ e1
  obtain ⟨p2, q2, r2⟩ := k2 enc W base spare held n _ _ e2
  refine ⟨(p0, p1, p2), ⟨_, _, ?_, q0, ⟨_, _, rfl, q1, q2⟩⟩, r0, r1, r2⟩
  rw [hc] at hl
  rw [List.take_of_length_le (l := cs.drop (a.sz + b.sz)) (by rw [List.length_drop]; omega)]
  conv => lhs; rw [← List.take_append_drop a.sz cs]
  congr 1
  conv => lhs; rw [← List.take_append_drop b.sz (cs.drop a.sz)]
  rw [List.drop_drop]
end
end Go.Proofs.YthghcpeedmconaaDoorW.PrintWords
end
section
namespace Go.Proofs.YthghcpeedmconaaDoor.X
set_option linter.unusedVariables false
set_option linter.unusedSimpArgs false
open Go.RowKit Go.Lib Go.ChangeShapes Go.WideShapes Go.ChangeAt Go.Joins Go.Proofs.YthghcpeedmconaaDoorW.PrintWords
open Go.ChangeMaps (open_string shut_string)
set_option maxRecDepth 100000
theorem own : ownKnob Tryd.prog.godebug = none := by kernel_rfl
theorem u8extra : U8Extra Tryd.prog Tryd.laysValid_ren := ⟨by kernel_rfl, by kernel_rfl, by kernel_rfl, by kernel_rfl, by kernel_rfl, by kernel_rfl, by kernel_rfl⟩
theorem most_of {w : World} (h : w.ShapedOpen Tryd.prog) : ∃ m : Int, w.cell? ⟨2, 0, none⟩ = some (.int .i64 m) :=
  cell_of_shapedOpen_int (zero := #[.int .i64 0]) (t := 3) h (of_decide_eq_true (by kernel_rfl)) (by kernel_rfl) rfl (by kernel_rfl) (by kernel_rfl) Tryd.underlying3
def two : List (String × DataW Unit) := [("unicode/utf8.acceptRanges", Rows.laid_unicode_utf8_acceptRanges), ("unicode/utf8.first", Rows.laid_unicode_utf8_first)]
theorem tabs_of {w : World} (h : laidMetH Tryd.prog two w) (hs : w.ShapedOpen Tryd.prog) : Tabs w := by
  have h' : laidMet Tryd.prog two w := h
  refine ⟨?_, most_of hs⟩
  have h3 := Go.Lib.laidMet.reads h' (n := "unicode/utf8.first") (d := Rows.laid_unicode_utf8_first) (by simp [two])
  have h4 := Go.Lib.laidMet.reads h' (n := "unicode/utf8.acceptRanges") (d := Rows.laid_unicode_utf8_acceptRanges) (by simp [two])
  rw [show (Rows.laid_unicode_utf8_first : DataW Unit) = firstData by kernel_rfl] at h3
  rw [show (Rows.laid_unicode_utf8_acceptRanges : DataW Unit) = acceptData by kernel_rfl] at h4
  exact utf8Tabs_of_readsT (U8Types.of196 Tryd.laysValid) u8extra h3 h4
theorem laidOut : laidOutB Tryd.prog = true := by kernel_rfl
theorem i64_of {n : Int} (h : inKind .i64 n) : I64 n := by
  unfold inKind at h
  simp only [IntKind.min, IntKind.max, IntKind.signed, IntKind.bits, if_true] at h
  exact ⟨by omega, by omega⟩
def okV (x : S42) : Prop := I64 x.f0 ∧ I64 x.f1 ∧ x.f2.size ≤ 9223372036854775807
theorem opens_value : Opens Tryd.prog k42 42 okV :=
  Opens.imp (opens_iso (opens_three Tryd.underlying42 ⟨rfl, rfl, rfl⟩ (by kernel_rfl) (by kernel_rfl) (by kernel_rfl) (by kernel_rfl) (opens_int Tryd.underlying3) (opens_int Tryd.underlying2) (opens_string Tryd.underlying9)) (fun x : S42 => (x.f0, (x.f1, x.f2))) (fun p => ⟨p.1, p.2.1, p.2.2⟩) (fun _ => rfl))
    (fun x h => ⟨i64_of h.1, i64_of h.2.1, h.2.2⟩)
noncomputable def laidWorld (os : Os) : World :=
  { World.doorLaid Tryd.prog 200 os with heap := (World.doorLaid Tryd.prog 200 os).heap.modify 0 fun
      | .cells _ t frozen => .cells (Go.Pinned.utf8FirstZ.map fun (n : Nat) => Value.int .u8 (n : Int)).toArray t frozen
      | o => o }
theorem laid_met (os : Os) (args : Array Value) : laidMetH Tryd.prog two ((laidWorld os).forCall (fun _ _ => 0) ⟨#[], args, []⟩).memory :=
  laidMet_of_run' 8 (by kernel_rfl) (by kernel_rfl)
end Go.Proofs.YthghcpeedmconaaDoor.X
end
section
namespace Go.Proofs.YthghcpeedmconaaDoorW.PrintWords
open Go Go.RowKit Go.ChangeShapes Go.WideShapes Go.Deep
set_option linter.unusedVariables false
set_option linter.unusedSimpArgs false
def OpensS {α : Type} (P : Program) (d : Kd α) (t : TypeId) (g : α → Prop) : Prop :=
  ∀ {H : Type} (enc : TypeId × Value → H) (W : World) (base : Nat) (spare : Nat → Bool) (held : Bool) (fuel : Nat) (cs : List Value) (x : DataW H × List MemPlace),
    DataW.trod enc P W base spare held fuel t cs = some x → (∀ n ∈ x.1.weights P t, n ≤ reachBytes) → ∃ a, d.K W a cs ∧ g a
section
variable {P : Program} {α β : Type}
theorem opensS_of {d : Kd α} {t : TypeId} {g : α → Prop} (h : Opens P d t g) : OpensS P d t g := by
  intro H enc W base spare held fuel cs x hx _
  exact h enc W base spare held fuel cs x hx
theorem weights_mem_all {H : Type} {e : TypeId} : ∀ {l : List (DataW H)} {d : DataW H}, d ∈ l → ∀ n ∈ d.weights P e, n ∈ DataW.weightsAll P e l
  | [], _, h, _, _ => by simp at h
  | a :: l, d, h, n, hn => by
    simp only [DataW.weightsAll, List.mem_append]
    rcases List.mem_cons.1 h with rfl | h
    · exact .inl hn
    · exact .inr (weights_mem_all h n hn)
theorem opensS_slice {d : Kd α} {t e : TypeId} {g : α → Prop} (ht : P.underlying t = some (.slice e)) (hs : P.cellsOf e = d.sz) (h : OpensS P d e g) :
    OpensS P (Kd.slice e d) t (fun xs => xs.length * P.bytesOf e ≤ reachBytes ∧ ∀ x ∈ xs, g x) := by
  intro H enc W base spare held fuel cs x hx hw
  rcases open_slice ht hx with ⟨rfl, rfl⟩ | ⟨a, len, cap, m, n, D, Pl, rfl, hb, hl, hm, hmm, rfl, hel⟩
  · exact ⟨[], ⟨none, 0, rfl, Nat.le_refl _, ⟨rfl, by simp, fun h => absurd h (by simp)⟩⟩, by simp, fun x hx => by simp at hx⟩
  · simp only [DataW.weights, ht] at hw
    have hw0 := hw _ List.mem_cons_self
    obtain ⟨xs, hlen, hxs⟩ := elems_of (n := len) (p := fun i y => ∃ cs', W.cells? base (a.add (i * P.cellsOf e)) (P.cellsOf e) = some cs' ∧ d.K W y cs' ∧ g y) (fun i hi => by
      obtain ⟨cs', h1, h2⟩ := hel i (by rw [hmm]; split <;> omega)
      obtain ⟨y, h3, h4⟩ := h enc W base spare held n cs' _ h2 (fun k hk => hw k (List.mem_cons_of_mem _ (List.mem_append_left _ (weights_mem_all (List.mem_map.2 ⟨i, List.mem_range.2 hi, rfl⟩) k hk))))
      exact ⟨y, cs', h1, h3, h4⟩)
    refine ⟨xs, ⟨some a, cap, by rw [hlen], by rw [hlen]; exact hl, ⟨rfl, by rw [hlen]; simp only [maxLen] at hm; omega, fun hp => ⟨a, rfl, fun j p hj => ?_⟩⟩⟩, ?_, fun x hx => ?_⟩
    · obtain ⟨cs', h1, h2, _⟩ := hxs j p hj
      refine ⟨cs', d.K_len h2, h2, fun i u hu => ?_⟩
      obtain ⟨_, hcl, hcc⟩ := World.cells?_some h1
      have hi : i < cs'.length := (List.getElem?_eq_some_iff.1 hu).1
      have h5 := hcc i (by rw [← hcl]; exact hi)
      rw [hu, Addr.add_add, hs] at h5
      exact h5
    · rw [hlen]
      exact Nat.le_trans (Nat.mul_le_mul_right _ (by simp)) hw0
    · obtain ⟨i, hi⟩ := List.getElem?_of_mem hx
      obtain ⟨_, _, _, h4⟩ := hxs i x hi
      exact h4
theorem open_arg_sliceS {d : Kd α} {t e : TypeId} {g : α → Prop} (ht : P.underlying t = some (.slice e)) (hs : P.cellsOf e = d.sz) (h : OpensS P d e g) {H : Type} {enc : TypeId × Value → H} {W : World} {base b0 : Nat} {spare : Nat → Bool} {held : Bool} {r : Reach} {v : Value} {D : DataW H} {p : List MemPlace}
    {ts : List TypeId} {ds : List (DataW H)} {j : Nat} (hsz : (DataW.weightsEach P ts ds).all (· ≤ reachBytes) = true) (htj : ts[j]? = some t) (hdj : ds[j]? = some D)
    (hv : Value.okWide P W r b0 t v) (hd : DataW.Trod enc P W base spare held t v D p) : ∃ A c xs, v = .slice A xs.length c ∧ xs.length ≤ c ∧ d.C W A xs.length xs ∧ xs.length * P.bytesOf e ≤ reachBytes ∧ ∀ x ∈ xs, g x := by
  obtain ⟨A, n, c, rfl⟩ := okWide_slice ht hv
  obtain ⟨fuel, hf⟩ := hd
  obtain ⟨xs, ⟨A', c', he, hl, hC⟩, hg⟩ := opensS_slice ht hs h enc W base spare held fuel _ _ hf (fun n hn => by
    have := List.all_eq_true.1 hsz _ (DataW.weights_mem_each htj hdj n hn)
    simpa using this)
  have he' : Value.slice A n c = .slice A' xs.length c' := by simpa [Value.cells] using he
  injection he' with h1 h2 h3
  subst h1 h2 h3
  exact ⟨A, c, xs, rfl, hl, hC, hg⟩
end
end Go.Proofs.YthghcpeedmconaaDoorW.PrintWords
end
section
namespace Go.Proofs.YthghcpeedmconaaDoor.X
open Go Go.RowKit Go.Lib Go.ChangeShapes Go.WideShapes Go.ChangeAt Go.Joins Go.Deep Go.Proofs.YthghcpeedmconaaDoorW.PrintWords
set_option linter.unusedVariables false
set_option maxRecDepth 100000
theorem opensS_two {P : Program} {α β : Type} {a : Kd α} {b : Kd β} {t : TypeId} {f0 f1 : Field} {g0 : α → Prop} {g1 : β → Prop} (ht : P.underlying t = some (.struct #[f0, f1]))
    (ho : f0.offset = 0 ∧ f1.offset = a.sz) (hc : P.cellsOf t = a.sz + b.sz) (h0 : P.cellsOf f0.type = a.sz) (h1 : P.cellsOf f1.type = b.sz)
    (k0 : OpensS P a f0.type g0) (k1 : OpensS P b f1.type g1) : OpensS P (Kd.pair a b) t (fun x => g0 x.1 ∧ g1 x.2) := by
  intro H enc W base spare held fuel cs x hx hw
  obtain ⟨y0, y1, n, he, hl, e0, e1⟩ := trod_struct2 ht hx
  rw [ho.1, h0, List.drop_zero] at e0
  rw [ho.2, h1] at e1
  subst he
  simp only [DataW.weights, ht, DataW.weightsEach, List.map_cons, List.map_nil, List.append_nil, List.mem_append] at hw
  obtain ⟨p0, q0, r0⟩ := k0 enc W base spare held n _ _ e0 (fun k hk => hw k (.inl hk))
  obtain ⟨p1, q1, r1⟩ := k1 enc W base spare held n _ _ e1 (fun k hk => hw k (.inr hk))
  refine ⟨(p0, p1), ⟨_, _, ?_, q0, q1⟩, r0, r1⟩
  rw [hc] at hl
  rw [List.take_of_length_le (l := cs.drop a.sz) (by rw [List.length_drop]; omega), List.take_append_drop]
theorem opensS_iso {P : Program} {α β : Type} {d : Kd α} {t : TypeId} {g : α → Prop} (h : OpensS P d t g) (f : β → α) (b : α → β) (hf : ∀ a, f (b a) = a) (g' : β → Prop) (hg : ∀ x, g (f x) → g' x) : OpensS P (Kd.iso d f) t g' := by
  intro H enc W base spare held fuel cs x hx hw
  obtain ⟨a, h1, h2⟩ := h enc W base spare held fuel cs x hx hw
  exact ⟨b a, by show d.K W (f (b a)) cs; rw [hf]; exact h1, hg _ (by rw [hf]; exact h2)⟩
def okAct (a : S36) : Prop := a.f1.length ≤ 4398046510976 ∧ ∀ v ∈ a.f1, I64 v.f1
theorem opens_act : OpensS Tryd.prog k36 36 okAct :=
  opensS_iso (opensS_two Tryd.underlying36 ⟨rfl, rfl⟩ (by kernel_rfl) (by kernel_rfl) (by kernel_rfl) (opensS_of (opens_bool Tryd.underlying4)) (opensS_slice Tryd.underlying33 (by kernel_rfl) (opensS_of opens_value)))
    (fun x : S36 => (x.f0, x.f1)) (fun p => ⟨p.1, p.2⟩) (fun _ => rfl) okAct (fun x h => ⟨by
      have h1 : x.f1.length * Tryd.prog.bytesOf 42 ≤ reachBytes := h.2.1
      rw [show Tryd.prog.bytesOf 42 = 32 by kernel_rfl] at h1
      have h2 : x.f1.length * 32 ≤ 140737488351232 := h1
      omega, fun v hv => (h.2.2 v hv).2.1⟩)
section
variable {H : Type} {enc : TypeId × Value → H} {W : World} {base b0 : Nat} {spare : Nat → Bool} {held : Bool} {r : Reach} {v : Value} {D : DataW H} {p : List MemPlace}
theorem open_acts {ts : List TypeId} {ds : List (DataW H)} {j : Nat} (hsz : (DataW.weightsEach Tryd.prog ts ds).all (· ≤ reachBytes) = true) (htj : ts[j]? = some 22) (hdj : ds[j]? = some D)
    (hv : Value.okWide Tryd.prog W r b0 22 v) (hd : DataW.Trod enc Tryd.prog W base spare held 22 v D p) : ∃ A c xs, v = .slice A xs.length c ∧ xs.length ≤ c ∧ k36.C W A xs.length xs ∧
      (xs.length < 9223372036854775807 ∧ ∀ x ∈ xs, okAct x) := by
  obtain ⟨A, c, xs, h1, h2, h3, h4, h5⟩ := open_arg_sliceS Tryd.underlying22 (by kernel_rfl) opens_act hsz htj hdj hv hd
  rw [show Tryd.prog.bytesOf 36 = 32 by kernel_rfl] at h4
  have h6 : xs.length * 32 ≤ 140737488351232 := h4
  exact ⟨A, c, xs, h1, h2, h3, by omega, h5⟩
end
end Go.Proofs.YthghcpeedmconaaDoor.X
end
section
namespace Go.Proofs.YthghcpeedmconaaDoor.rowcodeDigests
open Go.ChangeShapes Go.WideShapes Go.ChangeAt Go.RowKit Go.Proofs.YthghcpeedmconaaDoor.X Go.Proofs.YthghcpeedmconaaDoorW.PrintWords
open Go.ChangeMaps (open_string shut_string)
set_option linter.unusedVariables false
set_option linter.unusedSimpArgs false
set_option maxRecDepth 100000 in
theorem reads (os : Os) {H : Type} (enc : TypeId × Value → H) : ∃ places, DataW.whole enc Tryd.prog ((laidWorld os).forCall (fun _ _ => 0) ⟨#[], #[.slice none 0 0], []⟩).memory Tryd.f3.params.toList Rows.rowcodeDigestsSpec.vars false
    #[Value.slice none 0 0].toList 8 =
    some ([.nil], [], places) :=
  ⟨[], by kernel_rfl⟩
set_option maxRecDepth 100000 in
theorem lifted (os : Os) (started : os.Started) (H : Type) (enc : TypeId × Value → H) (F : Stop.Interp) :
    ReturnsInHanded {} Tryd.checked os 3 .any ((OpenSpec.ofChange Rows.rowcodeDigestsSpec).preRow enc Tryd.prog Tryd.f3 Rows.rowcodeDigestsRow.domain false Rows.rowcodeDigestsRow.laid) (((OpenSpec.ofChange Rows.rowcodeDigestsSpec).at F).post enc Tryd.prog Tryd.f3 false true false false) := by
  obtain ⟨places, hx⟩ := reads os enc
  refine returnsInHanded_of_row (C := Tryd.checked) (s := (OpenSpec.ofChange Rows.rowcodeDigestsSpec)) own started (by kernel_rfl) Tryd.func3
    (witness_row_at (enc := enc) (C := Tryd.checked) false (laidWorld os) #[.slice none 0 0] rfl (by kernel_rfl) (by kernel_rfl) (by kernel_rfl)
      (OpenSpec.preRow_of_cond 8 hx (by kernel_rfl) (fun k hk => by cases hk) (by kernel_rfl) (laid_met os _))) ?_
  intro W base args ds gs before hval0 hW _ hcond hsz0 hL hsh _
  have hT : Tabs W := tabs_of hL hsh
  have hval : ∀ (j : Nat) t v, Tryd.f3.params[j]? = some t → args[j]? = some v → Value.okWide Tryd.prog W .any base t v := hval0
  have hW' := hW
  have hlt0 := fun x hx => hW'.lt x hx
  obtain ⟨p, q, hA0, hV, rfl, hfz, hnd⟩ := hW
  have hA : DataW.TrodAll enc Tryd.prog W 0 (fun _ => true) true Tryd.f3.params.toList args.toList ds p := hA0
  rw [Tryd.params3] at hA hval
  obtain ⟨v0, vs0, d0, ds0, p0, q0, hargs, rfl, rfl, h0, r0⟩ := trodAll_cons hA
  obtain ⟨rfl, rfl, rfl⟩ := trodAll_nil r0
  obtain rfl : args = #[v0] := by cases args; simp_all
  obtain ⟨rfl, rfl⟩ := trodVars_none hV
  have k0 := h0
  have lt0 : ∀ x ∈ p0, x.block < W.heap.size := fun x hx => by have := hlt0 x (by simp [hx]); simpa using this
  obtain ⟨A0, c0, a0, rfl, hc0, hr0, g0⟩ := open_acts (j := 0) hsz0 rfl rfl (hval 0 22 v0 rfl rfl) h0
  clear hA0 hval0
  refine (locksteplaw02_RowcodeDigests.calls (2 * a0.length + 4398046511001) A0 c0 a0 true W hT hr0 hc0 (Dig.RowcodeDigests_true a0 g0.1 g0.2) rfl).mono fun e W' ⟨he, bel⟩ => ?_
  subst he
  exact ⟨_, rfl, _, _, _, [], _, [], hW', trodAll_mk1 (shut_bool Tryd.underlying4 _), (trodAll_cons_mk (Below.trod laidOut (by kernel_rfl) (of_decide_eq_true (by kernel_rfl)) k0 bel lt0) trodAll_mk0), rfl, bel.frame _, fun h => by cases h⟩
theorem said : Rows.RowcodeDigestsSaid :=
  OpenClaim.holds_of_cond 3 Tryd.f3 rfl rfl rfl rfl rfl rfl rfl ⟨rfl, rfl, rfl, rfl, rfl⟩ rfl rfl rfl rfl rfl (by kernel_rfl) Tryd.func3 (by kernel_rfl)
    (of_decide_eq_true (by kernel_rfl)) (by unfold Func.isWrapper; first | (rw [if_pos (by decide +kernel)]; kernel_rfl) | (rw [if_neg (by decide +kernel)]; exact ⟨rfl, rfl⟩))
    (fun os started H enc _ F => by rw [OpenClaim.pre_eq_preRow]; exact lifted os started H enc F)
theorem plain (f : FuncId) (fn : Func) (hf : Tryd.pinned.checked.prog.funcNamed "lockstep/locksteplaw02.RowcodeDigests" = some f) (hfn : Tryd.pinned.checked.prog.funcs[f]? = some fn) :
    false = Tryd.pinned.checked.prog.looks [] ∧ ∀ (j : Nat) t, fn.params[j]? = some t → Tryd.pinned.checked.prog.wantsStandIn t = false := by
  obtain rfl : f = 3 := Option.some.inj ((show Tryd.prog.funcNamed "lockstep/locksteplaw02.RowcodeDigests" = some 3 by kernel_rfl).symm.trans hf) |>.symm
  obtain rfl : fn = Tryd.f3 := (Option.some.inj (Tryd.func3.symm.trans hfn)).symm
  refine ⟨by kernel_rfl, fun j t ht => ?_⟩
  rw [Tryd.params3] at ht
  have hm := Array.mem_of_getElem? ht
  have ht' : t = 22 := by simpa using hm
  subst ht'
  exact (show Tryd.prog.wantsStandIn 22 = false by kernel_rfl)
theorem card : Rows.RowcodeDigestsCardSaid :=
  Claim7.holds_tied_plain_at .later [] _ _ _ _ said (fun _ h => by cases h) (by kernel_rfl) (fun _ h => by cases h) rowcodeDigests_row_tie rfl ⟨rfl, rfl⟩ (by kernel_rfl) rfl plain (by kernel_rfl)
end Go.Proofs.YthghcpeedmconaaDoor.rowcodeDigests
end

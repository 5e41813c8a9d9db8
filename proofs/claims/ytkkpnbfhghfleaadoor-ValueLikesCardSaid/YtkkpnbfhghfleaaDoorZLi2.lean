/- The given row ValueLikesCardSaid is proved: at every two texts the law lockstep/locksteplaw01.ValueLikes returns true and leaves its arguments as they were. Conditions: none beyond the given row's own (the listed tables hold what the program's text lays there). -/
import Derived.Test.YtkkpnbfhghfleaaDoorZLi1
import Init
import Derived.Shelf.Strings.MapAny
import Derived.Shelf.Unicode.DecodeLastEight
import Derived.WalkSmall
import Derived.Sort.Grow
import Derived.Test.YtkkpnbfhghfleaaDoorCards
import Derived.Test.YtkkpnbfhghfleaaDoorTie
import Derived.Lib.LaidU8T
import Derived.Lib.LaidTab
import Derived.Lib.SmallJoins
import Derived.Shelf.Vars
import Derived.LaidMore
import Derived.OpenShut
import Derived.ShutString
import Derived.SizedLaws
import Derived.ProofKit
import Derived.Deep.DeepHandedRow
import Derived.SevenTiedAt
section
namespace Go.Proofs.YtkkpnbfhghfleaaDoor.Y
open Go.Proofs.YtkkpnbfhghfleaaDoor.X
open Go.RowKit Go.Proofs.YtkkpnbfhghfleaaDoorW.PrintWords Go.Proofs.YtkkpnbfhghfleaaDoorW.PrintLast Go.Proofs.YtkkpnbfhghfleaaDoorW.PrintMore
attribute [local go_sem] max2_int min2_int max_two min_two max_three min_three max_four min_four
set_option linter.unusedVariables false
set_option linter.unusedSimpArgs false
mutual
def lockstepref01_like.l0 : Nat → List Int → List Int → List Bool → Int → Option (Bool × Int)
 | 0, _, _, _, _ => none
 | k + 1, x0, x1, x6, x7 => if x7 < (x1.length : Int) then (if 0 ≤ (wrap64 ((x0.length : Int) + 1)) then (if (wrap64 ((x0.length : Int) + 1) : Int).toNat ≤ 281474976710656 then ((some (List.replicate (wrap64 ((x0.length : Int) + 1) : Int).toNat false : List Bool)).bind fun y147 => (if 0 ≤ x7 then (if (rd x1 x7) = 92 then (if (wrap64 (x7 + 1)) = (x1.length : Int) then (some (false, 3)) else (if 0 ≤ (wrap64 (x7 + 1)) then (if (wrap64 (x7 + 1)) < (x1.length : Int) then (lockstepref01_like.j1 k x0 x1 x6 (wrap64 (x7 + 1)) y147 (rd x1 (wrap64 (x7 + 1))) ((rd x1 x7) == 37) ((rd x1 x7) == 95)) else (none)) else (none))) else (lockstepref01_like.j1 k x0 x1 x6 x7 y147 (rd x1 x7) ((rd x1 x7) == 37) ((rd x1 x7) == 95))) else (none))) else (none)) else (none)) else (if 0 ≤ (x0.length : Int) then (if (x0.length : Int) < (x6.length : Int) then (some (rdOf false x6 (x0.length : Int), 0)) else (none)) else (none))
def lockstepref01_like.j1 : Nat → List Int → List Int → List Bool → Int → List Bool → Int → Bool → Bool → Option (Bool × Int)
 | 0, _, _, _, _, _, _, _, _ => none
 | k + 1, x0, x1, x6, x7, x8, x9, x10, x11 => if x10 = true then (if 0 < (x6.length : Int) then (if 0 < (x8.length : Int) then (lockstepref01_like.j2 k x0 x1 x6 x7 (x8.set (0 : Int).toNat (rdOf false x6 0)) x9 x10 x11) else (none)) else (none)) else (if 0 < (x8.length : Int) then (lockstepref01_like.j2 k x0 x1 x6 x7 (x8.set (0 : Int).toNat false) x9 x10 x11) else (none))
def lockstepref01_like.j2 : Nat → List Int → List Int → List Bool → Int → List Bool → Int → Bool → Bool → Option (Bool × Int)
 | 0, _, _, _, _, _, _, _, _ => none
 | k + 1, x0, x1, x6, x7, x8, x9, x10, x11 => lockstepref01_like.l1 k x0 x1 x6 x7 x8 x9 x10 x11 0
def lockstepref01_like.l1 : Nat → List Int → List Int → List Bool → Int → List Bool → Int → Bool → Bool → Int → Option (Bool × Int)
 | 0, _, _, _, _, _, _, _, _, _ => none
 | k + 1, x0, x1, x6, x7, x8, x9, x10, x11, x12 => if x12 < (x0.length : Int) then (if x10 = true then (if 0 ≤ (wrap64 (x12 + 1)) then (if (wrap64 (x12 + 1)) < (x6.length : Int) then (if rdOf false x6 (wrap64 (x12 + 1)) = true then (if (wrap64 (x12 + 1)) < (x8.length : Int) then (lockstepref01_like.l1 k x0 x1 x6 x7 (x8.set ((wrap64 (x12 + 1)) : Int).toNat true) x9 x10 x11 (wrap64 (x12 + 1))) else (none)) else (if 0 ≤ x12 then (if x12 < (x8.length : Int) then (if (wrap64 (x12 + 1)) < (x8.length : Int) then (lockstepref01_like.l1 k x0 x1 x6 x7 (x8.set ((wrap64 (x12 + 1)) : Int).toNat (rdOf false x8 x12)) x9 x10 x11 (wrap64 (x12 + 1))) else (none)) else (none)) else (none))) else (none)) else (none)) else (if 0 ≤ x12 then (if x12 < (x6.length : Int) then (if rdOf false x6 x12 = true then (if x11 = true then (if 0 ≤ (wrap64 (x12 + 1)) then (if (wrap64 (x12 + 1)) < (x8.length : Int) then (lockstepref01_like.l1 k x0 x1 x6 x7 (x8.set ((wrap64 (x12 + 1)) : Int).toNat true) x9 x10 x11 (wrap64 (x12 + 1))) else (none)) else (none)) else (if 0 ≤ (wrap64 (x12 + 1)) then (if (wrap64 (x12 + 1)) < (x8.length : Int) then (lockstepref01_like.l1 k x0 x1 x6 x7 (x8.set ((wrap64 (x12 + 1)) : Int).toNat ((rd x0 x12) == x9)) x9 x10 x11 (wrap64 (x12 + 1))) else (none)) else (none))) else (if 0 ≤ (wrap64 (x12 + 1)) then (if (wrap64 (x12 + 1)) < (x8.length : Int) then (lockstepref01_like.l1 k x0 x1 x6 x7 (x8.set ((wrap64 (x12 + 1)) : Int).toNat false) x9 x10 x11 (wrap64 (x12 + 1))) else (none)) else (none))) else (none)) else (none))) else (lockstepref01_like.l0 k x0 x1 x8 (wrap64 (x7 + 1)))
end
def lockstepref01_like.f (k : Nat) (l0 : List Int) (l1 : List Int) : Option (Bool × Int) := if 0 ≤ (wrap64 ((l0.length : Int) + 1)) then (if (wrap64 ((l0.length : Int) + 1) : Int).toNat ≤ 281474976710656 then ((some (List.replicate (wrap64 ((l0.length : Int) + 1) : Int).toNat false : List Bool)).bind fun y142 => (if 0 < (y142.length : Int) then (lockstepref01_like.l0 k l0 l1 (y142.set (0 : Int).toNat true) 0) else (none))) else (none)) else (none)
set_option maxHeartbeats 8000000 in
set_option maxRecDepth 100000 in
theorem lockstepref01_like.calls (k : Nat) (A0 : Option Addr) (c0 : Nat) (l0 : List Int) (A1 : Option Addr) (c1 : Nat) (l1 : List Int) (r1 : Bool) (r2 : Int) (w : World) (hr0 : Kd.C (Kd.int .i32) w A0 l0.length l0) (hc0 : l0.length ≤ c0) (hr1 : Kd.C (Kd.int .i32) w A1 l1.length l1) (hc1 : l1.length ≤ c1) (h : lockstepref01_like.f k l0 l1 = some (r1, r2)) :
  Calls Tryd.prog 32 #[.slice A0 l0.length c0, .slice A1 l1.length c1] w fun e w' => e = .returned (.tuple #[.bool r1, .int .i64 r2]) ∧ Below w.heap.size w w' := by
 have HR0 := Aside0.mk hr0
 have HC0 := Aside0.mk hc0
 clear hr0 hc0
 have HR1 := Aside0.mk hr1
 have HC1 := Aside0.mk hc1
 clear hr1 hc1
 have HB := Aside0.mk (Below.refl w.heap.size w)
 have H : (if 0 ≤ (wrap64 ((l0.length : Int) + 1)) then (if (wrap64 ((l0.length : Int) + 1) : Int).toNat ≤ 281474976710656 then ((some (List.replicate (wrap64 ((l0.length : Int) + 1) : Int).toNat false : List Bool)).bind fun y142 => (if 0 < (y142.length : Int) then (lockstepref01_like.l0 k l0 l1 (y142.set (0 : Int).toNat true) 0) else (none))) else (none)) else (none)) = some (r1, r2) := h
 clear h
 obtain ⟨ji3, hji3⟩ : ∃ j_ : Int, (wrap64 ((l0.length : Int) + 1)) = j_ := ⟨_, rfl⟩
 replace H : (if 0 ≤ (ji3) then (if (ji3 : Int).toNat ≤ 281474976710656 then ((some (List.replicate (ji3 : Int).toNat false : List Bool)).bind fun y142 => (if 0 < (y142.length : Int) then (lockstepref01_like.l0 k l0 l1 (y142.set (0 : Int).toNat true) 0) else (none))) else (none)) else (none)) = some (r1, r2) := by first | (rw [hji3] at H; exact H) | (simp only [hji3] at H ⊢; exact H)
 have hji3w : (IntKind.i64.wrap ((l0.length : Int) + 1)) = ji3 := (i64_w _).trans hji3
 by_cases c4 : 0 ≤ (ji3)
 ·
  rw [if_pos c4] at H
  have c4b0 := eq_true c4
  have c4b1 : decide (0 ≤ (ji3)) = true := decide_eq_true c4
  clear c4
  by_cases c5 : (ji3 : Int).toNat ≤ 281474976710656
  ·
   rw [if_pos c5] at H
   have c5b0 := eq_true c5
   have c5b1 : decide ((ji3 : Int).toNat ≤ 281474976710656) = true := decide_eq_true c5
   clear c5
   obtain ⟨y142, hy142⟩ : ∃ y_ : List Bool, y_ = (List.replicate (ji3 : Int).toNat false) := ⟨_, rfl⟩
   replace H : (if 0 < (y142.length : Int) then (lockstepref01_like.l0 k l0 l1 (y142.set (0 : Int).toNat true) 0) else (none)) = some (r1, r2) := by first | (rw [hy142]; with_reducible exact H) | (have H2_ := (Option.bind_some _ _).symm.trans H; rw [hy142]; with_reducible exact H2_) | (have H2_ := (Option.bind_some _ _).symm.trans H; with_reducible exact H2_) | with_reducible exact H | (rw [hy142]; exact H) | exact H
   have Ny142 := Aside0.mk hy142
   clear hy142
   by_cases c6 : 0 < (y142.length : Int)
   ·
    rw [if_pos c6] at H
    have c6b0 : decide (0 < (y142.length : Int)) = true := decide_eq_true c6
    have c6b1 : decide (0 < y142.length) = true := decide_eq_true (by omega)
    clear c6
    obtain ⟨y145, hy145⟩ : ∃ y_ : List Bool, y_ = (y142.set (0 : Int).toNat true) := ⟨_, rfl⟩
    replace H : (lockstepref01_like.l0 k l0 l1 y145 0) = some (r1, r2) := by first | (rw [hy145]; with_reducible exact H) | (have H2_ := (Option.bind_some _ _).symm.trans H; rw [hy145]; with_reducible exact H2_) | (have H2_ := (Option.bind_some _ _).symm.trans H; with_reducible exact H2_) | with_reducible exact H | (rw [hy145]; exact H) | exact H
    have Ny145 := Aside0.mk hy145
    clear hy145
    have H' := Aside0.mk H
    clear H
    go_enter Tryd.func32, Tryd.ntmps32
    go_wp2_with (first | ((with_reducible refine gate_dst (N := 16) rfl ?_); refine Kd.R_make Kd.bool _ 4 rfl (N := 16) rfl 74 _ _ rfl ji3 rfl rfl Tryd.underlying74 (.bool false) 1 info4 rfl (by decide) (by omega) false (ok := fun _ => True) (okp := fun _ => True) rfl (fun _ hk => hk) trivial (of_decide_eq_true (by first | (with_reducible assumption) | assumption)) (Nat.le_trans (Nat.mul_le_mul_right _ (of_decide_eq_true (by first | (with_reducible assumption) | assumption) : ji3.toNat ≤ 281474976710656)) (by omega)) (Below.refl _ _) (Nat.le_refl _) ?_; intro v143 w8 ho9 hb hg_ hnew_; clear hg_ hnew_; (first | rw [← Ny142.out] at ho9 | (simp only [Int.reduceToNat] at ho9; rw [← Ny142.out] at ho9)); have n0_ := Aside0.mk (Kd.R_lower ho9 (below_size (by repeat (first | (with_reducible first | exact HB.out | apply below_alloc | apply pw_below_drewN | apply below_drew1) | exact HB.out)))); have n1_ := Aside0.mk (below_step (by repeat (first | (with_reducible first | exact HB.out | apply below_alloc | apply pw_below_drewN | apply below_drew1) | exact HB.out)) hb); clear HB; have HO144 := n0_; have HB := n1_; clear n0_ n1_; clear hb ho9; have p7 : 0 ≤ (0 : Int) := (by omega); have q7 : (0 : Int) < ((y142.length : Int) : Int) := of_decide_eq_true (by first | (with_reducible assumption) | assumption); have qi7 : (0 < y142.length) = True := eq_true (by omega); obtain ⟨go7, co7, eo7, gb7, gl7, cl7, HG7⟩ := Kd.R_form HO144.out (by omega); (first | cases eo7 | (injection eo7 with ea_ en_ ec_; (first | subst ea_ | (injection ea_ with ea_; subst ea_)); subst ec_; clear en_)); have GB7 := Aside0.mk gb7; have GG7 := Aside0.mk HG7; clear gb7 gl7 HG7; obtain ⟨hx7_0, hf7_0⟩ := Kd.R_celln false HO144.out (0 : Int) p7 q7; (try rw [show ((0 : Int)).toNat = 0 from rfl] at hx7_0); (try simp only [Nat.reduceMul, Nat.zero_mul, Nat.zero_add, Nat.reduceAdd] at hx7_0); (try rw [show ((0 : Int)).toNat = 0 from rfl] at hf7_0); (try simp only [Nat.reduceMul, Nat.zero_mul, Nat.zero_add, Nat.reduceAdd] at hf7_0); replace p7 := eq_true p7; replace q7 := eq_true q7; obtain ⟨hy10_, hz10_⟩ := Kd.R_celln false HO144.out (0 : Int) (by omega) (of_decide_eq_true (by first | (with_reducible assumption) | assumption)); (try simp only [Int.reduceToNat, Int.toNat_zero, Int.toNat_ofNat, Nat.reduceMul, Nat.zero_mul, Nat.zero_add] at hy10_ hz10_); (try rw [show ((0 : Int)).toNat = 0 from rfl] at hy10_); (try rw [show ((0 : Int)).toNat = 0 from rfl] at hz10_); have HP10 := Kd.R_putg HO144.out (0 : Int) true) | ((with_reducible refine gate_store (t := 4) (p := 18) rfl ?_); (try (rw [drewN_self w8]; generalize hq_ : World.drewN w8 _ = w8; have n0_ := Aside0.mk (Kd.R_at hq_ HO144.out); have n1_ := Aside0.mk (below_at hq_ HB.out); clear hq_ HO144 HB; have HO144 := n0_; have HB := n1_; clear n0_ n1_; (try (obtain ⟨hy10_, hz10_⟩ := Kd.R_celln false HO144.out (0 : Int) (by omega) (of_decide_eq_true (by first | (with_reducible assumption) | assumption)))); (try (try simp only [Int.reduceToNat, Int.toNat_zero, Int.toNat_ofNat, Nat.reduceMul, Nat.zero_mul, Nat.zero_add] at hy10_ hz10_)); (try (try rw [show ((0 : Int)).toNat = 0 from rfl] at hy10_)); (try (try rw [show ((0 : Int)).toNat = 0 from rfl] at hz10_)); (try (have HP10 := Kd.R_putg HO144.out (0 : Int) true)))); refine store_event (t := 4) (p := 18) (v := ?vo_w11) (w1 := (w8.setCell ⟨go7, (0 : Int).toNat, none⟩ (.bool true))) ?hg ?ho ?hn ?hr ?_; (case ho => rfl); (case hg => rfl); (case hn => rfl); (case hr => first | (go_simp; done) | (go_simp; rfl)); intro w11 hw; have hg : w8.grownBy w11 (some go7) := (by rw [hw]; exact HP10.2); have hp_ : Kd.R Kd.bool 4 w11 w.heap.size (fun _ => True) (.slice (some ⟨go7, 0, none⟩) y142.length co7) y145 := (by rw [hw, Ny145.out]; exact HP10.1); clear HP10; have n0_ := Aside0.mk (hp_); have n1_ := Aside0.mk ((by rw [hw]; exact below_set (HB.out) GB7.out : Below w.heap.size w w11)); clear HO144; clear HB; have HO144 := n0_; have HB := n1_; clear n0_ n1_; clear hg hw hp_))
    repeat ((with_reducible refine at_region ?_); go_quiet (first | ((with_reducible refine gate_dst (N := 16) rfl ?_); refine Kd.R_make Kd.bool _ 4 rfl (N := 16) rfl 74 _ _ rfl ji3 rfl rfl Tryd.underlying74 (.bool false) 1 info4 rfl (by decide) (by omega) false (ok := fun _ => True) (okp := fun _ => True) rfl (fun _ hk => hk) trivial (of_decide_eq_true (by first | (with_reducible assumption) | assumption)) (Nat.le_trans (Nat.mul_le_mul_right _ (of_decide_eq_true (by first | (with_reducible assumption) | assumption) : ji3.toNat ≤ 281474976710656)) (by omega)) (Below.refl _ _) (Nat.le_refl _) ?_; intro v143 w8 ho9 hb hg_ hnew_; clear hg_ hnew_; (first | rw [← Ny142.out] at ho9 | (simp only [Int.reduceToNat] at ho9; rw [← Ny142.out] at ho9)); have n0_ := Aside0.mk (Kd.R_lower ho9 (below_size (by repeat (first | (with_reducible first | exact HB.out | apply below_alloc | apply pw_below_drewN | apply below_drew1) | exact HB.out)))); have n1_ := Aside0.mk (below_step (by repeat (first | (with_reducible first | exact HB.out | apply below_alloc | apply pw_below_drewN | apply below_drew1) | exact HB.out)) hb); clear HB; have HO144 := n0_; have HB := n1_; clear n0_ n1_; clear hb ho9; have p7 : 0 ≤ (0 : Int) := (by omega); have q7 : (0 : Int) < ((y142.length : Int) : Int) := of_decide_eq_true (by first | (with_reducible assumption) | assumption); have qi7 : (0 < y142.length) = True := eq_true (by omega); obtain ⟨go7, co7, eo7, gb7, gl7, cl7, HG7⟩ := Kd.R_form HO144.out (by omega); (first | cases eo7 | (injection eo7 with ea_ en_ ec_; (first | subst ea_ | (injection ea_ with ea_; subst ea_)); subst ec_; clear en_)); have GB7 := Aside0.mk gb7; have GG7 := Aside0.mk HG7; clear gb7 gl7 HG7; obtain ⟨hx7_0, hf7_0⟩ := Kd.R_celln false HO144.out (0 : Int) p7 q7; (try rw [show ((0 : Int)).toNat = 0 from rfl] at hx7_0); (try simp only [Nat.reduceMul, Nat.zero_mul, Nat.zero_add, Nat.reduceAdd] at hx7_0); (try rw [show ((0 : Int)).toNat = 0 from rfl] at hf7_0); (try simp only [Nat.reduceMul, Nat.zero_mul, Nat.zero_add, Nat.reduceAdd] at hf7_0); replace p7 := eq_true p7; replace q7 := eq_true q7; obtain ⟨hy10_, hz10_⟩ := Kd.R_celln false HO144.out (0 : Int) (by omega) (of_decide_eq_true (by first | (with_reducible assumption) | assumption)); (try simp only [Int.reduceToNat, Int.toNat_zero, Int.toNat_ofNat, Nat.reduceMul, Nat.zero_mul, Nat.zero_add] at hy10_ hz10_); (try rw [show ((0 : Int)).toNat = 0 from rfl] at hy10_); (try rw [show ((0 : Int)).toNat = 0 from rfl] at hz10_); have HP10 := Kd.R_putg HO144.out (0 : Int) true) | ((with_reducible refine gate_store (t := 4) (p := 18) rfl ?_); (try (rw [drewN_self w8]; generalize hq_ : World.drewN w8 _ = w8; have n0_ := Aside0.mk (Kd.R_at hq_ HO144.out); have n1_ := Aside0.mk (below_at hq_ HB.out); clear hq_ HO144 HB; have HO144 := n0_; have HB := n1_; clear n0_ n1_; (try (obtain ⟨hy10_, hz10_⟩ := Kd.R_celln false HO144.out (0 : Int) (by omega) (of_decide_eq_true (by first | (with_reducible assumption) | assumption)))); (try (try simp only [Int.reduceToNat, Int.toNat_zero, Int.toNat_ofNat, Nat.reduceMul, Nat.zero_mul, Nat.zero_add] at hy10_ hz10_)); (try (try rw [show ((0 : Int)).toNat = 0 from rfl] at hy10_)); (try (try rw [show ((0 : Int)).toNat = 0 from rfl] at hz10_)); (try (have HP10 := Kd.R_putg HO144.out (0 : Int) true)))); refine store_event (t := 4) (p := 18) (v := ?vo_w11) (w1 := (w8.setCell ⟨go7, (0 : Int).toNat, none⟩ (.bool true))) ?hg ?ho ?hn ?hr ?_; (case ho => rfl); (case hg => rfl); (case hn => rfl); (case hr => first | (go_simp; done) | (go_simp; rfl)); intro w11 hw; have hg : w8.grownBy w11 (some go7) := (by rw [hw]; exact HP10.2); have hp_ : Kd.R Kd.bool 4 w11 w.heap.size (fun _ => True) (.slice (some ⟨go7, 0, none⟩) y142.length co7) y145 := (by rw [hw, Ny145.out]; exact HP10.1); clear HP10; have n0_ := Aside0.mk (hp_); have n1_ := Aside0.mk ((by rw [hw]; exact below_set (HB.out) GB7.out : Below w.heap.size w w11)); clear HO144; clear HB; have HO144 := n0_; have HB := n1_; clear n0_ n1_; clear hg hw hp_)); try go_wp2_with (first | ((with_reducible refine gate_dst (N := 16) rfl ?_); refine Kd.R_make Kd.bool _ 4 rfl (N := 16) rfl 74 _ _ rfl ji3 rfl rfl Tryd.underlying74 (.bool false) 1 info4 rfl (by decide) (by omega) false (ok := fun _ => True) (okp := fun _ => True) rfl (fun _ hk => hk) trivial (of_decide_eq_true (by first | (with_reducible assumption) | assumption)) (Nat.le_trans (Nat.mul_le_mul_right _ (of_decide_eq_true (by first | (with_reducible assumption) | assumption) : ji3.toNat ≤ 281474976710656)) (by omega)) (Below.refl _ _) (Nat.le_refl _) ?_; intro v143 w8 ho9 hb hg_ hnew_; clear hg_ hnew_; (first | rw [← Ny142.out] at ho9 | (simp only [Int.reduceToNat] at ho9; rw [← Ny142.out] at ho9)); have n0_ := Aside0.mk (Kd.R_lower ho9 (below_size (by repeat (first | (with_reducible first | exact HB.out | apply below_alloc | apply pw_below_drewN | apply below_drew1) | exact HB.out)))); have n1_ := Aside0.mk (below_step (by repeat (first | (with_reducible first | exact HB.out | apply below_alloc | apply pw_below_drewN | apply below_drew1) | exact HB.out)) hb); clear HB; have HO144 := n0_; have HB := n1_; clear n0_ n1_; clear hb ho9; have p7 : 0 ≤ (0 : Int) := (by omega); have q7 : (0 : Int) < ((y142.length : Int) : Int) := of_decide_eq_true (by first | (with_reducible assumption) | assumption); have qi7 : (0 < y142.length) = True := eq_true (by omega); obtain ⟨go7, co7, eo7, gb7, gl7, cl7, HG7⟩ := Kd.R_form HO144.out (by omega); (first | cases eo7 | (injection eo7 with ea_ en_ ec_; (first | subst ea_ | (injection ea_ with ea_; subst ea_)); subst ec_; clear en_)); have GB7 := Aside0.mk gb7; have GG7 := Aside0.mk HG7; clear gb7 gl7 HG7; obtain ⟨hx7_0, hf7_0⟩ := Kd.R_celln false HO144.out (0 : Int) p7 q7; (try rw [show ((0 : Int)).toNat = 0 from rfl] at hx7_0); (try simp only [Nat.reduceMul, Nat.zero_mul, Nat.zero_add, Nat.reduceAdd] at hx7_0); (try rw [show ((0 : Int)).toNat = 0 from rfl] at hf7_0); (try simp only [Nat.reduceMul, Nat.zero_mul, Nat.zero_add, Nat.reduceAdd] at hf7_0); replace p7 := eq_true p7; replace q7 := eq_true q7; obtain ⟨hy10_, hz10_⟩ := Kd.R_celln false HO144.out (0 : Int) (by omega) (of_decide_eq_true (by first | (with_reducible assumption) | assumption)); (try simp only [Int.reduceToNat, Int.toNat_zero, Int.toNat_ofNat, Nat.reduceMul, Nat.zero_mul, Nat.zero_add] at hy10_ hz10_); (try rw [show ((0 : Int)).toNat = 0 from rfl] at hy10_); (try rw [show ((0 : Int)).toNat = 0 from rfl] at hz10_); have HP10 := Kd.R_putg HO144.out (0 : Int) true) | ((with_reducible refine gate_store (t := 4) (p := 18) rfl ?_); (try (rw [drewN_self w8]; generalize hq_ : World.drewN w8 _ = w8; have n0_ := Aside0.mk (Kd.R_at hq_ HO144.out); have n1_ := Aside0.mk (below_at hq_ HB.out); clear hq_ HO144 HB; have HO144 := n0_; have HB := n1_; clear n0_ n1_; (try (obtain ⟨hy10_, hz10_⟩ := Kd.R_celln false HO144.out (0 : Int) (by omega) (of_decide_eq_true (by first | (with_reducible assumption) | assumption)))); (try (try simp only [Int.reduceToNat, Int.toNat_zero, Int.toNat_ofNat, Nat.reduceMul, Nat.zero_mul, Nat.zero_add] at hy10_ hz10_)); (try (try rw [show ((0 : Int)).toNat = 0 from rfl] at hy10_)); (try (try rw [show ((0 : Int)).toNat = 0 from rfl] at hz10_)); (try (have HP10 := Kd.R_putg HO144.out (0 : Int) true)))); refine store_event (t := 4) (p := 18) (v := ?vo_w11) (w1 := (w8.setCell ⟨go7, (0 : Int).toNat, none⟩ (.bool true))) ?hg ?ho ?hn ?hr ?_; (case ho => rfl); (case hg => rfl); (case hn => rfl); (case hr => first | (go_simp; done) | (go_simp; rfl)); intro w11 hw; have hg : w8.grownBy w11 (some go7) := (by rw [hw]; exact HP10.2); have hp_ : Kd.R Kd.bool 4 w11 w.heap.size (fun _ => True) (.slice (some ⟨go7, 0, none⟩) y142.length co7) y145 := (by rw [hw, Ny145.out]; exact HP10.1); clear HP10; have n0_ := Aside0.mk (hp_); have n1_ := Aside0.mk ((by rw [hw]; exact below_set (HB.out) GB7.out : Below w.heap.size w w11)); clear HO144; clear HB; have HO144 := n0_; have HB := n1_; clear n0_ n1_; clear hg hw hp_)))
    go_loopg [6, 7] k (fun kq v6 v7 w' => ∃ (x6_1 : List Bool) (x7_1 : Int), v7 = .int .i64 x7_1 ∧ Aside0 (lockstepref01_like.l0 kq l0 l1 x6_1 x7_1 = some (r1, r2)) ∧ Aside0 (kq ≤ k) ∧ Aside0 (Kd.R Kd.bool 4 w' w.heap.size (fun _ => True) v6 x6_1) ∧ Aside0 (Below w.heap.size w w'))
    case atStart => exact ⟨(y145), (0), (by first | rfl | (simp; done) | (simp [*]; done)), H', ⟨Nat.le_refl _⟩, ⟨by (with_reducible repeat (first | apply Kd.R_alloc | apply Kd.R_drewN | apply Kd.R_drew)); exact HO144.out⟩, ⟨by repeat (first | (with_reducible first | exact HB.out | apply below_alloc | apply pw_below_drewN | apply below_drew1) | exact HB.out)⟩⟩
    case round =>
     clear H'
     (try clear c1); (try clear p2); (try clear c3); (try clear c4); (try clear c4b0); (try clear c4b1); (try clear c5); (try clear c5b0); (try clear c5b1); (try clear c6); (try clear c6b0); (try clear c6b1); (try clear p6); (try clear p7); (try clear q7); (try clear hx7); (try clear qi7); (try clear hf7); (try clear hx7_0); (try clear p7); (try clear q7)
     obtain ⟨x6_1, x7_1, rfl, HA, HK1, HO_6, HB⟩ := hrel
     cases gk with
     | zero => exact absurd HA.out (by simp [lockstepref01_like.l0])
     | succ k1 =>
      have H := HA.out
      clear HA
      simp only [lockstepref01_like.l0] at H
      by_cases c12 : x7_1 < (l1.length : Int)
      ·
       rw [if_pos c12] at H
       have c12b0 : decide (x7_1 < (l1.length : Int)) = true := decide_eq_true c12
       clear c12
       obtain ⟨ji13, hji13⟩ : ∃ j_ : Int, (wrap64 ((l0.length : Int) + 1)) = j_ := ⟨_, rfl⟩
       have ejj : ji13 = ji3 := hji13.symm.trans hji3
       subst ejj
       replace H : (if 0 ≤ (ji13) then (if (ji13 : Int).toNat ≤ 281474976710656 then ((some (List.replicate (ji13 : Int).toNat false : List Bool)).bind fun y147 => (if 0 ≤ x7_1 then (if (rd l1 x7_1) = 92 then (if (wrap64 (x7_1 + 1)) = (l1.length : Int) then (some (false, 3)) else (if 0 ≤ (wrap64 (x7_1 + 1)) then (if (wrap64 (x7_1 + 1)) < (l1.length : Int) then (lockstepref01_like.j1 k1 l0 l1 x6_1 (wrap64 (x7_1 + 1)) y147 (rd l1 (wrap64 (x7_1 + 1))) ((rd l1 x7_1) == 37) ((rd l1 x7_1) == 95)) else (none)) else (none))) else (lockstepref01_like.j1 k1 l0 l1 x6_1 x7_1 y147 (rd l1 x7_1) ((rd l1 x7_1) == 37) ((rd l1 x7_1) == 95))) else (none))) else (none)) else (none)) = some (r1, r2) := by first | (rw [hji13] at H; exact H) | (simp only [hji13] at H ⊢; exact H)
       have hji13w : (IntKind.i64.wrap ((l0.length : Int) + 1)) = ji13 := (i64_w _).trans hji13
       by_cases c14 : 0 ≤ (ji13)
       ·
        rw [if_pos c14] at H
        have c14b0 := eq_true c14
        have c14b1 : decide (0 ≤ (ji13)) = true := decide_eq_true c14
        clear c14
        by_cases c15 : (ji13 : Int).toNat ≤ 281474976710656
        ·
         rw [if_pos c15] at H
         have c15b0 := eq_true c15
         have c15b1 : decide ((ji13 : Int).toNat ≤ 281474976710656) = true := decide_eq_true c15
         clear c15
         obtain ⟨y147, hy147⟩ : ∃ y_ : List Bool, y_ = (List.replicate (ji13 : Int).toNat false) := ⟨_, rfl⟩
         replace H : (if 0 ≤ x7_1 then (if (rd l1 x7_1) = 92 then (if (wrap64 (x7_1 + 1)) = (l1.length : Int) then (some (false, 3)) else (if 0 ≤ (wrap64 (x7_1 + 1)) then (if (wrap64 (x7_1 + 1)) < (l1.length : Int) then (lockstepref01_like.j1 k1 l0 l1 x6_1 (wrap64 (x7_1 + 1)) y147 (rd l1 (wrap64 (x7_1 + 1))) ((rd l1 x7_1) == 37) ((rd l1 x7_1) == 95)) else (none)) else (none))) else (lockstepref01_like.j1 k1 l0 l1 x6_1 x7_1 y147 (rd l1 x7_1) ((rd l1 x7_1) == 37) ((rd l1 x7_1) == 95))) else (none)) = some (r1, r2) := by first | (rw [hy147]; with_reducible exact H) | (have H2_ := (Option.bind_some _ _).symm.trans H; rw [hy147]; with_reducible exact H2_) | (have H2_ := (Option.bind_some _ _).symm.trans H; with_reducible exact H2_) | with_reducible exact H | (rw [hy147]; exact H) | exact H
         have Ny147 := Aside0.mk hy147
         clear hy147
         by_cases c16 : 0 ≤ x7_1
         ·
          rw [if_pos c16] at H
          have c16b0 : decide (0 ≤ x7_1) = true := decide_eq_true c16
          clear c16
          have HC17 := Aside0.mk H
          clear H
          go_upto_if 44 with (first | ((with_reducible refine gate_dst (N := 28) rfl ?_); refine Kd.R_make Kd.bool _ 4 rfl (N := 28) rfl 74 _ _ rfl ji13 rfl rfl Tryd.underlying74 (.bool false) 1 info4 rfl (by decide) (by omega) false (ok := fun _ => True) (okp := fun _ => True) rfl (fun _ hk => hk) trivial (of_decide_eq_true (by first | (with_reducible assumption) | assumption)) (Nat.le_trans (Nat.mul_le_mul_right _ (of_decide_eq_true (by first | (with_reducible assumption) | assumption) : ji13.toNat ≤ 281474976710656)) (by omega)) (Below.refl _ _) (Nat.le_refl _) ?_; intro v148 w18 ho19 hb hg_ hnew_; clear hg_ hnew_; (first | rw [← Ny147.out] at ho19 | (simp only [Int.reduceToNat] at ho19; rw [← Ny147.out] at ho19)); have n0_ := Aside0.mk (Kd.R_elder' (by (with_reducible repeat (first | apply Kd.R_alloc | apply Kd.R_drewN | apply Kd.R_drew)); exact HO_6.out) (Kd.R_base ho19) hb); have n1_ := Aside0.mk (Kd.R_lower (Kd.R_new' ho19 (Kd.R_lt (by (with_reducible repeat (first | apply Kd.R_alloc | apply Kd.R_drewN | apply Kd.R_drew)); exact HO_6.out))) (below_size (by repeat (first | (with_reducible first | exact HB.out | apply below_alloc | apply pw_below_drewN | apply below_drew1) | exact HB.out)))); have n2_ := Aside0.mk (below_step (by repeat (first | (with_reducible first | exact HB.out | apply below_alloc | apply pw_below_drewN | apply below_drew1) | exact HB.out)) hb); clear HO_6; clear HB; have HO_6 := n0_; have HO149 := n1_; have HB := n2_; clear n0_ n1_ n2_; clear hb ho19; have p150 : 0 ≤ (x7_1 : Int) := of_decide_eq_true (by first | (with_reducible assumption) | assumption); have q150 : x7_1 < (l1.length : Int) := of_decide_eq_true (by first | (with_reducible assumption) | assumption); obtain ⟨ad150, e150, hx150_0⟩ := Kd.at_int HR1.out x7_1 p150 q150; cases e150; replace hx150_0 := (HB.out.cell (World.block_lt_of_cell? w _ hx150_0)).trans hx150_0; replace p150 := eq_true p150; replace q150 := eq_true q150; have p151 : 0 ≤ (x7_1 : Int) := of_decide_eq_true (by first | (with_reducible assumption) | assumption); have q151 : x7_1 < (l1.length : Int) := of_decide_eq_true (by first | (with_reducible assumption) | assumption); obtain ⟨ad151, e151, hx151_0⟩ := Kd.at_int HR1.out x7_1 p151 q151; obtain rfl : ad150 = ad151 := (by injection e151); replace hx151_0 := (HB.out.cell (World.block_lt_of_cell? w _ hx151_0)).trans hx151_0; replace p151 := eq_true p151; replace q151 := eq_true q151; have p152 : 0 ≤ (x7_1 : Int) := of_decide_eq_true (by first | (with_reducible assumption) | assumption); have q152 : x7_1 < (l1.length : Int) := of_decide_eq_true (by first | (with_reducible assumption) | assumption); obtain ⟨ad152, e152, hx152_0⟩ := Kd.at_int HR1.out x7_1 p152 q152; obtain rfl : ad150 = ad152 := (by injection e152); replace hx152_0 := (HB.out.cell (World.block_lt_of_cell? w _ hx152_0)).trans hx152_0; replace p152 := eq_true p152; replace q152 := eq_true q152))
          repeat ((with_reducible refine at_region ?_); go_quiet (first | ((with_reducible refine gate_dst (N := 28) rfl ?_); refine Kd.R_make Kd.bool _ 4 rfl (N := 28) rfl 74 _ _ rfl ji13 rfl rfl Tryd.underlying74 (.bool false) 1 info4 rfl (by decide) (by omega) false (ok := fun _ => True) (okp := fun _ => True) rfl (fun _ hk => hk) trivial (of_decide_eq_true (by first | (with_reducible assumption) | assumption)) (Nat.le_trans (Nat.mul_le_mul_right _ (of_decide_eq_true (by first | (with_reducible assumption) | assumption) : ji13.toNat ≤ 281474976710656)) (by omega)) (Below.refl _ _) (Nat.le_refl _) ?_; intro v148 w18 ho19 hb hg_ hnew_; clear hg_ hnew_; (first | rw [← Ny147.out] at ho19 | (simp only [Int.reduceToNat] at ho19; rw [← Ny147.out] at ho19)); have n0_ := Aside0.mk (Kd.R_elder' (by (with_reducible repeat (first | apply Kd.R_alloc | apply Kd.R_drewN | apply Kd.R_drew)); exact HO_6.out) (Kd.R_base ho19) hb); have n1_ := Aside0.mk (Kd.R_lower (Kd.R_new' ho19 (Kd.R_lt (by (with_reducible repeat (first | apply Kd.R_alloc | apply Kd.R_drewN | apply Kd.R_drew)); exact HO_6.out))) (below_size (by repeat (first | (with_reducible first | exact HB.out | apply below_alloc | apply pw_below_drewN | apply below_drew1) | exact HB.out)))); have n2_ := Aside0.mk (below_step (by repeat (first | (with_reducible first | exact HB.out | apply below_alloc | apply pw_below_drewN | apply below_drew1) | exact HB.out)) hb); clear HO_6; clear HB; have HO_6 := n0_; have HO149 := n1_; have HB := n2_; clear n0_ n1_ n2_; clear hb ho19; have p150 : 0 ≤ (x7_1 : Int) := of_decide_eq_true (by first | (with_reducible assumption) | assumption); have q150 : x7_1 < (l1.length : Int) := of_decide_eq_true (by first | (with_reducible assumption) | assumption); obtain ⟨ad150, e150, hx150_0⟩ := Kd.at_int HR1.out x7_1 p150 q150; cases e150; replace hx150_0 := (HB.out.cell (World.block_lt_of_cell? w _ hx150_0)).trans hx150_0; replace p150 := eq_true p150; replace q150 := eq_true q150; have p151 : 0 ≤ (x7_1 : Int) := of_decide_eq_true (by first | (with_reducible assumption) | assumption); have q151 : x7_1 < (l1.length : Int) := of_decide_eq_true (by first | (with_reducible assumption) | assumption); obtain ⟨ad151, e151, hx151_0⟩ := Kd.at_int HR1.out x7_1 p151 q151; obtain rfl : ad150 = ad151 := (by injection e151); replace hx151_0 := (HB.out.cell (World.block_lt_of_cell? w _ hx151_0)).trans hx151_0; replace p151 := eq_true p151; replace q151 := eq_true q151; have p152 : 0 ≤ (x7_1 : Int) := of_decide_eq_true (by first | (with_reducible assumption) | assumption); have q152 : x7_1 < (l1.length : Int) := of_decide_eq_true (by first | (with_reducible assumption) | assumption); obtain ⟨ad152, e152, hx152_0⟩ := Kd.at_int HR1.out x7_1 p152 q152; obtain rfl : ad150 = ad152 := (by injection e152); replace hx152_0 := (HB.out.cell (World.block_lt_of_cell? w _ hx152_0)).trans hx152_0; replace p152 := eq_true p152; replace q152 := eq_true q152)); go_upto_if 44 with (first | ((with_reducible refine gate_dst (N := 28) rfl ?_); refine Kd.R_make Kd.bool _ 4 rfl (N := 28) rfl 74 _ _ rfl ji13 rfl rfl Tryd.underlying74 (.bool false) 1 info4 rfl (by decide) (by omega) false (ok := fun _ => True) (okp := fun _ => True) rfl (fun _ hk => hk) trivial (of_decide_eq_true (by first | (with_reducible assumption) | assumption)) (Nat.le_trans (Nat.mul_le_mul_right _ (of_decide_eq_true (by first | (with_reducible assumption) | assumption) : ji13.toNat ≤ 281474976710656)) (by omega)) (Below.refl _ _) (Nat.le_refl _) ?_; intro v148 w18 ho19 hb hg_ hnew_; clear hg_ hnew_; (first | rw [← Ny147.out] at ho19 | (simp only [Int.reduceToNat] at ho19; rw [← Ny147.out] at ho19)); have n0_ := Aside0.mk (Kd.R_elder' (by (with_reducible repeat (first | apply Kd.R_alloc | apply Kd.R_drewN | apply Kd.R_drew)); exact HO_6.out) (Kd.R_base ho19) hb); have n1_ := Aside0.mk (Kd.R_lower (Kd.R_new' ho19 (Kd.R_lt (by (with_reducible repeat (first | apply Kd.R_alloc | apply Kd.R_drewN | apply Kd.R_drew)); exact HO_6.out))) (below_size (by repeat (first | (with_reducible first | exact HB.out | apply below_alloc | apply pw_below_drewN | apply below_drew1) | exact HB.out)))); have n2_ := Aside0.mk (below_step (by repeat (first | (with_reducible first | exact HB.out | apply below_alloc | apply pw_below_drewN | apply below_drew1) | exact HB.out)) hb); clear HO_6; clear HB; have HO_6 := n0_; have HO149 := n1_; have HB := n2_; clear n0_ n1_ n2_; clear hb ho19; have p150 : 0 ≤ (x7_1 : Int) := of_decide_eq_true (by first | (with_reducible assumption) | assumption); have q150 : x7_1 < (l1.length : Int) := of_decide_eq_true (by first | (with_reducible assumption) | assumption); obtain ⟨ad150, e150, hx150_0⟩ := Kd.at_int HR1.out x7_1 p150 q150; cases e150; replace hx150_0 := (HB.out.cell (World.block_lt_of_cell? w _ hx150_0)).trans hx150_0; replace p150 := eq_true p150; replace q150 := eq_true q150; have p151 : 0 ≤ (x7_1 : Int) := of_decide_eq_true (by first | (with_reducible assumption) | assumption); have q151 : x7_1 < (l1.length : Int) := of_decide_eq_true (by first | (with_reducible assumption) | assumption); obtain ⟨ad151, e151, hx151_0⟩ := Kd.at_int HR1.out x7_1 p151 q151; obtain rfl : ad150 = ad151 := (by injection e151); replace hx151_0 := (HB.out.cell (World.block_lt_of_cell? w _ hx151_0)).trans hx151_0; replace p151 := eq_true p151; replace q151 := eq_true q151; have p152 : 0 ≤ (x7_1 : Int) := of_decide_eq_true (by first | (with_reducible assumption) | assumption); have q152 : x7_1 < (l1.length : Int) := of_decide_eq_true (by first | (with_reducible assumption) | assumption); obtain ⟨ad152, e152, hx152_0⟩ := Kd.at_int HR1.out x7_1 p152 q152; obtain rfl : ad150 = ad152 := (by injection e152); replace hx152_0 := (HB.out.cell (World.block_lt_of_cell? w _ hx152_0)).trans hx152_0; replace p152 := eq_true p152; replace q152 := eq_true q152)))
          (try simp only [Act.put, List.setIfInBounds_toArray, List.set_cons_zero, List.set_cons_succ])
          obtain ⟨b10, hb10⟩ : ∃ b_ : Bool, ((rd l1 x7_1) == 37) = b_ := ⟨_, rfl⟩
          obtain ⟨b11, hb11⟩ : ∃ b_ : Bool, ((rd l1 x7_1) == 95) = b_ := ⟨_, rfl⟩
          have HCn := HC17.out
          rw [hb10, hb11] at HCn
          clear HC17
          have HC17 := Aside0.mk HCn
          clear HCn
          rw [hb10, hb11]
          have HB10 := Aside0.mk hb10
          have HB11 := Aside0.mk hb11
          clear hb10 hb11
          go_cut [7, 9] (fun v7 v9 wc => ∃ (kq : Nat) (x7_16 : Int) (x9_16 : Int), v7 = .int .i64 x7_16 ∧ v9 = .int .i32 x9_16 ∧ Aside0 (lockstepref01_like.j1 kq l0 l1 x6_1 x7_16 y147 x9_16 b10 b11 = some (r1, r2)) ∧ Aside0 (kq ≤ k1) ∧ Aside0 (Kd.R Kd.bool 4 wc w.heap.size (fun k_ => some k_ ≠ (v148 : Value).ownBlock) u6 x6_1) ∧ Aside0 (Kd.R Kd.bool 4 wc w.heap.size (fun k_ => some k_ ≠ (u6 : Value).ownBlock) v148 y147) ∧ Aside0 (Below w.heap.size w wc))
          case first =>
           have H := HC17.out
           clear HC17
           by_cases c20 : (rd l1 x7_1) = 92
           ·
            rw [if_pos c20] at H
            have c20b0 : ((rd l1 x7_1) == 92) = true := beq_iff_eq.mpr c20
            have c20b1 : ((rd l1 x7_1) != 92) = false := bne_eq_false_iff_eq.mpr c20
            clear c20
            (first | rw [c20b0] | (simp only [i64_w, i32_w]; rw [c20b0]) | skip)
            by_cases c21 : (wrap64 (x7_1 + 1)) = (l1.length : Int)
            ·
             rw [if_pos c21] at H
             have c21b0 : ((wrap64 (x7_1 + 1)) == (l1.length : Int)) = true := beq_iff_eq.mpr c21
             have c21b1 : ((wrap64 (x7_1 + 1)) != (l1.length : Int)) = false := bne_eq_false_iff_eq.mpr c21
             clear c21
             simp only [Option.some.injEq, Prod.mk.injEq] at H
             obtain ⟨rfl, rfl⟩ := H
             go_wp2
             repeat ((with_reducible refine at_region ?_); go_quiet (fail); try go_wp2)
             go_ret2
             exact ⟨by first | rfl | (simp [errW_none, errW_some] <;> rfl) | (simp only [← hji3, ← hji13]; first | rfl | (simp [errW_none, errW_some] <;> rfl)) | (simp [*, errW_none, errW_some] <;> rfl), by repeat (first | (with_reducible first | exact HB.out | apply below_alloc | apply pw_below_drewN | apply below_drew1) | exact HB.out)⟩
            ·
             rw [if_neg c21] at H
             have c21b0 : ((wrap64 (x7_1 + 1)) == (l1.length : Int)) = false := beq_eq_false_iff_ne.mpr c21
             have c21b1 : ((wrap64 (x7_1 + 1)) != (l1.length : Int)) = true := bne_iff_ne.mpr c21
             obtain ⟨ji22, hji22⟩ : ∃ j_ : Int, (wrap64 (x7_1 + 1)) = j_ := ⟨_, rfl⟩
             replace H : (if 0 ≤ (ji22) then (if (ji22) < (l1.length : Int) then (lockstepref01_like.j1 k1 l0 l1 x6_1 ji22 y147 (rd l1 (ji22)) b10 b11) else (none)) else (none)) = some (r1, r2) := by first | (rw [hji22] at H; exact H) | (simp only [hji22] at H ⊢; exact H)
             (try rw [hji22] at c21b0)
             (try rw [hji22] at c21b1)
             have hji22w : (IntKind.i64.wrap (x7_1 + 1)) = ji22 := (i64_w _).trans hji22
             by_cases c23 : 0 ≤ (ji22)
             ·
              rw [if_pos c23] at H
              have c23b0 : decide (0 ≤ (ji22)) = true := decide_eq_true c23
              clear c23
              by_cases c24 : (ji22) < (l1.length : Int)
              ·
               rw [if_pos c24] at H
               have c24b0 : decide ((ji22) < (l1.length : Int)) = true := decide_eq_true c24
               clear c24
               have H' := Aside0.mk H
               clear H
               have p153 : 0 ≤ ((ji22) : Int) := of_decide_eq_true (by first | (with_reducible assumption) | assumption)
               have q153 : (ji22) < (l1.length : Int) := of_decide_eq_true (by first | (with_reducible assumption) | assumption)
               obtain ⟨ad153, e153, hx153_0⟩ := Kd.at_int HR1.out (ji22) p153 q153
               obtain rfl : ad150 = ad153 := (by injection e153)
               replace hx153_0 := (HB.out.cell (World.block_lt_of_cell? w _ hx153_0)).trans hx153_0
               replace p153 := eq_true p153
               replace q153 := eq_true q153
               go_wp2
               repeat ((with_reducible refine at_region ?_); go_quiet (fail); try go_wp2)
               go_meet
               case rel => exact ⟨_, (ji22), (rd l1 (ji22)), (by first | rfl | (simp; done) | (simp only [← hji22] <;> (first | rfl | simp)) | (simp [*]; done)), (by first | rfl | (simp; done) | (simp only [← hji22] <;> (first | rfl | simp)) | (simp [*]; done)), H', ⟨by have := HK1.out; first | omega | exact Nat.le_refl _⟩, ⟨by (with_reducible repeat (first | apply Kd.R_alloc | apply Kd.R_drewN | apply Kd.R_drew)); exact Kd.R_mono HO_6.out (fun _ hk => hk.2)⟩, ⟨by (with_reducible repeat (first | apply Kd.R_alloc | apply Kd.R_drewN | apply Kd.R_drew)); exact Kd.R_mono HO149.out (fun _ hk => hk.2)⟩, ⟨by repeat (first | (with_reducible first | exact HB.out | apply below_alloc | apply pw_below_drewN | apply below_drew1) | exact HB.out)⟩⟩
              ·
               rw [if_neg c24] at H
               exact absurd H (by simp)
             ·
              rw [if_neg c23] at H
              exact absurd H (by simp)
           ·
            rw [if_neg c20] at H
            have c20b0 : ((rd l1 x7_1) == 92) = false := beq_eq_false_iff_ne.mpr c20
            have c20b1 : ((rd l1 x7_1) != 92) = true := bne_iff_ne.mpr c20
            (first | rw [c20b0] | (simp only [i64_w, i32_w]; rw [c20b0]) | skip)
            have H' := Aside0.mk H
            clear H
            go_wp2
            repeat ((with_reducible refine at_region ?_); go_quiet (fail); try go_wp2)
            go_meet
            case rel => exact ⟨_, (x7_1), (rd l1 x7_1), (by first | rfl | (simp; done) | (simp [*]; done)), (by first | rfl | (simp; done) | (simp [*]; done)), H', ⟨by have := HK1.out; first | omega | exact Nat.le_refl _⟩, ⟨by (with_reducible repeat (first | apply Kd.R_alloc | apply Kd.R_drewN | apply Kd.R_drew)); exact Kd.R_mono HO_6.out (fun _ hk => hk.2)⟩, ⟨by (with_reducible repeat (first | apply Kd.R_alloc | apply Kd.R_drewN | apply Kd.R_drew)); exact Kd.R_mono HO149.out (fun _ hk => hk.2)⟩, ⟨by repeat (first | (with_reducible first | exact HB.out | apply below_alloc | apply pw_below_drewN | apply below_drew1) | exact HB.out)⟩⟩
          case rest =>
           clear HC17
           (try clear c1); (try clear p1); (try clear q1); (try clear hx1); (try clear c2); (try clear p2); (try clear c3); (try clear c4); (try clear c4b0); (try clear c4b1); (try clear c5); (try clear c5b0); (try clear c5b1); (try clear c6); (try clear c6b0); (try clear c6b1); (try clear p6); (try clear p7); (try clear q7); (try clear hx7); (try clear qi7); (try clear hf7); (try clear c12); (try clear c12b0)
           (try clear c14); (try clear c14b0); (try clear c14b1); (try clear c15); (try clear c15b0); (try clear c15b1); (try clear p15); (try clear q15); (try clear hx15); (try clear c16); (try clear c16b0); (try clear c20); (try clear c20b0); (try clear c20b1); (try clear c21); (try clear c21b0); (try clear c21b1); (try clear c23); (try clear c23b0); (try clear c24); (try clear c24b0); (try clear hx150_0); (try clear hx151_0)
           (try clear hx152_0); (try clear hx153_0); (try clear hx7_0); (try clear p150); (try clear p151); (try clear p152); (try clear p153); (try clear p2); (try clear p6); (try clear p7); (try clear q150); (try clear q151); (try clear q152); (try clear q153); (try clear q7)
           obtain ⟨kq, x7_16, x9_16, rfl, rfl, HA, HJ16, HO_6, HO_8, HB⟩ := hcut
           cases kq with
           | zero => exact absurd HA.out (by simp [lockstepref01_like.j1])
           | succ kj16 =>
            have H := HA.out
            clear HA
            simp only [lockstepref01_like.j1] at H
            have HC25 := Aside0.mk H
            clear H
            go_upto_region 13 with (fail)
            repeat ((with_reducible refine at_region ?_); go_quiet (fail); go_upto_region 13 with (fail))
            go_cut [] (fun wc => ∃ (kq : Nat) (x8_24 : List Bool), Aside0 (lockstepref01_like.j2 kq l0 l1 x6_1 x7_16 x8_24 x9_16 b10 b11 = some (r1, r2)) ∧ Aside0 (kq ≤ kj16) ∧ Aside0 (Kd.R Kd.bool 4 wc w.heap.size (fun k_ => some k_ ≠ (v148 : Value).ownBlock) u6 x6_1) ∧ Aside0 (Kd.R Kd.bool 4 wc w.heap.size (fun k_ => some k_ ≠ (u6 : Value).ownBlock) v148 x8_24) ∧ Aside0 (Below w.heap.size w wc))
            case first =>
             have H := HC25.out
             clear HC25
             by_cases c26 : b10 = true
             ·
              rw [if_pos c26] at H
              subst c26
              by_cases c27 : 0 < (x6_1.length : Int)
              ·
               rw [if_pos c27] at H
               have c27b0 : decide (0 < (x6_1.length : Int)) = true := decide_eq_true c27
               have c27b1 : decide (0 < x6_1.length) = true := decide_eq_true (by omega)
               clear c27
               by_cases c28 : 0 < (y147.length : Int)
               ·
                rw [if_pos c28] at H
                have c28b0 : decide (0 < (y147.length : Int)) = true := decide_eq_true c28
                have c28b1 : decide (0 < y147.length) = true := decide_eq_true (by omega)
                clear c28
                obtain ⟨y155, hy155⟩ : ∃ y_ : List Bool, y_ = (y147.set (0 : Int).toNat (rdOf false x6_1 0)) := ⟨_, rfl⟩
                replace H : (lockstepref01_like.j2 kj16 l0 l1 x6_1 x7_16 y155 x9_16 true b11) = some (r1, r2) := by first | (rw [hy155]; with_reducible exact H) | (have H2_ := (Option.bind_some _ _).symm.trans H; rw [hy155]; with_reducible exact H2_) | (have H2_ := (Option.bind_some _ _).symm.trans H; with_reducible exact H2_) | with_reducible exact H | (rw [hy155]; exact H) | exact H
                have Ny155 := Aside0.mk hy155
                clear hy155
                have H' := Aside0.mk H
                clear H
                obtain ⟨Ao30, co30, eo30⟩ := Kd.R_slice HO_6.out
                subst eo30
                have p154 : 0 ≤ (0 : Int) := (by omega)
                have q154 : 0 < (x6_1.length : Int) := of_decide_eq_true (by first | (with_reducible assumption) | assumption)
                obtain ⟨ad154, e154, hx154_0⟩ := Kd.at_bool (Kd.R_reads' HO_6.out).2.2 0 p154 q154
                cases e154
                have qi154 : (0 < x6_1.length) = True := eq_true (by omega)
                (try rw [show ((0 : Int)).toNat = 0 from rfl] at hx154_0)
                (try rw [Addr.add_zero'] at hx154_0)
                replace p154 := eq_true p154
                replace q154 := eq_true q154
                have p29 : 0 ≤ (0 : Int) := (by omega)
                have q29 : (0 : Int) < ((y147.length : Int) : Int) := of_decide_eq_true (by first | (with_reducible assumption) | assumption)
                have qi29 : (0 < y147.length) = True := eq_true (by omega)
                obtain ⟨go29, co29, eo29, gb29, gl29, cl29, HG29⟩ := Kd.R_form HO_8.out (by omega)
                (first | cases eo29 | (injection eo29 with ea_ en_ ec_; (first | subst ea_ | (injection ea_ with ea_; subst ea_)); subst ec_; clear en_))
                have GB29 := Aside0.mk gb29
                have GG29 := Aside0.mk HG29
                clear gb29 gl29 HG29
                obtain ⟨hx29_0, hf29_0⟩ := Kd.R_celln false HO_8.out (0 : Int) p29 q29
                (try rw [show ((0 : Int)).toNat = 0 from rfl] at hx29_0)
                (try simp only [Nat.reduceMul, Nat.zero_mul, Nat.zero_add, Nat.reduceAdd] at hx29_0)
                (try rw [show ((0 : Int)).toNat = 0 from rfl] at hf29_0)
                (try simp only [Nat.reduceMul, Nat.zero_mul, Nat.zero_add, Nat.reduceAdd] at hf29_0)
                replace p29 := eq_true p29
                replace q29 := eq_true q29
                have HP31 := Kd.R_putg HO_8.out (0 : Int) (rdOf false x6_1 0)
                go_wp2_with (first | ((with_reducible refine gate_store (t := 4) (p := 62) rfl ?_); (try (rw [drewN_self wc]; generalize hq_ : World.drewN wc _ = wc; have n0_ := Aside0.mk (Kd.R_at hq_ HO_6.out); have n1_ := Aside0.mk (Kd.R_at hq_ HO_8.out); have n2_ := Aside0.mk (below_at hq_ HB.out); clear hq_ HO_6 HO_8 HB; have HO_6 := n0_; have HO_8 := n1_; have HB := n2_; clear n0_ n1_ n2_; (try (have HP31 := Kd.R_putg HO_8.out (0 : Int) (rdOf false x6_1 0))))); refine store_event (t := 4) (p := 62) (v := ?vo_w32) (w1 := (wc.setCell ⟨go29, (0 : Int).toNat, none⟩ (.bool (rdOf false x6_1 0)))) ?hg ?ho ?hn ?hr ?_; (case ho => rfl); (case hg => rfl); (case hn => rfl); (case hr => first | (go_simp; done) | (go_simp; rfl)); intro w32 hw; have hg : wc.grownBy w32 (some go29) := (by rw [hw]; exact HP31.2); have hp_ : Kd.R Kd.bool 4 w32 w.heap.size (fun k_ => some k_ ≠ (.slice (some ad154) x6_1.length co30 : Value).ownBlock) (.slice (some ⟨go29, 0, none⟩) y147.length co29) y155 := (by rw [hw, Ny155.out]; exact HP31.1); clear HP31; have n0_ := Aside0.mk (Kd.R_after (v := (.slice (some ⟨go29, 0, none⟩) y147.length co29)) (v1 := (.slice (some ⟨go29, 0, none⟩) y147.length co29)) (ok := (fun _ => True)) (by (with_reducible repeat (first | apply Kd.R_alloc | apply Kd.R_drewN | apply Kd.R_drew)); exact Kd.R_mono HO_6.out (fun _ hk => ⟨trivial, hk⟩)) hg (.inl rfl)); have n1_ := Aside0.mk (hp_); have n2_ := Aside0.mk ((by rw [hw]; exact below_set (HB.out) GB29.out : Below w.heap.size w w32)); clear HO_6; clear HO_8; clear HB; have HO_6 := n0_; have HO_8 := n1_; have HB := n2_; clear n0_ n1_ n2_; clear hg hw hp_))
                repeat ((with_reducible refine at_region ?_); go_quiet (first | ((with_reducible refine gate_store (t := 4) (p := 62) rfl ?_); (try (rw [drewN_self wc]; generalize hq_ : World.drewN wc _ = wc; have n0_ := Aside0.mk (Kd.R_at hq_ HO_6.out); have n1_ := Aside0.mk (Kd.R_at hq_ HO_8.out); have n2_ := Aside0.mk (below_at hq_ HB.out); clear hq_ HO_6 HO_8 HB; have HO_6 := n0_; have HO_8 := n1_; have HB := n2_; clear n0_ n1_ n2_; (try (have HP31 := Kd.R_putg HO_8.out (0 : Int) (rdOf false x6_1 0))))); refine store_event (t := 4) (p := 62) (v := ?vo_w32) (w1 := (wc.setCell ⟨go29, (0 : Int).toNat, none⟩ (.bool (rdOf false x6_1 0)))) ?hg ?ho ?hn ?hr ?_; (case ho => rfl); (case hg => rfl); (case hn => rfl); (case hr => first | (go_simp; done) | (go_simp; rfl)); intro w32 hw; have hg : wc.grownBy w32 (some go29) := (by rw [hw]; exact HP31.2); have hp_ : Kd.R Kd.bool 4 w32 w.heap.size (fun k_ => some k_ ≠ (.slice (some ad154) x6_1.length co30 : Value).ownBlock) (.slice (some ⟨go29, 0, none⟩) y147.length co29) y155 := (by rw [hw, Ny155.out]; exact HP31.1); clear HP31; have n0_ := Aside0.mk (Kd.R_after (v := (.slice (some ⟨go29, 0, none⟩) y147.length co29)) (v1 := (.slice (some ⟨go29, 0, none⟩) y147.length co29)) (ok := (fun _ => True)) (by (with_reducible repeat (first | apply Kd.R_alloc | apply Kd.R_drewN | apply Kd.R_drew)); exact Kd.R_mono HO_6.out (fun _ hk => ⟨trivial, hk⟩)) hg (.inl rfl)); have n1_ := Aside0.mk (hp_); have n2_ := Aside0.mk ((by rw [hw]; exact below_set (HB.out) GB29.out : Below w.heap.size w w32)); clear HO_6; clear HO_8; clear HB; have HO_6 := n0_; have HO_8 := n1_; have HB := n2_; clear n0_ n1_ n2_; clear hg hw hp_)); try go_wp2_with (first | ((with_reducible refine gate_store (t := 4) (p := 62) rfl ?_); (try (rw [drewN_self wc]; generalize hq_ : World.drewN wc _ = wc; have n0_ := Aside0.mk (Kd.R_at hq_ HO_6.out); have n1_ := Aside0.mk (Kd.R_at hq_ HO_8.out); have n2_ := Aside0.mk (below_at hq_ HB.out); clear hq_ HO_6 HO_8 HB; have HO_6 := n0_; have HO_8 := n1_; have HB := n2_; clear n0_ n1_ n2_; (try (have HP31 := Kd.R_putg HO_8.out (0 : Int) (rdOf false x6_1 0))))); refine store_event (t := 4) (p := 62) (v := ?vo_w32) (w1 := (wc.setCell ⟨go29, (0 : Int).toNat, none⟩ (.bool (rdOf false x6_1 0)))) ?hg ?ho ?hn ?hr ?_; (case ho => rfl); (case hg => rfl); (case hn => rfl); (case hr => first | (go_simp; done) | (go_simp; rfl)); intro w32 hw; have hg : wc.grownBy w32 (some go29) := (by rw [hw]; exact HP31.2); have hp_ : Kd.R Kd.bool 4 w32 w.heap.size (fun k_ => some k_ ≠ (.slice (some ad154) x6_1.length co30 : Value).ownBlock) (.slice (some ⟨go29, 0, none⟩) y147.length co29) y155 := (by rw [hw, Ny155.out]; exact HP31.1); clear HP31; have n0_ := Aside0.mk (Kd.R_after (v := (.slice (some ⟨go29, 0, none⟩) y147.length co29)) (v1 := (.slice (some ⟨go29, 0, none⟩) y147.length co29)) (ok := (fun _ => True)) (by (with_reducible repeat (first | apply Kd.R_alloc | apply Kd.R_drewN | apply Kd.R_drew)); exact Kd.R_mono HO_6.out (fun _ hk => ⟨trivial, hk⟩)) hg (.inl rfl)); have n1_ := Aside0.mk (hp_); have n2_ := Aside0.mk ((by rw [hw]; exact below_set (HB.out) GB29.out : Below w.heap.size w w32)); clear HO_6; clear HO_8; clear HB; have HO_6 := n0_; have HO_8 := n1_; have HB := n2_; clear n0_ n1_ n2_; clear hg hw hp_)))
                go_meet
                case rel => exact ⟨_, (y155), H', ⟨by have := HK1.out; have := HJ16.out; first | omega | exact Nat.le_refl _⟩, ⟨by (with_reducible repeat (first | apply Kd.R_alloc | apply Kd.R_drewN | apply Kd.R_drew)); exact Kd.R_mono HO_6.out (fun _ hk => hk.2)⟩, ⟨by (with_reducible repeat (first | apply Kd.R_alloc | apply Kd.R_drewN | apply Kd.R_drew)); exact HO_8.out⟩, ⟨by repeat (first | (with_reducible first | exact HB.out | apply below_alloc | apply pw_below_drewN | apply below_drew1) | exact HB.out)⟩⟩
               ·
                rw [if_neg c28] at H
                exact absurd H (by simp)
              ·
               rw [if_neg c27] at H
               exact absurd H (by simp)
             ·
              rw [if_neg c26] at H
              replace c26 := Bool.eq_false_iff.mpr c26
              subst c26
              by_cases c33 : 0 < (y147.length : Int)
              ·
               rw [if_pos c33] at H
               have c33b0 : decide (0 < (y147.length : Int)) = true := decide_eq_true c33
               have c33b1 : decide (0 < y147.length) = true := decide_eq_true (by omega)
               clear c33
               obtain ⟨y156, hy156⟩ : ∃ y_ : List Bool, y_ = (y147.set (0 : Int).toNat false) := ⟨_, rfl⟩
               replace H : (lockstepref01_like.j2 kj16 l0 l1 x6_1 x7_16 y156 x9_16 false b11) = some (r1, r2) := by first | (rw [hy156]; with_reducible exact H) | (have H2_ := (Option.bind_some _ _).symm.trans H; rw [hy156]; with_reducible exact H2_) | (have H2_ := (Option.bind_some _ _).symm.trans H; with_reducible exact H2_) | with_reducible exact H | (rw [hy156]; exact H) | exact H
               have Ny156 := Aside0.mk hy156
               clear hy156
               have H' := Aside0.mk H
               clear H
               have p34 : 0 ≤ (0 : Int) := (by omega)
               have q34 : (0 : Int) < ((y147.length : Int) : Int) := of_decide_eq_true (by first | (with_reducible assumption) | assumption)
               have qi34 : (0 < y147.length) = True := eq_true (by omega)
               obtain ⟨go34, co34, eo34, gb34, gl34, cl34, HG34⟩ := Kd.R_form HO_8.out (by omega)
               (first | cases eo34 | (injection eo34 with ea_ en_ ec_; (first | subst ea_ | (injection ea_ with ea_; subst ea_)); subst ec_; clear en_))
               have GB34 := Aside0.mk gb34
               have GG34 := Aside0.mk HG34
               clear gb34 gl34 HG34
               obtain ⟨hx34_0, hf34_0⟩ := Kd.R_celln false HO_8.out (0 : Int) p34 q34
               (try rw [show ((0 : Int)).toNat = 0 from rfl] at hx34_0)
               (try simp only [Nat.reduceMul, Nat.zero_mul, Nat.zero_add, Nat.reduceAdd] at hx34_0)
               (try rw [show ((0 : Int)).toNat = 0 from rfl] at hf34_0)
               (try simp only [Nat.reduceMul, Nat.zero_mul, Nat.zero_add, Nat.reduceAdd] at hf34_0)
               replace p34 := eq_true p34
               replace q34 := eq_true q34
               have HP35 := Kd.R_putg HO_8.out (0 : Int) false
               go_wp2_with (first | ((with_reducible refine gate_store (t := 4) (p := 62) rfl ?_); (try (rw [drewN_self wc]; generalize hq_ : World.drewN wc _ = wc; have n0_ := Aside0.mk (Kd.R_at hq_ HO_6.out); have n1_ := Aside0.mk (Kd.R_at hq_ HO_8.out); have n2_ := Aside0.mk (below_at hq_ HB.out); clear hq_ HO_6 HO_8 HB; have HO_6 := n0_; have HO_8 := n1_; have HB := n2_; clear n0_ n1_ n2_; (try (have HP35 := Kd.R_putg HO_8.out (0 : Int) false)))); refine store_event (t := 4) (p := 62) (v := ?vo_w36) (w1 := (wc.setCell ⟨go34, (0 : Int).toNat, none⟩ (.bool false))) ?hg ?ho ?hn ?hr ?_; (case ho => rfl); (case hg => rfl); (case hn => rfl); (case hr => first | (go_simp; done) | (go_simp; rfl)); intro w36 hw; have hg : wc.grownBy w36 (some go34) := (by rw [hw]; exact HP35.2); have hp_ : Kd.R Kd.bool 4 w36 w.heap.size (fun k_ => some k_ ≠ (u6 : Value).ownBlock) (.slice (some ⟨go34, 0, none⟩) y147.length co34) y156 := (by rw [hw, Ny156.out]; exact HP35.1); clear HP35; have n0_ := Aside0.mk (Kd.R_after (v := (.slice (some ⟨go34, 0, none⟩) y147.length co34)) (v1 := (.slice (some ⟨go34, 0, none⟩) y147.length co34)) (ok := (fun _ => True)) (by (with_reducible repeat (first | apply Kd.R_alloc | apply Kd.R_drewN | apply Kd.R_drew)); exact Kd.R_mono HO_6.out (fun _ hk => ⟨trivial, hk⟩)) hg (.inl rfl)); have n1_ := Aside0.mk (hp_); have n2_ := Aside0.mk ((by rw [hw]; exact below_set (HB.out) GB34.out : Below w.heap.size w w36)); clear HO_6; clear HO_8; clear HB; have HO_6 := n0_; have HO_8 := n1_; have HB := n2_; clear n0_ n1_ n2_; clear hg hw hp_))
               repeat ((with_reducible refine at_region ?_); go_quiet (first | ((with_reducible refine gate_store (t := 4) (p := 62) rfl ?_); (try (rw [drewN_self wc]; generalize hq_ : World.drewN wc _ = wc; have n0_ := Aside0.mk (Kd.R_at hq_ HO_6.out); have n1_ := Aside0.mk (Kd.R_at hq_ HO_8.out); have n2_ := Aside0.mk (below_at hq_ HB.out); clear hq_ HO_6 HO_8 HB; have HO_6 := n0_; have HO_8 := n1_; have HB := n2_; clear n0_ n1_ n2_; (try (have HP35 := Kd.R_putg HO_8.out (0 : Int) false)))); refine store_event (t := 4) (p := 62) (v := ?vo_w36) (w1 := (wc.setCell ⟨go34, (0 : Int).toNat, none⟩ (.bool false))) ?hg ?ho ?hn ?hr ?_; (case ho => rfl); (case hg => rfl); (case hn => rfl); (case hr => first | (go_simp; done) | (go_simp; rfl)); intro w36 hw; have hg : wc.grownBy w36 (some go34) := (by rw [hw]; exact HP35.2); have hp_ : Kd.R Kd.bool 4 w36 w.heap.size (fun k_ => some k_ ≠ (u6 : Value).ownBlock) (.slice (some ⟨go34, 0, none⟩) y147.length co34) y156 := (by rw [hw, Ny156.out]; exact HP35.1); clear HP35; have n0_ := Aside0.mk (Kd.R_after (v := (.slice (some ⟨go34, 0, none⟩) y147.length co34)) (v1 := (.slice (some ⟨go34, 0, none⟩) y147.length co34)) (ok := (fun _ => True)) (by (with_reducible repeat (first | apply Kd.R_alloc | apply Kd.R_drewN | apply Kd.R_drew)); exact Kd.R_mono HO_6.out (fun _ hk => ⟨trivial, hk⟩)) hg (.inl rfl)); have n1_ := Aside0.mk (hp_); have n2_ := Aside0.mk ((by rw [hw]; exact below_set (HB.out) GB34.out : Below w.heap.size w w36)); clear HO_6; clear HO_8; clear HB; have HO_6 := n0_; have HO_8 := n1_; have HB := n2_; clear n0_ n1_ n2_; clear hg hw hp_)); try go_wp2_with (first | ((with_reducible refine gate_store (t := 4) (p := 62) rfl ?_); (try (rw [drewN_self wc]; generalize hq_ : World.drewN wc _ = wc; have n0_ := Aside0.mk (Kd.R_at hq_ HO_6.out); have n1_ := Aside0.mk (Kd.R_at hq_ HO_8.out); have n2_ := Aside0.mk (below_at hq_ HB.out); clear hq_ HO_6 HO_8 HB; have HO_6 := n0_; have HO_8 := n1_; have HB := n2_; clear n0_ n1_ n2_; (try (have HP35 := Kd.R_putg HO_8.out (0 : Int) false)))); refine store_event (t := 4) (p := 62) (v := ?vo_w36) (w1 := (wc.setCell ⟨go34, (0 : Int).toNat, none⟩ (.bool false))) ?hg ?ho ?hn ?hr ?_; (case ho => rfl); (case hg => rfl); (case hn => rfl); (case hr => first | (go_simp; done) | (go_simp; rfl)); intro w36 hw; have hg : wc.grownBy w36 (some go34) := (by rw [hw]; exact HP35.2); have hp_ : Kd.R Kd.bool 4 w36 w.heap.size (fun k_ => some k_ ≠ (u6 : Value).ownBlock) (.slice (some ⟨go34, 0, none⟩) y147.length co34) y156 := (by rw [hw, Ny156.out]; exact HP35.1); clear HP35; have n0_ := Aside0.mk (Kd.R_after (v := (.slice (some ⟨go34, 0, none⟩) y147.length co34)) (v1 := (.slice (some ⟨go34, 0, none⟩) y147.length co34)) (ok := (fun _ => True)) (by (with_reducible repeat (first | apply Kd.R_alloc | apply Kd.R_drewN | apply Kd.R_drew)); exact Kd.R_mono HO_6.out (fun _ hk => ⟨trivial, hk⟩)) hg (.inl rfl)); have n1_ := Aside0.mk (hp_); have n2_ := Aside0.mk ((by rw [hw]; exact below_set (HB.out) GB34.out : Below w.heap.size w w36)); clear HO_6; clear HO_8; clear HB; have HO_6 := n0_; have HO_8 := n1_; have HB := n2_; clear n0_ n1_ n2_; clear hg hw hp_)))
               go_meet
               case rel => exact ⟨_, (y156), H', ⟨by have := HK1.out; have := HJ16.out; first | omega | exact Nat.le_refl _⟩, ⟨by (with_reducible repeat (first | apply Kd.R_alloc | apply Kd.R_drewN | apply Kd.R_drew)); exact Kd.R_mono HO_6.out (fun _ hk => hk.2)⟩, ⟨by (with_reducible repeat (first | apply Kd.R_alloc | apply Kd.R_drewN | apply Kd.R_drew)); exact HO_8.out⟩, ⟨by repeat (first | (with_reducible first | exact HB.out | apply below_alloc | apply pw_below_drewN | apply below_drew1) | exact HB.out)⟩⟩
              ·
               rw [if_neg c33] at H
               exact absurd H (by simp)
            case rest =>
             clear HC25
             (try clear c1); (try clear p1); (try clear q1); (try clear hx1); (try clear qi1); (try clear c2); (try clear p2); (try clear q2); (try clear hx2); (try clear qi2); (try clear hf2); (try clear c3); (try clear p3); (try clear q3); (try clear hx3); (try clear qi3); (try clear hf3); (try clear c4); (try clear c4b0); (try clear c4b1); (try clear c5); (try clear c5b0); (try clear c5b1); (try clear c6); (try clear c6b0)
             (try clear c6b1); (try clear p6); (try clear p7); (try clear q7); (try clear hx7); (try clear qi7); (try clear hf7); (try clear c12); (try clear c12b0); (try clear c14); (try clear c14b0); (try clear c14b1); (try clear c15); (try clear c15b0); (try clear c15b1); (try clear p15); (try clear q15); (try clear hx15); (try clear qi15); (try clear c16); (try clear c16b0); (try clear c20); (try clear c20b0)
             (try clear c20b1); (try clear c21); (try clear c21b0); (try clear c21b1); (try clear c23); (try clear c23b0); (try clear c24); (try clear c24b0); (try clear c26); (try clear c26b0); (try clear c26b1); (try clear c26b2); (try clear c27); (try clear c27b0); (try clear c27b1); (try clear c28); (try clear c28b0); (try clear c28b1); (try clear p29); (try clear q29); (try clear hx29); (try clear qi29); (try clear hf29)
             (try clear c32); (try clear c33); (try clear c33b0); (try clear c33b1); (try clear p34); (try clear q34); (try clear hx34); (try clear qi34); (try clear hf34); (try clear hx150_0); (try clear hx151_0); (try clear hx152_0); (try clear hx153_0); (try clear hx154_0); (try clear hx29_0); (try clear hx34_0); (try clear hx7_0); (try clear p1); (try clear p15); (try clear p150); (try clear p151); (try clear p152)
             (try clear p153); (try clear p154); (try clear p2); (try clear p29); (try clear p34); (try clear p6); (try clear p7); (try clear q1); (try clear q15); (try clear q150); (try clear q151); (try clear q152); (try clear q153); (try clear q154); (try clear q29); (try clear q34); (try clear q7)
             obtain ⟨kq, x8_24, HA, HJ24, HO_6, HO_8, HB⟩ := hcut
             cases kq with
             | zero => exact absurd HA.out (by simp [lockstepref01_like.j2])
             | succ kj24 =>
              have H := HA.out
              clear HA
              simp only [lockstepref01_like.j2] at H
              have H' := Aside0.mk H
              clear H
              go_wp2
              repeat ((with_reducible refine at_region ?_); go_quiet (fail); try go_wp2)
              go_loopg [12] kj24 (fun kq v12 w' => ∃ (x8_4 : List Bool) (x12_4 : Int), v12 = .int .i64 x12_4 ∧ Aside0 (lockstepref01_like.l1 kq l0 l1 x6_1 x7_16 x8_4 x9_16 b10 b11 x12_4 = some (r1, r2)) ∧ Aside0 (kq ≤ kj24) ∧ Aside0 (Kd.R Kd.bool 4 w' w.heap.size (fun k_ => some k_ ≠ (v148 : Value).ownBlock) u6 x6_1) ∧ Aside0 (Kd.R Kd.bool 4 w' w.heap.size (fun k_ => some k_ ≠ (u6 : Value).ownBlock) v148 x8_4) ∧ Aside0 (Below w.heap.size w w'))
              case atStart => exact ⟨(x8_24), (0), (by first | rfl | (simp; done) | (simp [*]; done)), H', ⟨Nat.le_refl _⟩, ⟨by (with_reducible repeat (first | apply Kd.R_alloc | apply Kd.R_drewN | apply Kd.R_drew)); exact HO_6.out⟩, ⟨by (with_reducible repeat (first | apply Kd.R_alloc | apply Kd.R_drewN | apply Kd.R_drew)); exact HO_8.out⟩, ⟨by repeat (first | (with_reducible first | exact HB.out | apply below_alloc | apply pw_below_drewN | apply below_drew1) | exact HB.out)⟩⟩
              case round =>
               clear H'
               (try clear c1); (try clear p1); (try clear q1); (try clear hx1); (try clear qi1); (try clear c2); (try clear p2); (try clear q2); (try clear hx2); (try clear qi2); (try clear hf2); (try clear c3); (try clear p3); (try clear q3); (try clear hx3); (try clear qi3); (try clear hf3); (try clear c4); (try clear c4b0); (try clear c4b1); (try clear c5); (try clear c5b0); (try clear c5b1); (try clear c6); (try clear c6b0)
               (try clear c6b1); (try clear p6); (try clear p7); (try clear q7); (try clear hx7); (try clear qi7); (try clear hf7); (try clear c12); (try clear c12b0); (try clear c14); (try clear c14b0); (try clear c14b1); (try clear c15); (try clear c15b0); (try clear c15b1); (try clear p15); (try clear q15); (try clear hx15); (try clear qi15); (try clear c16); (try clear c16b0); (try clear c20); (try clear c20b0)
               (try clear c20b1); (try clear c21); (try clear c21b0); (try clear c21b1); (try clear c23); (try clear c23b0); (try clear c24); (try clear c24b0); (try clear c26); (try clear c26b0); (try clear c26b1); (try clear c26b2); (try clear c27); (try clear c27b0); (try clear c27b1); (try clear c28); (try clear c28b0); (try clear c28b1); (try clear p29); (try clear q29); (try clear hx29); (try clear qi29); (try clear hf29)
               (try clear c32); (try clear c33); (try clear c33b0); (try clear c33b1); (try clear p34); (try clear q34); (try clear hx34); (try clear qi34); (try clear hf34); (try clear hx150_0); (try clear hx151_0); (try clear hx152_0); (try clear hx153_0); (try clear hx154_0); (try clear hx29_0); (try clear hx34_0); (try clear hx7_0); (try clear p1); (try clear p15); (try clear p150); (try clear p151); (try clear p152)
               (try clear p153); (try clear p154); (try clear p2); (try clear p29); (try clear p3); (try clear p34); (try clear p6); (try clear p7); (try clear q1); (try clear q15); (try clear q150); (try clear q151); (try clear q152); (try clear q153); (try clear q154); (try clear q2); (try clear q29); (try clear q3); (try clear q34); (try clear q7)
               obtain ⟨x8_4, x12_4, rfl, HA, HK4, HO_6, HO_8, HB⟩ := hrel
               cases gk with
               | zero => exact absurd HA.out (by simp [lockstepref01_like.l1])
               | succ k4 =>
                have H := HA.out
                clear HA
                simp only [lockstepref01_like.l1] at H
                by_cases c37 : x12_4 < (l0.length : Int)
                ·
                 rw [if_pos c37] at H
                 have c37b0 : decide (x12_4 < (l0.length : Int)) = true := decide_eq_true c37
                 clear c37
                 by_cases c38 : b10 = true
                 ·
                  rw [if_pos c38] at H
                  subst c38
                  obtain ⟨ji39, hji39⟩ : ∃ j_ : Int, (wrap64 (x12_4 + 1)) = j_ := ⟨_, rfl⟩
                  replace H : (if 0 ≤ (ji39) then (if (ji39) < (x6_1.length : Int) then (if rdOf false x6_1 (ji39) = true then (if (ji39) < (x8_4.length : Int) then (lockstepref01_like.l1 k4 l0 l1 x6_1 x7_16 (x8_4.set ((ji39) : Int).toNat true) x9_16 true b11 ji39) else (none)) else (if 0 ≤ x12_4 then (if x12_4 < (x8_4.length : Int) then (if (ji39) < (x8_4.length : Int) then (lockstepref01_like.l1 k4 l0 l1 x6_1 x7_16 (x8_4.set ((ji39) : Int).toNat (rdOf false x8_4 x12_4)) x9_16 true b11 ji39) else (none)) else (none)) else (none))) else (none)) else (none)) = some (r1, r2) := by first | (rw [hji39] at H; exact H) | (simp only [hji39] at H ⊢; exact H)
                  have hji39w : (IntKind.i64.wrap (x12_4 + 1)) = ji39 := (i64_w _).trans hji39
                  by_cases c40 : 0 ≤ (ji39)
                  ·
                   rw [if_pos c40] at H
                   have c40b0 : decide (0 ≤ (ji39)) = true := decide_eq_true c40
                   clear c40
                   by_cases c41 : (ji39) < (x6_1.length : Int)
                   ·
                    rw [if_pos c41] at H
                    have c41b0 : decide ((ji39) < (x6_1.length : Int)) = true := decide_eq_true c41
                    clear c41
                    obtain ⟨bq42, hbq42⟩ : ∃ b_ : Bool, b_ = (rdOf false x6_1 (ji39)) := ⟨_, rfl⟩
                    replace H : (if bq42 = true then (if (ji39) < (x8_4.length : Int) then (lockstepref01_like.l1 k4 l0 l1 x6_1 x7_16 (x8_4.set ((ji39) : Int).toNat true) x9_16 true b11 ji39) else (none)) else (if 0 ≤ x12_4 then (if x12_4 < (x8_4.length : Int) then (if (ji39) < (x8_4.length : Int) then (lockstepref01_like.l1 k4 l0 l1 x6_1 x7_16 (x8_4.set ((ji39) : Int).toNat (rdOf false x8_4 x12_4)) x9_16 true b11 ji39) else (none)) else (none)) else (none))) = some (r1, r2) := by rw [← hbq42] at H; exact H
                    have Nbq42 := Aside0.mk hbq42
                    clear hbq42
                    by_cases c43 : bq42 = true
                    ·
                     subst c43
                     have H1 : (if (ji39) < (x8_4.length : Int) then (lockstepref01_like.l1 k4 l0 l1 x6_1 x7_16 (x8_4.set ((ji39) : Int).toNat true) x9_16 true b11 ji39) else (none)) = some (r1, r2) := by rw [if_pos rfl] at H; exact H
                     clear H
                     have H := H1
                     clear H1
                     by_cases c44 : (ji39) < (x8_4.length : Int)
                     ·
                      rw [if_pos c44] at H
                      have c44b0 : decide ((ji39) < (x8_4.length : Int)) = true := decide_eq_true c44
                      clear c44
                      obtain ⟨y158, hy158⟩ : ∃ y_ : List Bool, y_ = (x8_4.set ((ji39) : Int).toNat true) := ⟨_, rfl⟩
                      replace H : (lockstepref01_like.l1 k4 l0 l1 x6_1 x7_16 y158 x9_16 true b11 ji39) = some (r1, r2) := by first | (rw [hy158]; with_reducible exact H) | (have H2_ := (Option.bind_some _ _).symm.trans H; rw [hy158]; with_reducible exact H2_) | (have H2_ := (Option.bind_some _ _).symm.trans H; with_reducible exact H2_) | with_reducible exact H | (rw [hy158]; exact H) | exact H
                      have Ny158 := Aside0.mk hy158
                      clear hy158
                      have H' := Aside0.mk H
                      clear H
                      obtain ⟨Ao46, co46, eo46⟩ := Kd.R_slice HO_6.out
                      subst eo46
                      have p157 : 0 ≤ ((ji39) : Int) := of_decide_eq_true (by first | (with_reducible assumption) | assumption)
                      have q157 : (ji39) < (x6_1.length : Int) := of_decide_eq_true (by first | (with_reducible assumption) | assumption)
                      obtain ⟨ad157, e157, hx157_0⟩ := Kd.at_bool (Kd.R_reads' HO_6.out).2.2 (ji39) p157 q157
                      (try rw [← Nbq42.out] at hx157_0)
                      cases e157
                      replace p157 := eq_true p157
                      replace q157 := eq_true q157
                      have p45 : 0 ≤ ((ji39) : Int) := of_decide_eq_true (by first | (with_reducible assumption) | assumption)
                      have q45 : ((ji39) : Int) < ((x8_4.length : Int) : Int) := of_decide_eq_true (by first | (with_reducible assumption) | assumption)
                      obtain ⟨go45, co45, eo45, gb45, gl45, cl45, HG45⟩ := Kd.R_form HO_8.out (by omega)
                      (first | cases eo45 | (injection eo45 with ea_ en_ ec_; (first | subst ea_ | (injection ea_ with ea_; subst ea_)); subst ec_; clear en_))
                      have GB45 := Aside0.mk gb45
                      have GG45 := Aside0.mk HG45
                      clear gb45 gl45 HG45
                      obtain ⟨hx45_0, hf45_0⟩ := Kd.R_celln false HO_8.out ((ji39) : Int) p45 q45
                      replace p45 := eq_true p45
                      replace q45 := eq_true q45
                      have HP47 := Kd.R_putg HO_8.out ((ji39) : Int) true
                      go_wp2_with (first | ((with_reducible refine gate_store (t := 4) (p := 84) rfl ?_); (try (rw [drewN_self wr]; generalize hq_ : World.drewN wr _ = wr; have n0_ := Aside0.mk (Kd.R_at hq_ HO_6.out); have n1_ := Aside0.mk (Kd.R_at hq_ HO_8.out); have n2_ := Aside0.mk (below_at hq_ HB.out); clear hq_ HO_6 HO_8 HB; have HO_6 := n0_; have HO_8 := n1_; have HB := n2_; clear n0_ n1_ n2_; (try (have HP47 := Kd.R_putg HO_8.out ((ji39) : Int) true)))); refine store_event (t := 4) (p := 84) (v := ?vo_w48) (w1 := (wr.setCell ⟨go45, ((ji39) : Int).toNat, none⟩ (.bool true))) ?hg ?ho ?hn ?hr ?_; (case ho => rfl); (case hg => rfl); (case hn => rfl); (case hr => first | (go_simp; done) | (go_simp; rfl)); intro w48 hw; have hg : wr.grownBy w48 (some go45) := (by rw [hw]; exact HP47.2); have hp_ : Kd.R Kd.bool 4 w48 w.heap.size (fun k_ => some k_ ≠ (.slice (some ad157) x6_1.length co46 : Value).ownBlock) (.slice (some ⟨go45, 0, none⟩) x8_4.length co45) y158 := (by rw [hw, Ny158.out]; exact HP47.1); clear HP47; have n0_ := Aside0.mk (Kd.R_after (v := (.slice (some ⟨go45, 0, none⟩) x8_4.length co45)) (v1 := (.slice (some ⟨go45, 0, none⟩) x8_4.length co45)) (ok := (fun _ => True)) (by (with_reducible repeat (first | apply Kd.R_alloc | apply Kd.R_drewN | apply Kd.R_drew)); exact Kd.R_mono HO_6.out (fun _ hk => ⟨trivial, hk⟩)) hg (.inl rfl)); have n1_ := Aside0.mk (hp_); have n2_ := Aside0.mk ((by rw [hw]; exact below_set (HB.out) GB45.out : Below w.heap.size w w48)); clear HO_6; clear HO_8; clear HB; have HO_6 := n0_; have HO_8 := n1_; have HB := n2_; clear n0_ n1_ n2_; clear hg hw hp_))
                      repeat ((with_reducible refine at_region ?_); go_quiet (first | ((with_reducible refine gate_store (t := 4) (p := 84) rfl ?_); (try (rw [drewN_self wr]; generalize hq_ : World.drewN wr _ = wr; have n0_ := Aside0.mk (Kd.R_at hq_ HO_6.out); have n1_ := Aside0.mk (Kd.R_at hq_ HO_8.out); have n2_ := Aside0.mk (below_at hq_ HB.out); clear hq_ HO_6 HO_8 HB; have HO_6 := n0_; have HO_8 := n1_; have HB := n2_; clear n0_ n1_ n2_; (try (have HP47 := Kd.R_putg HO_8.out ((ji39) : Int) true)))); refine store_event (t := 4) (p := 84) (v := ?vo_w48) (w1 := (wr.setCell ⟨go45, ((ji39) : Int).toNat, none⟩ (.bool true))) ?hg ?ho ?hn ?hr ?_; (case ho => rfl); (case hg => rfl); (case hn => rfl); (case hr => first | (go_simp; done) | (go_simp; rfl)); intro w48 hw; have hg : wr.grownBy w48 (some go45) := (by rw [hw]; exact HP47.2); have hp_ : Kd.R Kd.bool 4 w48 w.heap.size (fun k_ => some k_ ≠ (.slice (some ad157) x6_1.length co46 : Value).ownBlock) (.slice (some ⟨go45, 0, none⟩) x8_4.length co45) y158 := (by rw [hw, Ny158.out]; exact HP47.1); clear HP47; have n0_ := Aside0.mk (Kd.R_after (v := (.slice (some ⟨go45, 0, none⟩) x8_4.length co45)) (v1 := (.slice (some ⟨go45, 0, none⟩) x8_4.length co45)) (ok := (fun _ => True)) (by (with_reducible repeat (first | apply Kd.R_alloc | apply Kd.R_drewN | apply Kd.R_drew)); exact Kd.R_mono HO_6.out (fun _ hk => ⟨trivial, hk⟩)) hg (.inl rfl)); have n1_ := Aside0.mk (hp_); have n2_ := Aside0.mk ((by rw [hw]; exact below_set (HB.out) GB45.out : Below w.heap.size w w48)); clear HO_6; clear HO_8; clear HB; have HO_6 := n0_; have HO_8 := n1_; have HB := n2_; clear n0_ n1_ n2_; clear hg hw hp_)); try go_wp2_with (first | ((with_reducible refine gate_store (t := 4) (p := 84) rfl ?_); (try (rw [drewN_self wr]; generalize hq_ : World.drewN wr _ = wr; have n0_ := Aside0.mk (Kd.R_at hq_ HO_6.out); have n1_ := Aside0.mk (Kd.R_at hq_ HO_8.out); have n2_ := Aside0.mk (below_at hq_ HB.out); clear hq_ HO_6 HO_8 HB; have HO_6 := n0_; have HO_8 := n1_; have HB := n2_; clear n0_ n1_ n2_; (try (have HP47 := Kd.R_putg HO_8.out ((ji39) : Int) true)))); refine store_event (t := 4) (p := 84) (v := ?vo_w48) (w1 := (wr.setCell ⟨go45, ((ji39) : Int).toNat, none⟩ (.bool true))) ?hg ?ho ?hn ?hr ?_; (case ho => rfl); (case hg => rfl); (case hn => rfl); (case hr => first | (go_simp; done) | (go_simp; rfl)); intro w48 hw; have hg : wr.grownBy w48 (some go45) := (by rw [hw]; exact HP47.2); have hp_ : Kd.R Kd.bool 4 w48 w.heap.size (fun k_ => some k_ ≠ (.slice (some ad157) x6_1.length co46 : Value).ownBlock) (.slice (some ⟨go45, 0, none⟩) x8_4.length co45) y158 := (by rw [hw, Ny158.out]; exact HP47.1); clear HP47; have n0_ := Aside0.mk (Kd.R_after (v := (.slice (some ⟨go45, 0, none⟩) x8_4.length co45)) (v1 := (.slice (some ⟨go45, 0, none⟩) x8_4.length co45)) (ok := (fun _ => True)) (by (with_reducible repeat (first | apply Kd.R_alloc | apply Kd.R_drewN | apply Kd.R_drew)); exact Kd.R_mono HO_6.out (fun _ hk => ⟨trivial, hk⟩)) hg (.inl rfl)); have n1_ := Aside0.mk (hp_); have n2_ := Aside0.mk ((by rw [hw]; exact below_set (HB.out) GB45.out : Below w.heap.size w w48)); clear HO_6; clear HO_8; clear HB; have HO_6 := n0_; have HO_8 := n1_; have HB := n2_; clear n0_ n1_ n2_; clear hg hw hp_)))
                      go_roundg k4
                      case measure => have := HK1.out; have := HJ16.out; have := HJ24.out; have := HK4.out; omega
                      case rel => exact ⟨(y158), (ji39), (by first | rfl | (simp; done) | (simp only [← hji39] <;> (first | rfl | simp)) | (simp [*]; done)), H', ⟨by have := HK1.out; have := HJ16.out; have := HJ24.out; have := HK4.out; omega⟩, ⟨by (with_reducible repeat (first | apply Kd.R_alloc | apply Kd.R_drewN | apply Kd.R_drew)); exact Kd.R_mono HO_6.out (fun _ hk => hk.2)⟩, ⟨by (with_reducible repeat (first | apply Kd.R_alloc | apply Kd.R_drewN | apply Kd.R_drew)); exact HO_8.out⟩, ⟨by repeat (first | (with_reducible first | exact HB.out | apply below_alloc | apply pw_below_drewN | apply below_drew1) | exact HB.out)⟩⟩
                     ·
                      rw [if_neg c44] at H
                      exact absurd H (by simp)
                    ·
                     replace c43 := Bool.eq_false_iff.mpr c43
                     subst c43
                     have H1 : (if 0 ≤ x12_4 then (if x12_4 < (x8_4.length : Int) then (if (ji39) < (x8_4.length : Int) then (lockstepref01_like.l1 k4 l0 l1 x6_1 x7_16 (x8_4.set ((ji39) : Int).toNat (rdOf false x8_4 x12_4)) x9_16 true b11 ji39) else (none)) else (none)) else (none)) = some (r1, r2) := by rw [if_neg (show ¬ (false = true) by decide)] at H; exact H
                     clear H
                     have H := H1
                     clear H1
                     by_cases c49 : 0 ≤ x12_4
                     ·
                      rw [if_pos c49] at H
                      have c49b0 : decide (0 ≤ x12_4) = true := decide_eq_true c49
                      clear c49
                      by_cases c50 : x12_4 < (x8_4.length : Int)
                      ·
                       rw [if_pos c50] at H
                       have c50b0 : decide (x12_4 < (x8_4.length : Int)) = true := decide_eq_true c50
                       clear c50
                       by_cases c51 : (ji39) < (x8_4.length : Int)
                       ·
                        rw [if_pos c51] at H
                        have c51b0 : decide ((ji39) < (x8_4.length : Int)) = true := decide_eq_true c51
                        clear c51
                        obtain ⟨y160, hy160⟩ : ∃ y_ : List Bool, y_ = (x8_4.set ((ji39) : Int).toNat (rdOf false x8_4 x12_4)) := ⟨_, rfl⟩
                        replace H : (lockstepref01_like.l1 k4 l0 l1 x6_1 x7_16 y160 x9_16 true b11 ji39) = some (r1, r2) := by first | (rw [hy160]; with_reducible exact H) | (have H2_ := (Option.bind_some _ _).symm.trans H; rw [hy160]; with_reducible exact H2_) | (have H2_ := (Option.bind_some _ _).symm.trans H; with_reducible exact H2_) | with_reducible exact H | (rw [hy160]; exact H) | exact H
                        have Ny160 := Aside0.mk hy160
                        clear hy160
                        have H' := Aside0.mk H
                        clear H
                        obtain ⟨Ao53, co53, eo53⟩ := Kd.R_slice HO_6.out
                        subst eo53
                        have p157 : 0 ≤ ((ji39) : Int) := of_decide_eq_true (by first | (with_reducible assumption) | assumption)
                        have q157 : (ji39) < (x6_1.length : Int) := of_decide_eq_true (by first | (with_reducible assumption) | assumption)
                        obtain ⟨ad157, e157, hx157_0⟩ := Kd.at_bool (Kd.R_reads' HO_6.out).2.2 (ji39) p157 q157
                        (try rw [← Nbq42.out] at hx157_0)
                        cases e157
                        replace p157 := eq_true p157
                        replace q157 := eq_true q157
                        obtain ⟨Ao54, co54, eo54⟩ := Kd.R_slice HO_8.out
                        subst eo54
                        have p159 : 0 ≤ (x12_4 : Int) := of_decide_eq_true (by first | (with_reducible assumption) | assumption)
                        have q159 : x12_4 < (x8_4.length : Int) := of_decide_eq_true (by first | (with_reducible assumption) | assumption)
                        obtain ⟨ad159, e159, hx159_0⟩ := Kd.at_bool (Kd.R_reads' HO_8.out).2.2 x12_4 p159 q159
                        (try rw [← Nbq42.out] at hx159_0)
                        cases e159
                        replace p159 := eq_true p159
                        replace q159 := eq_true q159
                        have p52 : 0 ≤ ((ji39) : Int) := of_decide_eq_true (by first | (with_reducible assumption) | assumption)
                        have q52 : ((ji39) : Int) < ((x8_4.length : Int) : Int) := of_decide_eq_true (by first | (with_reducible assumption) | assumption)
                        obtain ⟨go52, co52, eo52, gb52, gl52, cl52, HG52⟩ := Kd.R_form HO_8.out (by omega)
                        (first | cases eo52 | (injection eo52 with ea_ en_ ec_; (first | subst ea_ | (injection ea_ with ea_; subst ea_)); subst ec_; clear en_))
                        have GB52 := Aside0.mk gb52
                        have GG52 := Aside0.mk HG52
                        clear gb52 gl52 HG52
                        (first | simp only [add_plain] at hx159_0 | skip)
                        obtain ⟨hx52_0, hf52_0⟩ := Kd.R_celln false HO_8.out ((ji39) : Int) p52 q52
                        replace p52 := eq_true p52
                        replace q52 := eq_true q52
                        have HP55 := Kd.R_putg HO_8.out ((ji39) : Int) (rdOf false x8_4 x12_4)
                        go_wp2_with (first | ((with_reducible refine gate_store (t := 4) (p := 84) rfl ?_); (try (rw [drewN_self wr]; generalize hq_ : World.drewN wr _ = wr; have n0_ := Aside0.mk (Kd.R_at hq_ HO_6.out); have n1_ := Aside0.mk (Kd.R_at hq_ HO_8.out); have n2_ := Aside0.mk (below_at hq_ HB.out); clear hq_ HO_6 HO_8 HB; have HO_6 := n0_; have HO_8 := n1_; have HB := n2_; clear n0_ n1_ n2_; (try (have HP55 := Kd.R_putg HO_8.out ((ji39) : Int) (rdOf false x8_4 x12_4))))); refine store_event (t := 4) (p := 84) (v := ?vo_w56) (w1 := (wr.setCell ⟨go52, ((ji39) : Int).toNat, none⟩ (.bool (rdOf false x8_4 x12_4)))) ?hg ?ho ?hn ?hr ?_; (case ho => rfl); (case hg => rfl); (case hn => rfl); (case hr => first | (go_simp; done) | (go_simp; rfl)); intro w56 hw; have hg : wr.grownBy w56 (some go52) := (by rw [hw]; exact HP55.2); have hp_ : Kd.R Kd.bool 4 w56 w.heap.size (fun k_ => some k_ ≠ (.slice (some ad157) x6_1.length co53 : Value).ownBlock) (.slice (some ⟨go52, 0, none⟩) x8_4.length co54) y160 := (by rw [hw, Ny160.out]; exact HP55.1); clear HP55; have n0_ := Aside0.mk (Kd.R_after (v := (.slice (some ⟨go52, 0, none⟩) x8_4.length co54)) (v1 := (.slice (some ⟨go52, 0, none⟩) x8_4.length co54)) (ok := (fun _ => True)) (by (with_reducible repeat (first | apply Kd.R_alloc | apply Kd.R_drewN | apply Kd.R_drew)); exact Kd.R_mono HO_6.out (fun _ hk => ⟨trivial, hk⟩)) hg (.inl rfl)); have n1_ := Aside0.mk (hp_); have n2_ := Aside0.mk ((by rw [hw]; exact below_set (HB.out) GB52.out : Below w.heap.size w w56)); clear HO_6; clear HO_8; clear HB; have HO_6 := n0_; have HO_8 := n1_; have HB := n2_; clear n0_ n1_ n2_; clear hg hw hp_))
                        repeat ((with_reducible refine at_region ?_); go_quiet (first | ((with_reducible refine gate_store (t := 4) (p := 84) rfl ?_); (try (rw [drewN_self wr]; generalize hq_ : World.drewN wr _ = wr; have n0_ := Aside0.mk (Kd.R_at hq_ HO_6.out); have n1_ := Aside0.mk (Kd.R_at hq_ HO_8.out); have n2_ := Aside0.mk (below_at hq_ HB.out); clear hq_ HO_6 HO_8 HB; have HO_6 := n0_; have HO_8 := n1_; have HB := n2_; clear n0_ n1_ n2_; (try (have HP55 := Kd.R_putg HO_8.out ((ji39) : Int) (rdOf false x8_4 x12_4))))); refine store_event (t := 4) (p := 84) (v := ?vo_w56) (w1 := (wr.setCell ⟨go52, ((ji39) : Int).toNat, none⟩ (.bool (rdOf false x8_4 x12_4)))) ?hg ?ho ?hn ?hr ?_; (case ho => rfl); (case hg => rfl); (case hn => rfl); (case hr => first | (go_simp; done) | (go_simp; rfl)); intro w56 hw; have hg : wr.grownBy w56 (some go52) := (by rw [hw]; exact HP55.2); have hp_ : Kd.R Kd.bool 4 w56 w.heap.size (fun k_ => some k_ ≠ (.slice (some ad157) x6_1.length co53 : Value).ownBlock) (.slice (some ⟨go52, 0, none⟩) x8_4.length co54) y160 := (by rw [hw, Ny160.out]; exact HP55.1); clear HP55; have n0_ := Aside0.mk (Kd.R_after (v := (.slice (some ⟨go52, 0, none⟩) x8_4.length co54)) (v1 := (.slice (some ⟨go52, 0, none⟩) x8_4.length co54)) (ok := (fun _ => True)) (by (with_reducible repeat (first | apply Kd.R_alloc | apply Kd.R_drewN | apply Kd.R_drew)); exact Kd.R_mono HO_6.out (fun _ hk => ⟨trivial, hk⟩)) hg (.inl rfl)); have n1_ := Aside0.mk (hp_); have n2_ := Aside0.mk ((by rw [hw]; exact below_set (HB.out) GB52.out : Below w.heap.size w w56)); clear HO_6; clear HO_8; clear HB; have HO_6 := n0_; have HO_8 := n1_; have HB := n2_; clear n0_ n1_ n2_; clear hg hw hp_)); try go_wp2_with (first | ((with_reducible refine gate_store (t := 4) (p := 84) rfl ?_); (try (rw [drewN_self wr]; generalize hq_ : World.drewN wr _ = wr; have n0_ := Aside0.mk (Kd.R_at hq_ HO_6.out); have n1_ := Aside0.mk (Kd.R_at hq_ HO_8.out); have n2_ := Aside0.mk (below_at hq_ HB.out); clear hq_ HO_6 HO_8 HB; have HO_6 := n0_; have HO_8 := n1_; have HB := n2_; clear n0_ n1_ n2_; (try (have HP55 := Kd.R_putg HO_8.out ((ji39) : Int) (rdOf false x8_4 x12_4))))); refine store_event (t := 4) (p := 84) (v := ?vo_w56) (w1 := (wr.setCell ⟨go52, ((ji39) : Int).toNat, none⟩ (.bool (rdOf false x8_4 x12_4)))) ?hg ?ho ?hn ?hr ?_; (case ho => rfl); (case hg => rfl); (case hn => rfl); (case hr => first | (go_simp; done) | (go_simp; rfl)); intro w56 hw; have hg : wr.grownBy w56 (some go52) := (by rw [hw]; exact HP55.2); have hp_ : Kd.R Kd.bool 4 w56 w.heap.size (fun k_ => some k_ ≠ (.slice (some ad157) x6_1.length co53 : Value).ownBlock) (.slice (some ⟨go52, 0, none⟩) x8_4.length co54) y160 := (by rw [hw, Ny160.out]; exact HP55.1); clear HP55; have n0_ := Aside0.mk (Kd.R_after (v := (.slice (some ⟨go52, 0, none⟩) x8_4.length co54)) (v1 := (.slice (some ⟨go52, 0, none⟩) x8_4.length co54)) (ok := (fun _ => True)) (by (with_reducible repeat (first | apply Kd.R_alloc | apply Kd.R_drewN | apply Kd.R_drew)); exact Kd.R_mono HO_6.out (fun _ hk => ⟨trivial, hk⟩)) hg (.inl rfl)); have n1_ := Aside0.mk (hp_); have n2_ := Aside0.mk ((by rw [hw]; exact below_set (HB.out) GB52.out : Below w.heap.size w w56)); clear HO_6; clear HO_8; clear HB; have HO_6 := n0_; have HO_8 := n1_; have HB := n2_; clear n0_ n1_ n2_; clear hg hw hp_)))
                        go_roundg k4
                        case measure => have := HK1.out; have := HJ16.out; have := HJ24.out; have := HK4.out; omega
                        case rel => exact ⟨(y160), (ji39), (by first | rfl | (simp; done) | (simp only [← hji39] <;> (first | rfl | simp)) | (simp [*]; done)), H', ⟨by have := HK1.out; have := HJ16.out; have := HJ24.out; have := HK4.out; omega⟩, ⟨by (with_reducible repeat (first | apply Kd.R_alloc | apply Kd.R_drewN | apply Kd.R_drew)); exact Kd.R_mono HO_6.out (fun _ hk => hk.2)⟩, ⟨by (with_reducible repeat (first | apply Kd.R_alloc | apply Kd.R_drewN | apply Kd.R_drew)); exact HO_8.out⟩, ⟨by repeat (first | (with_reducible first | exact HB.out | apply below_alloc | apply pw_below_drewN | apply below_drew1) | exact HB.out)⟩⟩
                       ·
                        rw [if_neg c51] at H
                        exact absurd H (by simp)
                      ·
                       rw [if_neg c50] at H
                       exact absurd H (by simp)
                     ·
                      rw [if_neg c49] at H
                      exact absurd H (by simp)
                   ·
                    rw [if_neg c41] at H
                    exact absurd H (by simp)
                  ·
                   rw [if_neg c40] at H
                   exact absurd H (by simp)
                 ·
                  rw [if_neg c38] at H
                  replace c38 := Bool.eq_false_iff.mpr c38
                  subst c38
                  by_cases c57 : 0 ≤ x12_4
                  ·
                   rw [if_pos c57] at H
                   have c57b0 : decide (0 ≤ x12_4) = true := decide_eq_true c57
                   clear c57
                   by_cases c58 : x12_4 < (x6_1.length : Int)
                   ·
                    rw [if_pos c58] at H
                    have c58b0 : decide (x12_4 < (x6_1.length : Int)) = true := decide_eq_true c58
                    clear c58
                    obtain ⟨bq59, hbq59⟩ : ∃ b_ : Bool, b_ = (rdOf false x6_1 x12_4) := ⟨_, rfl⟩
                    replace H : (if bq59 = true then (if b11 = true then (if 0 ≤ (wrap64 (x12_4 + 1)) then (if (wrap64 (x12_4 + 1)) < (x8_4.length : Int) then (lockstepref01_like.l1 k4 l0 l1 x6_1 x7_16 (x8_4.set ((wrap64 (x12_4 + 1)) : Int).toNat true) x9_16 false b11 (wrap64 (x12_4 + 1))) else (none)) else (none)) else (if 0 ≤ (wrap64 (x12_4 + 1)) then (if (wrap64 (x12_4 + 1)) < (x8_4.length : Int) then (lockstepref01_like.l1 k4 l0 l1 x6_1 x7_16 (x8_4.set ((wrap64 (x12_4 + 1)) : Int).toNat ((rd l0 x12_4) == x9_16)) x9_16 false b11 (wrap64 (x12_4 + 1))) else (none)) else (none))) else (if 0 ≤ (wrap64 (x12_4 + 1)) then (if (wrap64 (x12_4 + 1)) < (x8_4.length : Int) then (lockstepref01_like.l1 k4 l0 l1 x6_1 x7_16 (x8_4.set ((wrap64 (x12_4 + 1)) : Int).toNat false) x9_16 false b11 (wrap64 (x12_4 + 1))) else (none)) else (none))) = some (r1, r2) := by rw [← hbq59] at H; exact H
                    have Nbq59 := Aside0.mk hbq59
                    clear hbq59
                    by_cases c60 : bq59 = true
                    ·
                     subst c60
                     have H1 : (if b11 = true then (if 0 ≤ (wrap64 (x12_4 + 1)) then (if (wrap64 (x12_4 + 1)) < (x8_4.length : Int) then (lockstepref01_like.l1 k4 l0 l1 x6_1 x7_16 (x8_4.set ((wrap64 (x12_4 + 1)) : Int).toNat true) x9_16 false b11 (wrap64 (x12_4 + 1))) else (none)) else (none)) else (if 0 ≤ (wrap64 (x12_4 + 1)) then (if (wrap64 (x12_4 + 1)) < (x8_4.length : Int) then (lockstepref01_like.l1 k4 l0 l1 x6_1 x7_16 (x8_4.set ((wrap64 (x12_4 + 1)) : Int).toNat ((rd l0 x12_4) == x9_16)) x9_16 false b11 (wrap64 (x12_4 + 1))) else (none)) else (none))) = some (r1, r2) := by rw [if_pos rfl] at H; exact H
                     clear H
                     have H := H1
                     clear H1
                     by_cases c61 : b11 = true
                     ·
                      rw [if_pos c61] at H
                      subst c61
                      obtain ⟨ji62, hji62⟩ : ∃ j_ : Int, (wrap64 (x12_4 + 1)) = j_ := ⟨_, rfl⟩
                      replace H : (if 0 ≤ (ji62) then (if (ji62) < (x8_4.length : Int) then (lockstepref01_like.l1 k4 l0 l1 x6_1 x7_16 (x8_4.set ((ji62) : Int).toNat true) x9_16 false true ji62) else (none)) else (none)) = some (r1, r2) := by first | (rw [hji62] at H; exact H) | (simp only [hji62] at H ⊢; exact H)
                      have hji62w : (IntKind.i64.wrap (x12_4 + 1)) = ji62 := (i64_w _).trans hji62
                      by_cases c63 : 0 ≤ (ji62)
                      ·
                       rw [if_pos c63] at H
                       have c63b0 : decide (0 ≤ (ji62)) = true := decide_eq_true c63
                       clear c63
                       by_cases c64 : (ji62) < (x8_4.length : Int)
                       ·
                        rw [if_pos c64] at H
                        have c64b0 : decide ((ji62) < (x8_4.length : Int)) = true := decide_eq_true c64
                        clear c64
                        obtain ⟨y162, hy162⟩ : ∃ y_ : List Bool, y_ = (x8_4.set ((ji62) : Int).toNat true) := ⟨_, rfl⟩
                        replace H : (lockstepref01_like.l1 k4 l0 l1 x6_1 x7_16 y162 x9_16 false true ji62) = some (r1, r2) := by first | (rw [hy162]; with_reducible exact H) | (have H2_ := (Option.bind_some _ _).symm.trans H; rw [hy162]; with_reducible exact H2_) | (have H2_ := (Option.bind_some _ _).symm.trans H; with_reducible exact H2_) | with_reducible exact H | (rw [hy162]; exact H) | exact H
                        have Ny162 := Aside0.mk hy162
                        clear hy162
                        have H' := Aside0.mk H
                        clear H
                        obtain ⟨Ao66, co66, eo66⟩ := Kd.R_slice HO_6.out
                        subst eo66
                        have p161 : 0 ≤ (x12_4 : Int) := of_decide_eq_true (by first | (with_reducible assumption) | assumption)
                        have q161 : x12_4 < (x6_1.length : Int) := of_decide_eq_true (by first | (with_reducible assumption) | assumption)
                        obtain ⟨ad161, e161, hx161_0⟩ := Kd.at_bool (Kd.R_reads' HO_6.out).2.2 x12_4 p161 q161
                        (try rw [← Nbq59.out] at hx161_0)
                        cases e161
                        replace p161 := eq_true p161
                        replace q161 := eq_true q161
                        have p65 : 0 ≤ ((ji62) : Int) := of_decide_eq_true (by first | (with_reducible assumption) | assumption)
                        have q65 : ((ji62) : Int) < ((x8_4.length : Int) : Int) := of_decide_eq_true (by first | (with_reducible assumption) | assumption)
                        obtain ⟨go65, co65, eo65, gb65, gl65, cl65, HG65⟩ := Kd.R_form HO_8.out (by omega)
                        (first | cases eo65 | (injection eo65 with ea_ en_ ec_; (first | subst ea_ | (injection ea_ with ea_; subst ea_)); subst ec_; clear en_))
                        have GB65 := Aside0.mk gb65
                        have GG65 := Aside0.mk HG65
                        clear gb65 gl65 HG65
                        obtain ⟨hx65_0, hf65_0⟩ := Kd.R_celln false HO_8.out ((ji62) : Int) p65 q65
                        replace p65 := eq_true p65
                        replace q65 := eq_true q65
                        have HP67 := Kd.R_putg HO_8.out ((ji62) : Int) true
                        go_wp2_with (first | ((with_reducible refine gate_store (t := 4) (p := 103) rfl ?_); (try (rw [drewN_self wr]; generalize hq_ : World.drewN wr _ = wr; have n0_ := Aside0.mk (Kd.R_at hq_ HO_6.out); have n1_ := Aside0.mk (Kd.R_at hq_ HO_8.out); have n2_ := Aside0.mk (below_at hq_ HB.out); clear hq_ HO_6 HO_8 HB; have HO_6 := n0_; have HO_8 := n1_; have HB := n2_; clear n0_ n1_ n2_; (try (have HP67 := Kd.R_putg HO_8.out ((ji62) : Int) true)))); refine store_event (t := 4) (p := 103) (v := ?vo_w68) (w1 := (wr.setCell ⟨go65, ((ji62) : Int).toNat, none⟩ (.bool true))) ?hg ?ho ?hn ?hr ?_; (case ho => rfl); (case hg => rfl); (case hn => rfl); (case hr => first | (go_simp; done) | (go_simp; rfl)); intro w68 hw; have hg : wr.grownBy w68 (some go65) := (by rw [hw]; exact HP67.2); have hp_ : Kd.R Kd.bool 4 w68 w.heap.size (fun k_ => some k_ ≠ (.slice (some ad161) x6_1.length co66 : Value).ownBlock) (.slice (some ⟨go65, 0, none⟩) x8_4.length co65) y162 := (by rw [hw, Ny162.out]; exact HP67.1); clear HP67; have n0_ := Aside0.mk (Kd.R_after (v := (.slice (some ⟨go65, 0, none⟩) x8_4.length co65)) (v1 := (.slice (some ⟨go65, 0, none⟩) x8_4.length co65)) (ok := (fun _ => True)) (by (with_reducible repeat (first | apply Kd.R_alloc | apply Kd.R_drewN | apply Kd.R_drew)); exact Kd.R_mono HO_6.out (fun _ hk => ⟨trivial, hk⟩)) hg (.inl rfl)); have n1_ := Aside0.mk (hp_); have n2_ := Aside0.mk ((by rw [hw]; exact below_set (HB.out) GB65.out : Below w.heap.size w w68)); clear HO_6; clear HO_8; clear HB; have HO_6 := n0_; have HO_8 := n1_; have HB := n2_; clear n0_ n1_ n2_; clear hg hw hp_))
                        repeat ((with_reducible refine at_region ?_); go_quiet (first | ((with_reducible refine gate_store (t := 4) (p := 103) rfl ?_); (try (rw [drewN_self wr]; generalize hq_ : World.drewN wr _ = wr; have n0_ := Aside0.mk (Kd.R_at hq_ HO_6.out); have n1_ := Aside0.mk (Kd.R_at hq_ HO_8.out); have n2_ := Aside0.mk (below_at hq_ HB.out); clear hq_ HO_6 HO_8 HB; have HO_6 := n0_; have HO_8 := n1_; have HB := n2_; clear n0_ n1_ n2_; (try (have HP67 := Kd.R_putg HO_8.out ((ji62) : Int) true)))); refine store_event (t := 4) (p := 103) (v := ?vo_w68) (w1 := (wr.setCell ⟨go65, ((ji62) : Int).toNat, none⟩ (.bool true))) ?hg ?ho ?hn ?hr ?_; (case ho => rfl); (case hg => rfl); (case hn => rfl); (case hr => first | (go_simp; done) | (go_simp; rfl)); intro w68 hw; have hg : wr.grownBy w68 (some go65) := (by rw [hw]; exact HP67.2); have hp_ : Kd.R Kd.bool 4 w68 w.heap.size (fun k_ => some k_ ≠ (.slice (some ad161) x6_1.length co66 : Value).ownBlock) (.slice (some ⟨go65, 0, none⟩) x8_4.length co65) y162 := (by rw [hw, Ny162.out]; exact HP67.1); clear HP67; have n0_ := Aside0.mk (Kd.R_after (v := (.slice (some ⟨go65, 0, none⟩) x8_4.length co65)) (v1 := (.slice (some ⟨go65, 0, none⟩) x8_4.length co65)) (ok := (fun _ => True)) (by (with_reducible repeat (first | apply Kd.R_alloc | apply Kd.R_drewN | apply Kd.R_drew)); exact Kd.R_mono HO_6.out (fun _ hk => ⟨trivial, hk⟩)) hg (.inl rfl)); have n1_ := Aside0.mk (hp_); have n2_ := Aside0.mk ((by rw [hw]; exact below_set (HB.out) GB65.out : Below w.heap.size w w68)); clear HO_6; clear HO_8; clear HB; have HO_6 := n0_; have HO_8 := n1_; have HB := n2_; clear n0_ n1_ n2_; clear hg hw hp_)); try go_wp2_with (first | ((with_reducible refine gate_store (t := 4) (p := 103) rfl ?_); (try (rw [drewN_self wr]; generalize hq_ : World.drewN wr _ = wr; have n0_ := Aside0.mk (Kd.R_at hq_ HO_6.out); have n1_ := Aside0.mk (Kd.R_at hq_ HO_8.out); have n2_ := Aside0.mk (below_at hq_ HB.out); clear hq_ HO_6 HO_8 HB; have HO_6 := n0_; have HO_8 := n1_; have HB := n2_; clear n0_ n1_ n2_; (try (have HP67 := Kd.R_putg HO_8.out ((ji62) : Int) true)))); refine store_event (t := 4) (p := 103) (v := ?vo_w68) (w1 := (wr.setCell ⟨go65, ((ji62) : Int).toNat, none⟩ (.bool true))) ?hg ?ho ?hn ?hr ?_; (case ho => rfl); (case hg => rfl); (case hn => rfl); (case hr => first | (go_simp; done) | (go_simp; rfl)); intro w68 hw; have hg : wr.grownBy w68 (some go65) := (by rw [hw]; exact HP67.2); have hp_ : Kd.R Kd.bool 4 w68 w.heap.size (fun k_ => some k_ ≠ (.slice (some ad161) x6_1.length co66 : Value).ownBlock) (.slice (some ⟨go65, 0, none⟩) x8_4.length co65) y162 := (by rw [hw, Ny162.out]; exact HP67.1); clear HP67; have n0_ := Aside0.mk (Kd.R_after (v := (.slice (some ⟨go65, 0, none⟩) x8_4.length co65)) (v1 := (.slice (some ⟨go65, 0, none⟩) x8_4.length co65)) (ok := (fun _ => True)) (by (with_reducible repeat (first | apply Kd.R_alloc | apply Kd.R_drewN | apply Kd.R_drew)); exact Kd.R_mono HO_6.out (fun _ hk => ⟨trivial, hk⟩)) hg (.inl rfl)); have n1_ := Aside0.mk (hp_); have n2_ := Aside0.mk ((by rw [hw]; exact below_set (HB.out) GB65.out : Below w.heap.size w w68)); clear HO_6; clear HO_8; clear HB; have HO_6 := n0_; have HO_8 := n1_; have HB := n2_; clear n0_ n1_ n2_; clear hg hw hp_)))
                        go_roundg k4
                        case measure => have := HK1.out; have := HJ16.out; have := HJ24.out; have := HK4.out; omega
                        case rel => exact ⟨(y162), (ji62), (by first | rfl | (simp; done) | (simp only [← hji62] <;> (first | rfl | simp)) | (simp [*]; done)), H', ⟨by have := HK1.out; have := HJ16.out; have := HJ24.out; have := HK4.out; omega⟩, ⟨by (with_reducible repeat (first | apply Kd.R_alloc | apply Kd.R_drewN | apply Kd.R_drew)); exact Kd.R_mono HO_6.out (fun _ hk => hk.2)⟩, ⟨by (with_reducible repeat (first | apply Kd.R_alloc | apply Kd.R_drewN | apply Kd.R_drew)); exact HO_8.out⟩, ⟨by repeat (first | (with_reducible first | exact HB.out | apply below_alloc | apply pw_below_drewN | apply below_drew1) | exact HB.out)⟩⟩
                       ·
                        rw [if_neg c64] at H
                        exact absurd H (by simp)
                      ·
                       rw [if_neg c63] at H
                       exact absurd H (by simp)
                     ·
                      rw [if_neg c61] at H
                      replace c61 := Bool.eq_false_iff.mpr c61
                      subst c61
                      obtain ⟨ji69, hji69⟩ : ∃ j_ : Int, (wrap64 (x12_4 + 1)) = j_ := ⟨_, rfl⟩
                      replace H : (if 0 ≤ (ji69) then (if (ji69) < (x8_4.length : Int) then (lockstepref01_like.l1 k4 l0 l1 x6_1 x7_16 (x8_4.set ((ji69) : Int).toNat ((rd l0 x12_4) == x9_16)) x9_16 false false ji69) else (none)) else (none)) = some (r1, r2) := by first | (rw [hji69] at H; exact H) | (simp only [hji69] at H ⊢; exact H)
                      have hji69w : (IntKind.i64.wrap (x12_4 + 1)) = ji69 := (i64_w _).trans hji69
                      by_cases c70 : 0 ≤ (ji69)
                      ·
                       rw [if_pos c70] at H
                       have c70b0 : decide (0 ≤ (ji69)) = true := decide_eq_true c70
                       clear c70
                       by_cases c71 : (ji69) < (x8_4.length : Int)
                       ·
                        rw [if_pos c71] at H
                        have c71b0 : decide ((ji69) < (x8_4.length : Int)) = true := decide_eq_true c71
                        clear c71
                        obtain ⟨y164, hy164⟩ : ∃ y_ : List Bool, y_ = (x8_4.set ((ji69) : Int).toNat ((rd l0 x12_4) == x9_16)) := ⟨_, rfl⟩
                        replace H : (lockstepref01_like.l1 k4 l0 l1 x6_1 x7_16 y164 x9_16 false false ji69) = some (r1, r2) := by first | (rw [hy164]; with_reducible exact H) | (have H2_ := (Option.bind_some _ _).symm.trans H; rw [hy164]; with_reducible exact H2_) | (have H2_ := (Option.bind_some _ _).symm.trans H; with_reducible exact H2_) | with_reducible exact H | (rw [hy164]; exact H) | exact H
                        have Ny164 := Aside0.mk hy164
                        clear hy164
                        have H' := Aside0.mk H
                        clear H
                        obtain ⟨Ao73, co73, eo73⟩ := Kd.R_slice HO_6.out
                        subst eo73
                        have p161 : 0 ≤ (x12_4 : Int) := of_decide_eq_true (by first | (with_reducible assumption) | assumption)
                        have q161 : x12_4 < (x6_1.length : Int) := of_decide_eq_true (by first | (with_reducible assumption) | assumption)
                        obtain ⟨ad161, e161, hx161_0⟩ := Kd.at_bool (Kd.R_reads' HO_6.out).2.2 x12_4 p161 q161
                        (try rw [← Nbq59.out] at hx161_0)
                        cases e161
                        replace p161 := eq_true p161
                        replace q161 := eq_true q161
                        have p163 : 0 ≤ (x12_4 : Int) := of_decide_eq_true (by first | (with_reducible assumption) | assumption)
                        have q163 : x12_4 < (l0.length : Int) := of_decide_eq_true (by first | (with_reducible assumption) | assumption)
                        obtain ⟨ad163, e163, hx163_0⟩ := Kd.at_int HR0.out x12_4 p163 q163
                        cases e163
                        replace hx163_0 := (HB.out.cell (World.block_lt_of_cell? w _ hx163_0)).trans hx163_0
                        replace p163 := eq_true p163
                        replace q163 := eq_true q163
                        have p72 : 0 ≤ ((ji69) : Int) := of_decide_eq_true (by first | (with_reducible assumption) | assumption)
                        have q72 : ((ji69) : Int) < ((x8_4.length : Int) : Int) := of_decide_eq_true (by first | (with_reducible assumption) | assumption)
                        obtain ⟨go72, co72, eo72, gb72, gl72, cl72, HG72⟩ := Kd.R_form HO_8.out (by omega)
                        (first | cases eo72 | (injection eo72 with ea_ en_ ec_; (first | subst ea_ | (injection ea_ with ea_; subst ea_)); subst ec_; clear en_))
                        have GB72 := Aside0.mk gb72
                        have GG72 := Aside0.mk HG72
                        clear gb72 gl72 HG72
                        obtain ⟨hx72_0, hf72_0⟩ := Kd.R_celln false HO_8.out ((ji69) : Int) p72 q72
                        replace p72 := eq_true p72
                        replace q72 := eq_true q72
                        have HP74 := Kd.R_putg HO_8.out ((ji69) : Int) ((rd l0 x12_4) == x9_16)
                        go_wp2_with (first | ((with_reducible refine gate_store (t := 4) (p := 103) rfl ?_); (try (rw [drewN_self wr]; generalize hq_ : World.drewN wr _ = wr; have n0_ := Aside0.mk (Kd.R_at hq_ HO_6.out); have n1_ := Aside0.mk (Kd.R_at hq_ HO_8.out); have n2_ := Aside0.mk (below_at hq_ HB.out); clear hq_ HO_6 HO_8 HB; have HO_6 := n0_; have HO_8 := n1_; have HB := n2_; clear n0_ n1_ n2_; (try (have HP74 := Kd.R_putg HO_8.out ((ji69) : Int) ((rd l0 x12_4) == x9_16))))); refine store_event (t := 4) (p := 103) (v := ?vo_w75) (w1 := (wr.setCell ⟨go72, ((ji69) : Int).toNat, none⟩ (.bool ((rd l0 x12_4) == x9_16)))) ?hg ?ho ?hn ?hr ?_; (case ho => rfl); (case hg => rfl); (case hn => rfl); (case hr => first | (go_simp; done) | (go_simp; rfl)); intro w75 hw; have hg : wr.grownBy w75 (some go72) := (by rw [hw]; exact HP74.2); have hp_ : Kd.R Kd.bool 4 w75 w.heap.size (fun k_ => some k_ ≠ (.slice (some ad161) x6_1.length co73 : Value).ownBlock) (.slice (some ⟨go72, 0, none⟩) x8_4.length co72) y164 := (by rw [hw, Ny164.out]; exact HP74.1); clear HP74; have n0_ := Aside0.mk (Kd.R_after (v := (.slice (some ⟨go72, 0, none⟩) x8_4.length co72)) (v1 := (.slice (some ⟨go72, 0, none⟩) x8_4.length co72)) (ok := (fun _ => True)) (by (with_reducible repeat (first | apply Kd.R_alloc | apply Kd.R_drewN | apply Kd.R_drew)); exact Kd.R_mono HO_6.out (fun _ hk => ⟨trivial, hk⟩)) hg (.inl rfl)); have n1_ := Aside0.mk (hp_); have n2_ := Aside0.mk ((by rw [hw]; exact below_set (HB.out) GB72.out : Below w.heap.size w w75)); clear HO_6; clear HO_8; clear HB; have HO_6 := n0_; have HO_8 := n1_; have HB := n2_; clear n0_ n1_ n2_; clear hg hw hp_))
                        repeat ((with_reducible refine at_region ?_); go_quiet (first | ((with_reducible refine gate_store (t := 4) (p := 103) rfl ?_); (try (rw [drewN_self wr]; generalize hq_ : World.drewN wr _ = wr; have n0_ := Aside0.mk (Kd.R_at hq_ HO_6.out); have n1_ := Aside0.mk (Kd.R_at hq_ HO_8.out); have n2_ := Aside0.mk (below_at hq_ HB.out); clear hq_ HO_6 HO_8 HB; have HO_6 := n0_; have HO_8 := n1_; have HB := n2_; clear n0_ n1_ n2_; (try (have HP74 := Kd.R_putg HO_8.out ((ji69) : Int) ((rd l0 x12_4) == x9_16))))); refine store_event (t := 4) (p := 103) (v := ?vo_w75) (w1 := (wr.setCell ⟨go72, ((ji69) : Int).toNat, none⟩ (.bool ((rd l0 x12_4) == x9_16)))) ?hg ?ho ?hn ?hr ?_; (case ho => rfl); (case hg => rfl); (case hn => rfl); (case hr => first | (go_simp; done) | (go_simp; rfl)); intro w75 hw; have hg : wr.grownBy w75 (some go72) := (by rw [hw]; exact HP74.2); have hp_ : Kd.R Kd.bool 4 w75 w.heap.size (fun k_ => some k_ ≠ (.slice (some ad161) x6_1.length co73 : Value).ownBlock) (.slice (some ⟨go72, 0, none⟩) x8_4.length co72) y164 := (by rw [hw, Ny164.out]; exact HP74.1); clear HP74; have n0_ := Aside0.mk (Kd.R_after (v := (.slice (some ⟨go72, 0, none⟩) x8_4.length co72)) (v1 := (.slice (some ⟨go72, 0, none⟩) x8_4.length co72)) (ok := (fun _ => True)) (by (with_reducible repeat (first | apply Kd.R_alloc | apply Kd.R_drewN | apply Kd.R_drew)); exact Kd.R_mono HO_6.out (fun _ hk => ⟨trivial, hk⟩)) hg (.inl rfl)); have n1_ := Aside0.mk (hp_); have n2_ := Aside0.mk ((by rw [hw]; exact below_set (HB.out) GB72.out : Below w.heap.size w w75)); clear HO_6; clear HO_8; clear HB; have HO_6 := n0_; have HO_8 := n1_; have HB := n2_; clear n0_ n1_ n2_; clear hg hw hp_)); try go_wp2_with (first | ((with_reducible refine gate_store (t := 4) (p := 103) rfl ?_); (try (rw [drewN_self wr]; generalize hq_ : World.drewN wr _ = wr; have n0_ := Aside0.mk (Kd.R_at hq_ HO_6.out); have n1_ := Aside0.mk (Kd.R_at hq_ HO_8.out); have n2_ := Aside0.mk (below_at hq_ HB.out); clear hq_ HO_6 HO_8 HB; have HO_6 := n0_; have HO_8 := n1_; have HB := n2_; clear n0_ n1_ n2_; (try (have HP74 := Kd.R_putg HO_8.out ((ji69) : Int) ((rd l0 x12_4) == x9_16))))); refine store_event (t := 4) (p := 103) (v := ?vo_w75) (w1 := (wr.setCell ⟨go72, ((ji69) : Int).toNat, none⟩ (.bool ((rd l0 x12_4) == x9_16)))) ?hg ?ho ?hn ?hr ?_; (case ho => rfl); (case hg => rfl); (case hn => rfl); (case hr => first | (go_simp; done) | (go_simp; rfl)); intro w75 hw; have hg : wr.grownBy w75 (some go72) := (by rw [hw]; exact HP74.2); have hp_ : Kd.R Kd.bool 4 w75 w.heap.size (fun k_ => some k_ ≠ (.slice (some ad161) x6_1.length co73 : Value).ownBlock) (.slice (some ⟨go72, 0, none⟩) x8_4.length co72) y164 := (by rw [hw, Ny164.out]; exact HP74.1); clear HP74; have n0_ := Aside0.mk (Kd.R_after (v := (.slice (some ⟨go72, 0, none⟩) x8_4.length co72)) (v1 := (.slice (some ⟨go72, 0, none⟩) x8_4.length co72)) (ok := (fun _ => True)) (by (with_reducible repeat (first | apply Kd.R_alloc | apply Kd.R_drewN | apply Kd.R_drew)); exact Kd.R_mono HO_6.out (fun _ hk => ⟨trivial, hk⟩)) hg (.inl rfl)); have n1_ := Aside0.mk (hp_); have n2_ := Aside0.mk ((by rw [hw]; exact below_set (HB.out) GB72.out : Below w.heap.size w w75)); clear HO_6; clear HO_8; clear HB; have HO_6 := n0_; have HO_8 := n1_; have HB := n2_; clear n0_ n1_ n2_; clear hg hw hp_)))
                        go_roundg k4
                        case measure => have := HK1.out; have := HJ16.out; have := HJ24.out; have := HK4.out; omega
                        case rel => exact ⟨(y164), (ji69), (by first | rfl | (simp; done) | (simp only [← hji69] <;> (first | rfl | simp)) | (simp [*]; done)), H', ⟨by have := HK1.out; have := HJ16.out; have := HJ24.out; have := HK4.out; omega⟩, ⟨by (with_reducible repeat (first | apply Kd.R_alloc | apply Kd.R_drewN | apply Kd.R_drew)); exact Kd.R_mono HO_6.out (fun _ hk => hk.2)⟩, ⟨by (with_reducible repeat (first | apply Kd.R_alloc | apply Kd.R_drewN | apply Kd.R_drew)); exact HO_8.out⟩, ⟨by repeat (first | (with_reducible first | exact HB.out | apply below_alloc | apply pw_below_drewN | apply below_drew1) | exact HB.out)⟩⟩
                       ·
                        rw [if_neg c71] at H
                        exact absurd H (by simp)
                      ·
                       rw [if_neg c70] at H
                       exact absurd H (by simp)
                    ·
                     replace c60 := Bool.eq_false_iff.mpr c60
                     subst c60
                     have H1 : (if 0 ≤ (wrap64 (x12_4 + 1)) then (if (wrap64 (x12_4 + 1)) < (x8_4.length : Int) then (lockstepref01_like.l1 k4 l0 l1 x6_1 x7_16 (x8_4.set ((wrap64 (x12_4 + 1)) : Int).toNat false) x9_16 false b11 (wrap64 (x12_4 + 1))) else (none)) else (none)) = some (r1, r2) := by rw [if_neg (show ¬ (false = true) by decide)] at H; exact H
                     clear H
                     have H := H1
                     clear H1
                     obtain ⟨ji76, hji76⟩ : ∃ j_ : Int, (wrap64 (x12_4 + 1)) = j_ := ⟨_, rfl⟩
                     replace H : (if 0 ≤ (ji76) then (if (ji76) < (x8_4.length : Int) then (lockstepref01_like.l1 k4 l0 l1 x6_1 x7_16 (x8_4.set ((ji76) : Int).toNat false) x9_16 false b11 ji76) else (none)) else (none)) = some (r1, r2) := by first | (rw [hji76] at H; exact H) | (simp only [hji76] at H ⊢; exact H)
                     have hji76w : (IntKind.i64.wrap (x12_4 + 1)) = ji76 := (i64_w _).trans hji76
                     by_cases c77 : 0 ≤ (ji76)
                     ·
                      rw [if_pos c77] at H
                      have c77b0 : decide (0 ≤ (ji76)) = true := decide_eq_true c77
                      clear c77
                      by_cases c78 : (ji76) < (x8_4.length : Int)
                      ·
                       rw [if_pos c78] at H
                       have c78b0 : decide ((ji76) < (x8_4.length : Int)) = true := decide_eq_true c78
                       clear c78
                       obtain ⟨y165, hy165⟩ : ∃ y_ : List Bool, y_ = (x8_4.set ((ji76) : Int).toNat false) := ⟨_, rfl⟩
                       replace H : (lockstepref01_like.l1 k4 l0 l1 x6_1 x7_16 y165 x9_16 false b11 ji76) = some (r1, r2) := by first | (rw [hy165]; with_reducible exact H) | (have H2_ := (Option.bind_some _ _).symm.trans H; rw [hy165]; with_reducible exact H2_) | (have H2_ := (Option.bind_some _ _).symm.trans H; with_reducible exact H2_) | with_reducible exact H | (rw [hy165]; exact H) | exact H
                       have Ny165 := Aside0.mk hy165
                       clear hy165
                       have H' := Aside0.mk H
                       clear H
                       obtain ⟨Ao80, co80, eo80⟩ := Kd.R_slice HO_6.out
                       subst eo80
                       have p161 : 0 ≤ (x12_4 : Int) := of_decide_eq_true (by first | (with_reducible assumption) | assumption)
                       have q161 : x12_4 < (x6_1.length : Int) := of_decide_eq_true (by first | (with_reducible assumption) | assumption)
                       obtain ⟨ad161, e161, hx161_0⟩ := Kd.at_bool (Kd.R_reads' HO_6.out).2.2 x12_4 p161 q161
                       (try rw [← Nbq59.out] at hx161_0)
                       cases e161
                       replace p161 := eq_true p161
                       replace q161 := eq_true q161
                       have p79 : 0 ≤ ((ji76) : Int) := of_decide_eq_true (by first | (with_reducible assumption) | assumption)
                       have q79 : ((ji76) : Int) < ((x8_4.length : Int) : Int) := of_decide_eq_true (by first | (with_reducible assumption) | assumption)
                       obtain ⟨go79, co79, eo79, gb79, gl79, cl79, HG79⟩ := Kd.R_form HO_8.out (by omega)
                       (first | cases eo79 | (injection eo79 with ea_ en_ ec_; (first | subst ea_ | (injection ea_ with ea_; subst ea_)); subst ec_; clear en_))
                       have GB79 := Aside0.mk gb79
                       have GG79 := Aside0.mk HG79
                       clear gb79 gl79 HG79
                       obtain ⟨hx79_0, hf79_0⟩ := Kd.R_celln false HO_8.out ((ji76) : Int) p79 q79
                       replace p79 := eq_true p79
                       replace q79 := eq_true q79
                       have HP81 := Kd.R_putg HO_8.out ((ji76) : Int) false
                       go_wp2_with (first | ((with_reducible refine gate_store (t := 4) (p := 103) rfl ?_); (try (rw [drewN_self wr]; generalize hq_ : World.drewN wr _ = wr; have n0_ := Aside0.mk (Kd.R_at hq_ HO_6.out); have n1_ := Aside0.mk (Kd.R_at hq_ HO_8.out); have n2_ := Aside0.mk (below_at hq_ HB.out); clear hq_ HO_6 HO_8 HB; have HO_6 := n0_; have HO_8 := n1_; have HB := n2_; clear n0_ n1_ n2_; (try (have HP81 := Kd.R_putg HO_8.out ((ji76) : Int) false)))); refine store_event (t := 4) (p := 103) (v := ?vo_w82) (w1 := (wr.setCell ⟨go79, ((ji76) : Int).toNat, none⟩ (.bool false))) ?hg ?ho ?hn ?hr ?_; (case ho => rfl); (case hg => rfl); (case hn => rfl); (case hr => first | (go_simp; done) | (go_simp; rfl)); intro w82 hw; have hg : wr.grownBy w82 (some go79) := (by rw [hw]; exact HP81.2); have hp_ : Kd.R Kd.bool 4 w82 w.heap.size (fun k_ => some k_ ≠ (.slice (some ad161) x6_1.length co80 : Value).ownBlock) (.slice (some ⟨go79, 0, none⟩) x8_4.length co79) y165 := (by rw [hw, Ny165.out]; exact HP81.1); clear HP81; have n0_ := Aside0.mk (Kd.R_after (v := (.slice (some ⟨go79, 0, none⟩) x8_4.length co79)) (v1 := (.slice (some ⟨go79, 0, none⟩) x8_4.length co79)) (ok := (fun _ => True)) (by (with_reducible repeat (first | apply Kd.R_alloc | apply Kd.R_drewN | apply Kd.R_drew)); exact Kd.R_mono HO_6.out (fun _ hk => ⟨trivial, hk⟩)) hg (.inl rfl)); have n1_ := Aside0.mk (hp_); have n2_ := Aside0.mk ((by rw [hw]; exact below_set (HB.out) GB79.out : Below w.heap.size w w82)); clear HO_6; clear HO_8; clear HB; have HO_6 := n0_; have HO_8 := n1_; have HB := n2_; clear n0_ n1_ n2_; clear hg hw hp_))
                       repeat ((with_reducible refine at_region ?_); go_quiet (first | ((with_reducible refine gate_store (t := 4) (p := 103) rfl ?_); (try (rw [drewN_self wr]; generalize hq_ : World.drewN wr _ = wr; have n0_ := Aside0.mk (Kd.R_at hq_ HO_6.out); have n1_ := Aside0.mk (Kd.R_at hq_ HO_8.out); have n2_ := Aside0.mk (below_at hq_ HB.out); clear hq_ HO_6 HO_8 HB; have HO_6 := n0_; have HO_8 := n1_; have HB := n2_; clear n0_ n1_ n2_; (try (have HP81 := Kd.R_putg HO_8.out ((ji76) : Int) false)))); refine store_event (t := 4) (p := 103) (v := ?vo_w82) (w1 := (wr.setCell ⟨go79, ((ji76) : Int).toNat, none⟩ (.bool false))) ?hg ?ho ?hn ?hr ?_; (case ho => rfl); (case hg => rfl); (case hn => rfl); (case hr => first | (go_simp; done) | (go_simp; rfl)); intro w82 hw; have hg : wr.grownBy w82 (some go79) := (by rw [hw]; exact HP81.2); have hp_ : Kd.R Kd.bool 4 w82 w.heap.size (fun k_ => some k_ ≠ (.slice (some ad161) x6_1.length co80 : Value).ownBlock) (.slice (some ⟨go79, 0, none⟩) x8_4.length co79) y165 := (by rw [hw, Ny165.out]; exact HP81.1); clear HP81; have n0_ := Aside0.mk (Kd.R_after (v := (.slice (some ⟨go79, 0, none⟩) x8_4.length co79)) (v1 := (.slice (some ⟨go79, 0, none⟩) x8_4.length co79)) (ok := (fun _ => True)) (by (with_reducible repeat (first | apply Kd.R_alloc | apply Kd.R_drewN | apply Kd.R_drew)); exact Kd.R_mono HO_6.out (fun _ hk => ⟨trivial, hk⟩)) hg (.inl rfl)); have n1_ := Aside0.mk (hp_); have n2_ := Aside0.mk ((by rw [hw]; exact below_set (HB.out) GB79.out : Below w.heap.size w w82)); clear HO_6; clear HO_8; clear HB; have HO_6 := n0_; have HO_8 := n1_; have HB := n2_; clear n0_ n1_ n2_; clear hg hw hp_)); try go_wp2_with (first | ((with_reducible refine gate_store (t := 4) (p := 103) rfl ?_); (try (rw [drewN_self wr]; generalize hq_ : World.drewN wr _ = wr; have n0_ := Aside0.mk (Kd.R_at hq_ HO_6.out); have n1_ := Aside0.mk (Kd.R_at hq_ HO_8.out); have n2_ := Aside0.mk (below_at hq_ HB.out); clear hq_ HO_6 HO_8 HB; have HO_6 := n0_; have HO_8 := n1_; have HB := n2_; clear n0_ n1_ n2_; (try (have HP81 := Kd.R_putg HO_8.out ((ji76) : Int) false)))); refine store_event (t := 4) (p := 103) (v := ?vo_w82) (w1 := (wr.setCell ⟨go79, ((ji76) : Int).toNat, none⟩ (.bool false))) ?hg ?ho ?hn ?hr ?_; (case ho => rfl); (case hg => rfl); (case hn => rfl); (case hr => first | (go_simp; done) | (go_simp; rfl)); intro w82 hw; have hg : wr.grownBy w82 (some go79) := (by rw [hw]; exact HP81.2); have hp_ : Kd.R Kd.bool 4 w82 w.heap.size (fun k_ => some k_ ≠ (.slice (some ad161) x6_1.length co80 : Value).ownBlock) (.slice (some ⟨go79, 0, none⟩) x8_4.length co79) y165 := (by rw [hw, Ny165.out]; exact HP81.1); clear HP81; have n0_ := Aside0.mk (Kd.R_after (v := (.slice (some ⟨go79, 0, none⟩) x8_4.length co79)) (v1 := (.slice (some ⟨go79, 0, none⟩) x8_4.length co79)) (ok := (fun _ => True)) (by (with_reducible repeat (first | apply Kd.R_alloc | apply Kd.R_drewN | apply Kd.R_drew)); exact Kd.R_mono HO_6.out (fun _ hk => ⟨trivial, hk⟩)) hg (.inl rfl)); have n1_ := Aside0.mk (hp_); have n2_ := Aside0.mk ((by rw [hw]; exact below_set (HB.out) GB79.out : Below w.heap.size w w82)); clear HO_6; clear HO_8; clear HB; have HO_6 := n0_; have HO_8 := n1_; have HB := n2_; clear n0_ n1_ n2_; clear hg hw hp_)))
                       go_roundg k4
                       case measure => have := HK1.out; have := HJ16.out; have := HJ24.out; have := HK4.out; omega
                       case rel => exact ⟨(y165), (ji76), (by first | rfl | (simp; done) | (simp only [← hji76] <;> (first | rfl | simp)) | (simp [*]; done)), H', ⟨by have := HK1.out; have := HJ16.out; have := HJ24.out; have := HK4.out; omega⟩, ⟨by (with_reducible repeat (first | apply Kd.R_alloc | apply Kd.R_drewN | apply Kd.R_drew)); exact Kd.R_mono HO_6.out (fun _ hk => hk.2)⟩, ⟨by (with_reducible repeat (first | apply Kd.R_alloc | apply Kd.R_drewN | apply Kd.R_drew)); exact HO_8.out⟩, ⟨by repeat (first | (with_reducible first | exact HB.out | apply below_alloc | apply pw_below_drewN | apply below_drew1) | exact HB.out)⟩⟩
                      ·
                       rw [if_neg c78] at H
                       exact absurd H (by simp)
                     ·
                      rw [if_neg c77] at H
                      exact absurd H (by simp)
                   ·
                    rw [if_neg c58] at H
                    exact absurd H (by simp)
                  ·
                   rw [if_neg c57] at H
                   exact absurd H (by simp)
                ·
                 rw [if_neg c37] at H
                 have c37b0 : decide (x12_4 < (l0.length : Int)) = false := decide_eq_false c37
                 clear c37
                 have H' := Aside0.mk H
                 clear H
                 go_wp2
                 repeat ((with_reducible refine at_region ?_); go_quiet (fail); try go_wp2)
                 go_roundg k4
                 case measure => have := HK1.out; have := HJ16.out; have := HJ24.out; have := HK4.out; omega
                 case rel => exact ⟨(x8_4), (wrap64 (x7_16 + 1)), (by first | rfl | (simp; done) | (simp [*]; done)), H', ⟨by have := HK1.out; have := HJ16.out; have := HJ24.out; have := HK4.out; omega⟩, ⟨by (with_reducible repeat (first | apply Kd.R_alloc | apply Kd.R_drewN | apply Kd.R_drew)); exact Kd.R_mono HO_8.out (fun _ hk => trivial)⟩, ⟨by repeat (first | (with_reducible first | exact HB.out | apply below_alloc | apply pw_below_drewN | apply below_drew1) | exact HB.out)⟩⟩
         ·
          rw [if_neg c16] at H
          exact absurd H (by simp)
        ·
         rw [if_neg c15] at H
         exact absurd H (by simp)
       ·
        rw [if_neg c14] at H
        exact absurd H (by simp)
      ·
       rw [if_neg c12] at H
       have c12b0 : decide (x7_1 < (l1.length : Int)) = false := decide_eq_false c12
       clear c12
       by_cases c83 : 0 ≤ (l0.length : Int)
       ·
        rw [if_pos c83] at H
        have c83b0 : decide (0 ≤ (l0.length : Int)) = true := decide_eq_true c83
        have c83b1 : decide (0 ≤ l0.length) = true := decide_eq_true (by omega)
        clear c83
        by_cases c84 : (l0.length : Int) < (x6_1.length : Int)
        ·
         rw [if_pos c84] at H
         have c84b0 : decide ((l0.length : Int) < (x6_1.length : Int)) = true := decide_eq_true c84
         have c84b1 : decide (l0.length < x6_1.length) = true := decide_eq_true (Int.ofNat_lt.mp c84)
         clear c84
         simp only [Option.some.injEq, Prod.mk.injEq] at H
         obtain ⟨rfl, rfl⟩ := H
         obtain ⟨Ao85, co85, eo85⟩ := Kd.R_slice HO_6.out
         subst eo85
         have p146 : 0 ≤ ((l0.length : Int) : Int) := of_decide_eq_true (by first | (with_reducible assumption) | assumption)
         have q146 : (l0.length : Int) < (x6_1.length : Int) := of_decide_eq_true (by first | (with_reducible assumption) | assumption)
         obtain ⟨ad146, e146, hx146_0⟩ := Kd.at_bool (Kd.R_reads' HO_6.out).2.2 (l0.length : Int) p146 q146
         cases e146
         (try simp only [Go.IntWalk.toNatUp] at hx146_0)
         replace p146 := eq_true p146
         replace q146 := eq_true q146
         go_wp2
         repeat ((with_reducible refine at_region ?_); go_quiet (fail); try go_wp2)
         go_ret2
         exact ⟨by first | rfl | (simp [errW_none, errW_some] <;> rfl) | (simp only [← hji3]; first | rfl | (simp [errW_none, errW_some] <;> rfl)) | (simp [*, errW_none, errW_some] <;> rfl), by repeat (first | (with_reducible first | exact HB.out | apply below_alloc | apply pw_below_drewN | apply below_drew1) | exact HB.out)⟩
        ·
         rw [if_neg c84] at H
         exact absurd H (by simp)
       ·
        rw [if_neg c83] at H
        exact absurd H (by simp)
   ·
    rw [if_neg c6] at H
    exact absurd H (by simp)
  ·
   rw [if_neg c5] at H
   exact absurd H (by simp)
 ·
  rw [if_neg c4] at H
  exact absurd H (by simp)
end Go.Proofs.YtkkpnbfhghfleaaDoor.Y
end
section
namespace Go.Proofs.YtkkpnbfhghfleaaDoor.Y
open Go.Proofs.YtkkpnbfhghfleaaDoor.X
open Go.RowKit Go.Proofs.YtkkpnbfhghfleaaDoorW.PrintWords Go.Proofs.YtkkpnbfhghfleaaDoorW.PrintLast Go.Proofs.YtkkpnbfhghfleaaDoorW.PrintMore
attribute [local go_sem] max2_int min2_int max_two min_two max_three min_three max_four min_four
set_option linter.unusedVariables false
set_option linter.unusedSimpArgs false
def lockstepref01_Like.f (k : Nat) (a0 : ByteArray) (a1 : ByteArray) : Option (Bool × Int) := (lockstepref01_both.f k 3 0 a0 3 0 a1).bind fun t166 => (if t166 = 0 then ((lockstepref01_Runes.f a0).bind fun t167 => ((lockstepref01_Runes.f a1).bind fun t170 => ((lockstepref01_like.f k t167 t170).bind fun bt173 => (some (bt173.1, bt173.2))))) else (some (false, t166)))
set_option maxHeartbeats 8000000 in
set_option maxRecDepth 100000 in
theorem lockstepref01_Like.calls (k : Nat) (a0 : ByteArray) (a1 : ByteArray) (r1 : Bool) (r2 : Int) (w : World) (h : lockstepref01_Like.f k a0 a1 = some (r1, r2)) :
  Calls Tryd.prog 9 #[.string a0, .string a1] w fun e w' => e = .returned (.tuple #[.bool r1, .int .i64 r2]) ∧ Below w.heap.size w w' := by
 have hu27 := Tryd.underlying27
 have HB := Aside0.mk (Below.refl w.heap.size w)
 have H : ((lockstepref01_both.f k 3 0 a0 3 0 a1).bind fun t166 => (if t166 = 0 then ((lockstepref01_Runes.f a0).bind fun t167 => ((lockstepref01_Runes.f a1).bind fun t170 => ((lockstepref01_like.f k t167 t170).bind fun bt173 => (some (bt173.1, bt173.2))))) else (some (false, t166)))) = some (r1, r2) := h
 clear h
 replace H := Option.bind_eq_some_iff.mp H
 obtain ⟨t166, A30, H⟩ := H
 replace H : (if t166 = 0 then ((lockstepref01_Runes.f a0).bind fun t167 => ((lockstepref01_Runes.f a1).bind fun t170 => ((lockstepref01_like.f k t167 t170).bind fun bt173 => (some (bt173.1, bt173.2))))) else (some (false, t166))) = some (r1, r2) := H
 have A3 := Aside0.mk A30
 clear A30
 by_cases c4 : t166 = 0
 ·
  rw [if_pos c4] at H
  have c4b0 : (t166 == 0) = true := beq_iff_eq.mpr c4
  have c4b1 : (t166 != 0) = false := bne_eq_false_iff_eq.mpr c4
  clear c4
  replace H := Option.bind_eq_some_iff.mp H
  obtain ⟨t167, A50, H⟩ := H
  replace H : ((lockstepref01_Runes.f a1).bind fun t170 => ((lockstepref01_like.f k t167 t170).bind fun bt173 => (some (bt173.1, bt173.2)))) = some (r1, r2) := H
  have A5 := Aside0.mk A50
  clear A50
  replace H := Option.bind_eq_some_iff.mp H
  obtain ⟨t170, A60, H⟩ := H
  replace H : ((lockstepref01_like.f k t167 t170).bind fun bt173 => (some (bt173.1, bt173.2))) = some (r1, r2) := H
  have A6 := Aside0.mk A60
  clear A60
  replace H := Option.bind_eq_some_iff.mp H
  obtain ⟨⟨t173, t174⟩, A70, H⟩ := H
  replace H : (some (t173, t174)) = some (r1, r2) := H
  have A7 := Aside0.mk A70
  clear A70
  simp only [Option.some.injEq, Prod.mk.injEq] at H
  obtain ⟨rfl, rfl⟩ := H
  go_enter Tryd.func9, Tryd.ntmps9
  go_wp2_with (first | ((with_reducible refine gate_callee (f := 31) rfl ?_); refine goesL_ (some 11) rfl rfl Tryd.func31 (by kernel_rfl) rfl #[.agg #[.int .i64 3, .int .i64 0, .string a0], .agg #[.int .i64 3, .int .i64 0, .string a1]] rfl (by (try simp only [List.map_toArray, List.map_cons, List.map_nil]); first | done | rfl | (simp only [List.length_drop, List.length_take]; rfl)) ?_; (with_reducible refine (lockstepref01_both.calls k 3 0 a0 3 0 a1 t166 _ A3.out).mono ?_); rintro e w8 ⟨rfl, hb⟩; refine ⟨_, rfl, ?_⟩; have n0_ := Aside0.mk (below_step (by repeat (first | (with_reducible first | exact HB.out | apply below_alloc | apply pw_below_drewN | apply below_drew1) | exact HB.out)) hb); clear HB; have HB := n0_; clear n0_; (try clear hb); (try clear hb2); (try clear hk); (try clear hi)) | ((with_reducible refine gate_callee (f := 33) rfl ?_); refine goesL_ (some 16) rfl rfl Tryd.func33 (by kernel_rfl) rfl #[.string a0] rfl (by (try simp only [List.map_toArray, List.map_cons, List.map_nil]); first | done | rfl | (simp only [List.length_drop, List.length_take]; rfl)) ?_; (with_reducible refine (lockstepref01_Runes.calls a0 t167 _ A5.out).mono ?_); rintro e w9 ⟨v168, rfl, ho0, hb⟩; refine ⟨_, rfl, ?_⟩; have n0_ := Aside0.mk (Kd.R_lower ho0 (below_size (by repeat (first | (with_reducible first | exact HB.out | apply below_alloc | apply pw_below_drewN | apply below_drew1) | exact HB.out)))); have n1_ := Aside0.mk (below_step (by repeat (first | (with_reducible first | exact HB.out | apply below_alloc | apply pw_below_drewN | apply below_drew1) | exact HB.out)) hb); clear HB; have HO169 := n0_; have HB := n1_; clear n0_ n1_; (try clear hb); (try clear hb2); (try clear hk); (try clear hi); (try clear ho0)) | ((with_reducible refine gate_callee (f := 33) rfl ?_); refine goesL_ (some 18) rfl rfl Tryd.func33 (by kernel_rfl) rfl #[.string a1] rfl (by (try simp only [List.map_toArray, List.map_cons, List.map_nil]); first | done | rfl | (simp only [List.length_drop, List.length_take]; rfl)) ?_; (with_reducible refine (lockstepref01_Runes.calls a1 t170 _ A6.out).mono ?_); rintro e w10 ⟨v171, rfl, ho0, hb⟩; refine ⟨_, rfl, ?_⟩; have n0_ := Aside0.mk (Kd.R_elder' (by (with_reducible repeat (first | apply Kd.R_alloc | apply Kd.R_drewN | apply Kd.R_drew)); exact HO169.out) (Kd.R_base ho0) hb); have n1_ := Aside0.mk (Kd.R_lower (Kd.R_new' ho0 (Kd.R_lt (by (with_reducible repeat (first | apply Kd.R_alloc | apply Kd.R_drewN | apply Kd.R_drew)); exact HO169.out))) (below_size (by repeat (first | (with_reducible first | exact HB.out | apply below_alloc | apply pw_below_drewN | apply below_drew1) | exact HB.out)))); have n2_ := Aside0.mk (below_step (by repeat (first | (with_reducible first | exact HB.out | apply below_alloc | apply pw_below_drewN | apply below_drew1) | exact HB.out)) hb); clear HO169; clear HB; have HO169 := n0_; have HO172 := n1_; have HB := n2_; clear n0_ n1_ n2_; (try clear hb); (try clear hb2); (try clear hk); (try clear hi); (try clear ho0); obtain ⟨Ao11, co11, eo11⟩ := Kd.R_slice HO169.out; subst eo11; obtain ⟨Ao12, co12, eo12⟩ := Kd.R_slice HO172.out; subst eo12) | ((with_reducible refine gate_callee (f := 32) rfl ?_); refine goesL_ (some 19) rfl rfl Tryd.func32 (by kernel_rfl) rfl #[.slice Ao11 t167.length co11, .slice Ao12 t170.length co12] rfl (by (try simp only [List.map_toArray, List.map_cons, List.map_nil]); first | done | rfl | (simp only [List.length_drop, List.length_take]; rfl)) ?_; (with_reducible refine (lockstepref01_like.calls k _ _ t167 _ _ t170 t173 t174 _ ?side1 ?side2 ?side3 ?side4 A7.out).mono ?_); (case side1 => repeat (first | exact (Kd.R_reads' HO169.out).2.2 | (with_reducible refine Kd.C_alloc ?_ _) | (with_reducible refine Kd.C_drewN ?_ _) | (with_reducible refine Kd.C_drew ?_))); (case side2 => exact (Kd.R_reads' HO169.out).2.1); (case side3 => repeat (first | exact (Kd.R_reads' HO172.out).2.2 | (with_reducible refine Kd.C_alloc ?_ _) | (with_reducible refine Kd.C_drewN ?_ _) | (with_reducible refine Kd.C_drew ?_))); (case side4 => exact (Kd.R_reads' HO172.out).2.1); rintro e w13 ⟨rfl, hb⟩; refine ⟨_, rfl, ?_⟩; have n0_ := Aside0.mk (Kd.R_below (by (with_reducible repeat (first | apply Kd.R_alloc | apply Kd.R_drewN | apply Kd.R_drew)); exact HO169.out) hb); have n1_ := Aside0.mk (Kd.R_below (by (with_reducible repeat (first | apply Kd.R_alloc | apply Kd.R_drewN | apply Kd.R_drew)); exact HO172.out) hb); have n2_ := Aside0.mk (below_step (by repeat (first | (with_reducible first | exact HB.out | apply below_alloc | apply pw_below_drewN | apply below_drew1) | exact HB.out)) hb); clear HO169; clear HO172; clear HB; have HO169 := n0_; have HO172 := n1_; have HB := n2_; clear n0_ n1_ n2_; (try clear hb); (try clear hb2); (try clear hk); (try clear hi)))
  go_ret2
  exact ⟨by first | rfl | (simp [errW_none, errW_some] <;> rfl) | (simp [*, errW_none, errW_some] <;> rfl), by repeat (first | (with_reducible first | exact HB.out | apply below_alloc | apply pw_below_drewN | apply below_drew1) | exact HB.out)⟩
 ·
  rw [if_neg c4] at H
  have c4b0 : (t166 == 0) = false := beq_eq_false_iff_ne.mpr c4
  have c4b1 : (t166 != 0) = true := bne_iff_ne.mpr c4
  simp only [Option.some.injEq, Prod.mk.injEq] at H
  obtain ⟨rfl, rfl⟩ := H
  go_enter Tryd.func9, Tryd.ntmps9
  go_wp2_with (first | ((with_reducible refine gate_callee (f := 31) rfl ?_); refine goesL_ (some 11) rfl rfl Tryd.func31 (by kernel_rfl) rfl #[.agg #[.int .i64 3, .int .i64 0, .string a0], .agg #[.int .i64 3, .int .i64 0, .string a1]] rfl (by (try simp only [List.map_toArray, List.map_cons, List.map_nil]); first | done | rfl | (simp only [List.length_drop, List.length_take]; rfl)) ?_; (with_reducible refine (lockstepref01_both.calls k 3 0 a0 3 0 a1 t166 _ A3.out).mono ?_); rintro e w14 ⟨rfl, hb⟩; refine ⟨_, rfl, ?_⟩; have n0_ := Aside0.mk (below_step (by repeat (first | (with_reducible first | exact HB.out | apply below_alloc | apply pw_below_drewN | apply below_drew1) | exact HB.out)) hb); clear HB; have HB := n0_; clear n0_; (try clear hb); (try clear hb2); (try clear hk); (try clear hi)))
  go_ret2
  exact ⟨by first | rfl | (simp [errW_none, errW_some] <;> rfl) | (simp [*, errW_none, errW_some] <;> rfl), by repeat (first | (with_reducible first | exact HB.out | apply below_alloc | apply pw_below_drewN | apply below_drew1) | exact HB.out)⟩
end Go.Proofs.YtkkpnbfhghfleaaDoor.Y
end
section
namespace Go.Proofs.YtkkpnbfhghfleaaDoor.Y
open Go.Proofs.YtkkpnbfhghfleaaDoor.X
open Go.RowKit Go.Proofs.YtkkpnbfhghfleaaDoorW.PrintWords Go.Proofs.YtkkpnbfhghfleaaDoorW.PrintLast Go.Proofs.YtkkpnbfhghfleaaDoorW.PrintMore
attribute [local go_sem] max2_int min2_int max_two min_two max_three min_three max_four min_four
set_option linter.unusedVariables false
set_option linter.unusedSimpArgs false
def locksteplaw01_ValueLikes.f (k : Nat) (a0 : ByteArray) (a1 : ByteArray) : Option (Bool) := (value_Like.f k a0 a1).bind fun bt175 => ((lockstepref01_Like.f k a0 a1).bind fun bt177 => ((value_Like.f k (⟨#[71, 114, 195, 182, 195, 159, 101]⟩ : ByteArray) (⟨#[71, 114, 95, 95, 101]⟩ : ByteArray)).bind fun bt179 => (if (bt175.1 == bt177.1) = true then (if bt175.2 = bt177.2 then (if bt179.1 = true then (some (bt179.2 == 0)) else (some false)) else (some false)) else (some false))))
set_option maxHeartbeats 8000000 in
set_option maxRecDepth 100000 in
theorem locksteplaw01_ValueLikes.calls (k : Nat) (a0 : ByteArray) (a1 : ByteArray) (r : Bool) (w : World) (hT : Tabs w) (h : locksteplaw01_ValueLikes.f k a0 a1 = some r) (hr : r = true) :
  Calls Tryd.prog 3 #[.string a0, .string a1] w fun e w' => e = .returned (.bool r) ∧ Below w.heap.size w w' := by
 have HR := Aside0.mk hr
 clear hr
 have HT := Aside0.mk hT
 clear hT
 have HB := Aside0.mk (Below.refl w.heap.size w)
 have H : ((value_Like.f k a0 a1).bind fun bt175 => ((lockstepref01_Like.f k a0 a1).bind fun bt177 => ((value_Like.f k (⟨#[71, 114, 195, 182, 195, 159, 101]⟩ : ByteArray) (⟨#[71, 114, 95, 95, 101]⟩ : ByteArray)).bind fun bt179 => (if (bt175.1 == bt177.1) = true then (if bt175.2 = bt177.2 then (if bt179.1 = true then (some (bt179.2 == 0)) else (some false)) else (some false)) else (some false))))) = some r := h
 clear h
 replace H := Option.bind_eq_some_iff.mp H
 obtain ⟨⟨t175, t176⟩, A30, H⟩ := H
 replace H : ((lockstepref01_Like.f k a0 a1).bind fun bt177 => ((value_Like.f k (⟨#[71, 114, 195, 182, 195, 159, 101]⟩ : ByteArray) (⟨#[71, 114, 95, 95, 101]⟩ : ByteArray)).bind fun bt179 => (if (t175 == bt177.1) = true then (if t176 = bt177.2 then (if bt179.1 = true then (some (bt179.2 == 0)) else (some false)) else (some false)) else (some false)))) = some r := H
 have A3 := Aside0.mk A30
 clear A30
 replace H := Option.bind_eq_some_iff.mp H
 obtain ⟨⟨t177, t178⟩, A40, H⟩ := H
 replace H : ((value_Like.f k (⟨#[71, 114, 195, 182, 195, 159, 101]⟩ : ByteArray) (⟨#[71, 114, 95, 95, 101]⟩ : ByteArray)).bind fun bt179 => (if (t175 == t177) = true then (if t176 = t178 then (if bt179.1 = true then (some (bt179.2 == 0)) else (some false)) else (some false)) else (some false))) = some r := H
 have A4 := Aside0.mk A40
 clear A40
 replace H := Option.bind_eq_some_iff.mp H
 obtain ⟨⟨t179, t180⟩, A50, H⟩ := H
 replace H : (if (t175 == t177) = true then (if t176 = t178 then (if t179 = true then (some (t180 == 0)) else (some false)) else (some false)) else (some false)) = some r := H
 have A5 := Aside0.mk A50
 clear A50
 by_cases c6 : (t175 == t177) = true
 ·
  rw [if_pos c6] at H
  have c6b0 : (t175 == t177) = true := c6
  (try (have c6b1 : decide (t175 = t177) = true := by simpa using c6))
  (try (have c6b2 : (t175 == t177) = true := by simpa using c6))
  clear c6
  by_cases c7 : t176 = t178
  ·
   rw [if_pos c7] at H
   have c7b0 : (t176 == t178) = true := beq_iff_eq.mpr c7
   have c7b1 : (t176 != t178) = false := bne_eq_false_iff_eq.mpr c7
   clear c7
   by_cases c8 : t179 = true
   ·
    subst c8
    have H1 : (some (t180 == 0)) = some r := by rw [if_pos rfl] at H; exact H
    clear H
    have H := H1
    clear H1
    obtain rfl := Option.some.inj H
    go_enter Tryd.func3, Tryd.ntmps3
    go_wp2_with (first | ((with_reducible refine gate_callee (f := 8) rfl ?_); refine goesL_ (some 14) rfl rfl Tryd.func8 (by kernel_rfl) rfl #[.string a0, .string a1] rfl (by (try simp only [List.map_toArray, List.map_cons, List.map_nil]); first | done | rfl | (simp only [List.length_drop, List.length_take]; rfl)) ?_; (with_reducible refine (value_Like.calls k a0 a1 t175 t176 _ ?side1 A3.out).mono ?_); (case side1 => exact Tabs.below HT.out (by repeat (first | (with_reducible first | exact HB.out | apply below_alloc | apply pw_below_drewN | apply below_drew1) | exact HB.out))); rintro e w9 ⟨rfl, hb⟩; refine ⟨_, rfl, ?_⟩; have n0_ := Aside0.mk (below_step (by repeat (first | (with_reducible first | exact HB.out | apply below_alloc | apply pw_below_drewN | apply below_drew1) | exact HB.out)) hb); clear HB; have HB := n0_; clear n0_; (try clear hb); (try clear hb2); (try clear hk); (try clear hi)) | ((with_reducible refine gate_callee (f := 9) rfl ?_); refine goesL_ (some 20) rfl rfl Tryd.func9 (by kernel_rfl) rfl #[.string a0, .string a1] rfl (by (try simp only [List.map_toArray, List.map_cons, List.map_nil]); first | done | rfl | (simp only [List.length_drop, List.length_take]; rfl)) ?_; (with_reducible refine (lockstepref01_Like.calls k a0 a1 t177 t178 _ A4.out).mono ?_); rintro e w10 ⟨rfl, hb⟩; refine ⟨_, rfl, ?_⟩; have n0_ := Aside0.mk (below_step (by repeat (first | (with_reducible first | exact HB.out | apply below_alloc | apply pw_below_drewN | apply below_drew1) | exact HB.out)) hb); clear HB; have HB := n0_; clear n0_; (try clear hb); (try clear hb2); (try clear hk); (try clear hi)) | ((with_reducible refine gate_callee (f := 8) rfl ?_); refine goesL_ (some 24) rfl rfl Tryd.func8 (by kernel_rfl) rfl #[.string (⟨#[71, 114, 195, 182, 195, 159, 101]⟩ : ByteArray), .string (⟨#[71, 114, 95, 95, 101]⟩ : ByteArray)] rfl (by (try simp only [List.map_toArray, List.map_cons, List.map_nil]); first | done | rfl | (simp only [List.length_drop, List.length_take]; rfl)) ?_; (with_reducible refine (value_Like.calls k (⟨#[71, 114, 195, 182, 195, 159, 101]⟩ : ByteArray) (⟨#[71, 114, 95, 95, 101]⟩ : ByteArray) true t180 _ ?side1 A5.out).mono ?_); (case side1 => exact Tabs.below HT.out (by repeat (first | (with_reducible first | exact HB.out | apply below_alloc | apply pw_below_drewN | apply below_drew1) | exact HB.out))); rintro e w11 ⟨rfl, hb⟩; refine ⟨_, rfl, ?_⟩; have n0_ := Aside0.mk (below_step (by repeat (first | (with_reducible first | exact HB.out | apply below_alloc | apply pw_below_drewN | apply below_drew1) | exact HB.out)) hb); clear HB; have HB := n0_; clear n0_; (try clear hb); (try clear hb2); (try clear hk); (try clear hi)))
    go_ret
    exact ⟨by first | rfl | (simp [errW_none, errW_some] <;> rfl) | (simp [*, errW_none, errW_some] <;> rfl), by repeat (first | (with_reducible first | exact HB.out | apply below_alloc | apply pw_below_drewN | apply below_drew1) | exact HB.out)⟩
   ·
    replace c8 := Bool.eq_false_iff.mpr c8
    subst c8
    have H1 : (some false) = some r := by rw [if_neg (show ¬ (false = true) by decide)] at H; exact H
    clear H
    have H := H1
    clear H1
    exact absurd (Option.some.inj H) (by rw [HR.out]; simp)
  ·
   rw [if_neg c7] at H
   have c7b0 : (t176 == t178) = false := beq_eq_false_iff_ne.mpr c7
   have c7b1 : (t176 != t178) = true := bne_iff_ne.mpr c7
   exact absurd (Option.some.inj H) (by rw [HR.out]; simp)
 ·
  rw [if_neg c6] at H
  have c6b0 : (t175 == t177) = false := by simpa using c6
  (try (have c6b1 : decide (t175 = t177) = false := by simpa using c6))
  (try (have c6b2 : (t175 == t177) = false := by simpa using c6))
  (try (have c6b3 : ¬ (t175 = t177) := by simpa using c6))
  clear c6
  exact absurd (Option.some.inj H) (by rw [HR.out]; simp)
end Go.Proofs.YtkkpnbfhghfleaaDoor.Y
end
section
namespace Go.Proofs.YtkkpnbfhghfleaaDoor.Y.Pat
structure Mk where
  c : Int
  w : Bool
def pct (m : Mk) : Bool := m.w && m.c == 37
def one (m : Mk) (x : Int) : Bool := (m.w && m.c == 95) || (!m.w && m.c == x)
def sufAny (f : List Int → Bool) : List Int → Bool
  | [] => f []
  | x :: t => f (x :: t) || sufAny f t
def mt : List Mk → List Int → Bool
  | [] => fun t => t.isEmpty
  | m :: p => fun t => if pct m = true then sufAny (mt p) t else match t with
    | [] => false
    | x :: t' => one m x && mt p t'
theorem sufAny_iff (f : List Int → Bool) : ∀ t, sufAny f t = true ↔ ∃ a b, t = a ++ b ∧ f b = true
  | [] => by
    constructor
    · intro h; exact ⟨[], [], rfl, h⟩
    · rintro ⟨a, b, h, hf⟩
      have hb : b = [] := (List.append_eq_nil_iff.mp h.symm).2
      subst hb; exact hf
  | x :: t => by
    show (f (x :: t) || sufAny f t) = true ↔ _
    rw [Bool.or_eq_true, sufAny_iff f t]
    constructor
    · rintro (h | ⟨a, b, h, hf⟩)
      · exact ⟨[], x :: t, rfl, h⟩
      · exact ⟨x :: a, b, by rw [h]; rfl, hf⟩
    · rintro ⟨a, b, h, hf⟩
      cases a with
      | nil => left; rw [h]; exact hf
      | cons y a => right; injection h with _ h; exact ⟨a, b, h, hf⟩
theorem mt_pct {m : Mk} (h : pct m = true) (p : List Mk) (t : List Int) : mt (m :: p) t = sufAny (mt p) t := by
  show (if pct m = true then _ else _) = _
  rw [if_pos h]
theorem mt_one {m : Mk} (h : pct m = false) (p : List Mk) (x : Int) (t : List Int) : mt (m :: p) (x :: t) = (one m x && mt p t) := by
  show (if pct m = true then _ else _) = _
  rw [if_neg (by rw [h]; decide)]
theorem mt_nil {m : Mk} (h : pct m = false) (p : List Mk) : mt (m :: p) [] = false := by
  show (if pct m = true then _ else _) = _
  rw [if_neg (by rw [h]; decide)]
theorem mt_append : ∀ (p q : List Mk) (t : List Int), mt (p ++ q) t = true ↔ ∃ a b, t = a ++ b ∧ mt p a = true ∧ mt q b = true
  | [], q, t => by
    constructor
    · intro h; exact ⟨[], t, rfl, rfl, h⟩
    · rintro ⟨a, b, h, ha, hb⟩
      have : a = [] := List.isEmpty_iff.mp ha
      subst this; rw [h]; exact hb
  | m :: p, q, t => by
    rw [List.cons_append]
    cases hp : pct m
    · cases t with
      | nil =>
        rw [mt_nil hp]
        constructor
        · intro h; cases h
        · rintro ⟨a, b, h, h1, h2⟩
          have ha : a = [] := (List.append_eq_nil_iff.mp h.symm).1
          subst ha
          rw [mt_nil hp] at h1; cases h1
      | cons x t =>
        rw [mt_one hp, Bool.and_eq_true, mt_append p q t]
        constructor
        · rintro ⟨h0, b1, b2, e, h1, h2⟩
          exact ⟨x :: b1, b2, by rw [e]; rfl, by rw [mt_one hp, h0, h1]; rfl, h2⟩
        · rintro ⟨a, b, h, h1, h2⟩
          cases a with
          | nil => rw [mt_nil hp] at h1; cases h1
          | cons y a =>
            injection h with e1 e2
            subst e1
            rw [mt_one hp, Bool.and_eq_true] at h1
            exact ⟨h1.1, a, b, e2, h1.2, h2⟩
    · rw [mt_pct hp, sufAny_iff]
      constructor
      · rintro ⟨a, b, h, hb⟩
        obtain ⟨b1, b2, e, h1, h2⟩ := (mt_append p q b).mp hb
        exact ⟨a ++ b1, b2, by rw [h, e, List.append_assoc], by rw [mt_pct hp]; exact (sufAny_iff _ _).mpr ⟨a, b1, rfl, h1⟩, h2⟩
      · rintro ⟨a, b, h, h1, h2⟩
        rw [mt_pct hp] at h1
        obtain ⟨a1, a2, e, h3⟩ := (sufAny_iff _ _).mp h1
        exact ⟨a1, a2 ++ b, by rw [h, e, List.append_assoc], (mt_append p q (a2 ++ b)).mpr ⟨a2, b, rfl, h3, h2⟩⟩
theorem mt_len : ∀ (p : List Mk) (t : List Int), (∀ m ∈ p, pct m = false) → mt p t = true → t.length = p.length
  | [], t, _, h => by rw [List.isEmpty_iff.mp h]; rfl
  | m :: p, t, hp, h => by
    have h1 : pct m = false := hp m List.mem_cons_self
    cases t with
    | nil => rw [mt_nil h1] at h; cases h
    | cons x t =>
      rw [mt_one h1, Bool.and_eq_true] at h
      have := mt_len p t (fun m hm => hp m (List.mem_cons_of_mem _ hm)) h.2
      simp [this]
theorem mt_snoc_pct (p : List Mk) (m : Mk) (hm : pct m = true) (t : List Int) : mt (p ++ [m]) t = true ↔ ∃ a b, t = a ++ b ∧ mt p a = true := by
  rw [mt_append]
  constructor
  · rintro ⟨a, b, h, h1, _⟩; exact ⟨a, b, h, h1⟩
  · rintro ⟨a, b, h, h1⟩
    refine ⟨a, b, h, h1, ?_⟩
    rw [mt_pct hm, sufAny_iff]
    exact ⟨b, [], by simp, rfl⟩
theorem mt_snoc_one (p : List Mk) (m : Mk) (hm : pct m = false) (t : List Int) (x : Int) : mt (p ++ [m]) (t ++ [x]) = (mt p t && one m x) := by
  rw [Bool.eq_iff_iff, mt_append, Bool.and_eq_true]
  have hs : ∀ b, mt [m] b = true ↔ ∃ y, b = [y] ∧ one m y = true := by
    intro b
    cases b with
    | nil => rw [mt_nil hm]; simp
    | cons y b =>
      rw [mt_one hm, Bool.and_eq_true]
      constructor
      · rintro ⟨h1, h2⟩
        have : b = [] := List.isEmpty_iff.mp h2
        exact ⟨y, by rw [this], h1⟩
      · rintro ⟨z, h, h1⟩
        injection h with e1 e2
        subst e1 e2
        exact ⟨h1, rfl⟩
  constructor
  · rintro ⟨a, b, h, h1, h2⟩
    obtain ⟨y, rfl, hy⟩ := (hs b).mp h2
    obtain ⟨e1, e2⟩ := List.append_inj' h rfl
    injection e2 with e2
    subst e1 e2
    exact ⟨h1, hy⟩
  · rintro ⟨h1, h2⟩
    exact ⟨t, [x], rfl, h1, (hs _).mpr ⟨x, rfl, h2⟩⟩
theorem mt_snoc_nil (p : List Mk) (m : Mk) (hm : pct m = false) : mt (p ++ [m]) [] = false := by
  rw [Bool.eq_false_iff]
  intro h
  obtain ⟨a, b, h1, _, h2⟩ := (mt_append p [m] []).mp h
  have hb : b = [] := (List.append_eq_nil_iff.mp h1.symm).2
  subst hb
  rw [mt_nil hm] at h2; cases h2
def openS (p : List Mk) (t : List Int) (at_ i : Nat) (st : Option (Nat × Nat)) : Bool :=
  mt (p.drop i) (t.drop at_) || (match st with | none => false | some (star, taken) => sufAny (mt (p.drop (star + 1))) (t.drop (taken + 1)))
def Inv (p : List Mk) (t : List Int) (at_ i : Nat) (st : Option (Nat × Nat)) : Prop :=
  i ≤ p.length ∧ at_ ≤ t.length ∧ match st with
    | none => True
    | some (star, taken) => star + 1 ≤ i ∧ taken ≤ at_ ∧ at_ - taken = i - (star + 1) ∧ ∀ m ∈ (p.drop (star + 1)).take (i - (star + 1)), pct m = false
theorem drop_seg (p : List Mk) (a i : Nat) (h : a ≤ i) : p.drop a = (p.drop a).take (i - a) ++ p.drop i := by
  have := (List.take_append_drop (i - a) (p.drop a)).symm
  rw [List.drop_drop] at this
  rw [show a + (i - a) = i by omega] at this
  exact this
theorem later {p : List Mk} {t : List Int} {at_ i star taken : Nat} (hi : Inv p t at_ i (some (star, taken))) (h : sufAny (mt (p.drop (star + 1))) (t.drop (taken + 1)) = true) :
    ∃ n, at_ ≤ n ∧ n ≤ t.length ∧ mt (p.drop i) (t.drop n) = true := by
  obtain ⟨h1, h2, h3, h4, h5, h6⟩ := hi
  obtain ⟨a, b, e, hb⟩ := (sufAny_iff _ _).mp h
  rw [drop_seg p (star + 1) i h3] at hb
  obtain ⟨b1, b2, e2, m1, m2⟩ := (mt_append _ _ _).mp hb
  have hl := mt_len _ _ h6 m1
  have hlen : ((p.drop (star + 1)).take (i - (star + 1))).length = i - (star + 1) := by rw [List.length_take, List.length_drop]; omega
  rw [hlen] at hl
  have eall : t.drop (taken + 1) = (a ++ b1) ++ b2 := by rw [e, e2, List.append_assoc]
  have hlt := congrArg List.length eall
  rw [List.length_drop, List.length_append, List.length_append] at hlt
  by_cases hz : taken + 1 ≤ t.length
  · refine ⟨taken + 1 + (a ++ b1).length, ?_, ?_, ?_⟩
    · rw [List.length_append]; omega
    · rw [List.length_append]; omega
    · rw [← List.drop_drop, eall, List.drop_left]; exact m2
  · have hb0 : b1.length = 0 := by omega
    have hb2 : b2 = [] := List.eq_nil_of_length_eq_zero (by omega)
    refine ⟨at_, Nat.le_refl _, h2, ?_⟩
    rw [show t.drop at_ = [] from List.drop_eq_nil_of_le (by omega), ← hb2]; exact m2
theorem drop_cons {α : Type} (l : List α) (i : Nat) (h : i < l.length) : l.drop i = l[i] :: l.drop (i + 1) := List.drop_eq_getElem_cons h
def more (p : List Mk) (t : List Int) (st : Option (Nat × Nat)) : Bool := match st with | none => false | some (star, taken) => sufAny (mt (p.drop (star + 1))) (t.drop (taken + 1))
theorem openS_eq (p : List Mk) (t : List Int) (at_ i : Nat) (st : Option (Nat × Nat)) : openS p t at_ i st = (mt (p.drop i) (t.drop at_) || more p t st) := rfl
theorem more_later {p : List Mk} {t : List Int} {at_ i : Nat} {st : Option (Nat × Nat)} (hi : Inv p t at_ i st) (h : more p t st = true) : ∃ n, at_ ≤ n ∧ n ≤ t.length ∧ mt (p.drop i) (t.drop n) = true := by
  cases st with
  | none => cases h
  | some q => exact later hi h
theorem suf_drop (f : List Int → Bool) (t : List Int) (a n : Nat) (h : a ≤ n) (hf : sufAny f (t.drop n) = true) : sufAny f (t.drop a) = true := by
  obtain ⟨x, y, e, hy⟩ := (sufAny_iff _ _).mp hf
  refine (sufAny_iff _ _).mpr ⟨(t.drop a).take (n - a) ++ x, y, ?_, hy⟩
  have h1 := (List.take_append_drop (n - a) (t.drop a)).symm
  rw [List.drop_drop, show a + (n - a) = n by omega] at h1
  rw [List.append_assoc, ← e]; exact h1
theorem L_pct {p : List Mk} {t : List Int} {at_ i : Nat} {st : Option (Nat × Nat)} (hi : Inv p t at_ i st) (ha : at_ < t.length) (hp : i < p.length) (h : pct p[i] = true) :
    openS p t at_ i st = openS p t at_ (i + 1) (some (i, at_)) ∧ Inv p t at_ (i + 1) (some (i, at_)) := by
  refine ⟨?_, by omega, hi.2.1, Nat.le_refl _, Nat.le_refl _, by omega, ?_⟩
  · have e1 : mt (p.drop i) (t.drop at_) = sufAny (mt (p.drop (i + 1))) (t.drop at_) := by rw [drop_cons p i hp, mt_pct h]
    have e2 : sufAny (mt (p.drop (i + 1))) (t.drop at_) = (mt (p.drop (i + 1)) (t.drop at_) || sufAny (mt (p.drop (i + 1))) (t.drop (at_ + 1))) := by
      rw [drop_cons t at_ ha]; rfl
    have e3 : more p t (some (i, at_)) = sufAny (mt (p.drop (i + 1))) (t.drop (at_ + 1)) := rfl
    rw [openS_eq, openS_eq, e3, ← e2, e1]
    cases hm : more p t st with
    | false => rw [Bool.or_false]
    | true =>
      obtain ⟨n, h1, h2, h3⟩ := more_later hi hm
      rw [drop_cons p i hp, mt_pct h] at h3
      rw [suf_drop _ t at_ n h1 h3]; rfl
  · intro m hm
    rw [show i + 1 - (i + 1) = 0 by omega] at hm
    cases hm
theorem L_one {p : List Mk} {t : List Int} {at_ i : Nat} {st : Option (Nat × Nat)} (hi : Inv p t at_ i st) (ha : at_ < t.length) (hp : i < p.length) (h : pct p[i] = false) (h1 : one p[i] t[at_] = true) :
    openS p t at_ i st = openS p t (at_ + 1) (i + 1) st ∧ Inv p t (at_ + 1) (i + 1) st := by
  refine ⟨?_, by omega, by omega, ?_⟩
  · rw [openS_eq, openS_eq, drop_cons p i hp, drop_cons t at_ ha, mt_one h, h1, Bool.true_and]
  · cases st with
    | none => trivial
    | some q =>
      obtain ⟨star, taken⟩ := q
      obtain ⟨_, _, h3, h4, h5, h6⟩ := hi
      refine ⟨by omega, by omega, by omega, ?_⟩
      intro m hm
      rw [show i + 1 - (star + 1) = (i - (star + 1)) + 1 by omega, List.take_add_one] at hm
      rcases List.mem_append.mp hm with hm | hm
      · exact h6 m hm
      · rw [List.getElem?_drop, show star + 1 + (i - (star + 1)) = i by omega, List.getElem?_eq_getElem hp] at hm
        simp only [Option.toList_some, List.mem_singleton] at hm
        rw [hm]; exact h
theorem stuck {p : List Mk} {t : List Int} {at_ i : Nat} (ha : at_ < t.length) (h : ∀ hp : i < p.length, pct p[i] = false ∧ one p[i] t[at_] = false) (hi : i ≤ p.length) : mt (p.drop i) (t.drop at_) = false := by
  rw [drop_cons t at_ ha]
  by_cases hp : i < p.length
  · rw [drop_cons p i hp, mt_one (h hp).1, (h hp).2, Bool.false_and]
  · rw [List.drop_eq_nil_of_le (show p.length ≤ i by omega)]; rfl
theorem L_back {p : List Mk} {t : List Int} {at_ i star taken : Nat} (hi : Inv p t at_ i (some (star, taken))) (ha : at_ < t.length) (h : ∀ hp : i < p.length, pct p[i] = false ∧ one p[i] t[at_] = false) :
    openS p t at_ i (some (star, taken)) = openS p t (taken + 1) (star + 1) (some (star, taken + 1)) ∧ Inv p t (taken + 1) (star + 1) (some (star, taken + 1)) := by
  obtain ⟨h1, h2, h3, h4, h5, h6⟩ := hi
  refine ⟨?_, by omega, by omega, Nat.le_refl _, Nat.le_refl _, by omega, ?_⟩
  · rw [openS_eq, openS_eq, stuck ha h h1, Bool.false_or]
    show sufAny (mt (p.drop (star + 1))) (t.drop (taken + 1)) = (mt (p.drop (star + 1)) (t.drop (taken + 1)) || sufAny (mt (p.drop (star + 1))) (t.drop (taken + 1 + 1)))
    by_cases hz : taken + 1 < t.length
    · rw [drop_cons t (taken + 1) hz]; rfl
    · rw [List.drop_eq_nil_of_le (show t.length ≤ taken + 1 by omega), List.drop_eq_nil_of_le (show t.length ≤ taken + 1 + 1 by omega)]
      show mt _ [] = (mt _ [] || mt _ [])
      rw [Bool.or_self]
  · intro m hm
    rw [show star + 1 - (star + 1) = 0 by omega] at hm
    cases hm
theorem L_fail {p : List Mk} {t : List Int} {at_ i : Nat} (hi : i ≤ p.length) (ha : at_ < t.length) (h : ∀ hp : i < p.length, pct p[i] = false ∧ one p[i] t[at_] = false) : openS p t at_ i none = false := by
  rw [openS_eq, stuck ha h hi]; rfl
theorem L_end {p : List Mk} {t : List Int} {at_ i : Nat} {st : Option (Nat × Nat)} (hi : Inv p t at_ i st) (ha : at_ = t.length) : openS p t at_ i st = mt (p.drop i) [] := by
  have hd : t.drop at_ = [] := List.drop_eq_nil_of_le (by omega)
  rw [openS_eq, hd]
  cases hm : more p t st with
  | false => rw [Bool.or_false]
  | true =>
    obtain ⟨n, h1, h2, h3⟩ := more_later hi hm
    rw [List.drop_eq_nil_of_le (show t.length ≤ n by omega)] at h3
    rw [h3]; rfl
theorem mt_end : ∀ (p : List Mk), mt p [] = p.all pct
  | [] => rfl
  | m :: p => by
    cases h : pct m
    · rw [mt_nil h, List.all_cons, h, Bool.false_and]
    · rw [mt_pct h, List.all_cons, h, Bool.true_and]; exact mt_end p
end Go.Proofs.YtkkpnbfhghfleaaDoor.Y.Pat
end
section
namespace Go.Proofs.YtkkpnbfhghfleaaDoor.Y
open Go.Proofs.YtkkpnbfhghfleaaDoor.X
open Go.RowKit Go.Proofs.YtkkpnbfhghfleaaDoorW.PrintWords Go.Proofs.YtkkpnbfhghfleaaDoorW.PrintLast Go.Proofs.YtkkpnbfhghfleaaDoorW.PrintMore
open Pat
set_option linter.unusedVariables false
set_option linter.unusedSimpArgs false
def toMk (v : S48) : Mk := ⟨v.f0, v.f1⟩
theorem rdT (l : List S48) (i : Nat) (h : i < l.length) : rd_T48 l (i : Int) = l[i] := by
  unfold rd_T48; rw [Int.toNat_natCast, List.getD_eq_getElem?_getD, List.getElem?_eq_getElem h]; rfl
theorem rdI (l : List Int) (i : Nat) (h : i < l.length) : rd l (i : Int) = l[i] := by
  unfold rd; rw [Int.toNat_natCast, List.getD_eq_getElem?_getD, List.getElem?_eq_getElem h]; rfl
theorem wS (a : Nat) (h : a < 1000000000) : wrap64 ((a : Int) + 1) = ((a + 1 : Nat) : Int) := by unfold wrap64; omega
theorem mapGet (l : List S48) (i : Nat) (h : i < (l.map toMk).length) : (l.map toMk)[i] = toMk (l[i]'(by simpa using h)) := by simp
theorem l3_run (p : List S48) (hp : p.length < 1000000) : ∀ (d i : Nat), i + d = p.length → ∀ k, value_Like.l3 (k + d + 1) p (i : Int) = some (((p.map toMk).drop i).all pct, 0)
  | 0, i, h, k => by
    rw [value_Like.l3, if_neg (by omega), List.drop_eq_nil_of_le (by simp; omega)]
    rw [show ((i : Int) == (p.length : Int)) = true from beq_iff_eq.mpr (by omega)]; rfl
  | d + 1, i, h, k => by
    have hi : i < p.length := by omega
    rw [value_Like.l3, if_pos (by omega), if_pos (by omega), rdT p i hi, drop_cons (p.map toMk) i (by simpa using hi), List.all_cons, mapGet]
    have hne : ((i : Int) == (p.length : Int)) = false := beq_eq_false_iff_ne.mpr (by omega)
    rw [hne]
    cases hw : p[i].f1
    · rw [if_neg (by decide), show pct (toMk p[i]) = false by simp [pct, toMk, hw], Bool.false_and]
    · rw [if_pos rfl]
      by_cases hc : p[i].f0 = 37
      · rw [if_pos hc, wS i (by omega), show k + (d + 1) = k + d + 1 from rfl, l3_run p hp d (i + 1) (by omega) k, show pct (toMk p[i]) = true by simp [pct, toMk, hw, hc], Bool.true_and]
      · rw [if_neg hc, show pct (toMk p[i]) = false by simp [pct, toMk, hw, hc], Bool.false_and]
def e1 : Option (Nat × Nat) → Int | none => -1 | some q => (q.1 : Int)
def e2 : Option (Nat × Nat) → Int | none => 0 | some q => (q.2 : Int)
def gone : Option (Nat × Nat) → Nat | none => 0 | some q => q.2 + 1
theorem l2_end (p : List S48) (t : List Int) (at_ i : Nat) (x y : Int) (k : Nat) (h : at_ = t.length) : value_Like.l2 (k + 1) p t (at_ : Int) (i : Int) x y = value_Like.l3 k p i := by
  rw [value_Like.l2, if_neg (by omega)]
theorem l2_step (p : List S48) (t : List Int) (at_ i : Nat) (x y : Int) (k : Nat) (h : at_ < t.length) :
    value_Like.l2 (k + 1) p t (at_ : Int) (i : Int) x y = value_Like.j3 k p t at_ i x y (if hi : i < p.length then pct (toMk p[i]) else false) := by
  rw [value_Like.l2, if_pos (by omega)]
  by_cases hi : i < p.length
  · rw [if_pos (by omega), if_pos (by omega), rdT p i hi, dif_pos hi]
    cases hw : p[i].f1
    · rw [if_neg (by decide), show pct (toMk p[i]) = false by simp [pct, toMk, hw]]
    · rw [if_pos rfl, show pct (toMk p[i]) = (p[i].f0 == 37) by simp [pct, toMk, hw]]
  · rw [if_neg (by omega), dif_neg hi]
theorem j3_step (p : List S48) (t : List Int) (at_ i : Nat) (x y : Int) (k : Nat) (h : at_ < t.length) :
    value_Like.j3 (k + 1) p t (at_ : Int) (i : Int) x y false = value_Like.j4 k p t at_ i x y (if hi : i < p.length then one (toMk p[i]) t[at_] else false) := by
  rw [value_Like.j3, if_neg (by decide)]
  by_cases hi : i < p.length
  · rw [if_pos (by omega), if_pos (by omega), rdT p i hi, dif_pos hi]
    cases hw : p[i].f1
    · rw [if_neg (by decide), if_neg (by decide), if_pos (by omega), if_pos (by omega), rdI t at_ h, show one (toMk p[i]) t[at_] = (p[i].f0 == t[at_]) by simp [one, toMk, hw]]
    · rw [if_pos rfl, if_pos rfl]
      by_cases hc : p[i].f0 = 95
      · rw [if_pos hc, show one (toMk p[i]) t[at_] = true by simp [one, toMk, hw, hc]]
      · rw [if_neg hc, show one (toMk p[i]) t[at_] = false by simp [one, toMk, hw, hc]]
  · rw [if_neg (by omega), dif_neg hi]
theorem l2_run (p : List S48) (t : List Int) (hp : p.length < 1000000) (ht : t.length < 1000000) : ∀ (Φ : Nat) (at_ i : Nat) (st : Option (Nat × Nat)), Inv (p.map toMk) t at_ i st →
    (t.length + 1 - gone st) * (p.length + 2) + (p.length + 1 - i) ≤ Φ → ∃ K, ∀ k, value_Like.l2 (K + k) p t (at_ : Int) (i : Int) (e1 st) (e2 st) = some (openS (p.map toMk) t at_ i st, 0) := by
  intro Φ
  induction Φ with
  | zero =>
    intro at_ i st hi hm
    have := hi.1
    rw [List.length_map] at this
    omega
  | succ Φ ih =>
    intro at_ i st hi hm
    have hil := hi.1
    rw [List.length_map] at hil
    have hal := hi.2.1
    by_cases ha : at_ = t.length
    · refine ⟨(p.length - i) + 1 + 1, fun k => ?_⟩
      rw [show (p.length - i) + 1 + 1 + k = (k + (p.length - i) + 1) + 1 by omega, l2_end p t at_ i _ _ _ ha, l3_run p hp (p.length - i) i (by omega), L_end hi ha, mt_end]
    have ha' : at_ < t.length := by omega
    by_cases h3 : ∃ hj : i < p.length, pct (toMk p[i]) = true
    · obtain ⟨hj, h3⟩ := h3
      obtain ⟨eq, inv⟩ := L_pct hi ha' (by simpa using hj) (by rw [mapGet]; exact h3)
      have hg : gone st ≤ at_ + 1 := by
        cases st with
        | none => exact Nat.zero_le _
        | some q => have := hi.2.2.2.1; show q.2 + 1 ≤ _; omega
      have hle : (t.length + 1 - (at_ + 1)) * (p.length + 2) ≤ (t.length + 1 - gone st) * (p.length + 2) := Nat.mul_le_mul_right _ (by omega)
      obtain ⟨K, hK⟩ := ih at_ (i + 1) (some (i, at_)) inv (by show (t.length + 1 - (at_ + 1)) * (p.length + 2) + _ ≤ Φ; omega)
      refine ⟨K + 2, fun k => ?_⟩
      rw [show K + 2 + k = (K + k + 1) + 1 by omega, l2_step p t at_ i _ _ _ ha', dif_pos hj, h3, value_Like.j3, if_pos rfl, wS i (by omega), eq]
      exact hK k
    · have hpn : (if hj : i < p.length then pct (toMk p[i]) else false) = false := by
        by_cases hj : i < p.length
        · rw [dif_pos hj, Bool.eq_false_iff]; exact fun h => h3 ⟨hj, h⟩
        · rw [dif_neg hj]
      by_cases h4 : ∃ hj : i < p.length, one (toMk p[i]) t[at_] = true
      · obtain ⟨hj, h4⟩ := h4
        have hpf : pct (toMk p[i]) = false := by rw [Bool.eq_false_iff]; exact fun h => h3 ⟨hj, h⟩
        obtain ⟨eq, inv⟩ := L_one hi ha' (by simpa using hj) (by rw [mapGet]; exact hpf) (by rw [mapGet]; exact h4)
        obtain ⟨K, hK⟩ := ih (at_ + 1) (i + 1) st inv (by omega)
        refine ⟨K + 3, fun k => ?_⟩
        rw [show K + 3 + k = (K + k + 2) + 1 by omega, l2_step p t at_ i _ _ _ ha', hpn, show K + k + 2 = (K + k + 1) + 1 from rfl, j3_step p t at_ i _ _ _ ha', dif_pos hj, h4, value_Like.j4, if_pos rfl, wS at_ (by omega), wS i (by omega), eq]
        exact hK k
      · have hon : (if hj : i < p.length then one (toMk p[i]) t[at_] else false) = false := by
          by_cases hj : i < p.length
          · rw [dif_pos hj, Bool.eq_false_iff]; exact fun h => h4 ⟨hj, h⟩
          · rw [dif_neg hj]
        have hst : ∀ hj : i < (p.map toMk).length, pct (p.map toMk)[i] = false ∧ one (p.map toMk)[i] t[at_] = false := by
          intro hj
          have hj' : i < p.length := by simpa using hj
          rw [mapGet]
          exact ⟨by rw [Bool.eq_false_iff]; exact fun h => h3 ⟨hj', h⟩, by rw [Bool.eq_false_iff]; exact fun h => h4 ⟨hj', h⟩⟩
        cases st with
        | none =>
          refine ⟨3, fun k => ?_⟩
          rw [show 3 + k = (k + 2) + 1 by omega, l2_step p t at_ i _ _ _ ha', hpn, show k + 2 = (k + 1) + 1 from rfl, j3_step p t at_ i _ _ _ ha', hon, value_Like.j4, if_neg (by decide), if_neg (show ¬ (e1 none ≥ 0) by decide), L_fail hi.1 ha' hst]
        | some q =>
          obtain ⟨star, taken⟩ := q
          have hb := hi.2.2
          obtain ⟨eq, inv⟩ := L_back hi ha' hst
          have hmul : (t.length + 1 - (taken + 1 + 1)) * (p.length + 2) + (p.length + 2) = (t.length + 1 - (taken + 1)) * (p.length + 2) := by
            have : t.length + 1 - (taken + 1) = (t.length + 1 - (taken + 1 + 1)) + 1 := by have := hb.2.1; omega
            rw [this, Nat.add_mul, Nat.one_mul]
          have hm' : (t.length + 1 - (taken + 1)) * (p.length + 2) + (p.length + 1 - i) ≤ Φ + 1 := hm
          obtain ⟨K, hK⟩ := ih (taken + 1) (star + 1) (some (star, taken + 1)) inv (by show (t.length + 1 - (taken + 1 + 1)) * (p.length + 2) + _ ≤ Φ; omega)
          refine ⟨K + 3, fun k => ?_⟩
          have ht1 : taken ≤ at_ := hb.2.1
          have hs1 : star + 1 ≤ i := hb.1
          rw [show K + 3 + k = (K + k + 2) + 1 by omega, l2_step p t at_ i _ _ _ ha', hpn, show K + k + 2 = (K + k + 1) + 1 from rfl, j3_step p t at_ i _ _ _ ha', hon, value_Like.j4, if_neg (by decide)]
          show (if (star : Int) ≥ 0 then value_Like.l2 (K + k) p t (wrap64 ((taken : Int) + 1)) (wrap64 ((star : Int) + 1)) (star : Int) (wrap64 ((taken : Int) + 1)) else _) = _
          rw [if_pos (by omega), wS taken (by omega), wS star (by omega), eq]
          exact hK k
def markS : List Int → Option (List S48)
  | [] => some []
  | [c] => if c = 92 then none else some [⟨c, c == 37 || c == 95⟩]
  | c :: d :: r => if c = 92 then (markS r).map (⟨d, false⟩ :: ·) else (markS (d :: r)).map (⟨c, c == 37 || c == 95⟩ :: ·)
theorem markS_esc (d : Int) (r : List Int) : markS (92 :: d :: r) = (markS r).map (⟨d, false⟩ :: ·) := by rw [markS, if_pos rfl]
theorem markS_cons {c : Int} (h : c ≠ 92) (r : List Int) : markS (c :: r) = (markS r).map (⟨c, c == 37 || c == 95⟩ :: ·) := by
  cases r with
  | nil =>
    show (if c = 92 then none else some [(⟨c, c == 37 || c == 95⟩ : S48)]) = _
    rw [if_neg h]; rfl
  | cons d r => rw [markS, if_neg h]
theorem decode_at (s : ByteArray) (pos : Nat) (h : pos < s.size) : utf8_DecodeRuneInString.f (s.extract (pos : Int).toNat s.size) = some (((Utf8.decode s pos).1 : Int), ((Utf8.decode s pos).2 : Int)) := by
  unfold utf8_DecodeRuneInString.f
  rw [Int.toNat_natCast, Lib.decodeGo_extract s pos h]
theorem width_in (s : ByteArray) (pos : Nat) (h : pos < s.size) : pos + (Utf8.decode s pos).2 ≤ s.size := by
  have h1 := Lib.decodeGo_le_size (s.extract pos s.size)
  rw [Lib.decodeGo_extract s pos h, ByteArray.size_extract] at h1
  omega
theorem wA (a b : Nat) (h : a + b < 1000000000) : wrap64 ((a : Int) + (b : Int)) = ((a + b : Nat) : Int) := by unfold wrap64; omega
def answer (t : List Int) (acc : List S48) : Option (List S48) → Bool × Int
  | none => (false, 3)
  | some m => (mt ((acc ++ m).map toMk) t, 0)
theorem answer_cons (t : List Int) (acc : List S48) (v : S48) (o : Option (List S48)) : answer t acc (o.map (v :: ·)) = answer t (acc ++ [v]) o := by
  cases o with
  | none => rfl
  | some m => show (_, _) = (_, _); rw [List.append_assoc]; rfl
theorem l1_run (x0 x1 : ByteArray) (h0 : x0.size ≤ 4096) (h1 : x1.size ≤ 4096) : ∀ (n pos : Nat) (acc : List S48), x1.size ≤ n + pos → acc.length + (x1.size - pos) ≤ 4096 → acc.length ≤ 4096 →
    ∃ K, ∀ k, value_Like.l1 (K + k) x0 x1 acc (pos : Int) = some (answer (runesL x0 x0.size 0) acc (markS (runesL x1 n pos))) := by
  have ht : (runesL x0 x0.size 0).length < 1000000 := by have := runesL_len x0 x0.size 0; omega
  have hend : ∀ (n pos : Nat) (acc : List S48), ¬ pos < x1.size → acc.length ≤ 4096 → ∃ K, ∀ k, value_Like.l1 (K + k) x0 x1 acc (pos : Int) = some (answer (runesL x0 x0.size 0) acc (markS (runesL x1 n pos))) := by
    intro n pos acc hp hal
    obtain ⟨K, hK⟩ := l2_run acc (runesL x0 x0.size 0) (by omega) ht _ 0 0 none ⟨Nat.zero_le _, Nat.zero_le _, trivial⟩ (Nat.le_refl _)
    refine ⟨K + 1, fun k => ?_⟩
    rw [show K + 1 + k = (K + k) + 1 by omega, value_Like.l1, if_neg (by omega)]
    have hr : lockstepref01_Runes.f x0 = some (runesL x0 x0.size 0) := by unfold lockstepref01_Runes.f; rw [if_pos (by omega)]
    rw [hr, Option.bind_some, runesL_end x1 n pos hp]
    have hk := hK k
    change value_Like.l2 (K + k) acc (runesL x0 x0.size 0) 0 0 (-1) 0 = _ at hk
    rw [hk]
    show some (openS (acc.map toMk) (runesL x0 x0.size 0) 0 0 none, (0 : Int)) = some (mt ((acc ++ []).map toMk) (runesL x0 x0.size 0), (0 : Int))
    rw [List.append_nil, openS_eq]
    show some (mt _ _ || false, (0 : Int)) = _
    rw [Bool.or_false, List.drop_zero, List.drop_zero]
  intro n
  induction n using Nat.strongRecOn with
  | _ n ih =>
    intro pos acc hn hl hal
    by_cases hp : pos < x1.size
    · obtain ⟨m, rfl⟩ : ∃ m, n = m + 1 := ⟨n - 1, by omega⟩
      have hw := Lib.width_pos x1 pos
      have hi := width_in x1 pos hp
      rw [runesL, if_pos hp]
      have hacc : acc.length < 17592186044416 := by omega
      generalize hc : ((Utf8.decode x1 pos).1 : Int) = c
      generalize hd : (Utf8.decode x1 pos).2 = wd at hw hi
      have hdec := decode_at x1 pos hp
      rw [hc, hd] at hdec
      by_cases h92 : c = 92
      · subst h92
        by_cases he : pos + wd = x1.size
        · refine ⟨1, fun k => ?_⟩
          rw [show 1 + k = k + 1 by omega, value_Like.l1, if_pos (by omega), if_pos (by omega), if_pos (by omega), hdec, Option.bind_some, if_pos rfl]
          simp only []
          rw [wA pos wd (by omega), if_pos (by omega), runesL_end x1 m _ (by omega)]
          rfl
        · have hp2 : pos + wd < x1.size := by omega
          obtain ⟨m2, rfl⟩ : ∃ m2, m = m2 + 1 := ⟨m - 1, by omega⟩
          have hw2 := Lib.width_pos x1 (pos + wd)
          have hi2 := width_in x1 (pos + wd) hp2
          have hdec2 := decode_at x1 (pos + wd) hp2
          rw [runesL, if_pos hp2, markS_esc]
          generalize hc2 : ((Utf8.decode x1 (pos + wd)).1 : Int) = c2 at hdec2 ⊢
          generalize hd2 : (Utf8.decode x1 (pos + wd)).2 = wd2 at hw2 hi2 hdec2 ⊢
          rw [answer_cons]
          obtain ⟨K, hK⟩ := ih m2 (by omega) (pos + wd + wd2) (acc ++ [⟨c2, false⟩]) (by omega) (by rw [List.length_append, List.length_singleton]; omega) (by rw [List.length_append, List.length_singleton]; omega)
          refine ⟨K + 1, fun k => ?_⟩
          rw [show K + 1 + k = (K + k) + 1 by omega, value_Like.l1, if_pos (by omega), if_pos (by omega), if_pos (by omega), hdec, Option.bind_some, if_pos rfl]
          simp only []
          rw [wA pos wd (by omega), if_neg (by omega), if_pos (by omega), if_pos (by omega), hdec2, Option.bind_some, if_pos hacc]
          simp only []
          rw [wA (pos + wd) wd2 (by omega)]
          exact hK k
      · rw [markS_cons h92, answer_cons]
        obtain ⟨K, hK⟩ := ih m (by omega) (pos + wd) (acc ++ [⟨c, c == 37 || c == 95⟩]) (by omega) (by rw [List.length_append, List.length_singleton]; omega) (by rw [List.length_append, List.length_singleton]; omega)
        refine ⟨K + 1, fun k => ?_⟩
        rw [show K + 1 + k = (K + k) + 1 by omega, value_Like.l1, if_pos (by omega), if_pos (by omega), if_pos (by omega), hdec, Option.bind_some, if_neg h92]
        simp only []
        rw [wA pos wd (by omega)]
        by_cases h37 : c = 37
        · rw [if_pos h37, if_pos hacc]
          have := hK k
          have e : (c == 37 || c == 95) = true := by simp [h37]
          rw [e] at this ⊢
          exact this
        · rw [if_neg h37, if_pos hacc]
          have := hK k
          have e : (c == 37 || c == 95) = (c == 95) := by simp [h37]
          rw [e] at this ⊢
          exact this
    · exact hend n pos acc hp hal
end Go.Proofs.YtkkpnbfhghfleaaDoor.Y
end
section
namespace Go.Proofs.YtkkpnbfhghfleaaDoor.Y
open Go.Proofs.YtkkpnbfhghfleaaDoor.X
open Go.RowKit Go.Proofs.YtkkpnbfhghfleaaDoorW.PrintWords Go.Proofs.YtkkpnbfhghfleaaDoorW.PrintLast Go.Proofs.YtkkpnbfhghfleaaDoorW.PrintMore
open Pat
set_option linter.unusedVariables false
set_option linter.unusedSimpArgs false
def rowOf (Q : List Mk) (t : List Int) : List Bool := (List.range (t.length + 1)).map fun k => mt Q (t.take k)
theorem rowOf_len (Q : List Mk) (t : List Int) : (rowOf Q t).length = t.length + 1 := by unfold rowOf; simp
theorem rowOf_at (Q : List Mk) (t : List Int) (k : Nat) (h : k ≤ t.length) : (rowOf Q t)[k]? = some (mt Q (t.take k)) := by
  unfold rowOf
  rw [List.getElem?_map, List.getElem?_range (by omega)]; rfl
theorem rdB (l : List Bool) (i : Nat) {b : Bool} (h : l[i]? = some b) : rdOf false l (i : Int) = b := by
  unfold rdOf; rw [Int.toNat_natCast, List.getD_eq_getElem?_getD, h]; rfl
theorem row_ext (Q : List Mk) (t : List Int) (l : List Bool) (hl : l.length = t.length + 1) (h : ∀ k, k ≤ t.length → l[k]? = some (mt Q (t.take k))) : l = rowOf Q t := by
  apply List.ext_getElem?
  intro k
  by_cases hk : k ≤ t.length
  · rw [h k hk, rowOf_at Q t k hk]
  · rw [List.getElem?_eq_none (by omega), List.getElem?_eq_none (by rw [rowOf_len]; omega)]
theorem pct_next (Q : List Mk) (m : Mk) (hm : pct m = true) (t : List Int) (j : Nat) (hj : j < t.length) :
    mt (Q ++ [m]) (t.take (j + 1)) = (mt Q (t.take (j + 1)) || mt (Q ++ [m]) (t.take j)) := by
  rw [Bool.eq_iff_iff, Bool.or_eq_true, mt_snoc_pct Q m hm, mt_snoc_pct Q m hm]
  have e : t.take (j + 1) = t.take j ++ [t[j]] := by rw [List.take_add_one, List.getElem?_eq_getElem hj]; rfl
  constructor
  · rintro ⟨a, b, h, ha⟩
    rcases List.eq_nil_or_concat b with rfl | ⟨b', x, rfl⟩
    · left; rw [h, List.append_nil]; exact ha
    · right
      rw [e, List.concat_eq_append, ← List.append_assoc] at h
      exact ⟨a, b', (List.append_inj' h rfl).1, ha⟩
  · rintro (h | ⟨a, b, h, ha⟩)
    · exact ⟨_, [], by simp, h⟩
    · exact ⟨a, b ++ [t[j]], by rw [e, h, List.append_assoc], ha⟩
theorem pct_first (Q : List Mk) (m : Mk) (hm : pct m = true) : mt (Q ++ [m]) [] = mt Q [] := by
  rw [Bool.eq_iff_iff, mt_snoc_pct Q m hm]
  constructor
  · rintro ⟨a, b, h, ha⟩
    have : a = [] := (List.append_eq_nil_iff.mp h.symm).1
    rw [this] at ha; exact ha
  · intro h; exact ⟨[], [], rfl, h⟩
structure Flags (m : Mk) (c : Int) (b o : Bool) : Prop where
  hA : b = pct m
  hO : b = false → ∀ x, one m x = (o || x == c)
theorem in_run (t pr : List Int) (Q : List Mk) (m : Mk) (c : Int) (any o : Bool) (hf : Flags m c any o) (x7 : Int) (ht : t.length < 1000000) :
    ∀ (d j : Nat) (nx : List Bool), j + d = t.length → nx.length = t.length + 1 → (∀ i, i ≤ j → nx[i]? = some (mt (Q ++ [m]) (t.take i))) →
    ∀ k, lockstepref01_like.l1 (k + d + 1) t pr (rowOf Q t) x7 nx c any o (j : Int) = lockstepref01_like.l0 k t pr (rowOf (Q ++ [m]) t) (wrap64 (x7 + 1)) := by
  intro d
  induction d with
  | zero =>
    intro j nx hj hl hn k
    rw [show k + 0 + 1 = k + 1 from rfl, lockstepref01_like.l1, if_neg (by omega), row_ext (Q ++ [m]) t nx hl (fun i hi => hn i (by omega))]
  | succ d ih =>
    intro j nx hj hl hn k
    have hjt : j < t.length := by omega
    have set_inv : ∀ b, b = mt (Q ++ [m]) (t.take (j + 1)) → (nx.set (j + 1) b).length = t.length + 1 ∧ ∀ i, i ≤ j + 1 → (nx.set (j + 1) b)[i]? = some (mt (Q ++ [m]) (t.take i)) := by
      intro b hb
      refine ⟨by rw [List.length_set]; exact hl, fun i hi => ?_⟩
      by_cases e : i = j + 1
      · subst e; rw [List.getElem?_set_self (by omega), hb]
      · rw [List.getElem?_set_ne (by omega)]; exact hn i (by omega)
    have hw := wS j (by omega)
    have fin : ∀ b, b = mt (Q ++ [m]) (t.take (j + 1)) → lockstepref01_like.l1 (k + d + 1) t pr (rowOf Q t) x7 (nx.set (((j + 1 : Nat) : Int)).toNat b) c any o ((j + 1 : Nat) : Int) = lockstepref01_like.l0 k t pr (rowOf (Q ++ [m]) t) (wrap64 (x7 + 1)) := by
      intro b hb
      obtain ⟨h1, h2⟩ := set_inv b hb
      rw [Int.toNat_natCast]
      exact ih (j + 1) _ (by omega) h1 h2 k
    have hR := rowOf_len Q t
    rw [show k + (d + 1) + 1 = (k + d + 1) + 1 from rfl, lockstepref01_like.l1, if_pos (by omega), hw]
    cases ha : any
    · rw [if_neg (by decide), if_pos (by omega), if_pos (by omega), rdB _ j (rowOf_at Q t j (by omega))]
      have hm : pct m = false := by rw [← hf.hA, ha]
      have e : t.take (j + 1) = t.take j ++ [t[j]] := by rw [List.take_add_one, List.getElem?_eq_getElem hjt]; rfl
      have hv : mt (Q ++ [m]) (t.take (j + 1)) = (mt Q (t.take j) && (o || t[j] == c)) := by rw [e, mt_snoc_one Q m hm, hf.hO ha]
      rw [ha] at fin
      cases hq : mt Q (t.take j)
      · rw [if_neg (by decide), if_pos (by omega), if_pos (by omega)]
        exact fin false (by rw [hv, hq]; rfl)
      · rw [if_pos rfl]
        cases ho : o
        · rw [if_neg (by decide), if_pos (by omega), if_pos (by omega), rdI t j hjt]
          rw [ho] at fin hv
          exact fin _ (by rw [hv, hq]; rfl)
        · rw [if_pos rfl, if_pos (by omega), if_pos (by omega)]
          rw [ho] at fin hv
          exact fin true (by rw [hv, hq]; rfl)
    · rw [if_pos rfl, if_pos (by omega), if_pos (by omega), rdB _ (j + 1) (rowOf_at Q t (j + 1) (by omega))]
      have hm : pct m = true := by rw [← hf.hA, ha]
      have hv := pct_next Q m hm t j hjt
      rw [ha] at fin
      cases hq : mt Q (t.take (j + 1))
      · rw [if_neg (by decide), if_pos (by omega), if_pos (by omega), if_pos (by omega), rdB nx j (hn j (Nat.le_refl _))]
        exact fin _ (by rw [hv, hq, Bool.false_or])
      · rw [if_pos rfl, if_pos (by omega)]
        exact fin true (by rw [hv, hq, Bool.true_or])
theorem j1_run (t pr : List Int) (Q : List Mk) (m : Mk) (c : Int) (any o : Bool) (hf : Flags m c any o) (x7 : Int) (ht : t.length < 1000000) (k : Nat) :
    lockstepref01_like.j1 (k + t.length + 3) t pr (rowOf Q t) x7 (List.replicate (t.length + 1) false) c any o = lockstepref01_like.l0 k t pr (rowOf (Q ++ [m]) t) (wrap64 (x7 + 1)) := by
  have hR := rowOf_len Q t
  have hl : (List.replicate (t.length + 1) false).length = t.length + 1 := List.length_replicate
  have fin : ∀ b, b = mt (Q ++ [m]) [] → lockstepref01_like.j2 (k + t.length + 2) t pr (rowOf Q t) x7 ((List.replicate (t.length + 1) false).set (0 : Int).toNat b) c any o = lockstepref01_like.l0 k t pr (rowOf (Q ++ [m]) t) (wrap64 (x7 + 1)) := by
    intro b hb
    rw [show k + t.length + 2 = (k + t.length + 1) + 1 from rfl, lockstepref01_like.j2]
    exact in_run t pr Q m c any o hf x7 ht t.length 0 _ (by omega) (by rw [List.length_set]; exact hl) (fun i hi => by
      obtain rfl : i = 0 := by omega
      show (List.set _ 0 b)[0]? = _
      rw [List.getElem?_set_self (by omega), hb, List.take_zero]) k
  rw [show k + t.length + 3 = (k + t.length + 2) + 1 from rfl, lockstepref01_like.j1]
  cases ha : any
  · rw [if_neg (by decide), if_pos (by rw [hl]; omega)]
    rw [ha] at fin
    exact fin false (mt_snoc_nil Q m (by rw [← hf.hA, ha])).symm
  · rw [if_pos rfl, if_pos (by rw [hR]; omega), if_pos (by rw [hl]; omega)]
    rw [ha] at fin
    have h0 : rdOf false (rowOf Q t) 0 = mt Q [] := by
      have := rdB (rowOf Q t) 0 (rowOf_at Q t 0 (Nat.zero_le _)); rw [List.take_zero] at this; exact this
    rw [h0]
    exact fin _ (pct_first Q m (by rw [← hf.hA, ha])).symm
theorem flags_esc (d : Int) : Flags (toMk ⟨d, false⟩) d ((92 : Int) == 37) ((92 : Int) == 95) :=
  ⟨by simp [pct, toMk], fun _ x => by simp [one, toMk, eq_comm, Bool.beq_comm]⟩
theorem flags_of (c : Int) : Flags (toMk ⟨c, c == 37 || c == 95⟩) c (c == 37) (c == 95) := by
  refine ⟨?_, fun h x => ?_⟩
  · by_cases h : c = 37 <;> simp [pct, toMk, h]
  · have h37 : c ≠ 37 := by simpa using h
    by_cases h95 : c = 95
    · simp [one, toMk, h95]
    · have e1 : (c == 37) = false := h
      have e2 : (c == 95) = false := beq_eq_false_iff_ne.mpr h95
      show (((c == 37 || c == 95) && c == 95) || (!(c == 37 || c == 95) && c == x)) = (c == 95 || x == c)
      rw [e1, e2, Bool.eq_iff_iff]
      simp only [Bool.or_false, Bool.and_false, Bool.not_false, Bool.true_and, Bool.false_or, beq_iff_eq]
      exact eq_comm
theorem l0_run (t pr : List Int) (ht : t.length < 1000000) (hp : pr.length < 1000000) : ∀ (n i : Nat) (acc : List S48), pr.length ≤ n + i → i ≤ pr.length →
    ∃ K, ∀ k, lockstepref01_like.l0 (K + k) t pr (rowOf (acc.map toMk) t) (i : Int) = some (answer t acc (markS (pr.drop i))) := by
  intro n
  induction n using Nat.strongRecOn with
  | _ n ih =>
    intro i acc hn hi
    have hR := rowOf_len (acc.map toMk) t
    have hw : wrap64 ((t.length : Int) + 1) = ((t.length + 1 : Nat) : Int) := wS t.length (by omega)
    by_cases he : i = pr.length
    · refine ⟨1, fun k => ?_⟩
      rw [show 1 + k = k + 1 by omega, lockstepref01_like.l0, if_neg (by omega), if_pos (by omega), if_pos (by rw [hR]; omega), rdB _ t.length (rowOf_at _ t t.length (Nat.le_refl _)), List.take_length, List.drop_eq_nil_of_le (by omega)]
      show _ = some (mt ((acc ++ []).map toMk) t, (0 : Int))
      rw [List.append_nil]
    · have hlt : i < pr.length := by omega
      have hmk : (((t.length + 1 : Nat) : Int)).toNat = t.length + 1 := Int.toNat_natCast _
      by_cases h92 : pr[i] = 92
      · by_cases hend : i + 1 = pr.length
        · refine ⟨1, fun k => ?_⟩
          rw [show 1 + k = k + 1 by omega, lockstepref01_like.l0, if_pos (by omega), hw, if_pos (by omega), hmk, if_pos (by omega), Option.bind_some, if_pos (by omega), rdI pr i hlt, if_pos h92, wS i (by omega), if_pos (by omega)]
          rw [List.drop_eq_getElem_cons hlt, List.drop_eq_nil_of_le (show pr.length ≤ i + 1 by omega), h92]; rfl
        · have hlt2 : i + 1 < pr.length := by omega
          obtain ⟨K, hK⟩ := ih (n - 2) (by omega) (i + 2) (acc ++ [⟨pr[i + 1], false⟩]) (by omega) (by omega)
          refine ⟨K + t.length + 4, fun k => ?_⟩
          rw [show K + t.length + 4 + k = (K + k + t.length + 3) + 1 by omega, lockstepref01_like.l0, if_pos (by omega), hw, if_pos (by omega), hmk, if_pos (by omega), Option.bind_some, if_pos (by omega), rdI pr i hlt, if_pos h92, wS i (by omega), if_neg (by omega), if_pos (by omega), if_pos (by omega), rdI pr (i + 1) hlt2, h92]
          rw [j1_run t pr (acc.map toMk) (toMk ⟨pr[i + 1], false⟩) pr[i + 1] _ _ (flags_esc pr[i + 1]) _ ht (K + k), wS (i + 1) (by omega)]
          have := hK k
          rw [List.map_append] at this
          rw [List.drop_eq_getElem_cons hlt, List.drop_eq_getElem_cons hlt2, h92, markS_esc, answer_cons]
          exact this
      · obtain ⟨K, hK⟩ := ih (n - 1) (by omega) (i + 1) (acc ++ [⟨pr[i], pr[i] == 37 || pr[i] == 95⟩]) (by omega) (by omega)
        refine ⟨K + t.length + 4, fun k => ?_⟩
        rw [show K + t.length + 4 + k = (K + k + t.length + 3) + 1 by omega, lockstepref01_like.l0, if_pos (by omega), hw, if_pos (by omega), hmk, if_pos (by omega), Option.bind_some, if_pos (by omega), rdI pr i hlt, if_neg h92]
        rw [j1_run t pr (acc.map toMk) (toMk ⟨pr[i], pr[i] == 37 || pr[i] == 95⟩) pr[i] _ _ (flags_of pr[i]) _ ht (K + k), wS i (by omega)]
        have := hK k
        rw [List.map_append] at this
        rw [List.drop_eq_getElem_cons hlt, markS_cons h92, answer_cons]
        exact this
theorem like_run (t pr : List Int) (ht : t.length < 1000000) (hp : pr.length < 1000000) : ∃ K, ∀ k, lockstepref01_like.f (K + k) t pr = some (answer t [] (markS pr)) := by
  obtain ⟨K, hK⟩ := l0_run t pr ht hp pr.length 0 [] (by omega) (Nat.zero_le _)
  refine ⟨K, fun k => ?_⟩
  have hw : wrap64 ((t.length : Int) + 1) = ((t.length + 1 : Nat) : Int) := wS t.length (by omega)
  unfold lockstepref01_like.f
  rw [hw, if_pos (by omega), Int.toNat_natCast, if_pos (by omega), Option.bind_some, if_pos (by rw [List.length_replicate]; omega)]
  have e : (List.replicate (t.length + 1) false).set (0 : Int).toNat true = rowOf (([] : List S48).map toMk) t := by
    apply row_ext
    · rw [List.length_set, List.length_replicate]
    · intro i hi
      show (List.set _ 0 true)[i]? = some (List.isEmpty (t.take i))
      cases i with
      | zero => rw [List.getElem?_set_self (by rw [List.length_replicate]; omega)]; rfl
      | succ i =>
        rw [List.getElem?_set_ne (by omega), List.getElem?_replicate, if_pos (by omega)]
        have : (t.take (i + 1)).isEmpty = false := by
          cases t with
          | nil => simp at hi
          | cons x t => rfl
        rw [this]
  rw [e]
  have := hK k
  rw [List.drop_zero] at this
  exact this
def tx (s : ByteArray) : Int := if (s.size : Int) > 4096 then 2 else if Lib.validD s.data.toList = true then 0 else 3
theorem tx_zero {s : ByteArray} (h : tx s = 0) : s.size ≤ 4096 := by
  unfold tx at h
  by_cases hs : (s.size : Int) > 4096
  · rw [if_pos hs] at h; exact absurd h (by decide)
  · omega
theorem vCheck (k : Nat) (s : ByteArray) : value_Check.f (k + 1) 3 0 s = some (tx s) := by
  unfold value_Check.f tx
  rw [if_neg (by decide), if_neg (by decide)]
  simp only [value_Check.j0]
  by_cases hs : (s.size : Int) > 4096
  · simp [hs]
  · have hsz : s.size ≤ 9223372036854775807 := by omega
    by_cases hv : Lib.validD s.data.toList = true
    · simp [hs, utf8_ValidString.f, hsz, hv]
    · simp [hs, utf8_ValidString.f, hsz, hv]
theorem rCheck (k : Nat) (s : ByteArray) : lockstepref01_Check.f (k + 2) 3 0 s = some (tx s) := by
  unfold lockstepref01_Check.f tx
  rw [if_neg (by decide), if_neg (by decide), if_neg (by decide)]
  simp only [lockstepref01_Check.j0]
  by_cases hs : (s.size : Int) > 4096
  · simp [hs, lockstepref01_Check.j1]
  · have hsz : s.size ≤ 140737488351232 := by omega
    by_cases hv : Lib.validD s.data.toList = true
    · simp [hs, lockstepref01_Check.j1, lockstepref01_valid.f, hsz, hv]
    · simp [hs, lockstepref01_Check.j1, lockstepref01_valid.f, hsz, hv]
def ans (a0 a1 : ByteArray) : Bool × Int :=
  if tx a0 = 0 then (if tx a1 = 0 then answer (runesL a0 a0.size 0) [] (markS (runesL a1 a1.size 0)) else (false, tx a1)) else (false, tx a0)
theorem value_Like_run (a0 a1 : ByteArray) : ∃ K, ∀ k, value_Like.f (K + k) a0 a1 = some (ans a0 a1) := by
  have g0 : rdOf ByteArray.empty [a0, a1] 0 = a0 := rfl
  have g1 : rdOf ByteArray.empty [a0, a1] 1 = a1 := rfl
  have w0 : wrap64 (0 + 1) = 1 := by unfold wrap64; omega
  have w1 : wrap64 (1 + 1) = 2 := by unfold wrap64; omega
  have hl : (([a0, a1] : List ByteArray).length : Int) = 2 := rfl
  unfold ans
  by_cases h0 : tx a0 = 0
  · by_cases h1 : tx a1 = 0
    · obtain ⟨K, hK⟩ := l1_run a0 a1 (tx_zero h0) (tx_zero h1) a1.size 0 [] (by omega) (by have := tx_zero h1; simp; omega) (by simp)
      refine ⟨K + 3, fun k => ?_⟩
      unfold value_Like.f
      rw [Option.bind_some, hl, show K + 3 + k = (K + k + 1 + 1) + 1 by omega, value_Like.l0, if_pos (by decide), if_pos (by decide), hl, if_pos (by decide), g0, vCheck, Option.bind_some, if_pos h0, w0]
      rw [show K + k + 1 + 1 = (K + k + 1) + 1 from rfl, value_Like.l0, if_pos (by decide), if_pos (by decide), hl, if_pos (by decide), g1, vCheck, Option.bind_some, if_pos h1, w1, value_Like.l0, if_neg (by decide)]
      rw [if_pos h0, if_pos h1]
      exact hK k
    · refine ⟨4, fun k => ?_⟩
      unfold value_Like.f
      rw [Option.bind_some, hl, show 4 + k = (k + 2 + 1) + 1 by omega, value_Like.l0, if_pos (by decide), if_pos (by decide), hl, if_pos (by decide), g0, vCheck, Option.bind_some, if_pos h0, w0]
      rw [show k + 2 + 1 = (k + 1 + 1) + 1 from rfl, value_Like.l0, if_pos (by decide), if_pos (by decide), hl, if_pos (by decide), g1, vCheck, Option.bind_some, if_neg h1, if_pos h0, if_neg h1]
  · refine ⟨4, fun k => ?_⟩
    unfold value_Like.f
    rw [Option.bind_some, hl, show 4 + k = (k + 2 + 1) + 1 by omega, value_Like.l0, if_pos (by decide), if_pos (by decide), hl, if_pos (by decide), g0, vCheck, Option.bind_some, if_neg h0, if_neg h0]
theorem ref_Like_run (a0 a1 : ByteArray) : ∃ K, ∀ k, lockstepref01_Like.f (K + k) a0 a1 = some (ans a0 a1) := by
  unfold ans
  by_cases h0 : tx a0 = 0
  · by_cases h1 : tx a1 = 0
    · have s0 := tx_zero h0
      have s1 := tx_zero h1
      have l0 := runesL_len a0 a0.size 0
      have l1 := runesL_len a1 a1.size 0
      obtain ⟨K, hK⟩ := like_run (runesL a0 a0.size 0) (runesL a1 a1.size 0) (by omega) (by omega)
      refine ⟨K + 2, fun k => ?_⟩
      have r0 : lockstepref01_Runes.f a0 = some (runesL a0 a0.size 0) := by unfold lockstepref01_Runes.f; rw [if_pos (by omega)]
      have r1 : lockstepref01_Runes.f a1 = some (runesL a1 a1.size 0) := by unfold lockstepref01_Runes.f; rw [if_pos (by omega)]
      unfold lockstepref01_Like.f lockstepref01_both.f
      rw [show K + 2 + k = (K + k) + 2 by omega, rCheck, Option.bind_some, if_pos h0, rCheck, Option.bind_some, Option.bind_some, if_pos h1, r0, Option.bind_some, r1, Option.bind_some, show K + k + 2 = K + (k + 2) from rfl, hK, Option.bind_some, if_pos h0, if_pos h1]
    · refine ⟨2, fun k => ?_⟩
      unfold lockstepref01_Like.f lockstepref01_both.f
      rw [show 2 + k = k + 2 by omega, rCheck, Option.bind_some, if_pos h0, rCheck, Option.bind_some, Option.bind_some, if_neg h1, if_pos h0, if_neg h1]
  · refine ⟨2, fun k => ?_⟩
    unfold lockstepref01_Like.f lockstepref01_both.f
    rw [show 2 + k = k + 2 by omega, rCheck, Option.bind_some, if_neg h0, Option.bind_some, if_neg h0, if_neg h0]
set_option maxRecDepth 100000 in
theorem ans_one : ans (⟨#[71, 114, 195, 182, 195, 159, 101]⟩ : ByteArray) (⟨#[71, 114, 95, 95, 101]⟩ : ByteArray) = (true, 0) := by decide +kernel
theorem ValueLikes_true (a0 a1 : ByteArray) : ∃ K, locksteplaw01_ValueLikes.f K a0 a1 = some true := by
  obtain ⟨K1, h1⟩ := value_Like_run a0 a1
  obtain ⟨K2, h2⟩ := ref_Like_run a0 a1
  obtain ⟨K3, h3⟩ := value_Like_run (⟨#[71, 114, 195, 182, 195, 159, 101]⟩ : ByteArray) (⟨#[71, 114, 95, 95, 101]⟩ : ByteArray)
  refine ⟨K1 + (K2 + K3), ?_⟩
  unfold locksteplaw01_ValueLikes.f
  rw [h1 (K2 + K3), Option.bind_some, show K1 + (K2 + K3) = K2 + (K1 + K3) by omega, h2, Option.bind_some, show K2 + (K1 + K3) = K3 + (K1 + K2) by omega, h3, Option.bind_some, ans_one]
  simp
end Go.Proofs.YtkkpnbfhghfleaaDoor.Y
end
section
namespace Go.Proofs.YtkkpnbfhghfleaaDoor.X
open Go.RowKit Go.Proofs.YtkkpnbfhghfleaaDoorW.PrintWords
structure Tabs (w : World) : Prop where
  utf8 : Lib.Utf8Tabs 0 1 w
  pow : Lib.TabIs Tryd.prog w "internal/strconv.uint64pow10" .u64 Lib.pow10Tab
  most : ∃ m : Int, w.cell? ⟨5, 0, none⟩ = some (.int .i64 m)
theorem powAt : Tryd.prog.globalNamed "internal/strconv.uint64pow10" = some 4 := by kernel_rfl
theorem Tabs.big {w : World} (h : Tabs w) : 5 < w.heap.size := by
  obtain ⟨m, hm⟩ := h.most
  exact World.block_lt_of_cell? w ⟨5, 0, none⟩ hm
theorem Tabs.below {w w' : World} (h : Tabs w) (hb : Below w.heap.size w w') : Tabs w' := by
  have hB := h.big
  refine ⟨Utf8Tabs_below h.utf8 hb, ?_, ?_⟩
  · exact var?_below hb powAt (by omega) h.pow
  · obtain ⟨m, hm⟩ := h.most
    exact ⟨m, (hb.cell (p := ⟨5, 0, none⟩) hB).trans hm⟩
theorem Tabs.drewN {w : World} (n : Nat) (h : Tabs w) : Tabs (w.drewN n) := h.below (pw_below_drewN (Below.refl _ _) n)
theorem Tabs.drew {w : World} (h : Tabs w) : Tabs w.drew := h.below (below_drew (Below.refl _ _))
end Go.Proofs.YtkkpnbfhghfleaaDoor.X
end
section
namespace Go.Proofs.YtkkpnbfhghfleaaDoor.X
set_option linter.unusedVariables false
set_option linter.unusedSimpArgs false
open Go.RowKit Go.Lib Go.ChangeShapes Go.WideShapes Go.ChangeAt Go.Joins
open Go.ChangeMaps (open_string shut_string)
set_option maxRecDepth 100000
theorem own : ownKnob Tryd.prog.godebug = none := by kernel_rfl
theorem u8extra : U8Extra Tryd.prog Tryd.laysValid_ren := ⟨by kernel_rfl, by kernel_rfl, by kernel_rfl, by kernel_rfl, by kernel_rfl, by kernel_rfl, by kernel_rfl⟩
noncomputable def laidWorld (os : Os) : World :=
  { World.doorLaid Tryd.prog 200 os with heap := (World.doorLaid Tryd.prog 200 os).heap.modify 0 fun
      | .cells _ t frozen => .cells (Go.Pinned.utf8FirstZ.map fun (n : Nat) => Value.int .u8 (n : Int)).toArray t frozen
      | o => o }
end Go.Proofs.YtkkpnbfhghfleaaDoor.X
end
section
namespace Go.Proofs.YtkkpnbfhghfleaaDoor.valueLikes
open Go.ChangeShapes Go.WideShapes Go.ChangeAt Go.RowKit Go.Lib Go.Proofs.YtkkpnbfhghfleaaDoor.X Go.Proofs.YtkkpnbfhghfleaaDoor.Y
open Go.ChangeMaps (open_string shut_string)
set_option linter.unusedVariables false
def two : List (String × DataW Unit) := [("unicode/utf8.acceptRanges", Rows.laid_unicode_utf8_acceptRanges), ("unicode/utf8.first", Rows.laid_unicode_utf8_first)]
set_option maxRecDepth 100000 in
theorem tabs_two {w : World} (h : laidMetH Tryd.prog two w) : Y.Tabs w := by
  have h' : laidMet Tryd.prog two w := h
  refine ⟨?_⟩
  have h3 := Go.Lib.laidMet.reads h' (n := "unicode/utf8.first") (d := Rows.laid_unicode_utf8_first) (by simp [two])
  have h4 := Go.Lib.laidMet.reads h' (n := "unicode/utf8.acceptRanges") (d := Rows.laid_unicode_utf8_acceptRanges) (by simp [two])
  rw [show (Rows.laid_unicode_utf8_first : DataW Unit) = firstData by kernel_rfl] at h3
  rw [show (Rows.laid_unicode_utf8_acceptRanges : DataW Unit) = acceptData by kernel_rfl] at h4
  exact utf8Tabs_of_readsT (U8Types.of196 Tryd.laysValid) u8extra h3 h4
set_option maxRecDepth 100000 in
theorem laid_two (os : Os) (args : Array Value) : laidMetH Tryd.prog two ((laidWorld os).forCall (fun _ _ => 0) ⟨#[], args, []⟩).memory :=
  laidMet_of_run' 8 (by kernel_rfl) (by kernel_rfl)
set_option maxRecDepth 100000 in
theorem reads (os : Os) {H : Type} (enc : TypeId × Value → H) : ∃ places, DataW.whole enc Tryd.prog ((laidWorld os).forCall (fun _ _ => 0) ⟨#[], #[.string ⟨#[]⟩, .string ⟨#[]⟩], []⟩).memory Tryd.f3.params.toList Rows.valueLikesSpec.vars false
    #[Value.string ⟨#[]⟩, .string ⟨#[]⟩].toList 8 =
    some ([.lit (.string []), .lit (.string [])], [], places) :=
  ⟨[], by kernel_rfl⟩
set_option maxRecDepth 100000 in
theorem lifted (os : Os) (started : os.Started) (H : Type) (enc : TypeId × Value → H) (F : Stop.Interp) :
    ReturnsInHanded {} Tryd.checked os 3 .any ((OpenSpec.ofChange Rows.valueLikesSpec).preRow enc Tryd.prog Tryd.f3 Rows.valueLikesRow.domain false Rows.valueLikesRow.laid) (((OpenSpec.ofChange Rows.valueLikesSpec).at F).post enc Tryd.prog Tryd.f3 false true false false) := by
  obtain ⟨places, hx⟩ := reads os enc
  refine returnsInHanded_of_row (C := Tryd.checked) (s := OpenSpec.ofChange Rows.valueLikesSpec) own started (by kernel_rfl) Tryd.func3
    (witness_row_at (enc := enc) (C := Tryd.checked) false (laidWorld os) #[.string ⟨#[]⟩, .string ⟨#[]⟩] rfl (by kernel_rfl) (by kernel_rfl) (by kernel_rfl)
      (OpenSpec.preRow_of_cond 8 hx (by kernel_rfl) (fun k hk => by cases hk) (by kernel_rfl) (laid_two os _))) ?_
  intro W base args ds gs before hval0 hW _ _ hsz0 hL hsh _
  have hT : Y.Tabs W := tabs_two hL
  have hval : ∀ (j : Nat) t v, Tryd.f3.params[j]? = some t → args[j]? = some v → Value.okWide Tryd.prog W .any base t v := hval0
  have hW' := hW
  obtain ⟨p, q, hA0, hV, rfl, hfz, hnd⟩ := hW
  have hA : DataW.TrodAll enc Tryd.prog W 0 (fun _ => true) true Tryd.f3.params.toList args.toList ds p := hA0
  rw [Tryd.params3] at hA hval
  obtain ⟨v0, vs0, d0, ds0, p0, q0, hargs, rfl, rfl, h0, r0⟩ := trodAll_cons hA
  obtain ⟨v1, vs1, d1, ds1, p1, q1, rfl, rfl, rfl, h1, r1⟩ := trodAll_cons r0
  obtain ⟨rfl, rfl, rfl⟩ := trodAll_nil r1
  obtain rfl : args = #[v0, v1] := by cases args; simp_all
  obtain ⟨rfl, rfl⟩ := trodVars_none hV
  obtain ⟨a0, rfl, rfl, rfl, y0⟩ := open_string Tryd.underlying9 (hval 0 9 v0 rfl rfl) h0
  obtain ⟨a1, rfl, rfl, rfl, y1⟩ := open_string Tryd.underlying9 (hval 1 9 v1 rfl rfl) h1
  clear hA0 hval0
  obtain ⟨K, hK⟩ := ValueLikes_true a0 a1
  refine (locksteplaw01_ValueLikes.calls K a0 a1 true W hT (hK) rfl).mono fun e W' ⟨he, bel⟩ => ?_
  subst he
  exact ⟨_, rfl, _, _, _, [], _, [], hW', trodAll_mk1 (shut_bool Tryd.underlying4 _), (trodAll_cons_mk (shut_string Tryd.underlying9 y0) (trodAll_cons_mk (shut_string Tryd.underlying9 y1) trodAll_mk0)), rfl, bel.frame _, fun h => by cases h⟩
theorem said : Rows.ValueLikesSaid :=
  OpenClaim.holds_of_cond 3 Tryd.f3 rfl rfl rfl rfl rfl rfl rfl ⟨rfl, rfl, rfl, rfl, rfl⟩ rfl rfl rfl rfl rfl (by kernel_rfl) Tryd.func3 (by kernel_rfl)
    (of_decide_eq_true (by kernel_rfl)) (by unfold Func.isWrapper; first | (rw [if_pos (by decide +kernel)]; kernel_rfl) | (rw [if_neg (by decide +kernel)]; exact ⟨rfl, rfl⟩))
    (fun os started H enc _ F => by rw [OpenClaim.pre_eq_preRow]; exact lifted os started H enc F)
theorem plain (f : FuncId) (fn : Func) (hf : Tryd.pinned.checked.prog.funcNamed "lockstep/locksteplaw01.ValueLikes" = some f) (hfn : Tryd.pinned.checked.prog.funcs[f]? = some fn) :
    false = Tryd.pinned.checked.prog.looks [] ∧ ∀ (j : Nat) t, fn.params[j]? = some t → Tryd.pinned.checked.prog.wantsStandIn t = false := by
  obtain rfl : f = 3 := Option.some.inj ((show Tryd.prog.funcNamed "lockstep/locksteplaw01.ValueLikes" = some 3 by kernel_rfl).symm.trans hf) |>.symm
  obtain rfl : fn = Tryd.f3 := (Option.some.inj (Tryd.func3.symm.trans hfn)).symm
  refine ⟨by kernel_rfl, fun j t ht => ?_⟩
  rw [Tryd.params3] at ht
  have hm := Array.mem_of_getElem? ht
  have ht' : t = 9 := by simpa using hm
  subst ht'
  exact (show Tryd.prog.wantsStandIn 9 = false by kernel_rfl)
theorem card : Rows.ValueLikesCardSaid :=
  Claim7.holds_tied_plain_at .later [] _ _ _ _ said (fun _ h => by cases h) (by kernel_rfl) (fun _ h => by cases h) valueLikes_row_tie rfl ⟨rfl, rfl⟩ (by kernel_rfl) rfl plain (by kernel_rfl)
end Go.Proofs.YtkkpnbfhghfleaaDoor.valueLikes
end

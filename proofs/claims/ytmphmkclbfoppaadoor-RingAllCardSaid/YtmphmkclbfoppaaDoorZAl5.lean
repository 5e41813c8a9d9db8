/- The law RingAll of layer 18 answers true at every value, every row of values and every three numbers, and leaves its arguments as they were; condition: the tables of unicode/utf8 are laid as the program's text lays them. -/
import Derived.Test.YtmphmkclbfoppaaDoorZAl0
import Derived.Test.YtmphmkclbfoppaaDoorZAl1
import Derived.Test.YtmphmkclbfoppaaDoorZAl4
import Derived.Lib.Replace
import Derived.Laws.BitsAllLaws
import Derived.Deep.Slices
import Derived.Deep.Strs
import Derived.Lib.SmallJoins
import Derived.OpenShut
import Derived.Carry
import Derived.Test.YtmphmkclbfoppaaDoorCards
import Derived.Test.YtmphmkclbfoppaaDoorTie
import Derived.Lib.LaidU8T
import Derived.Lib.LaidTab
import Derived.Shelf.Vars
import Derived.LaidMore
import Derived.ShutString
import Derived.SizedLaws
import Derived.ProofKit
import Derived.Deep.DeepHandedRow
import Derived.SevenTiedAt
section
namespace Go.Proofs.YtmphmkclbfoppaaDoor.X
set_option linter.unusedVariables false
set_option linter.unusedSimpArgs false
open Go.RowKit Go.Proofs.YtmphmkclbfoppaaDoorW.PrintWords Go.Proofs.YtmphmkclbfoppaaDoorW.PrintLast Go.Proofs.YtmphmkclbfoppaaDoorW.PrintMore
open Num
def ci (a b : Int) : Int := if a < b then -1 else if a > b then 1 else 0
def orI (a b : Int) : Int := if a = 0 then b else a
structure Good {α : Type} (C : α → α → Int) : Prop where
  anti : ∀ a b, C b a = - C a b
  trans : ∀ a b c, C a b ≤ 0 → C b c ≤ 0 → C a c ≤ 0
theorem Good.lt {α : Type} {C : α → α → Int} (h : Good C) {a b c : α} (h1 : C a b < 0) (h2 : C b c ≤ 0) : C a c < 0 := by
  have h3 := h.trans a b c (by omega) h2
  by_cases hn : C a c < 0
  · exact hn
  · have e := h.anti a c
    have h5 := h.trans b c a h2 (by omega)
    have := h.anti a b
    omega
theorem Good.lt' {α : Type} {C : α → α → Int} (h : Good C) {a b c : α} (h1 : C a b ≤ 0) (h2 : C b c < 0) : C a c < 0 := by
  have h3 := h.trans a b c h1 (by omega)
  by_cases hn : C a c < 0
  · exact hn
  · have e := h.anti a c
    have h5 := h.trans c a b (by omega) h1
    have := h.anti b c
    omega
theorem Good.or {α : Type} {C D : α → α → Int} (h : Good C) (k : Good D) : Good (fun a b => orI (C a b) (D a b)) where
  anti a b := by
    have h1 := h.anti a b
    have h2 := k.anti a b
    show orI (C b a) (D b a) = - orI (C a b) (D a b)
    unfold orI
    by_cases hc : C a b = 0
    · rw [if_pos hc, if_pos (by omega)]; exact h2
    · rw [if_neg hc, if_neg (by omega)]; exact h1
  trans a b c := by
    show orI (C a b) (D a b) ≤ 0 → orI (C b c) (D b c) ≤ 0 → orI (C a c) (D a c) ≤ 0
    intro h1 h2
    unfold orI at *
    have a1 := h.anti a b
    have a2 := h.anti b c
    have a3 := h.anti a c
    by_cases e1 : C a b = 0
    · rw [if_pos e1] at h1
      by_cases e2 : C b c = 0
      · rw [if_pos e2] at h2
        have t1 := h.trans a b c (by omega) (by omega)
        have t2 := h.trans c b a (by omega) (by omega)
        rw [if_pos (by omega)]
        exact k.trans a b c h1 h2
      · rw [if_neg e2] at h2
        have := h.lt' (a := a) (b := b) (c := c) (by omega) (by omega)
        rw [if_neg (by omega)]; omega
    · rw [if_neg e1] at h1
      by_cases e2 : C b c = 0
      · have := h.lt (a := a) (b := b) (c := c) (by omega) (by omega)
        rw [if_neg (by omega)]; omega
      · rw [if_neg e2] at h2
        have := h.lt (a := a) (b := b) (c := c) (by omega) (by omega)
        rw [if_neg (by omega)]; omega
theorem Good.key {α β : Type} {C : α → α → Int} (h : Good C) (f : β → α) : Good (fun a b => C (f a) (f b)) := ⟨fun a b => h.anti (f a) (f b), fun a b c => h.trans (f a) (f b) (f c)⟩
theorem ci_zero {a b : Int} : ci a b = 0 ↔ a = b := by
  unfold ci
  by_cases h1 : a < b
  · rw [if_pos h1]; constructor
    · intro h; omega
    · intro h; omega
  · by_cases h2 : a > b
    · rw [if_neg h1, if_pos h2]; constructor
      · intro h; omega
      · intro h; omega
    · rw [if_neg h1, if_neg h2]; constructor
      · intro _; omega
      · intro _; rfl
theorem ci_self (a : Int) : ci a a = 0 := ci_zero.mpr rfl
theorem orI_zero (a : Int) : orI a 0 = a := by unfold orI; split <;> omega
theorem zero_orI (a : Int) : orI 0 a = a := by unfold orI; exact if_pos rfl
def cl : List UInt8 → List UInt8 → Int
  | [], [] => 0
  | [], _ :: _ => -1
  | _ :: _, [] => 1
  | a :: x, b :: y => orI (ci a.toNat b.toNat) (cl x y)
theorem cl_self : ∀ x, cl x x = 0
  | [] => rfl
  | a :: x => by show orI (ci a.toNat a.toNat) (cl x x) = 0; rw [ci_self, cl_self x]; rfl
theorem cl_eq : ∀ x y, cl x y = 0 → x = y
  | [], [] => fun _ => rfl
  | [], _ :: _ => fun h => absurd h (by show ¬ ((-1 : Int) = 0); decide)
  | _ :: _, [] => fun h => absurd h (by show ¬ ((1 : Int) = 0); decide)
  | a :: x, b :: y => by
    intro h
    change orI (ci a.toNat b.toNat) (cl x y) = 0 at h
    unfold orI at h
    by_cases hc : ci (a.toNat : Int) b.toNat = 0
    · rw [if_pos hc] at h
      have h1 := ci_zero.mp hc
      have e : a = b := UInt8.toNat_inj.mp (by omega)
      rw [e, cl_eq x y h]
    · rw [if_neg hc] at h; exact absurd h hc
theorem cl_less : ∀ x y, Op.bytesLess x y = decide (cl x y = -1) ∧ (cl x y = -1 ∨ cl x y = 0 ∨ cl x y = 1)
  | [], [] => ⟨rfl, Or.inr (Or.inl rfl)⟩
  | [], _ :: _ => ⟨rfl, Or.inl rfl⟩
  | _ :: _, [] => ⟨rfl, Or.inr (Or.inr rfl)⟩
  | a :: x, b :: y => by
    obtain ⟨ih, ir⟩ := cl_less x y
    have e1 : (a < b) ↔ (a.toNat : Int) < b.toNat := by rw [UInt8.lt_iff_toNat_lt]; omega
    have e2 : (a = b) ↔ (a.toNat : Int) = b.toNat := by rw [← UInt8.toNat_inj]; omega
    have hd : Op.bytesLess (a :: x) (b :: y) = (decide (a < b) || (a == b && Op.bytesLess x y)) := rfl
    have hc : cl (a :: x) (b :: y) = orI (ci a.toNat b.toNat) (cl x y) := rfl
    rw [hd, hc, ih]
    unfold orI ci
    by_cases h1 : (a.toNat : Int) < b.toNat
    · rw [if_pos h1, if_neg (by decide), decide_eq_true (e1.mpr h1)]
      exact ⟨rfl, Or.inl rfl⟩
    · rw [if_neg h1, decide_eq_false (fun h => h1 (e1.mp h))]
      by_cases h2 : (a.toNat : Int) > b.toNat
      · rw [if_pos h2, if_neg (by decide), beq_eq_false_iff_ne.mpr (fun h => by have := e2.mp h; omega)]
        exact ⟨rfl, Or.inr (Or.inr rfl)⟩
      · rw [if_neg h2, if_pos rfl, beq_iff_eq.mpr (e2.mpr (by omega))]
        exact ⟨by simp, ir⟩
def cs (a b : ByteArray) : Int := cl a.toList b.toList
theorem cs_self (a : ByteArray) : cs a a = 0 := cl_self _
theorem texts_eq (a b : ByteArray) : (if (Op.bytesLess a.toList b.toList) = true then (some (-1)) else (if (!(Op.bytesLess a.toList b.toList || a.toList == b.toList)) = true then (some 1) else (some 0)) : Option Int) = some (cs a b) := by
  unfold cs
  obtain ⟨h1, h2⟩ := cl_less a.toList b.toList
  rw [h1]
  rcases h2 with h2 | h2 | h2
  · rw [h2]; rfl
  · rw [if_neg (by rw [h2]; decide), if_neg (by rw [cl_eq _ _ h2]; simp), h2]
  · have hne : (a.toList == b.toList) = false := by
      rw [beq_eq_false_iff_ne]
      intro h; rw [h, cl_self] at h2; exact absurd h2 (by decide)
    rw [if_neg (by rw [h2]; decide), hne, if_pos (by rw [h2]; decide), h2]
theorem cmps_eq (a b : ByteArray) : cmp_Compare_string.f a b = some (cs a b) := by
  unfold cmp_Compare_string.f cmp_isNaN_string.f
  rw [Option.bind_some, Option.bind_some, bne_self_eq_false, bne_self_eq_false, if_neg (by decide), if_neg (by decide)]
  exact texts_eq a b
theorem ints_eq (a b : Int) : (if a < b then (some (-1)) else (if a > b then (some 1) else (some 0)) : Option Int) = some (ci a b) := by
  unfold ci
  by_cases h1 : a < b
  · rw [if_pos h1, if_pos h1]
  · rw [if_neg h1, if_neg h1]; split <;> rfl
theorem cmpi_eq (a b : Int) : cmp_Compare_int.f a b = some (ci a b) := by
  unfold cmp_Compare_int.f cmp_isNaN_int.f
  rw [Option.bind_some, Option.bind_some, bne_self_eq_false, bne_self_eq_false, if_neg (by decide), if_neg (by decide)]
  exact ints_eq a b
theorem cmpi64_eq (a b : Int) : cmp_Compare_int64.f a b = some (ci a b) := by
  unfold cmp_Compare_int64.f cmp_isNaN_int64.f
  rw [Option.bind_some, Option.bind_some, bne_self_eq_false, bne_self_eq_false, if_neg (by decide), if_neg (by decide)]
  exact ints_eq a b
theorem cmpu64_eq (a b : Int) : cmp_Compare_uint64.f a b = some (ci a b) := by
  unfold cmp_Compare_uint64.f cmp_isNaN_uint64.f
  rw [Option.bind_some, Option.bind_some, bne_self_eq_false, bne_self_eq_false, if_neg (by decide), if_neg (by decide)]
  exact ints_eq a b
theorem or_step (k : Nat) (l : List Int) (n i : Int) : cmp_Or_int.l0 (k + 1) 0 l n i = if i < n then (if 0 ≤ i then (if i < (l.length : Int) then (if (rd l i) = 0 then (cmp_Or_int.l0 k 0 l n (wrap64 (i + 1))) else (some (rd l i))) else (none)) else (none)) else (some 0) := by
  conv => lhs; unfold cmp_Or_int.l0
theorem w01 : wrap64 (0 + 1) = 1 := by unfold wrap64; omega
theorem w12 : wrap64 (1 + 1) = 2 := by unfold wrap64; omega
theorem w23 : wrap64 (2 + 1) = 3 := by unfold wrap64; omega
theorem or_two (k : Nat) (a b : Int) : cmp_Or_int.f (k + 3) [a, b] = some (orI a b) := by
  unfold cmp_Or_int.f orI
  rw [or_step, if_pos (by simp), if_pos (by decide), if_pos (by simp), show rd [a, b] 0 = a from rfl]
  by_cases h : a = 0
  · rw [if_pos h, if_pos h, w01, or_step, if_pos (by simp), if_pos (by decide), if_pos (by simp), show rd [a, b] 1 = b from rfl]
    by_cases h2 : b = 0
    · rw [if_pos h2, w12, or_step, if_neg (by simp), h2]
    · rw [if_neg h2]
  · rw [if_neg h, if_neg h]
theorem or_three (k : Nat) (a b c : Int) : cmp_Or_int.f (k + 4) [a, b, c] = some (orI a (orI b c)) := by
  unfold cmp_Or_int.f orI
  rw [or_step, if_pos (by simp), if_pos (by decide), if_pos (by simp), show rd [a, b, c] 0 = a from rfl]
  by_cases h : a = 0
  · rw [if_pos h, if_pos h, w01, or_step, if_pos (by simp), if_pos (by decide), if_pos (by simp), show rd [a, b, c] 1 = b from rfl]
    by_cases h2 : b = 0
    · rw [if_pos h2, if_pos h2, w12, or_step, if_pos (by simp), if_pos (by decide), if_pos (by simp), show rd [a, b, c] 2 = c from rfl]
      by_cases h3 : c = 0
      · rw [if_pos h3, w23, or_step, if_neg (by simp), h3]
      · rw [if_neg h3]
    · rw [if_neg h2, if_neg h2]
  · rw [if_neg h, if_neg h]
def cls (t : Int) : Int := if t = 0 then 0 else if t = 1 ∨ t = 2 then 1 else if t = 3 then 2 else if t = 4 then 3 else 4
def sv (t n : Int) : Int := if t = 2 then n else n * 10000
def ky1 (v : S32) : Int := if cls v.f0 = 1 then sv v.f0 v.f1 else if cls v.f0 = 3 then v.f1 else if cls v.f0 = 4 then v.f0 else 0
def ky2 (v : S32) : Int := if cls v.f0 = 1 then v.f0 else if cls v.f0 = 4 then v.f1 else 0
def ky3 (v : S32) : ByteArray := if cls v.f0 = 2 ∨ cls v.f0 = 4 then v.f2 else ⟨#[]⟩
def ord (a b : S32) : Int := orI (ci (cls a.f0) (cls b.f0)) (orI (ci (ky1 a) (ky1 b)) (orI (ci (ky2 a) (ky2 b)) (cs (ky3 a) (ky3 b))))
theorem class_eq (k : Nat) (t n : Int) (s : ByteArray) : value_class.f (k + 1) t n s = some (cls t) := by
  unfold value_class.f cls
  by_cases h0 : t = 0
  · rw [if_pos h0, if_pos h0]
  rw [if_neg h0, if_neg h0]
  by_cases h1 : t = 1
  · subst h1; rfl
  by_cases h2 : t = 2
  · subst h2; rfl
  rw [if_neg h1, if_neg (by omega), beq_eq_false_iff_ne.mpr h2]
  simp only [value_class.j0]
  rw [if_neg (by decide)]
  by_cases h3 : t = 3
  · rw [if_pos h3, if_pos h3]
  by_cases h4 : t = 4
  · rw [if_neg h3, if_neg h3, if_pos h4, if_pos h4]
  rw [if_neg h3, if_neg h3, if_neg h4, if_neg h4]
theorem ci_pair {h l h2 l2 : Int} (hl : 0 ≤ l ∧ l < 18446744073709551616) (hl2 : 0 ≤ l2 ∧ l2 < 18446744073709551616) :
    orI (ci h h2) (ci l l2) = ci (h * 18446744073709551616 + l) (h2 * 18446744073709551616 + l2) := by
  by_cases e : h = h2
  · subst e
    rw [ci_self, zero_orI]
    unfold ci
    by_cases c1 : l < l2
    · rw [if_pos c1, if_pos (by omega)]
    by_cases c2 : l > l2
    · rw [if_neg c1, if_pos c2, if_neg (by omega), if_pos (by omega)]
    rw [if_neg c1, if_neg c2, if_neg (by omega), if_neg (by omega)]
  · have hc : ci h h2 ≠ 0 := fun h' => e (ci_zero.mp h')
    unfold orI
    rw [if_neg hc]
    unfold ci
    by_cases c1 : h < h2
    · rw [if_pos c1, if_pos (by omega)]
    rw [if_neg c1, if_pos (by omega), if_neg (by omega), if_pos (by omega)]
theorem wide_eq (t n : Int) (s : ByteArray) (hn : I64 n) : ∃ h l, value_wide.f t n s = some (h, l) ∧ h * 18446744073709551616 + l = sv t n ∧ 0 ≤ l ∧ l < 18446744073709551616 := by
  obtain ⟨hn0, hn1⟩ := hn
  unfold value_wide.f sv
  by_cases h2 : t = 2
  · rw [if_pos h2, if_pos h2]
    refine ⟨_, _, rfl, ?_⟩
    rw [IntKind.wrap_u64]
    omega
  · rw [if_neg h2, if_neg h2]
    have hN : IntKind.u64.wrap n = (((n % 18446744073709551616).toNat : Nat) : Int) := by rw [IntKind.wrap_u64]; omega
    have hm := bits_Mul64.eq (n % 18446744073709551616).toNat 10000 (by omega) (by decide)
    rw [show ((10000 : Nat) : Int) = 10000 from rfl] at hm
    rw [hN, hm, Option.bind_some]
    by_cases hneg : n < 0
    · rw [if_pos hneg]
      refine ⟨_, _, rfl, ?_⟩
      have hw : (n % 18446744073709551616).toNat = (n + 18446744073709551616).toNat := by omega
      rw [hw, IntKind.wrap_u64]
      unfold wrap64
      simp only []
      omega
    · rw [if_neg hneg]
      refine ⟨_, _, rfl, ?_⟩
      have hw : (n % 18446744073709551616).toNat = n.toNat := by omega
      rw [hw]
      unfold wrap64
      simp only []
      omega
theorem numbers_eq (k : Nat) (t n : Int) (s : ByteArray) (t2 n2 : Int) (s2 : ByteArray) (hn : I64 n) (hn2 : I64 n2) :
    value_numbers.f (k + 3) t n s t2 n2 s2 = some (ci (sv t n) (sv t2 n2)) := by
  obtain ⟨h, l, e, hv, hl⟩ := wide_eq t n s hn
  obtain ⟨h', l', e', hv', hl'⟩ := wide_eq t2 n2 s2 hn2
  unfold value_numbers.f
  rw [e, Option.bind_some, e', Option.bind_some, cmpi64_eq, Option.bind_some, cmpu64_eq, Option.bind_some, or_two, Option.bind_some, ci_pair hl hl', hv, hv']
theorem cls_cases (t : Int) : (cls t = 0 ∧ t = 0) ∨ (cls t = 1 ∧ (t = 1 ∨ t = 2)) ∨ (cls t = 2 ∧ t = 3) ∨ (cls t = 3 ∧ t = 4) ∨ cls t = 4 := by
  unfold cls
  by_cases h0 : t = 0
  · left; simp [h0]
  by_cases h1 : t = 1 ∨ t = 2
  · right; left; simp [h0, h1]
  by_cases h3 : t = 3
  · right; right; left; simp [h3]
  by_cases h4 : t = 4
  · right; right; right; left; simp [h4]
  · right; right; right; right; simp [h0, h1, h3, h4]
theorem ord_ne {a b : S32} (h : cls a.f0 ≠ cls b.f0) : ord a b = ci (cls a.f0) (cls b.f0) := by
  unfold ord orI; rw [if_neg (fun e => h (ci_zero.mp e))]
theorem ord_same {a b : S32} (h : cls a.f0 = cls b.f0) : ord a b = orI (ci (ky1 a) (ky1 b)) (orI (ci (ky2 a) (ky2 b)) (cs (ky3 a) (ky3 b))) := by
  unfold ord; rw [h, ci_self, zero_orI]
theorem ord_c0 {a b : S32} (h : cls a.f0 = 0) (h2 : cls b.f0 = 0) : ord a b = 0 := by
  rw [ord_same (h.trans h2.symm)]; simp [ky1, ky2, ky3, h, h2, ci_self, cs_self, zero_orI]
theorem ord_c1 {a b : S32} (h : cls a.f0 = 1) (h2 : cls b.f0 = 1) : ord a b = orI (ci (sv a.f0 a.f1) (sv b.f0 b.f1)) (ci a.f0 b.f0) := by
  rw [ord_same (h.trans h2.symm)]; simp [ky1, ky2, ky3, h, h2, ci_self, cs_self, orI_zero]
theorem ord_c2 {a b : S32} (h : cls a.f0 = 2) (h2 : cls b.f0 = 2) : ord a b = cs a.f2 b.f2 := by
  rw [ord_same (h.trans h2.symm)]; simp [ky1, ky2, ky3, h, h2, ci_self, cs_self, zero_orI]
theorem ord_c3 {a b : S32} (h : cls a.f0 = 3) (h2 : cls b.f0 = 3) : ord a b = ci a.f1 b.f1 := by
  rw [ord_same (h.trans h2.symm)]; simp [ky1, ky2, ky3, h, h2, ci_self, cs_self, orI_zero]
theorem ord_c4 {a b : S32} (h : cls a.f0 = 4) (h2 : cls b.f0 = 4) : ord a b = orI (ci a.f0 b.f0) (orI (ci a.f1 b.f1) (cs a.f2 b.f2)) := by
  rw [ord_same (h.trans h2.symm)]; simp [ky1, ky2, ky3, h, h2]
theorem value_Order.eq (k : Nat) (t n : Int) (s : ByteArray) (t2 n2 : Int) (s2 : ByteArray) (hn : I64 n) (hn2 : I64 n2) :
    value_Order.f (k + 4) t n s t2 n2 s2 = some (ord ⟨t, n, s⟩ ⟨t2, n2, s2⟩) := by
  unfold value_Order.f
  rw [class_eq, Option.bind_some, class_eq, Option.bind_some, cmpi_eq, Option.bind_some]
  by_cases hc : cls t = cls t2
  · rw [if_pos (ci_zero.mpr hc), Option.bind_some]
    rcases cls_cases t with ⟨h, rfl⟩ | ⟨h, ht⟩ | ⟨h, rfl⟩ | ⟨h, rfl⟩ | h
    · rw [if_pos h, ord_c0 h (hc ▸ h)]
    · rw [if_neg (by rw [h]; decide), if_pos h, numbers_eq (k + 1) _ _ _ _ _ _ hn hn2, Option.bind_some, cmpi_eq, Option.bind_some, or_two, Option.bind_some, ord_c1 h (hc ▸ h)]
    · rw [if_neg (by rw [h]; decide), if_neg (by rw [h]; decide), if_pos h, cmps_eq, Option.bind_some, ord_c2 h (hc ▸ h)]
    · rw [if_neg (by rw [h]; decide), if_neg (by rw [h]; decide), if_neg (by rw [h]; decide), if_pos h, cmpi64_eq, Option.bind_some, ord_c3 h (hc ▸ h)]
    · rw [if_neg (by rw [h]; decide), if_neg (by rw [h]; decide), if_neg (by rw [h]; decide), if_neg (by rw [h]; decide), cmpi_eq, Option.bind_some, cmpi64_eq, Option.bind_some, cmps_eq, Option.bind_some, or_three, Option.bind_some, ord_c4 h (hc ▸ h)]
  · rw [if_neg (fun e => hc (ci_zero.mp e)), ord_ne hc]
end Go.Proofs.YtmphmkclbfoppaaDoor.X
end
section
namespace Go.Proofs.YtmphmkclbfoppaaDoor.X
set_option linter.unusedVariables false
set_option linter.unusedSimpArgs false
open Go.RowKit Go.Proofs.YtmphmkclbfoppaaDoorW.PrintWords Go.Proofs.YtmphmkclbfoppaaDoorW.PrintLast Go.Proofs.YtmphmkclbfoppaaDoorW.PrintMore
open Num
def be : Nat → Int → List Int
  | 0, _ => []
  | k + 1, n => (n / 256 ^ k) % 256 :: be k n
def escB : List UInt8 → List Int
  | [] => []
  | b :: l => if b = 0 then 0 :: 255 :: escB l else (b.toNat : Int) :: escB l
def code (v : S32) : List Int :=
  if v.f0 = 1 ∨ v.f0 = 2 then 2 :: (be 10 (sv v.f0 v.f1 + 604462909807314587353088) ++ [v.f0 % 256])
  else if v.f0 = 3 then 3 :: (escB v.f2.data.toList ++ [0, 0])
  else if v.f0 = 4 then [4, v.f1 % 256] else [1]
theorem be_mod : ∀ (k : Nat) (n m : Int) (j : Nat), be j (n * 256 ^ (k + j) + m) = be j m
  | k, n, m, 0 => rfl
  | k, n, m, j + 1 => by
    have e : n * 256 ^ (k + (j + 1)) = n * 256 ^ (k + 1 + j) := by rw [Nat.add_comm j 1, ← Nat.add_assoc]
    have e2 : n * 256 ^ (k + (j + 1)) = (n * 256 ^ k * 256) * 256 ^ j := by rw [Int.pow_add, Int.pow_add]; simp only [Int.pow_succ, Int.pow_zero, Int.one_mul, Int.mul_assoc]; rw [Int.mul_comm (256 ^ j) 256]
    show (((n * 256 ^ (k + (j + 1)) + m) / 256 ^ j) % 256 :: be j (n * 256 ^ (k + (j + 1)) + m)) = (m / 256 ^ j) % 256 :: be j m
    have h1 : ((n * 256 ^ (k + (j + 1)) + m) / 256 ^ j) % 256 = (m / 256 ^ j) % 256 := by
      rw [e2, Int.add_comm, Int.add_mul_ediv_right _ _ (Int.ne_of_gt (Int.pow_pos (by decide)))]
      omega
    rw [h1, e, be_mod (k + 1) n m j]
theorem escB_z (l : List UInt8) : escB (0 :: l) = 0 :: 255 :: escB l := by
  conv => lhs; unfold escB
  exact if_pos rfl
theorem escB_n {b : UInt8} (hb : b ≠ 0) (l : List UInt8) : escB (b :: l) = (b.toNat : Int) :: escB l := by
  conv => lhs; unfold escB
  exact if_neg hb
theorem u8_pos {b : UInt8} (hb : b ≠ 0) : (0 : Int) < b.toNat := by
  have h2 : 0 < b.toNat := Nat.pos_of_ne_zero fun e => hb (UInt8.toNat_inj.mp e)
  omega
structure Can (v : S32) : Prop where
  chk : chk v.f0 v.f1 v.f2 = 0
  num : I64 v.f1
theorem Can.typ {v : S32} (h : Can v) : (v.f0 = 0) ∨ (v.f0 = 1 ∨ v.f0 = 2) ∨ (v.f0 = 3 ∧ v.f2.size ≤ 4096) ∨ (v.f0 = 4 ∧ (v.f1 = 0 ∨ v.f1 = 1)) := by
  have h1 := h.chk
  unfold X.chk at h1
  by_cases h0 : v.f0 = 0 ∨ v.f0 = 1 ∨ v.f0 = 2
  · omega
  · rw [if_neg h0] at h1
    by_cases h4 : v.f0 = 4
    · rw [if_pos h4] at h1
      right; right; right
      refine ⟨h4, ?_⟩
      by_cases hn : v.f1 = 0 ∨ v.f1 = 1
      · exact hn
      · rw [if_neg hn] at h1; omega
    · rw [if_neg h4] at h1
      by_cases h3 : v.f0 = 3
      · rw [if_pos h3] at h1
        right; right; left
        refine ⟨h3, ?_⟩
        by_cases hs : (v.f2.size : Int) > 4096
        · rw [if_pos hs] at h1; omega
        · omega
      · rw [if_neg h3] at h1; omega
theorem code_num {v : S32} (h : v.f0 = 1 ∨ v.f0 = 2) : code v = 2 :: (be 10 (sv v.f0 v.f1 + 604462909807314587353088) ++ [v.f0 % 256]) := by unfold code; rw [if_pos h]
theorem code_text {v : S32} (h : v.f0 = 3) : code v = 3 :: (escB v.f2.data.toList ++ [0, 0]) := by unfold code; rw [if_neg (by omega), if_pos h]
theorem code_bool {v : S32} (h : v.f0 = 4) : code v = [4, v.f1 % 256] := by unfold code; rw [if_neg (by omega), if_neg (by omega), if_pos h]
theorem code_null {v : S32} (h : v.f0 = 0) : code v = [1] := by unfold code; rw [if_neg (by omega), if_neg (by omega), if_neg (by omega)]
end Go.Proofs.YtmphmkclbfoppaaDoor.X
end
section
namespace Go.Proofs.YtmphmkclbfoppaaDoor.X
set_option linter.unusedVariables false
set_option linter.unusedSimpArgs false
open Go.RowKit Go.Proofs.YtmphmkclbfoppaaDoorW.PrintWords Go.Proofs.YtmphmkclbfoppaaDoorW.PrintLast Go.Proofs.YtmphmkclbfoppaaDoorW.PrintMore
open Num
def escU : List UInt8 → List UInt8
  | [] => []
  | b :: l => if b = 0 then 0 :: 255 :: escU l else b :: escU l
theorem escB_eq : ∀ l, escB l = (escU l).map fun b => (b.toNat : Int)
  | [] => rfl
  | b :: l => by
    unfold escB escU
    split
    · rw [escB_eq l]; rfl
    · rw [escB_eq l]; rfl
theorem idx_cons {b : UInt8} (hb : b ≠ 0) (l : List UInt8) : Lib.index (b :: l) [0] = if Lib.index l [0] == -1 then -1 else Lib.index l [0] + 1 := by
  conv => lhs; unfold Lib.index
  rw [if_neg]
  simp only [List.isPrefixOf]
  intro h
  simp at h
  exact hb h.symm
theorem idx_zero (l : List UInt8) : Lib.index (0 :: l) [0] = 0 := by
  unfold Lib.index
  rw [if_pos (by simp [List.isPrefixOf])]
theorem count_zero (l : List UInt8) : Lib.count (0 :: l) [0] = 1 + Lib.count l [0] := Lib.count_hit (i := 0) (by simp) (idx_zero l)
theorem count_cons {b : UInt8} (hb : b ≠ 0) (l : List UInt8) : Lib.count (b :: l) [0] = Lib.count l [0] := by
  have h := idx_cons hb l
  by_cases hm : Lib.index l [0] = -1
  · rw [hm] at h
    rw [Lib.count_miss (by simpa using h), Lib.count_miss hm]
  · have hge := Lib.index_ge l [0]
    obtain ⟨i, hi⟩ : ∃ i : Nat, Lib.index l [0] = i := ⟨(Lib.index l [0]).toNat, by omega⟩
    rw [if_neg (by simpa using hm), hi] at h
    rw [Lib.count_hit (i := i + 1) (by simp) (by rw [h]; rfl), Lib.count_hit (i := i) (by simp) hi]
    rfl
theorem repK_esc : ∀ (l : List UInt8) (k : Nat), Lib.count l [0] ≤ k → Lib.replaceK [0] [0, 255] k l = escU l
  | [], 0, _ => rfl
  | [], k + 1, _ => by unfold Lib.replaceK; rw [if_pos (by decide)]; rfl
  | b :: l, k, h => by
    by_cases hb : b = 0
    · subst hb
      rw [count_zero] at h
      obtain ⟨k, rfl⟩ : ∃ m, k = m + 1 := ⟨k - 1, by omega⟩
      rw [Lib.replaceK_hit [0] [0, 255] k (0 :: l) 0 (idx_zero l)]
      show 0 :: 255 :: Lib.replaceK [0] [0, 255] k l = escU (0 :: l)
      rw [repK_esc l k (by omega)]
      rfl
    · rw [count_cons hb] at h
      have ih := repK_esc l k h
      have hx := idx_cons hb l
      unfold escU
      rw [if_neg hb, ← ih]
      cases k with
      | zero => rfl
      | succ k =>
        by_cases hm : Lib.index l [0] = -1
        · rw [hm] at hx
          conv => lhs; unfold Lib.replaceK
          conv => rhs; unfold Lib.replaceK
          rw [if_pos (by rw [hx]; rfl), if_pos (by rw [hm]; rfl)]
        · have hge := Lib.index_ge l [0]
          obtain ⟨i, hi⟩ : ∃ i : Nat, Lib.index l [0] = i := ⟨(Lib.index l [0]).toNat, by omega⟩
          rw [if_neg (by simpa using hm), hi] at hx
          rw [Lib.replaceK_hit [0] [0, 255] k (b :: l) (i + 1) (by rw [hx]; rfl), Lib.replaceK_hit [0] [0, 255] k l i hi]
          rfl
theorem rep_esc (l : List UInt8) : Lib.replaceAll l [0] [0, 255] = escU l := by
  unfold Lib.replaceAll Lib.replace
  rw [if_neg (by decide)]
  apply repK_esc
  unfold Lib.replaceNum
  rw [if_pos (Or.inl (by decide))]
  exact Nat.le_refl _
theorem escU_len : ∀ l, (escU l).length ≤ 2 * l.length
  | [] => Nat.le_refl _
  | b :: l => by
    have := escU_len l
    unfold escU
    split <;> simp <;> omega
theorem reps_eq (s : ByteArray) (hs : s.size ≤ 4096) : ∃ t, strings_ReplaceAll.f s (⟨#[0]⟩ : ByteArray) (⟨#[0, 255]⟩ : ByteArray) = some t ∧ bytesOf t = escB s.data.toList ∧ t.size ≤ 8192 := by
  have hl : s.data.toList.length = s.size := by simp
  have hc := Lib.count_le s.data.toList [0]
  refine ⟨⟨(escU s.data.toList).toArray⟩, ?_, ?_, ?_⟩
  · unfold strings_ReplaceAll.f
    rw [if_pos]
    · show some (⟨(Lib.replaceAll s.data.toList [0] [0, 255]).toArray⟩ : ByteArray) = _
      rw [rep_esc]
    · refine ⟨by omega, by decide, ?_⟩
      show s.size + Lib.count s.data.toList [0] * 2 ≤ 140737488355328
      omega
  · unfold bytesOf
    rw [escB_eq]
  · show (escU s.data.toList).toArray.size ≤ 8192
    have := escU_len s.data.toList
    rw [List.size_toArray]
    omega
theorem parts_eq (k : Nat) (t n : Int) (s : ByteArray) (ht : t = 1 ∨ t = 2) (hn : I64 n) :
    ∃ hi lo, rowcode_parts.f (k + 1) t n s = some (hi, lo) ∧ hi * 18446744073709551616 + lo = sv t n + 604462909807314587353088 ∧ 0 ≤ hi ∧ hi < 65536 ∧ 0 ≤ lo ∧ lo < 18446744073709551616 := by
  obtain ⟨hn0, hn1⟩ := hn
  unfold rowcode_parts.f sv
  by_cases h1 : t = 1
  · have hm := bits_Mul64.eq (n % 18446744073709551616).toNat 10000 (by omega) (by decide)
    rw [show ((10000 : Nat) : Int) = 10000 from rfl] at hm
    have hN : IntKind.u64.wrap n = (((n % 18446744073709551616).toNat : Nat) : Int) := by rw [IntKind.wrap_u64]; omega
    rw [if_neg (show ¬ t = 2 by omega)]
    by_cases hneg : n < 0
    · rw [if_pos hneg, rowcode_parts.j0, if_pos h1, hN, hm, Option.bind_some, if_pos hneg]
      have hw : (n % 18446744073709551616).toNat = (n + 18446744073709551616).toNat := by omega
      refine ⟨_, _, rfl, ?_⟩
      rw [hw, IntKind.wrap_u16, IntKind.wrap_u64]
      unfold wrap64
      simp only []
      omega
    · rw [if_neg hneg, rowcode_parts.j0, if_pos h1, hN, hm, Option.bind_some, if_neg hneg]
      have hw : (n % 18446744073709551616).toNat = n.toNat := by omega
      refine ⟨_, _, rfl, ?_⟩
      rw [hw, IntKind.wrap_u16]
      unfold wrap64
      simp only []
      omega
  · have h2 : t = 2 := by omega
    rw [if_pos h2]
    by_cases hneg : n < 0
    · rw [if_pos hneg, rowcode_parts.j0, if_neg h1]
      refine ⟨_, _, rfl, ?_⟩
      rw [IntKind.wrap_u16, IntKind.wrap_u64]
      unfold wrap64
      omega
    · rw [if_neg hneg, rowcode_parts.j0, if_neg h1]
      refine ⟨_, _, rfl, ?_⟩
      rw [IntKind.wrap_u16, IntKind.wrap_u64]
      unfold wrap64
      omega
theorem shr_be (low : Int) (j : Nat) (hj : j ≤ 7) : shr .u64 low ((8 * (j : Int))) = low / 256 ^ j := by
  unfold shr
  have es : min ((8 * (j : Int)).toNat) IntKind.u64.bits = 8 * j := by simp [IntKind.bits]; omega
  rw [es, Int.pow_mul]
  rfl
theorem app_loop (low : Int) (t n : Int) (s : ByteArray) : ∀ (j : Nat), j ≤ 8 → ∀ (x : List Int), x.length + j < 140737488355328 → ∀ k,
    rowcode_appended.l0 (k + j + 1) x low (8 * (j : Int) - 8) t n s = some (x ++ (be j low ++ [t % 256]))
  | 0, _, x, hl, k => by
    rw [rowcode_appended.l0, if_neg (by omega), if_pos (by omega)]; rfl
  | j + 1, hj, x, hl, k => by
    rw [show k + (j + 1) + 1 = (k + j + 1) + 1 by omega, rowcode_appended.l0]
    rw [show (8 * ((j + 1 : Nat) : Int) - 8) = 8 * (j : Int) by omega]
    rw [if_pos (by omega), if_pos (by omega), if_pos (by omega), shr_be low j (by omega)]
    rw [show wrap64 (8 * (j : Int) - 8) = 8 * (j : Int) - 8 by unfold wrap64; omega]
    rw [app_loop low t n s j (by omega) _ (by rw [List.length_append, List.length_singleton]; omega) k, List.append_assoc]
    rfl
theorem be_len : ∀ (k : Nat) (n : Int), (be k n).length = k
  | 0, _ => rfl
  | k + 1, n => by show (be k n).length + 1 = k + 1; rw [be_len k n]
theorem be_ten (hi lo : Int) (h0 : 0 ≤ hi) (h1 : hi < 65536) (h2 : 0 ≤ lo) (h3 : lo < 18446744073709551616) :
    be 10 (hi * 18446744073709551616 + lo) = (hi / 256) % 256 :: hi % 256 :: be 8 lo := by
  show ((hi * 18446744073709551616 + lo) / 256 ^ 9) % 256 :: ((hi * 18446744073709551616 + lo) / 256 ^ 8) % 256 :: be 8 (hi * 18446744073709551616 + lo) = _
  have e := be_mod 0 hi lo 8
  rw [Nat.zero_add, show (256 : Int) ^ 8 = 18446744073709551616 by decide] at e
  rw [e, show (256 : Int) ^ 9 = 4722366482869645213696 by decide, show (256 : Int) ^ 8 = 18446744073709551616 by decide]
  have a1 : ((hi * 18446744073709551616 + lo) / 4722366482869645213696) % 256 = (hi / 256) % 256 := by omega
  have a2 : ((hi * 18446744073709551616 + lo) / 18446744073709551616) % 256 = hi % 256 := by omega
  rw [a1, a2]
theorem escB_len (l : List UInt8) : (escB l).length ≤ 2 * l.length := by
  rw [escB_eq, List.length_map]
  exact escU_len l
theorem code_len {v : S32} (h : Can v) : (code v).length ≤ 8195 := by
  rcases h.typ with e | e | e | e
  · rw [code_null e]; decide
  · rw [code_num e]
    simp [be_len]
  · rw [code_text e.1]
    have := escB_len v.f2.data.toList
    have hl : v.f2.data.toList.length = v.f2.size := by simp
    simp only [List.length_cons, List.length_append, List.length_nil]
    omega
  · rw [code_bool e.1]; simp
theorem app_eq {v : S32} (h : Can v) (k : Nat) (x : List Int) (hx : x.length + 8200 < 140737488355328) :
    rowcode_appended.f (k + 10) x v.f0 v.f1 v.f2 = some (x ++ code v) := by
  unfold rowcode_appended.f
  have hj : (if v.f0 = 1 then (rowcode_appended.j0 (k + 10) x v.f0 (v.f0 == 1) v.f0 v.f1 v.f2) else (rowcode_appended.j0 (k + 10) x v.f0 (v.f0 == 2) v.f0 v.f1 v.f2)) = rowcode_appended.j0 (k + 10) x v.f0 (decide (v.f0 = 1 ∨ v.f0 = 2)) v.f0 v.f1 v.f2 := by
    by_cases h1 : v.f0 = 1
    · rw [if_pos h1, h1]; rfl
    · rw [if_neg h1]
      congr 1
      rw [Bool.eq_iff_iff]
      simp [h1]
  rw [hj, rowcode_appended.j0]
  rcases h.typ with e | e | e | e
  · rw [code_null e, decide_eq_false (show ¬ (v.f0 = 1 ∨ v.f0 = 2) by omega), if_neg (by decide), if_neg (by omega), if_neg (by omega), if_pos (by omega)]
  · obtain ⟨hi, lo, hp, hs, b0, b1, b2, b3⟩ := parts_eq (k + 8) v.f0 v.f1 v.f2 e h.num
    rw [code_num e, decide_eq_true e, if_pos rfl, hp, Option.bind_some, Option.bind_some, if_pos (by simp; omega), ← hs, be_ten hi lo b0 b1 b2 b3]
    have hl := app_loop lo v.f0 v.f1 v.f2 8 (Nat.le_refl _) (x ++ [2, hi / 256 % 256, hi % 256]) (by simp; omega) k
    rw [show (8 * ((8 : Nat) : Int) - 8) = 56 by decide] at hl
    rw [hl]
    simp
  · obtain ⟨t, ht, hb, hsz⟩ := reps_eq v.f2 e.2
    have hbl : (bytesOf t).length = t.size := bytesOf_length t
    rw [code_text e.1, decide_eq_false (show ¬ (v.f0 = 1 ∨ v.f0 = 2) by omega), if_neg (by decide), if_pos e.1, if_pos (by omega), Option.bind_some, ht, Option.bind_some, if_pos (by simp; omega), Option.bind_some, Option.bind_some,
      if_pos (by simp only [List.length_append, List.length_cons, List.length_nil]; omega), hb]
    simp
  · rw [code_bool e.1, decide_eq_false (show ¬ (v.f0 = 1 ∨ v.f0 = 2) by omega), if_neg (by decide), if_neg (show ¬ v.f0 = 3 by omega), if_pos e.1, Option.bind_some, if_pos (by simp; omega)]
end Go.Proofs.YtmphmkclbfoppaaDoor.X
end
section
namespace Go.Proofs.YtmphmkclbfoppaaDoor.X
set_option linter.unusedVariables false
set_option linter.unusedSimpArgs false
open Go.RowKit Go.Proofs.YtmphmkclbfoppaaDoorW.PrintWords Go.Proofs.YtmphmkclbfoppaaDoorW.PrintLast Go.Proofs.YtmphmkclbfoppaaDoorW.PrintMore
open Num
theorem getD_drop {r : List S32} {i : Nat} (hi : i < r.length) : r.drop i = rd_T32 r (i : Int) :: r.drop (i + 1) := by
  unfold rd_T32
  rw [List.drop_eq_getElem_cons hi, List.getD_eq_getElem?_getD, Int.toNat_natCast, List.getElem?_eq_getElem hi]
  rfl
theorem mem_rd {r : List S32} {i : Nat} (hi : i < r.length) : rd_T32 r (i : Int) ∈ r := by
  unfold rd_T32
  rw [List.getD_eq_getElem?_getD, Int.toNat_natCast, List.getElem?_eq_getElem hi]
  exact List.getElem_mem hi
def valOut (v : S32) : List Int × Int := if chk v.f0 v.f1 v.f2 = 0 then (code v, 0) else ([], chk v.f0 v.f1 v.f2)
theorem val_eq (v : S32) (hn : I64 v.f1) (k : Nat) (hk : 10 ≤ k) : rowcode_Value.f k v.f0 v.f1 v.f2 = some (valOut v) := by
  obtain ⟨k, rfl⟩ : ∃ m, k = m + 10 := ⟨k - 10, by omega⟩
  unfold rowcode_Value.f valOut
  rw [show k + 10 = (k + 9) + 1 by omega, value_Check.eq, Option.bind_some]
  by_cases hc : chk v.f0 v.f1 v.f2 = 0
  · rw [if_pos hc, if_pos hc, app_eq ⟨hc, hn⟩ k [] (by simp), Option.bind_some]; rfl
  · rw [if_neg hc, if_neg hc]
end Go.Proofs.YtmphmkclbfoppaaDoor.X
end
section
namespace Go.Proofs.YtmphmkclbfoppaaDoor.X
set_option linter.unusedVariables false
set_option linter.unusedSimpArgs false
open Go.RowKit Go.Proofs.YtmphmkclbfoppaaDoorW.PrintWords Go.Proofs.YtmphmkclbfoppaaDoorW.PrintLast Go.Proofs.YtmphmkclbfoppaaDoorW.PrintMore
open Num
theorem rd_getD (l : List Int) (i : Nat) : rd l (i : Int) = l.getD i 0 := by unfold rd; rw [Int.toNat_natCast]
theorem times_eq (u : Nat) (hu : u < 18446744073709551616) : lockstepref02_times.f (u : Int) = some (((u * 10000 / 18446744073709551616 : Nat) : Int), ((u * 10000 % 18446744073709551616 : Nat) : Int)) := by
  unfold lockstepref02_times.f
  have t1 : Int.tmod (u : Int) 4294967296 = ((u % 4294967296 : Nat) : Int) := by rw [Int.tmod_eq_emod_of_nonneg (by omega)]; omega
  rw [t1]
  have e1 : (u : Int) / 4294967296 * 10000 = ((u / 4294967296 * 10000 : Nat) : Int) := by omega
  have e2 : ((u % 4294967296 : Nat) : Int) * 10000 = ((u % 4294967296 * 10000 : Nat) : Int) := by omega
  rw [e1, e2, wrapN _ (by omega), wrapN _ (by omega), divN, addN, wrapN _ (by omega), divN, show ((u / 4294967296 * 10000 + u % 4294967296 * 10000 / 4294967296 : Nat) : Int) * 4294967296 = (((u / 4294967296 * 10000 + u % 4294967296 * 10000 / 4294967296) * 4294967296 : Nat) : Int) by omega]
  have t2 : Int.tmod ((u % 4294967296 * 10000 : Nat) : Int) 4294967296 = ((u % 4294967296 * 10000 % 4294967296 : Nat) : Int) := by rw [Int.tmod_eq_emod_of_nonneg (by omega)]; omega
  rw [t2, wrapM]
  have e3 : ((u / 4294967296 * 10000 + u % 4294967296 * 10000 / 4294967296) * 4294967296) % 18446744073709551616 = ((u / 4294967296 * 10000 + u % 4294967296 * 10000 / 4294967296) % 4294967296) * 4294967296 := by omega
  rw [e3, bits_or_u64_nat _ _ (by omega) (by omega)]
  have h := Nat.two_pow_add_eq_or_of_lt (i := 32) (show u % 4294967296 * 10000 % 4294967296 < 2 ^ 32 by omega) ((u / 4294967296 * 10000 + u % 4294967296 * 10000 / 4294967296) % 4294967296)
  rw [show (2 : Nat) ^ 32 = 4294967296 from rfl, Nat.mul_comm 4294967296] at h
  have f1 : (u / 4294967296 * 10000 + u % 4294967296 * 10000 / 4294967296) / 4294967296 = u * 10000 / 18446744073709551616 := by omega
  have f2 : (u / 4294967296 * 10000 + u % 4294967296 * 10000 / 4294967296) % 4294967296 * 4294967296 + u % 4294967296 * 10000 % 4294967296 = u * 10000 % 18446744073709551616 := by omega
  rw [← h, f1, f2]
theorem rnum_loop (lo : Int) (h0 : 0 ≤ lo) : ∀ (j : Nat), j ≤ 8 → ∀ (x : List Int), x.length + j < 140737488355328 → ∀ k,
    lockstepref02_number.l0 (k + j + 1) lo x ((j : Int) - 1) = some (x ++ be j lo)
  | 0, _, x, hl, k => by
    rw [lockstepref02_number.l0, if_neg (by omega)]
    show _ = some (x ++ [])
    rw [List.append_nil]
  | j + 1, hj, x, hl, k => by
    have e : (((j + 1 : Nat) : Int) - 1) = (j : Int) := by omega
    have ew : IntKind.u64.wrap (wrap64 (8 * (j : Int))) = 8 * (j : Int) := by rw [IntKind.wrap_u64]; unfold wrap64; omega
    rw [show k + (j + 1) + 1 = (k + j + 1) + 1 by omega, e, lockstepref02_number.l0, ew, if_pos (by omega), if_pos (by omega), if_pos (by omega), shr_be lo j (by omega),
      show wrap64 ((j : Int) - 1) = (j : Int) - 1 by unfold wrap64; omega, rnum_loop lo h0 j (by omega) _ (by rw [List.length_append, List.length_singleton]; omega) k, List.append_assoc]
    rfl
theorem rnum_j2 (hi lo : Int) (h0 : 0 ≤ hi) (h1 : hi < 65536) (h2 : 0 ≤ lo) (h3 : lo < 18446744073709551616) (k : Nat) (hk : 12 ≤ k) (N : Int) (hN : N + 604462909807314587353088 = ((hi + 32768) % 65536) * 18446744073709551616 + lo) :
    lockstepref02_number.j2 k hi lo = some (be 10 (N + 604462909807314587353088)) := by
  obtain ⟨k, rfl⟩ : ∃ m, k = m + 10 := ⟨k - 10, by omega⟩
  rw [show k + 10 = (k + 8 + 1) + 1 by omega, lockstepref02_number.j2]
  have hl := rnum_loop lo h2 8 (Nat.le_refl _) [(IntKind.u64.wrap (Int.tdiv (Int.tmod (IntKind.u64.wrap (hi + 32768)) 65536) 256)) % 256, (Int.tmod (IntKind.u64.wrap (hi + 32768)) 65536) % 256] (by simp) k
  rw [show (((8 : Nat) : Int) - 1) = 7 by decide] at hl
  rw [hl, hN]
  have ew : IntKind.u64.wrap (hi + 32768) = hi + 32768 := by rw [IntKind.wrap_u64]; omega
  have et : Int.tmod (hi + 32768) 65536 = (hi + 32768) % 65536 := Int.tmod_eq_emod_of_nonneg (by omega)
  have ed : Int.tdiv ((hi + 32768) % 65536) 256 = (hi + 32768) % 65536 / 256 := Int.tdiv_eq_ediv_of_nonneg (by omega)
  have ew2 : IntKind.u64.wrap ((hi + 32768) % 65536 / 256) = (hi + 32768) % 65536 / 256 := by rw [IntKind.wrap_u64]; omega
  rw [ew, et, ed, ew2]
  rw [be_ten _ lo (by omega) (by omega) h2 h3]
  rfl
theorem rnumber_eq (t n : Int) (s : ByteArray) (ht : t = 1 ∨ t = 2) (hn : I64 n) (k : Nat) (hk : 20 ≤ k) : lockstepref02_number.f k t n s = some (be 10 (sv t n + 604462909807314587353088)) := by
  obtain ⟨hn0, hn1⟩ := hn
  obtain ⟨k, rfl⟩ : ∃ m, k = m + 2 := ⟨k - 2, by omega⟩
  have main : ∀ (neg : Bool) (u : Nat), u < 18446744073709551616 → (n = if neg then -(u : Int) else (u : Int)) → (neg = true → 0 < u ∧ u ≤ 9223372036854775808) → (neg = false → u < 9223372036854775808) → lockstepref02_number.j0 (k + 2) neg (u : Int) t n s = some (be 10 (sv t n + 604462909807314587353088)) := by
    intro neg u hu hnu hneg hpos
    have inner : ∀ (H L : Nat), H < 10000 → L < 18446744073709551616 → (sv t n = if neg then -((H * 18446744073709551616 + L : Nat) : Int) else ((H * 18446744073709551616 + L : Nat) : Int)) → lockstepref02_number.j1 (k + 1) neg (H : Int) (L : Int) = some (be 10 (sv t n + 604462909807314587353088)) := by
      intro H L hH hL hs
      rw [lockstepref02_number.j1]
      cases neg
      · rw [if_neg (by decide)]
        rw [if_neg (by decide)] at hs
        exact rnum_j2 _ _ (by omega) (by omega) (by omega) (by omega) k (by omega) _ (by rw [hs]; omega)
      · rw [if_pos rfl]
        rw [if_pos rfl] at hs
        have eL : IntKind.u64.wrap (-(L : Int)) = (((18446744073709551616 - L) % 18446744073709551616 : Nat) : Int) := by rw [IntKind.wrap_u64]; omega
        rw [eL]
        have eH : IntKind.u64.wrap (65535 - (H : Int)) = 65535 - (H : Int) := by rw [IntKind.wrap_u64]; omega
        rw [eH]
        by_cases h0 : L = 0
        · rw [if_pos (by omega)]
          have eH1 : IntKind.u64.wrap (65535 - (H : Int) + 1) = 65535 - (H : Int) + 1 := by rw [IntKind.wrap_u64]; omega
          rw [eH1]
          have et : Int.tmod (65535 - (H : Int) + 1) 65536 = (65535 - (H : Int) + 1) % 65536 := Int.tmod_eq_emod_of_nonneg (by omega)
          rw [et]
          exact rnum_j2 _ _ (by omega) (by omega) (by omega) (by omega) k (by omega) _ (by rw [hs]; omega)
        · rw [if_neg (by omega)]
          have et : Int.tmod (65535 - (H : Int)) 65536 = (65535 - (H : Int)) % 65536 := Int.tmod_eq_emod_of_nonneg (by omega)
          rw [et]
          exact rnum_j2 _ _ (by omega) (by omega) (by omega) (by omega) k (by omega) _ (by rw [hs]; omega)
    rw [lockstepref02_number.j0]
    by_cases t1 : t = 1
    · rw [if_pos t1, times_eq u hu, Option.bind_some]
      refine inner _ _ (by omega) (by omega) ?_
      unfold sv
      rw [if_neg (by omega), hnu]
      cases neg
      · rw [if_neg (by decide), if_neg (by decide)]; omega
      · rw [if_pos rfl, if_pos rfl]; omega
    · rw [if_neg t1]
      refine inner 0 u (by decide) hu ?_
      unfold sv
      rw [if_pos (by omega), hnu]
      cases neg
      · rw [if_neg (by decide), if_neg (by decide)]; omega
      · rw [if_pos rfl, if_pos rfl]; omega
  unfold lockstepref02_number.f
  by_cases hneg : n < 0
  · rw [if_pos hneg, decide_eq_true hneg]
    have e : IntKind.u64.wrap (-(IntKind.u64.wrap n)) = ((n.natAbs : Nat) : Int) := by rw [IntKind.wrap_u64, IntKind.wrap_u64]; omega
    rw [e]
    exact main true n.natAbs (by omega) (by rw [if_pos rfl]; omega) (fun _ => by omega) (fun h => by cases h)
  · rw [if_neg hneg, decide_eq_false hneg]
    have e : IntKind.u64.wrap n = ((n.natAbs : Nat) : Int) := by rw [IntKind.wrap_u64]; omega
    rw [e]
    exact main false n.natAbs (by omega) (by rw [if_neg (by decide)]; omega) (fun h => by cases h) (fun _ => by omega)
theorem bt_drop (s : ByteArray) (i : Nat) (hi : i < s.size) : ∃ b, s.data.toList.drop i = b :: s.data.toList.drop (i + 1) ∧ bt s (i : Int) = (b.toNat : Int) := by
  have hl : s.data.toList.length = s.size := by simp
  refine ⟨s.data.toList[i], List.drop_eq_getElem_cons (by omega), ?_⟩
  unfold bt
  rw [Int.toNat_natCast]
  simp only [Array.getElem_toList]
  first
    | rw [getElem!_pos s i hi]; rfl
    | (simp [hi]; rfl)
theorem rtext_loop (s : ByteArray) (hs : s.size ≤ 4096) (t n : Int) : ∀ (d i : Nat), i + d = s.size → ∀ (x : List Int) (k : Nat), x.length + 2 * d + 10 < 140737488355328 → d + 5 ≤ k →
    lockstepref02_bytes.l0 k x (i : Int) t n s = some (x ++ (escB (s.data.toList.drop i) ++ [0, 0]))
  | 0, i, h, x, k, hx, hk => by
    obtain ⟨k, rfl⟩ : ∃ m, k = m + 1 := ⟨k - 1, by omega⟩
    have hl : s.data.toList.length = s.size := by simp
    rw [lockstepref02_bytes.l0, if_neg (by omega), Option.bind_some, if_pos (by simp; omega), List.drop_eq_nil_of_le (by omega)]; rfl
  | d + 1, i, h, x, k, hx, hk => by
    obtain ⟨k, rfl⟩ : ∃ m, k = m + 1 := ⟨k - 1, by omega⟩
    obtain ⟨b, e1, e2⟩ := bt_drop s i (by omega)
    rw [lockstepref02_bytes.l0, if_pos (by omega), if_pos (by omega), Option.bind_some, if_pos (by simp; omega), Option.bind_some, e1, e2, show wrap64 ((i : Int) + 1) = ((i + 1 : Nat) : Int) by unfold wrap64; omega]
    by_cases hb : b = 0
    · subst hb
      rw [if_pos (by rfl), Option.bind_some, if_pos (by simp; omega), rtext_loop s hs t n d (i + 1) (by omega) _ k (by simp; omega) (by omega), escB_z]
      simp
    · rw [if_neg (by have := u8_pos hb; omega), rtext_loop s hs t n d (i + 1) (by omega) _ k (by simp; omega) (by omega), escB_n hb]
      simp
theorem rbytes_eq {v : S32} (h : Can v) (k : Nat) (hk : 4200 ≤ k) : lockstepref02_bytes.f k v.f0 v.f1 v.f2 = some (code v) := by
  obtain ⟨k, rfl⟩ : ∃ m, k = m + 1 := ⟨k - 1, by omega⟩
  unfold lockstepref02_bytes.f
  have hj : ¬ v.f0 = 0 → (if v.f0 = 1 then (lockstepref02_bytes.j0 (k + 1) v.f0 (v.f0 == 1) v.f0 v.f1 v.f2) else (lockstepref02_bytes.j0 (k + 1) v.f0 (v.f0 == 2) v.f0 v.f1 v.f2)) = lockstepref02_bytes.j0 (k + 1) v.f0 (decide (v.f0 = 1 ∨ v.f0 = 2)) v.f0 v.f1 v.f2 := by
    intro _
    by_cases h1 : v.f0 = 1
    · rw [if_pos h1, h1]; rfl
    · rw [if_neg h1]
      congr 1
      rw [Bool.eq_iff_iff]
      simp [h1]
  rcases h.typ with e | e | e | e
  · rw [if_pos e, code_null e]
  · rw [if_neg (by omega), hj (by omega), lockstepref02_bytes.j0, decide_eq_true e, if_pos rfl, Option.bind_some, rnumber_eq v.f0 v.f1 v.f2 e h.num k (by omega), Option.bind_some,
      if_pos (by rw [be_len]; decide), Option.bind_some, Option.bind_some, if_pos (by rw [List.length_append, be_len]; simp), code_num e]
    simp
  · rw [if_neg (by omega), hj (by omega), lockstepref02_bytes.j0, decide_eq_false (by omega), if_neg (by decide), if_neg (by omega)]
    have := rtext_loop v.f2 e.2 v.f0 v.f1 v.f2.size 0 (by omega) [3] k (by simp; omega) (by omega)
    rw [show ((0 : Nat) : Int) = 0 from rfl, List.drop_zero] at this
    rw [this, code_text e.1]; rfl
  · rw [if_neg (by omega), hj (by omega), lockstepref02_bytes.j0, decide_eq_false (by omega), if_neg (by decide), if_pos e.1, code_bool e.1]
theorem rval_eq (v : S32) (hn : I64 v.f1) (k : Nat) (hk : 4300 ≤ k) : lockstepref02_Value.f k v.f0 v.f1 v.f2 = some (if chk v.f0 v.f1 v.f2 = 0 then (code v, 0) else ([], chk v.f0 v.f1 v.f2)) := by
  obtain ⟨k, rfl⟩ : ∃ m, k = m + 2 := ⟨k - 2, by omega⟩
  unfold lockstepref02_Value.f
  rw [lockstepref01_Check.eq, Option.bind_some]
  by_cases hc : chk v.f0 v.f1 v.f2 = 0
  · rw [if_pos hc, if_pos hc, rbytes_eq ⟨hc, hn⟩ (k + 2) (by omega), Option.bind_some]
  · rw [if_neg hc, if_neg hc]
end Go.Proofs.YtmphmkclbfoppaaDoor.X
end
section
namespace Go.Proofs.YtmphmkclbfoppaaDoor.X
set_option linter.unusedVariables false
set_option linter.unusedSimpArgs false
open Go.RowKit Go.Proofs.YtmphmkclbfoppaaDoorW.PrintWords Go.Proofs.YtmphmkclbfoppaaDoorW.PrintLast Go.Proofs.YtmphmkclbfoppaaDoorW.PrintMore
open Num
def hstep (a x : Int) : Int := IntKind.u64.wrap ((Go.bits .xor .u64 a (IntKind.u64.wrap x)) * 1099511628211)
def hs (a : Int) (l : List Int) : Int := l.foldl hstep a
theorem rd_cons {l : List Int} {i : Nat} (hi : i < l.length) : l.drop i = rd l (i : Int) :: l.drop (i + 1) := by
  rw [rd_getD, List.drop_eq_getElem_cons hi, List.getD_eq_getElem?_getD, List.getElem?_eq_getElem hi]
  rfl
theorem hs_loop (l : List Int) (hm : l.length ≤ 9223372036854775807) : ∀ (d i : Nat), i + d = l.length → ∀ (a : Int) (k : Nat), d + 1 ≤ k →
    rowcode_hash.l0 k a l (l.length : Int) (i : Int) = some (hs a (l.drop i)) ∧ lockstepref02_Hash.l0 k l a (i : Int) = some (hs a (l.drop i))
  | 0, i, h, a, k, hk => by
    obtain ⟨k, rfl⟩ : ∃ m, k = m + 1 := ⟨k - 1, by omega⟩
    rw [rowcode_hash.l0, lockstepref02_Hash.l0, if_neg (by omega), if_neg (by omega), List.drop_eq_nil_of_le (by omega)]
    exact ⟨rfl, rfl⟩
  | d + 1, i, h, a, k, hk => by
    obtain ⟨k, rfl⟩ : ∃ m, k = m + 1 := ⟨k - 1, by omega⟩
    rw [rowcode_hash.l0, lockstepref02_Hash.l0, if_pos (by omega), if_pos (by omega), if_pos (by omega), if_pos (by omega), if_pos (by omega), show wrap64 ((i : Int) + 1) = ((i + 1 : Nat) : Int) by unfold wrap64; omega, rd_cons (show i < l.length by omega)]
    exact hs_loop l hm d (i + 1) (by omega) _ k (by omega)
theorem Hash_hs (l : List Int) (hm : l.length ≤ 9223372036854775807) (k : Nat) (hk : l.length + 1 ≤ k) : rowcode_Hash.f k l = some (hs 14695981039346656037 l) ∧ lockstepref02_Hash.f k l = some (hs 14695981039346656037 l) := by
  obtain ⟨h1, h2⟩ := hs_loop l hm l.length 0 (by omega) 14695981039346656037 k hk
  rw [List.drop_zero] at h1 h2
  refine ⟨?_, h2⟩
  unfold rowcode_Hash.f rowcode_hash.f
  rw [show ((0 : Int)) = ((0 : Nat) : Int) from rfl, h1, Option.bind_some]
def mix (t : Int) : Int := (ring_mixed.f t).getD 0
theorem mix_eq (t : Int) : ring_mixed.f t = some (mix t) := rfl
theorem xor_nonneg (a b : Int) : 0 ≤ Go.bits .xor .u64 a b := by
  show 0 ≤ IntKind.u64.wrap _
  rw [IntKind.wrap_u64]
  omega
theorem mix_nonneg (t : Int) : 0 ≤ mix t := xor_nonneg _ _
def wt (b : List Int) (p : Int) : Int := mix (hs 14695981039346656037 (b ++ [p % 256]))
theorem weight_eq (b : List Int) (hb : b.length < 140737488355328) (p : Int) (k : Nat) (hk : b.length + 2 ≤ k) : ring_weight.f k b p = some (wt b p) := by
  unfold ring_weight.f wt
  rw [if_pos hb, (Hash_hs (b ++ [p % 256]) (by rw [List.length_append]; simp; omega) k (by rw [List.length_append]; simp; omega)).1, Option.bind_some, mix_eq, Option.bind_some]
def best (w : Nat → Int) : Nat → Nat × Int
  | 0 => (0, 0)
  | i + 1 => if i = 0 then (0, w 0) else if w i > (best w i).2 then (i, w i) else best w i
theorem best_spec (w : Nat → Int) : ∀ n, 1 ≤ n → (best w n).1 < n ∧ (best w n).2 = w (best w n).1 ∧ (∀ j, j < n → w j ≤ (best w n).2) ∧ (∀ j, j < (best w n).1 → w j < (best w n).2)
  | 0, h => absurd h (by decide)
  | 1, _ => by
    refine ⟨Nat.zero_lt_one, rfl, fun j hj => ?_, fun j hj => absurd hj (Nat.not_lt_zero _)⟩
    obtain rfl : j = 0 := by omega
    exact Int.le_refl _
  | n + 2, _ => by
    obtain ⟨h1, h2, h3, h4⟩ := best_spec w (n + 1) (by omega)
    rw [best, if_neg (by omega)]
    by_cases hc : w (n + 1) > (best w (n + 1)).2
    · rw [if_pos hc]
      refine ⟨by show n + 1 < n + 2; omega, rfl, fun j hj => ?_, fun j hj => ?_⟩
      · by_cases hjn : j = n + 1
        · rw [hjn]; exact Int.le_refl _
        · have := h3 j (by omega); show w j ≤ w (n + 1); omega
      · have hj' : j < n + 1 := hj
        have := h3 j hj'
        show w j < w (n + 1); omega
    · rw [if_neg hc]
      refine ⟨by omega, h2, fun j hj => ?_, h4⟩
      by_cases hjn : j = n + 1
      · rw [hjn]; omega
      · exact h3 j (by omega)
def ofp (v : S32) (n : Nat) : Nat := if v.f0 = 0 then 0 else (best (fun j => wt (code v) (j : Int)) n).1
theorem ofp_lt (v : S32) {n : Nat} (hn : 1 ≤ n) : ofp v n < n := by
  unfold ofp
  split
  · omega
  · exact (best_spec _ n hn).1
theorem of_loop (b : List Int) (hb : b.length ≤ 8195) (n : Nat) (hn : n ≤ 64) : ∀ (d i : Nat), i + d = n → ∀ k, b.length + d + 4 ≤ k →
    ring_of.l0 k b ((best (fun j => wt b (j : Int)) i).1 : Int) (best (fun j => wt b (j : Int)) i).2 (n : Int) (i : Int) = some (((best (fun j => wt b (j : Int)) n).1 : Int), 0)
  | 0, i, h, k, hk => by
    obtain ⟨k, rfl⟩ : ∃ m, k = m + 1 := ⟨k - 1, by omega⟩
    obtain rfl : i = n := by omega
    rw [ring_of.l0, if_neg (by omega)]
  | d + 1, i, h, k, hk => by
    obtain ⟨k, rfl⟩ : ∃ m, k = m + 1 := ⟨k - 1, by omega⟩
    have ih := of_loop b hb n hn d (i + 1) (by omega) k (by omega)
    rw [ring_of.l0, if_pos (by omega), if_pos (by omega), if_pos (by omega), Int.toNat_natCast, List.take_length, weight_eq b (by omega) _ k (by omega), Option.bind_some, show wrap64 ((i : Int) + 1) = ((i + 1 : Nat) : Int) by unfold wrap64; omega]
    rw [best] at ih
    by_cases h0 : i = 0
    · subst h0
      rw [if_pos rfl] at ih
      rw [if_pos (by rfl)]
      exact ih
    · rw [if_neg h0] at ih
      rw [if_neg (by omega)]
      by_cases hc : wt b (i : Int) > (best (fun j => wt b (j : Int)) i).2
      · rw [if_pos hc] at ih
        rw [if_pos hc]
        exact ih
      · rw [if_neg hc] at ih
        rw [if_neg hc]
        exact ih
theorem of_eq (v : S32) (hv : I64 v.f1) (n : Nat) (hn : n ≤ 64) (k : Nat) (hk : 8300 ≤ k) : ring_of.f k v.f0 v.f1 v.f2 (n : Int) = some (if chk v.f0 v.f1 v.f2 = 0 then ((ofp v n : Int), 0) else (0, chk v.f0 v.f1 v.f2)) := by
  obtain ⟨k, rfl⟩ : ∃ m, k = m + 1 := ⟨k - 1, by omega⟩
  unfold ring_of.f
  rw [val_eq v hv (k + 1) (by omega), Option.bind_some]
  unfold valOut
  by_cases hc : chk v.f0 v.f1 v.f2 = 0
  · rw [if_pos hc, if_pos hc, if_pos rfl, ring_of.j0]
    unfold ofp
    by_cases h0 : v.f0 = 0
    · rw [if_pos (by rw [h0]; rfl), if_pos h0]; rfl
    · rw [if_neg (by simpa using h0), if_neg h0]
      have hl := code_len (v := v) ⟨hc, hv⟩
      exact of_loop (code v) hl n hn n 0 (by omega) k (by omega)
  · rw [if_neg hc, if_neg hc]
    rw [if_neg hc, ring_of.j0, if_pos rfl]
def wOut (v : S32) (p : Int) : Int × Int := if p < 0 ∨ p ≥ 64 then (0, 1) else if chk v.f0 v.f1 v.f2 = 0 then (wt (code v) p, 0) else (0, chk v.f0 v.f1 v.f2)
theorem Weight_eq (v : S32) (hv : I64 v.f1) (p : Int) (k : Nat) (hk : 8300 ≤ k) : ring_Weight.f k v.f0 v.f1 v.f2 p = some (wOut v p) := by
  obtain ⟨k, rfl⟩ : ∃ m, k = m + 1 := ⟨k - 1, by omega⟩
  unfold ring_Weight.f wOut
  by_cases h0 : p < 0
  · rw [if_pos h0, ring_Weight.j0, if_pos rfl, if_pos (Or.inl h0)]
  rw [if_neg h0, ring_Weight.j0]
  by_cases h1 : p ≥ 64
  · rw [if_pos (decide_eq_true h1), if_pos (Or.inr h1)]
  rw [if_neg (by simpa using h1), if_neg (by omega), val_eq v hv k (by omega), Option.bind_some]
  unfold valOut
  by_cases hc : chk v.f0 v.f1 v.f2 = 0
  · have hl := code_len (v := v) ⟨hc, hv⟩
    rw [if_pos hc, if_pos hc, if_pos rfl, weight_eq _ (by show (code v).length < _; omega) p k (by show (code v).length + 2 ≤ k; omega), Option.bind_some]
  · rw [if_neg hc, if_neg hc, if_neg hc]
theorem rWeight_eq (v : S32) (hv : I64 v.f1) (p : Int) (k : Nat) (hk : 8300 ≤ k) : lockstepref18_Weight.f k v.f0 v.f1 v.f2 p = some (wOut v p) := by
  obtain ⟨k, rfl⟩ : ∃ m, k = m + 1 := ⟨k - 1, by omega⟩
  unfold lockstepref18_Weight.f wOut
  by_cases h0 : p < 0
  · rw [if_pos h0, lockstepref18_Weight.j0, if_pos rfl, if_pos (Or.inl h0)]
  rw [if_neg h0, lockstepref18_Weight.j0]
  by_cases h1 : p ≥ 64
  · rw [if_pos (decide_eq_true h1), if_pos (Or.inr h1)]
  rw [if_neg (by simpa using h1), if_neg (by omega), rval_eq v hv k (by omega), Option.bind_some]
  by_cases hc : chk v.f0 v.f1 v.f2 = 0
  · have hl := code_len (v := v) ⟨hc, hv⟩
    rw [if_pos hc, if_pos hc, if_pos rfl, if_pos (by show (code v).length < _; omega), (Hash_hs (code v ++ [p % 256]) (by rw [List.length_append]; simp; omega) k (by rw [List.length_append]; simp; omega)).2, Option.bind_some]
    rfl
  · rw [if_neg hc, if_neg hc, if_neg hc]
def okp (n : Int) : Bool := decide (1 ≤ n ∧ n ≤ 64)
theorem some_eq (n : Int) : ring_some.f n = some (okp n) := by
  unfold ring_some.f okp
  by_cases h : n ≥ 1
  · rw [if_pos h]
    congr 1
    rw [decide_eq_decide]
    omega
  · rw [if_neg h, decide_eq_false (by omega)]
theorem parts_eq2 (n : Int) : lockstepref18_parts.f n = some (okp n) := some_eq n
theorem okp_nat {n : Int} (h : okp n = true) : ∃ m : Nat, n = (m : Int) ∧ 1 ≤ m ∧ m ≤ 64 := by
  have := of_decide_eq_true h
  exact ⟨n.toNat, by omega, by omega, by omega⟩
def ofOut (v : S32) (n : Int) : Int × Int := if okp n = true then (if chk v.f0 v.f1 v.f2 = 0 then ((ofp v n.toNat : Int), 0) else (0, chk v.f0 v.f1 v.f2)) else (0, 1)
theorem Of_eq (v : S32) (hv : I64 v.f1) (n : Int) (k : Nat) (hk : 8300 ≤ k) : ring_Of.f k v.f0 v.f1 v.f2 n = some (ofOut v n) := by
  unfold ring_Of.f ofOut
  rw [some_eq, Option.bind_some]
  by_cases h : okp n = true
  · obtain ⟨m, rfl, m1, m2⟩ := okp_nat h
    rw [if_pos h, if_pos h, of_eq v hv m m2 k hk, Option.bind_some, Int.toNat_natCast]
  · rw [if_neg h, if_neg h]
theorem rOf_loop (v : S32) (hv : I64 v.f1) (hc : chk v.f0 v.f1 v.f2 = 0) (n : Nat) (hn : n ≤ 64) : ∀ (d i : Nat), i + d = n → ∀ k, d + 8301 ≤ k →
    lockstepref18_Of.l0 k (n : Int) ((best (fun j => wt (code v) (j : Int)) i).1 : Int) (best (fun j => wt (code v) (j : Int)) i).2 (i : Int) v.f0 v.f1 v.f2 = some (((best (fun j => wt (code v) (j : Int)) n).1 : Int), 0)
  | 0, i, h, k, hk => by
    obtain ⟨k, rfl⟩ : ∃ m, k = m + 1 := ⟨k - 1, by omega⟩
    obtain rfl : i = n := by omega
    rw [lockstepref18_Of.l0, if_neg (by omega)]
  | d + 1, i, h, k, hk => by
    obtain ⟨k, rfl⟩ : ∃ m, k = m + 1 := ⟨k - 1, by omega⟩
    have ih := rOf_loop v hv hc n hn d (i + 1) (by omega) k (by omega)
    have hw : wOut v (i : Int) = (wt (code v) (i : Int), 0) := by unfold wOut; rw [if_neg (by omega), if_pos hc]
    rw [lockstepref18_Of.l0, if_pos (by omega), rWeight_eq v hv _ k (by omega), Option.bind_some, hw, show wrap64 ((i : Int) + 1) = ((i + 1 : Nat) : Int) by unfold wrap64; omega]
    rw [best] at ih
    by_cases h0 : i = 0
    · subst h0
      rw [if_pos rfl] at ih
      by_cases hp : wt (code v) ((0 : Nat) : Int) > (best (fun j => wt (code v) (j : Int)) 0).2
      · rw [if_pos hp]
        exact ih
      · rw [if_neg hp]
        have hz : wt (code v) ((0 : Nat) : Int) = 0 := by
          have h1 : (0 : Int) ≤ wt (code v) ((0 : Nat) : Int) := mix_nonneg _
          have h2 : ¬ wt (code v) ((0 : Nat) : Int) > 0 := hp
          omega
        rw [hz] at ih
        exact ih
    · rw [if_neg h0] at ih
      by_cases hp : wt (code v) (i : Int) > (best (fun j => wt (code v) (j : Int)) i).2
      · rw [if_pos hp] at ih
        rw [if_pos hp]
        exact ih
      · rw [if_neg hp] at ih
        rw [if_neg hp]
        exact ih
theorem rOf_eq (v : S32) (hv : I64 v.f1) (n : Int) (k : Nat) (hk : 8400 ≤ k) : lockstepref18_Of.f k v.f0 v.f1 v.f2 n = some (ofOut v n) := by
  obtain ⟨k, rfl⟩ : ∃ m, k = m + 2 := ⟨k - 2, by omega⟩
  unfold lockstepref18_Of.f ofOut
  rw [parts_eq2, Option.bind_some]
  by_cases h : okp n = true
  · obtain ⟨m, rfl, m1, m2⟩ := okp_nat h
    rw [if_pos h, if_pos h, lockstepref01_Check.eq, Option.bind_some, Int.toNat_natCast]
    by_cases hc : chk v.f0 v.f1 v.f2 = 0
    · rw [if_pos hc, if_pos hc, lockstepref18_Of.j0]
      unfold ofp
      by_cases h0 : v.f0 = 0
      · rw [if_pos (by rw [h0]; rfl), if_pos h0, hc]; rfl
      · rw [if_neg (by simpa using h0), if_neg h0]
        exact rOf_loop v hv hc m m2 m 0 (by omega) (k + 1) (by omega)
    · rw [if_neg hc, if_neg hc, lockstepref18_Of.j0, if_pos rfl]
  · rw [if_neg h, if_neg h]
def lErr : List S32 → Int
  | [] => 0
  | v :: r => if chk v.f0 v.f1 v.f2 = 0 then lErr r else chk v.f0 v.f1 v.f2
def cnt (c : List Int) : List Nat → List Int
  | [] => c
  | p :: ps => cnt (c.set p (wrap64 (c.getD p 0 + 1))) ps
def spreadOut (l : List S32) (n : Int) : List Int × Int := if okp n = true then (if l.length > 65536 then ([], 2) else if lErr l = 0 then (cnt (List.replicate n.toNat 0) (l.map fun v => ofp v n.toNat), 0) else ([], lErr l)) else ([], 1)
theorem Spread_loop (l : List S32) (hl : l.length ≤ 65536) (hv : ∀ v ∈ l, I64 v.f1) (n : Nat) (h1 : 1 ≤ n) (hn : n ≤ 64) : ∀ (d i : Nat), i + d = l.length → ∀ (c : List Int) (k : Nat), c.length = n → d + 8301 ≤ k →
    ring_Spread.l0 k (n : Int) c l (l.length : Int) (i : Int) = some (if lErr (l.drop i) = 0 then (cnt c ((l.drop i).map fun v => ofp v n), 0) else ([], lErr (l.drop i)))
  | 0, i, h, c, k, hc, hk => by
    obtain ⟨k, rfl⟩ : ∃ m, k = m + 1 := ⟨k - 1, by omega⟩
    rw [ring_Spread.l0, if_neg (by omega), List.drop_eq_nil_of_le (by omega)]
    rfl
  | d + 1, i, h, c, k, hc, hk => by
    obtain ⟨k, rfl⟩ : ∃ m, k = m + 1 := ⟨k - 1, by omega⟩
    have hi : i < l.length := by omega
    have hm := mem_rd hi
    rw [ring_Spread.l0, if_pos (by omega), if_pos (by omega), if_pos (by omega), getD_drop hi]
    generalize rd_T32 l (i : Int) = v at *
    rw [of_eq v (hv v hm) n hn k (by omega), Option.bind_some, List.map_cons]
    unfold lErr
    by_cases he : chk v.f0 v.f1 v.f2 = 0
    · have hlt := ofp_lt v h1
      rw [if_pos he, if_pos he, if_pos rfl, if_pos (by show (0 : Int) ≤ (ofp v n : Int); omega), if_pos (by show (ofp v n : Int) < _; omega), show wrap64 ((i : Int) + 1) = ((i + 1 : Nat) : Int) by unfold wrap64; omega]
      show ring_Spread.l0 k (n : Int) (c.set (((ofp v n : Nat) : Int)).toNat (wrap64 (rd c ((ofp v n : Nat) : Int) + 1))) l (l.length : Int) ((i + 1 : Nat) : Int) = _
      rw [Int.toNat_natCast, rd_getD, Spread_loop l hl hv n h1 hn d (i + 1) (by omega) _ k (by rw [List.length_set]; exact hc) (by omega)]
      rfl
    · rw [if_neg he, if_neg he, if_neg he]
      rw [if_neg he]
theorem Spread_eq (l : List S32) (hv : ∀ v ∈ l, I64 v.f1) (n : Int) (k : Nat) (hk : 80000 ≤ k) : ring_Spread.f k l n = some (spreadOut l n) := by
  unfold ring_Spread.f spreadOut
  rw [some_eq, Option.bind_some]
  by_cases h : okp n = true
  · obtain ⟨m, rfl, m1, m2⟩ := okp_nat h
    rw [if_pos h, if_pos h]
    by_cases hl : l.length > 65536
    · rw [if_pos (by omega), if_pos hl]
    · rw [if_neg (by omega), if_neg hl, if_pos (by omega), if_pos (by omega), Int.toNat_natCast]
      have := Spread_loop l (by omega) hv m m1 m2 l.length 0 (by omega) (List.replicate m 0) k (by simp) (by omega)
      rw [List.drop_zero] at this
      exact this
  · rw [if_neg h, if_neg h]
theorem list_loop (l : List S32) (hl : l.length ≤ 65536) : ∀ (d i : Nat), i + d = l.length → ∀ (k : Nat), d + 3 ≤ k → lockstepref18_list.l0 k l (i : Int) = some (lErr (l.drop i))
  | 0, i, h, k, hk => by
    obtain ⟨k, rfl⟩ : ∃ m, k = m + 1 := ⟨k - 1, by omega⟩
    rw [lockstepref18_list.l0, if_neg (by omega), List.drop_eq_nil_of_le (by omega)]
    rfl
  | d + 1, i, h, k, hk => by
    obtain ⟨k, rfl⟩ : ∃ m, k = m + 3 := ⟨k - 3, by omega⟩
    have hi : i < l.length := by omega
    rw [lockstepref18_list.l0, if_pos (by omega), if_pos (by omega), getD_drop hi]
    generalize rd_T32 l (i : Int) = v at *
    rw [lockstepref01_Check.eq, Option.bind_some]
    unfold lErr
    by_cases he : chk v.f0 v.f1 v.f2 = 0
    · rw [if_pos he, if_pos he, show wrap64 ((i : Int) + 1) = ((i + 1 : Nat) : Int) by unfold wrap64; omega]
      exact list_loop l hl d (i + 1) (by omega) (k + 2) (by omega)
    · rw [if_neg he, if_neg he]
def listOut (l : List S32) : Int := if l.length > 65536 then 2 else lErr l
theorem list_eq (l : List S32) (k : Nat) (hk : 65540 ≤ k) : lockstepref18_list.f k l = some (listOut l) := by
  unfold lockstepref18_list.f listOut
  by_cases hl : l.length > 65536
  · rw [if_pos (by omega), if_pos hl]
  · rw [if_neg (by omega), if_neg hl]
    have := list_loop l (by omega) l.length 0 (by omega) k (by omega)
    rw [List.drop_zero] at this
    exact this
theorem lErr_all : ∀ (l : List S32), lErr l = 0 → ∀ v ∈ l, chk v.f0 v.f1 v.f2 = 0
  | [], _ => fun v hv => by simp at hv
  | a :: l, h => by
    unfold lErr at h
    by_cases hc : chk a.f0 a.f1 a.f2 = 0
    · rw [if_pos hc] at h
      intro v hv
      rcases List.mem_cons.mp hv with e | e
      · rw [e]; exact hc
      · exact lErr_all l h v e
    · rw [if_neg hc] at h; exact absurd h hc
theorem ofOut_ok {v : S32} (hc : chk v.f0 v.f1 v.f2 = 0) {n : Nat} (h1 : 1 ≤ n) (h2 : n ≤ 64) : ofOut v (n : Int) = ((ofp v n : Int), 0) := by
  have hok : okp (n : Int) = true := decide_eq_true ⟨by omega, by omega⟩
  unfold ofOut
  rw [if_pos hok, if_pos hc, Int.toNat_natCast]
theorem rSpread_loop (l : List S32) (hl : l.length ≤ 65536) (hv : ∀ v ∈ l, I64 v.f1) (he : ∀ v ∈ l, chk v.f0 v.f1 v.f2 = 0) (n : Nat) (h1 : 1 ≤ n) (hn : n ≤ 64) : ∀ (d i : Nat), i + d = l.length → ∀ (c : List Int) (k : Nat), c.length = n → d + 8401 ≤ k →
    lockstepref18_Spread.l0 k l (n : Int) c (i : Int) = some (cnt c ((l.drop i).map fun v => ofp v n), 0)
  | 0, i, h, c, k, hc, hk => by
    obtain ⟨k, rfl⟩ : ∃ m, k = m + 1 := ⟨k - 1, by omega⟩
    rw [lockstepref18_Spread.l0, if_neg (by omega), List.drop_eq_nil_of_le (by omega)]
    rfl
  | d + 1, i, h, c, k, hc, hk => by
    obtain ⟨k, rfl⟩ : ∃ m, k = m + 1 := ⟨k - 1, by omega⟩
    have hi : i < l.length := by omega
    have hm := mem_rd hi
    rw [lockstepref18_Spread.l0, if_pos (by omega), if_pos (by omega), getD_drop hi]
    generalize rd_T32 l (i : Int) = v at *
    have hlt := ofp_lt v h1
    rw [rOf_eq v (hv v hm) _ k (by omega), Option.bind_some, ofOut_ok (he v hm) h1 hn, List.map_cons, if_pos (by show (0 : Int) ≤ (ofp v n : Int); omega), if_pos (by show (ofp v n : Int) < _; omega), show wrap64 ((i : Int) + 1) = ((i + 1 : Nat) : Int) by unfold wrap64; omega]
    show lockstepref18_Spread.l0 k l (n : Int) (c.set (((ofp v n : Nat) : Int)).toNat (wrap64 (rd c ((ofp v n : Nat) : Int) + 1))) ((i + 1 : Nat) : Int) = _
    rw [Int.toNat_natCast, rd_getD, rSpread_loop l hl hv he n h1 hn d (i + 1) (by omega) _ k (by rw [List.length_set]; exact hc) (by omega)]
    rfl
theorem rSpread_eq (l : List S32) (hv : ∀ v ∈ l, I64 v.f1) (n : Int) (k : Nat) (hk : 80000 ≤ k) : lockstepref18_Spread.f k l n = some (spreadOut l n) := by
  unfold lockstepref18_Spread.f spreadOut
  rw [parts_eq2, Option.bind_some]
  by_cases h : okp n = true
  · obtain ⟨m, rfl, m1, m2⟩ := okp_nat h
    rw [if_pos h, if_pos h, list_eq l k (by omega), Option.bind_some]
    unfold listOut
    by_cases hl : l.length > 65536
    · rw [if_pos hl, if_pos hl, if_neg (by decide)]
    · rw [if_neg hl, if_neg hl]
      by_cases he : lErr l = 0
      · rw [if_pos he, if_pos he, if_pos (by omega), if_pos (by omega), Int.toNat_natCast]
        have := rSpread_loop l (by omega) hv (lErr_all l he) m m1 m2 l.length 0 (by omega) (List.replicate m 0) k (by simp) (by omega)
        rw [List.drop_zero] at this
        exact this
      · rw [if_neg he, if_neg he]
  · rw [if_neg h, if_neg h]
def mv (a b : Nat) : Nat → List S32 → List S29
  | _, [] => []
  | i, v :: l => if ofp v a = ofp v b then mv a b (i + 1) l else ⟨(i : Int), (ofp v a : Int), (ofp v b : Int)⟩ :: mv a b (i + 1) l
def movesOut (l : List S32) (a b : Int) : List S29 × Int := if okp a = true ∧ okp b = true then (if l.length > 65536 then ([], 2) else if lErr l = 0 then (mv a.toNat b.toNat 0 l, 0) else ([], lErr l)) else ([], 1)
theorem Moves_loop (l : List S32) (hl : l.length ≤ 65536) (hv : ∀ v ∈ l, I64 v.f1) (a b : Nat) (a1 : 1 ≤ a) (a2 : a ≤ 64) (b1 : 1 ≤ b) (b2 : b ≤ 64) : ∀ (d i : Nat), i + d = l.length → ∀ (acc : List S29) (k : Nat), acc.length ≤ i → d + 8301 ≤ k →
    ring_Moves.l0 k (a : Int) (b : Int) acc l (l.length : Int) (i : Int) = some (if lErr (l.drop i) = 0 then (acc ++ mv a b i (l.drop i), 0) else ([], lErr (l.drop i)))
  | 0, i, h, acc, k, ha, hk => by
    obtain ⟨k, rfl⟩ : ∃ m, k = m + 1 := ⟨k - 1, by omega⟩
    rw [ring_Moves.l0, if_neg (by omega), List.drop_eq_nil_of_le (by omega)]
    unfold mv lErr
    rw [if_pos rfl, List.append_nil]
  | d + 1, i, h, acc, k, ha, hk => by
    obtain ⟨k, rfl⟩ : ∃ m, k = m + 1 := ⟨k - 1, by omega⟩
    have hi : i < l.length := by omega
    have hm := mem_rd hi
    rw [ring_Moves.l0, if_pos (by omega), if_pos (by omega), if_pos (by omega), getD_drop hi]
    generalize rd_T32 l (i : Int) = v at *
    rw [of_eq v (hv v hm) a a2 k (by omega), Option.bind_some, of_eq v (hv v hm) b b2 k (by omega)]
    unfold lErr mv
    by_cases he : chk v.f0 v.f1 v.f2 = 0
    · rw [if_pos he, if_pos he, if_pos he, if_pos rfl, Option.bind_some, show wrap64 ((i : Int) + 1) = ((i + 1 : Nat) : Int) by unfold wrap64; omega]
      by_cases hq : ofp v a = ofp v b
      · rw [if_pos (by show (ofp v a : Int) = (ofp v b : Int); omega), if_pos hq]
        exact Moves_loop l hl hv a b a1 a2 b1 b2 d (i + 1) (by omega) acc k (by omega) (by omega)
      · rw [if_neg (by show ¬ (ofp v a : Int) = (ofp v b : Int); omega), if_neg hq, if_pos (by omega)]
        have := Moves_loop l hl hv a b a1 a2 b1 b2 d (i + 1) (by omega) (acc ++ [⟨(i : Int), (ofp v a : Int), (ofp v b : Int)⟩]) k (by rw [List.length_append]; simp; omega) (by omega)
        rw [List.append_assoc] at this
        exact this
    · rw [if_neg he, if_neg he, if_neg he]
      rw [if_neg he]
theorem Moves_eq (l : List S32) (hv : ∀ v ∈ l, I64 v.f1) (a b : Int) (k : Nat) (hk : 80000 ≤ k) : ring_Moves.f k l a b = some (movesOut l a b) := by
  obtain ⟨k, rfl⟩ : ∃ m, k = m + 1 := ⟨k - 1, by omega⟩
  unfold ring_Moves.f movesOut
  rw [some_eq, Option.bind_some]
  by_cases h : okp a = true
  · rw [if_pos h, some_eq, Option.bind_some, ring_Moves.j0]
    by_cases h' : okp b = true
    · rw [if_pos (show okp a = true ∧ okp b = true from ⟨h, h'⟩), h', if_neg (by decide)]
      obtain ⟨m, rfl, m1, m2⟩ := okp_nat h
      obtain ⟨n, rfl, n1, n2⟩ := okp_nat h'
      by_cases hl : l.length > 65536
      · rw [if_pos (by omega), if_pos hl]
      · rw [if_neg (by omega), if_neg hl, Int.toNat_natCast, Int.toNat_natCast]
        have := Moves_loop l (by omega) hv m n m1 m2 n1 n2 l.length 0 (by omega) [] k (by simp) (by omega)
        rw [List.drop_zero] at this
        exact this
    · have : okp b = false := by simpa using h'
      rw [this, if_pos (by decide), if_neg (by simp)]
  · rw [if_neg h, ring_Moves.j0, if_pos rfl, if_neg (fun q => h q.1)]
theorem rMoves_loop (l : List S32) (hl : l.length ≤ 65536) (hv : ∀ v ∈ l, I64 v.f1) (he : ∀ v ∈ l, chk v.f0 v.f1 v.f2 = 0) (a b : Nat) (a1 : 1 ≤ a) (a2 : a ≤ 64) (b1 : 1 ≤ b) (b2 : b ≤ 64) : ∀ (d i : Nat), i + d = l.length → ∀ (acc : List S29) (k : Nat), acc.length ≤ i → d + 8401 ≤ k →
    lockstepref18_Moves.l0 k l (a : Int) (b : Int) acc (i : Int) = some (acc ++ mv a b i (l.drop i), 0)
  | 0, i, h, acc, k, ha, hk => by
    obtain ⟨k, rfl⟩ : ∃ m, k = m + 1 := ⟨k - 1, by omega⟩
    rw [lockstepref18_Moves.l0, if_neg (by omega), List.drop_eq_nil_of_le (by omega)]
    unfold mv
    rw [List.append_nil]
  | d + 1, i, h, acc, k, ha, hk => by
    obtain ⟨k, rfl⟩ : ∃ m, k = m + 1 := ⟨k - 1, by omega⟩
    have hi : i < l.length := by omega
    have hm := mem_rd hi
    rw [lockstepref18_Moves.l0, if_pos (by omega), if_pos (by omega), getD_drop hi]
    generalize rd_T32 l (i : Int) = v at *
    rw [rOf_eq v (hv v hm) _ k (by omega), Option.bind_some, rOf_eq v (hv v hm) _ k (by omega), Option.bind_some, ofOut_ok (he v hm) a1 a2, ofOut_ok (he v hm) b1 b2, show wrap64 ((i : Int) + 1) = ((i + 1 : Nat) : Int) by unfold wrap64; omega]
    unfold mv
    by_cases hq : ofp v a = ofp v b
    · rw [if_pos (by show (ofp v a : Int) = (ofp v b : Int); omega), if_pos hq]
      exact rMoves_loop l hl hv he a b a1 a2 b1 b2 d (i + 1) (by omega) acc k (by omega) (by omega)
    · rw [if_neg (by show ¬ (ofp v a : Int) = (ofp v b : Int); omega), if_neg hq, if_pos (by omega)]
      have := rMoves_loop l hl hv he a b a1 a2 b1 b2 d (i + 1) (by omega) (acc ++ [⟨(i : Int), (ofp v a : Int), (ofp v b : Int)⟩]) k (by rw [List.length_append]; simp; omega) (by omega)
      rw [List.append_assoc] at this
      exact this
theorem rMoves_eq (l : List S32) (hv : ∀ v ∈ l, I64 v.f1) (a b : Int) (k : Nat) (hk : 80000 ≤ k) : lockstepref18_Moves.f k l a b = some (movesOut l a b) := by
  obtain ⟨k, rfl⟩ : ∃ m, k = m + 1 := ⟨k - 1, by omega⟩
  unfold lockstepref18_Moves.f movesOut
  rw [parts_eq2, Option.bind_some]
  by_cases h : okp a = true
  · rw [if_pos h, parts_eq2, Option.bind_some, lockstepref18_Moves.j0]
    by_cases h' : okp b = true
    · rw [if_pos (show okp a = true ∧ okp b = true from ⟨h, h'⟩), h', if_neg (by decide), list_eq l k (by omega), Option.bind_some]
      obtain ⟨m, rfl, m1, m2⟩ := okp_nat h
      obtain ⟨n, rfl, n1, n2⟩ := okp_nat h'
      unfold listOut
      by_cases hl : l.length > 65536
      · rw [if_pos hl, if_pos hl, if_neg (by decide)]
      · rw [if_neg hl, if_neg hl, Int.toNat_natCast, Int.toNat_natCast]
        by_cases he : lErr l = 0
        · rw [if_pos he, if_pos he]
          have := rMoves_loop l (by omega) hv (lErr_all l he) m n m1 m2 n1 n2 l.length 0 (by omega) [] k (by simp) (by omega)
          rw [List.drop_zero] at this
          exact this
        · rw [if_neg he, if_neg he]
    · have : okp b = false := by simpa using h'
      rw [this, if_pos (by decide), if_neg (by simp)]
  · rw [if_neg h, lockstepref18_Moves.j0, if_pos rfl, if_neg (fun q => h q.1)]
end Go.Proofs.YtmphmkclbfoppaaDoor.X
end
section
namespace Go.Proofs.YtmphmkclbfoppaaDoor.X
set_option linter.unusedVariables false
set_option linter.unusedSimpArgs false
open Go.RowKit Go.Proofs.YtmphmkclbfoppaaDoorW.PrintWords Go.Proofs.YtmphmkclbfoppaaDoorW.PrintLast Go.Proofs.YtmphmkclbfoppaaDoorW.PrintMore
open Num
def ch (s n : Nat) : List S32 := (List.range n).map fun i => ⟨1, ((s + i : Nat) : Int), (⟨#[]⟩ : ByteArray)⟩
def run (c : List Int) (s n : Nat) : List Int := cnt c ((ch s n).map fun v => ofp v 4)
end Go.Proofs.YtmphmkclbfoppaaDoor.X
end
section
namespace Go.Proofs.YtmphmkclbfoppaaDoor.X
set_option linter.unusedVariables false
set_option linter.unusedSimpArgs false
open Go.RowKit Go.Proofs.YtmphmkclbfoppaaDoorW.PrintWords Go.Proofs.YtmphmkclbfoppaaDoorW.PrintLast Go.Proofs.YtmphmkclbfoppaaDoorW.PrintMore
open Num
theorem cnt_len : ∀ (ps : List Nat) (c : List Int), (cnt c ps).length = c.length
  | [], c => rfl
  | p :: ps, c => by rw [cnt, cnt_len ps, List.length_set]
theorem spread_len (l : List S32) (n : Int) : (spreadOut l n).1.length ≤ 64 := by
  unfold spreadOut
  by_cases h : okp n = true
  · have hn := of_decide_eq_true h
    rw [if_pos h]
    split
    · exact Nat.zero_le _
    · split
      · show (cnt _ _).length ≤ 64
        rw [cnt_len, List.length_replicate]
        omega
      · exact Nat.zero_le _
  · rw [if_neg h]; exact Nat.zero_le _
theorem mv_len (a b : Nat) : ∀ (l : List S32) (i : Nat), (mv a b i l).length ≤ l.length
  | [], i => Nat.le_refl _
  | v :: l, i => by
    unfold mv
    split
    · exact Nat.le_trans (mv_len a b l (i + 1)) (Nat.le_succ _)
    · exact Nat.succ_le_succ (mv_len a b l (i + 1))
theorem moves_len (l : List S32) (a b : Int) : (movesOut l a b).1.length ≤ 65536 := by
  unfold movesOut
  split
  · split
    · exact Nat.zero_le _
    · split
      · exact Nat.le_trans (mv_len _ _ l 0) (by omega)
      · exact Nat.zero_le _
  · exact Nat.zero_le _
theorem All_l2 (l : List S32) (hl : l.length ≤ 4398046510976) : ∀ (d i : Nat), i + d = l.length → ∀ k, d + 8401 ≤ k → locksteplaw18_RingAll.l2 k l l (i : Int) = some true
  | 0, i, h, k, hk => by
    obtain ⟨k, rfl⟩ : ∃ m, k = m + 1 := ⟨k - 1, by omega⟩
    have h0 : I64 0 := ⟨by decide, by decide⟩
    have e1 := Of_eq ⟨0, 0, ⟨#[]⟩⟩ h0 1 k (by omega)
    have e2 := Weight_eq ⟨4, 0, ⟨#[]⟩⟩ h0 0 k (by omega)
    have e3 := rWeight_eq ⟨4, 0, ⟨#[]⟩⟩ h0 0 k (by omega)
    simp only [] at e1 e2 e3
    have o1 : ofOut ⟨0, 0, ⟨#[]⟩⟩ 1 = (0, 0) := by unfold ofOut; rw [if_pos (by decide), if_pos (by rfl)]; rfl
    have o2 : (wOut ⟨4, 0, ⟨#[]⟩⟩ 0).2 = 0 := by unfold wOut; rw [if_neg (by decide), if_pos (by rfl)]
    rw [locksteplaw18_RingAll.l2, if_neg (by omega), e1, Option.bind_some, e2, Option.bind_some, e3, Option.bind_some, o1, if_pos rfl, if_pos rfl, if_pos rfl, o2]
    rfl
  | d + 1, i, h, k, hk => by
    obtain ⟨k, rfl⟩ : ∃ m, k = m + 1 := ⟨k - 1, by omega⟩
    rw [locksteplaw18_RingAll.l2, if_pos (by omega), if_pos (by omega), if_pos (by omega)]
    generalize rd_T32 l (i : Int) = v
    rw [beq_self_eq_true, beq_self_eq_true, beq_self_eq_true, if_neg (by decide), show wrap64 ((i : Int) + 1) = ((i + 1 : Nat) : Int) by unfold wrap64; omega]
    exact All_l2 l hl d (i + 1) (by omega) k (by omega)
theorem All_l1 (l : List S32) (hl : l.length ≤ 4398046510976) (m : List S29) (hm : m.length ≤ 65536) : ∀ (d i : Nat), i + d = m.length → ∀ k, d + l.length + 8402 ≤ k → locksteplaw18_RingAll.l1 k l l m m (i : Int) = some true
  | 0, i, h, k, hk => by
    obtain ⟨k, rfl⟩ : ∃ m, k = m + 1 := ⟨k - 1, by omega⟩
    rw [locksteplaw18_RingAll.l1, if_neg (by omega)]
    exact All_l2 l hl l.length 0 (by omega) k (by omega)
  | d + 1, i, h, k, hk => by
    obtain ⟨k, rfl⟩ : ∃ m, k = m + 1 := ⟨k - 1, by omega⟩
    rw [locksteplaw18_RingAll.l1, if_pos (by omega), if_pos (by omega), if_pos (by omega)]
    generalize rd_T29 m (i : Int) = v
    rw [beq_self_eq_true, beq_self_eq_true, beq_self_eq_true, if_neg (by decide), show wrap64 ((i : Int) + 1) = ((i + 1 : Nat) : Int) by unfold wrap64; omega]
    exact All_l1 l hl m hm d (i + 1) (by omega) k (by omega)
theorem All_l0 (l : List S32) (hl : l.length ≤ 4398046510976) (m : List S29) (hm : m.length ≤ 65536) (c : List Int) (hc : c.length ≤ 64) : ∀ (d i : Nat), i + d = c.length → ∀ k, d + m.length + l.length + 8403 ≤ k → locksteplaw18_RingAll.l0 k l l c c m m (i : Int) = some true
  | 0, i, h, k, hk => by
    obtain ⟨k, rfl⟩ : ∃ m, k = m + 1 := ⟨k - 1, by omega⟩
    rw [locksteplaw18_RingAll.l0, if_neg (by omega)]
    exact All_l1 l hl m hm m.length 0 (by omega) k (by omega)
  | d + 1, i, h, k, hk => by
    obtain ⟨k, rfl⟩ : ∃ m, k = m + 1 := ⟨k - 1, by omega⟩
    rw [locksteplaw18_RingAll.l0, if_pos (by omega), if_pos (by omega), if_pos (by omega), if_pos rfl, show wrap64 ((i : Int) + 1) = ((i + 1 : Nat) : Int) by unfold wrap64; omega]
    exact All_l0 l hl m hm c hc d (i + 1) (by omega) k (by omega)
theorem RingAll_true (t n : Int) (s : ByteArray) (l : List S32) (from_ to_ part : Int) (hn : I64 n) (hv : ∀ v ∈ l, I64 v.f1) (hl : l.length ≤ 4398046510976) : ∃ k, locksteplaw18_RingAll.f k t n s l from_ to_ part = some true := by
  refine ⟨l.length + 200002, ?_⟩
  generalize hk : l.length + 200000 = K
  rw [show l.length + 200002 = K + 2 by omega]
  have e1 := Of_eq ⟨t, n, s⟩ hn from_ (K + 2) (by omega)
  have e2 := rOf_eq ⟨t, n, s⟩ hn from_ (K + 2) (by omega)
  have e3 := Weight_eq ⟨t, n, s⟩ hn part (K + 2) (by omega)
  have e4 := rWeight_eq ⟨t, n, s⟩ hn part (K + 2) (by omega)
  simp only [] at e1 e2 e3 e4
  unfold locksteplaw18_RingAll.f
  rw [e1, Option.bind_some, e2, Option.bind_some, e3, Option.bind_some, e4, Option.bind_some, if_pos rfl, if_pos rfl, if_pos rfl, bne_self_eq_false, locksteplaw18_RingAll.j0, if_neg (by decide)]
  have hw : wrap64 ((l.length : Int) + 1) = (l.length : Int) + 1 := by unfold wrap64; omega
  rw [hw, if_pos (by omega), if_pos (by omega), Option.bind_some, if_pos (by simp only [List.length_nil]; omega), Option.bind_some, List.nil_append, Spread_eq l hv from_ (K + 1) (by omega), Option.bind_some, rSpread_eq l hv from_ (K + 1) (by omega), Option.bind_some,
    Moves_eq l hv from_ to_ (K + 1) (by omega), Option.bind_some, rMoves_eq l hv from_ to_ (K + 1) (by omega), Option.bind_some, if_pos rfl, if_pos rfl, if_pos rfl, bne_self_eq_false, locksteplaw18_RingAll.j1, if_neg (by decide)]
  have hm := moves_len l from_ to_
  have hc := spread_len l from_
  exact All_l0 l hl _ hm _ hc _ 0 (Nat.zero_add _) K (by omega)
end Go.Proofs.YtmphmkclbfoppaaDoor.X
end
section
namespace Go.Proofs.YtmphmkclbfoppaaDoorW.PrintWords
open Go Go.RowKit Go.ChangeShapes Go.WideShapes Go.Deep
set_option linter.unusedVariables false
set_option linter.unusedSimpArgs false
def Opens {α : Type} (P : Program) (d : Kd α) (t : TypeId) (g : α → Prop) : Prop :=
  ∀ {H : Type} (enc : TypeId × Value → H) (W : World) (base : Nat) (spare : Nat → Bool) (held : Bool) (fuel : Nat) (cs : List Value) (x : DataW H × List MemPlace),
    DataW.trod enc P W base spare held fuel t cs = some x → ∃ a, d.K W a cs ∧ g a
def inKind (k : IntKind) (n : Int) : Prop := k.min ≤ n ∧ n ≤ k.max
section
variable {P : Program} {α β : Type}
theorem opens_int {t : TypeId} {k : IntKind} (ht : P.underlying t = some (.int k)) : Opens P (Kd.int k) t (inKind k) := by
  intro H enc W base spare held fuel cs x h
  obtain ⟨n, rfl, _, hw⟩ := DataW.trod_int ht h
  refine ⟨n, rfl, ?_⟩
  simpa [Lit.wf, inKind] using hw
theorem opens_string {t : TypeId} (ht : P.underlying t = some .string) : Opens P Kd.string t (fun s => s.size ≤ 9223372036854775807) := by
  intro H enc W base spare held fuel cs x h
  obtain ⟨n, rfl, _, hw⟩ := DataW.trod_string ht h
  exact ⟨n, rfl, by simpa [maxLen] using hw⟩
theorem Opens.imp {d : Kd α} {t : TypeId} {g g' : α → Prop} (h : Opens P d t g) (hg : ∀ a, g a → g' a) : Opens P d t g' := by
  intro H enc W base spare held fuel cs x hx
  obtain ⟨a, h1, h2⟩ := h enc W base spare held fuel cs x hx
  exact ⟨a, h1, hg a h2⟩
theorem opens_iso {d : Kd α} {t : TypeId} {g : α → Prop} (h : Opens P d t g) (f : β → α) (b : α → β) (hf : ∀ a, f (b a) = a) : Opens P (Kd.iso d f) t (fun x => g (f x)) := by
  intro H enc W base spare held fuel cs x hx
  obtain ⟨a, h1, h2⟩ := h enc W base spare held fuel cs x hx
  exact ⟨b a, by show d.K W (f (b a)) cs; rw [hf]; exact h1, by show g (f (b a)); rw [hf]; exact h2⟩
theorem elems_of {γ : Type} {n : Nat} {p : Nat → γ → Prop} (h : ∀ i, i < n → ∃ a, p i a) : ∃ xs : List γ, xs.length = n ∧ ∀ i a, xs[i]? = some a → p i a := by
  induction n with
  | zero => exact ⟨[], rfl, fun i a h => by simp at h⟩
  | succ n ih =>
    obtain ⟨xs, hl, hx⟩ := ih (fun i hi => h i (by omega))
    obtain ⟨a, ha⟩ := h n (by omega)
    refine ⟨xs ++ [a], by simp [hl], fun i b hb => ?_⟩
    by_cases hi : i < xs.length
    · rw [List.getElem?_append_left hi] at hb
      exact hx i b hb
    · rw [List.getElem?_append_right (by omega)] at hb
      have : i = n := by
        have := (List.getElem?_eq_some_iff.1 hb).1
        simp at this
        omega
      subst this
      rw [hl, Nat.sub_self] at hb
      injection hb with hb
      exact hb ▸ ha
theorem opens_slice {d : Kd α} {t e : TypeId} {g : α → Prop} (ht : P.underlying t = some (.slice e)) (hs : P.cellsOf e = d.sz) (h : Opens P d e g) :
    Opens P (Kd.slice e d) t (fun xs => ∀ x ∈ xs, g x) := by
  intro H enc W base spare held fuel cs x hx
  rcases open_slice ht hx with ⟨rfl, rfl⟩ | ⟨a, len, cap, m, n, D, Pl, rfl, hb, hl, hm, hmm, rfl, hel⟩
  · exact ⟨[], ⟨none, 0, rfl, Nat.le_refl _, ⟨rfl, by simp, fun h => absurd h (by simp)⟩⟩, fun x hx => by simp at hx⟩
  · obtain ⟨xs, hlen, hxs⟩ := elems_of (n := len) (p := fun i y => ∃ cs', W.cells? base (a.add (i * P.cellsOf e)) (P.cellsOf e) = some cs' ∧ d.K W y cs' ∧ g y) (fun i hi => by
      obtain ⟨cs', h1, h2⟩ := hel i (by rw [hmm]; split <;> omega)
      obtain ⟨y, h3, h4⟩ := h enc W base spare held n cs' _ h2
      exact ⟨y, cs', h1, h3, h4⟩)
    refine ⟨xs, ⟨some a, cap, by rw [hlen], by rw [hlen]; exact hl, ⟨rfl, by rw [hlen]; simp only [maxLen] at hm; omega, fun hp => ⟨a, rfl, fun j p hj => ?_⟩⟩⟩, fun x hx => ?_⟩
    · obtain ⟨cs', h1, h2, _⟩ := hxs j p hj
      refine ⟨cs', d.K_len h2, h2, fun i u hu => ?_⟩
      obtain ⟨_, hcl, hcc⟩ := World.cells?_some h1
      have hi : i < cs'.length := (List.getElem?_eq_some_iff.1 hu).1
      have h5 := hcc i (by rw [← hcl]; exact hi)
      rw [hu, Addr.add_add, hs] at h5
      exact h5
    · obtain ⟨i, hi⟩ := List.getElem?_of_mem hx
      obtain ⟨_, _, _, h4⟩ := hxs i x hi
      exact h4
theorem open_arg_slice {d : Kd α} {t e : TypeId} {g : α → Prop} (ht : P.underlying t = some (.slice e)) (hs : P.cellsOf e = d.sz) (h : Opens P d e g) {H : Type} {enc : TypeId × Value → H} {W : World} {base b0 : Nat} {spare : Nat → Bool} {held : Bool} {r : Reach} {v : Value} {D : DataW H} {p : List MemPlace}
    (hv : Value.okWide P W r b0 t v) (hd : DataW.Trod enc P W base spare held t v D p) : ∃ A c xs, v = .slice A xs.length c ∧ xs.length ≤ c ∧ d.C W A xs.length xs ∧ ∀ x ∈ xs, g x := by
  obtain ⟨A, n, c, rfl⟩ := okWide_slice ht hv
  obtain ⟨fuel, hf⟩ := hd
  obtain ⟨xs, ⟨A', c', he, hl, hC⟩, hg⟩ := opens_slice ht hs h enc W base spare held fuel _ _ hf
  have he' : Value.slice A n c = .slice A' xs.length c' := by simpa [Value.cells] using he
  injection he' with h1 h2 h3
  subst h1 h2 h3
  exact ⟨A, c, xs, rfl, hl, hC, hg⟩
theorem opens_three {α β γ : Type} {a : Kd α} {b : Kd β} {c : Kd γ} {t : TypeId} {f0 f1 f2 : Field} {g0 : α → Prop} {g1 : β → Prop} {g2 : γ → Prop} (ht : P.underlying t = some (.struct #[f0, f1, f2]))
    (ho : f0.offset = 0 ∧ f1.offset = a.sz ∧ f2.offset = a.sz + b.sz) (hc : P.cellsOf t = a.sz + (b.sz + c.sz)) (h0 : P.cellsOf f0.type = a.sz) (h1 : P.cellsOf f1.type = b.sz) (h2 : P.cellsOf f2.type = c.sz)
    (k0 : Opens P a f0.type g0) (k1 : Opens P b f1.type g1) (k2 : Opens P c f2.type g2) : Opens P (Kd.pair a (Kd.pair b c)) t (fun x => g0 x.1 ∧ g1 x.2.1 ∧ g2 x.2.2) := by
  intro H enc W base spare held fuel cs x hx
  obtain ⟨y0, y1, y2, n, _, hl, e0, e1, e2⟩ := trod_struct3 ht hx
  rw [ho.1, h0, List.drop_zero] at e0
  rw [ho.2.1, h1] at e1
  rw [ho.2.2, h2] at e2
  obtain ⟨p0, q0, r0⟩ := k0 enc W base spare held n _ _ e0
  obtain ⟨p1, q1, r1⟩ := k1 enc W base spare held n _ _ e1
  obtain ⟨p2, q2, r2⟩ := k2 enc W base spare held n _ _ e2
  refine ⟨(p0, p1, p2), ⟨_, _, ?_, q0, ⟨_, _, rfl, q1, q2⟩⟩, r0, r1, r2⟩
  rw [hc] at hl
  rw [List.take_of_length_le (l := cs.drop (a.sz + b.sz)) (by rw [List.length_drop]; omega)]
  conv => lhs; rw [← List.take_append_drop a.sz cs]
  congr 1
  conv => lhs; rw [← List.take_append_drop b.sz (cs.drop a.sz)]
  rw [List.drop_drop]
end
end Go.Proofs.YtmphmkclbfoppaaDoorW.PrintWords
end
section
namespace Go.Proofs.YtmphmkclbfoppaaDoor.X
set_option linter.unusedVariables false
set_option linter.unusedSimpArgs false
open Go.RowKit Go.Lib Go.ChangeShapes Go.WideShapes Go.ChangeAt Go.Joins Go.Proofs.YtmphmkclbfoppaaDoorW.PrintWords Go Go.Deep
open Go.ChangeMaps (open_string shut_string)
set_option maxRecDepth 100000
theorem own : ownKnob Tryd.prog.godebug = none := by kernel_rfl
theorem u8extra : U8Extra Tryd.prog Tryd.laysValid_ren := ⟨by kernel_rfl, by kernel_rfl, by kernel_rfl, by kernel_rfl, by kernel_rfl, by kernel_rfl, by kernel_rfl⟩
theorem most_of {w : World} (h : w.ShapedOpen Tryd.prog) : ∃ m : Int, w.cell? ⟨2, 0, none⟩ = some (.int .i64 m) :=
  cell_of_shapedOpen_int (zero := #[.int .i64 0]) (t := 3) h (of_decide_eq_true (by kernel_rfl)) (by kernel_rfl) rfl (by kernel_rfl) (by kernel_rfl) Tryd.underlying3
def two : List (String × DataW Unit) := [("unicode/utf8.acceptRanges", Rows.laid_unicode_utf8_acceptRanges), ("unicode/utf8.first", Rows.laid_unicode_utf8_first)]
theorem tabs_of {w : World} (h : laidMetH Tryd.prog two w) (hs : w.ShapedOpen Tryd.prog) : Tabs w := by
  have h' : laidMet Tryd.prog two w := h
  refine ⟨?_, most_of hs⟩
  have h3 := Go.Lib.laidMet.reads h' (n := "unicode/utf8.first") (d := Rows.laid_unicode_utf8_first) (by simp [two])
  have h4 := Go.Lib.laidMet.reads h' (n := "unicode/utf8.acceptRanges") (d := Rows.laid_unicode_utf8_acceptRanges) (by simp [two])
  rw [show (Rows.laid_unicode_utf8_first : DataW Unit) = firstData by kernel_rfl] at h3
  rw [show (Rows.laid_unicode_utf8_acceptRanges : DataW Unit) = acceptData by kernel_rfl] at h4
  exact utf8Tabs_of_readsT (U8Types.of196 Tryd.laysValid) u8extra h3 h4
theorem laidOut : laidOutB Tryd.prog = true := by kernel_rfl
theorem i64_of {n : Int} (h : inKind .i64 n) : I64 n := by
  unfold inKind at h
  simp only [IntKind.min, IntKind.max, IntKind.signed, IntKind.bits, if_true] at h
  exact ⟨by omega, by omega⟩
def okV (x : S32) : Prop := I64 x.f0 ∧ I64 x.f1 ∧ x.f2.size ≤ 9223372036854775807
theorem opens_value : Opens Tryd.prog k32 32 okV :=
  Opens.imp (opens_iso (opens_three Tryd.underlying32 ⟨rfl, rfl, rfl⟩ (by kernel_rfl) (by kernel_rfl) (by kernel_rfl) (by kernel_rfl) (opens_int Tryd.underlying3) (opens_int Tryd.underlying2) (opens_string Tryd.underlying9)) (fun x : S32 => (x.f0, (x.f1, x.f2))) (fun p => ⟨p.1, p.2.1, p.2.2⟩) (fun _ => rfl))
    (fun x h => ⟨i64_of h.1, i64_of h.2.1, h.2.2⟩)
section
variable {H : Type} {enc : TypeId × Value → H} {W : World} {base b0 : Nat} {spare : Nat → Bool} {held : Bool} {r : Reach} {v : Value} {D : DataW H} {p : List MemPlace}
theorem open_vvalue (hv : Value.okWide Tryd.prog W r b0 32 v) (hd : DataW.Trod enc Tryd.prog W base spare held 32 v D p) : ∃ x : S32, v = .agg #[.int .i64 x.f0, .int .i64 x.f1, .string x.f2] ∧ okV x := by
  obtain ⟨cs, rfl, hsz⟩ := okWide_struct Tryd.underlying32 hv
  obtain ⟨fuel, hf⟩ := hd
  obtain ⟨x, hK, hg⟩ := opens_value enc W base spare held fuel _ _ hf
  obtain ⟨_, _, e, rfl, _, _, rfl, rfl, rfl⟩ := hK
  refine ⟨x, ?_, hg⟩
  have e' : cs.toList = [.int .i64 x.f0, .int .i64 x.f1, .string x.f2] := e
  rw [← Array.toArray_toList (xs := cs), e']
theorem open_vrow (hv : Value.okWide Tryd.prog W r b0 22 v) (hd : DataW.Trod enc Tryd.prog W base spare held 22 v D p) : ∃ A c xs, v = .slice A xs.length c ∧ xs.length ≤ c ∧ k32.C W A xs.length xs ∧ ∀ x ∈ xs, okV x :=
  open_arg_slice Tryd.underlying22 (by kernel_rfl) opens_value hv hd
theorem sized_any {ts : List TypeId} {ds : List (DataW H)} {j : Nat} {t e : TypeId} {a : Option Addr} {len cap : Nat} {d : DataW H} {ps : List MemPlace}
    (hsz : (DataW.weightsEach Tryd.prog ts ds).all (· ≤ reachBytes) = true) (ht : ts[j]? = some t) (hd : ds[j]? = some d) (hu : Tryd.prog.underlying t = some (.slice e))
    (h : DataW.Trod enc Tryd.prog W base spare held t (.slice a len cap) d ps) : len * Tryd.prog.bytesOf e ≤ 140737488351232 := by
  obtain ⟨fuel, hf⟩ := h
  rcases open_slice hu hf with ⟨hcs, _⟩ | ⟨a', len', cap', m, n, D, Pl, hcs, hb, hl, hm, hmm, hx, hel⟩
  · simp [Value.cells] at hcs
    obtain ⟨rfl, rfl, rfl⟩ := hcs
    simp
  · simp [Value.cells] at hcs
    obtain ⟨rfl, rfl, rfl⟩ := hcs
    obtain ⟨hx, _⟩ := Prod.mk.inj hx
    subst hx
    have z := sized_slice hsz ht hd hu
    refine Nat.le_trans (Nat.mul_le_mul_right _ ?_) z
    simp
end
noncomputable def laidWorld (os : Os) : World :=
  { World.doorLaid Tryd.prog 200 os with heap := (World.doorLaid Tryd.prog 200 os).heap.modify 0 fun
      | .cells _ t frozen => .cells (Go.Pinned.utf8FirstZ.map fun (n : Nat) => Value.int .u8 (n : Int)).toArray t frozen
      | o => o }
theorem laid_met (os : Os) (args : Array Value) : laidMetH Tryd.prog two ((laidWorld os).forCall (fun _ _ => 0) ⟨#[], args, []⟩).memory :=
  laidMet_of_run' 8 (by kernel_rfl) (by kernel_rfl)
end Go.Proofs.YtmphmkclbfoppaaDoor.X
end
section
namespace Go.Proofs.YtmphmkclbfoppaaDoor.ringAll
open Go.ChangeShapes Go.WideShapes Go.ChangeAt Go.RowKit Go.Proofs.YtmphmkclbfoppaaDoor.X Go.Proofs.YtmphmkclbfoppaaDoorW.PrintWords
open Go.ChangeMaps (open_string shut_string)
set_option linter.unusedVariables false
set_option linter.unusedSimpArgs false
set_option maxRecDepth 100000 in
theorem reads (os : Os) {H : Type} (enc : TypeId × Value → H) : ∃ places, DataW.whole enc Tryd.prog ((laidWorld os).forCall (fun _ _ => 0) ⟨#[], #[.agg #[.int .i64 0, .int .i64 0, .string ⟨#[]⟩], .slice none 0 0, .int .i64 0, .int .i64 0, .int .i64 0], []⟩).memory Tryd.f4.params.toList Rows.ringAllSpec.vars false
    #[Value.agg #[.int .i64 0, .int .i64 0, .string ⟨#[]⟩], .slice none 0 0, .int .i64 0, .int .i64 0, .int .i64 0].toList 8 =
    some ([.agg [.lit (.int .i64 0), .lit (.int .i64 0), .lit (.string [])], .nil, .lit (.int .i64 0), .lit (.int .i64 0), .lit (.int .i64 0)], [], places) :=
  ⟨[], by kernel_rfl⟩
set_option maxRecDepth 100000 in
theorem lifted (os : Os) (started : os.Started) (H : Type) (enc : TypeId × Value → H) (F : Stop.Interp) :
    ReturnsInHanded {} Tryd.checked os 4 .any ((OpenSpec.ofChange Rows.ringAllSpec).preRow enc Tryd.prog Tryd.f4 Rows.ringAllRow.domain false Rows.ringAllRow.laid) (((OpenSpec.ofChange Rows.ringAllSpec).at F).post enc Tryd.prog Tryd.f4 false true false false) := by
  obtain ⟨places, hx⟩ := reads os enc
  refine returnsInHanded_of_row (C := Tryd.checked) (s := (OpenSpec.ofChange Rows.ringAllSpec)) own started (by kernel_rfl) Tryd.func4
    (witness_row_at (enc := enc) (C := Tryd.checked) false (laidWorld os) #[.agg #[.int .i64 0, .int .i64 0, .string ⟨#[]⟩], .slice none 0 0, .int .i64 0, .int .i64 0, .int .i64 0] rfl (by kernel_rfl) (by kernel_rfl) (by kernel_rfl)
      (OpenSpec.preRow_of_cond 8 hx (by kernel_rfl) (fun k hk => by cases hk) (by kernel_rfl) (laid_met os _))) ?_
  intro W base args ds gs before hval0 hW _ hcond hsz0 hL hsh _
  have hT : Tabs W := tabs_of hL hsh
  have hval : ∀ (j : Nat) t v, Tryd.f4.params[j]? = some t → args[j]? = some v → Value.okWide Tryd.prog W .any base t v := hval0
  have hW' := hW
  have hlt0 := fun x hx => hW'.lt x hx
  obtain ⟨p, q, hA0, hV, rfl, hfz, hnd⟩ := hW
  have hA : DataW.TrodAll enc Tryd.prog W 0 (fun _ => true) true Tryd.f4.params.toList args.toList ds p := hA0
  rw [Tryd.params4] at hA hval
  obtain ⟨v0, vs0, d0, ds0, p0, q0, hargs, rfl, rfl, h0, r0⟩ := trodAll_cons hA
  obtain ⟨v1, vs1, d1, ds1, p1, q1, rfl, rfl, rfl, h1, r1⟩ := trodAll_cons r0
  obtain ⟨v2, vs2, d2, ds2, p2, q2, rfl, rfl, rfl, h2, r2⟩ := trodAll_cons r1
  obtain ⟨v3, vs3, d3, ds3, p3, q3, rfl, rfl, rfl, h3, r3⟩ := trodAll_cons r2
  obtain ⟨v4, vs4, d4, ds4, p4, q4, rfl, rfl, rfl, h4, r4⟩ := trodAll_cons r3
  obtain ⟨rfl, rfl, rfl⟩ := trodAll_nil r4
  obtain rfl : args = #[v0, v1, v2, v3, v4] := by cases args; simp_all
  obtain ⟨rfl, rfl⟩ := trodVars_none hV
  have k0 := h0
  have lt0 : ∀ x ∈ p0, x.block < W.heap.size := fun x hx => by have := hlt0 x (by simp [hx]); simpa using this
  obtain ⟨a0, rfl, g0⟩ := open_vvalue (hval 0 32 v0 rfl rfl) h0
  have k1 := h1
  have lt1 : ∀ x ∈ p1, x.block < W.heap.size := fun x hx => by have := hlt0 x (by simp [hx]); simpa using this
  obtain ⟨A1, c1, a1, rfl, hc1, hr1, g1⟩ := open_vrow (hval 1 22 v1 rfl rfl) h1
  have z1 := sized_any (j := 1) hsz0 rfl rfl Tryd.underlying22 k1
  rw [show Tryd.prog.bytesOf 32 = 32 by kernel_rfl] at z1
  have k2 := h2
  have lt2 : ∀ x ∈ p2, x.block < W.heap.size := fun x hx => by have := hlt0 x (by simp [hx]); simpa using this
  obtain ⟨a2, rfl, rfl, rfl, g2⟩ := open_int Tryd.underlying3 (hval 2 3 v2 rfl rfl) h2
  have k3 := h3
  have lt3 : ∀ x ∈ p3, x.block < W.heap.size := fun x hx => by have := hlt0 x (by simp [hx]); simpa using this
  obtain ⟨a3, rfl, rfl, rfl, g3⟩ := open_int Tryd.underlying3 (hval 3 3 v3 rfl rfl) h3
  have k4 := h4
  have lt4 : ∀ x ∈ p4, x.block < W.heap.size := fun x hx => by have := hlt0 x (by simp [hx]); simpa using this
  obtain ⟨a4, rfl, rfl, rfl, g4⟩ := open_int Tryd.underlying3 (hval 4 3 v4 rfl rfl) h4
  have hE := RingAll_true a0.f0 a0.f1 a0.f2 a1 a2 a3 a4 g0.2.1 (fun v hv => (g1 v hv).2.1) (by omega)
  obtain ⟨kk, hP⟩ := hE
  refine (locksteplaw18_RingAll.calls kk a0.f0 a0.f1 a0.f2 A1 c1 a1 a2 a3 a4 true W hT hr1 hc1 (hP) rfl).mono fun e W' ⟨he, bel⟩ => ?_
  subst he
  exact ⟨_, rfl, _, _, _, [], _, [], hW', trodAll_mk1 (shut_bool Tryd.underlying4 _), (trodAll_cons_mk (Below.trod laidOut (by kernel_rfl) (of_decide_eq_true (by kernel_rfl)) k0 bel lt0) (trodAll_cons_mk (Below.trod laidOut (by kernel_rfl) (of_decide_eq_true (by kernel_rfl)) k1 bel lt1) (trodAll_cons_mk (Below.trod laidOut (by kernel_rfl) (of_decide_eq_true (by kernel_rfl)) k2 bel lt2) (trodAll_cons_mk (Below.trod laidOut (by kernel_rfl) (of_decide_eq_true (by kernel_rfl)) k3 bel lt3) (trodAll_cons_mk (Below.trod laidOut (by kernel_rfl) (of_decide_eq_true (by kernel_rfl)) k4 bel lt4) trodAll_mk0))))), rfl, bel.frame _, fun h => by cases h⟩
theorem said : Rows.RingAllSaid :=
  OpenClaim.holds_of_cond 4 Tryd.f4 rfl rfl rfl rfl rfl rfl rfl ⟨rfl, rfl, rfl, rfl, rfl⟩ rfl rfl rfl rfl rfl (by kernel_rfl) Tryd.func4 (by kernel_rfl)
    (of_decide_eq_true (by kernel_rfl)) (by unfold Func.isWrapper; first | (rw [if_pos (by decide +kernel)]; kernel_rfl) | (rw [if_neg (by decide +kernel)]; exact ⟨rfl, rfl⟩))
    (fun os started H enc _ F => by rw [OpenClaim.pre_eq_preRow]; exact lifted os started H enc F)
theorem plain (f : FuncId) (fn : Func) (hf : Tryd.pinned.checked.prog.funcNamed "lockstep/locksteplaw18.RingAll" = some f) (hfn : Tryd.pinned.checked.prog.funcs[f]? = some fn) :
    false = Tryd.pinned.checked.prog.looks [] ∧ ∀ (j : Nat) t, fn.params[j]? = some t → Tryd.pinned.checked.prog.wantsStandIn t = false := by
  obtain rfl : f = 4 := Option.some.inj ((show Tryd.prog.funcNamed "lockstep/locksteplaw18.RingAll" = some 4 by kernel_rfl).symm.trans hf) |>.symm
  obtain rfl : fn = Tryd.f4 := (Option.some.inj (Tryd.func4.symm.trans hfn)).symm
  refine ⟨by kernel_rfl, fun j t ht => ?_⟩
  rw [Tryd.params4] at ht
  have hm := Array.mem_of_getElem? ht
  have ht' : t = 32 ∨ t = 22 ∨ t = 3 := by simpa using hm
  rcases ht' with rfl | rfl | rfl
  · exact (show Tryd.prog.wantsStandIn 32 = false by kernel_rfl)
  · exact (show Tryd.prog.wantsStandIn 22 = false by kernel_rfl)
  · exact (show Tryd.prog.wantsStandIn 3 = false by kernel_rfl)
theorem card : Rows.RingAllCardSaid :=
  Claim7.holds_tied_plain_at .later [] _ _ _ _ said (fun _ h => by cases h) (by kernel_rfl) (fun _ h => by cases h) ringAll_row_tie rfl ⟨rfl, rfl⟩ (by kernel_rfl) rfl plain (by kernel_rfl)
end Go.Proofs.YtmphmkclbfoppaaDoor.ringAll
end

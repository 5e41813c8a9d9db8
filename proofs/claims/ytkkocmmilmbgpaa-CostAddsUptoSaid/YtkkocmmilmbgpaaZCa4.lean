/- Part 4 of a claim of this seat: texts merged by a program of the claim's session (wip/bundle.py). -/
import Derived.Test.YtkkocmmilmbgpaaZCa2
import Derived.Test.YtkkocmmilmbgpaaZCa3
import Derived.Laws.Slices
import Derived.Lib.SmallJoins
import Derived.Shelf.Slices.Clone
import Derived.Laws.Externs
import Derived.Lib.Mul64
import Derived.Laws.Bits64b
section
namespace Go.Proofs.Ytkkocmmilmbgpaa.S
open Go.RowKit Go.Proofs.YtkkocmmilmbgpaaW.PrintWords
set_option linter.unusedVariables false
set_option linter.unusedSimpArgs false
namespace Sym
open Mg
theorem wr {x : Int} (h : -9223372036854775808 ≤ x ∧ x ≤ 9223372036854775807) : wrap64 x = x := by unfold wrap64; omega
theorem half (x y : Nat) (h : x + y < 9223372036854775808) : wrap64 (IntKind.u64.wrap (wrap64 ((x : Int) + (y : Int))) / 2) = (((x + y) / 2 : Nat) : Int) := by
  rw [wr (x := (x : Int) + (y : Int)) (by omega), IntKind.wrap_u64]
  unfold wrap64
  omega
theorem rot_eq : ∀ (n : Nat) (P A B S : List S39), A.length + B.length ≤ n → 0 < A.length → 0 < B.length → (P ++ (A ++ (B ++ S))).length < 4611686018427387904 → ∀ k, n + 1 ≤ k → ∀ m : Int, m = ((P.length + A.length : Nat) : Int) →
    api_Term_of_cost_normal_1_53.l0 k (P ++ (A ++ (B ++ S))) m (A.length : Int) (B.length : Int) = some (P ++ (B ++ (A ++ S))) := by
  intro n
  induction n with
  | zero => intro P A B S h1 h2 h3; omega
  | succ n ih =>
    intro P A B S h1 h2 h3 hl k hk m hm
    obtain ⟨k, rfl⟩ : ∃ k', k = k' + 1 := ⟨k - 1, by omega⟩
    have hl' : P.length + (A.length + (B.length + S.length)) < 4611686018427387904 := by simpa only [List.length_append] using hl
    subst hm
    rw [api_Term_of_cost_normal_1_53.l0]
    by_cases c1 : A.length = B.length
    · rw [if_pos (by omega), wr (by omega)]
      have e := ex_eq z39 P A [] B S c1 (((P.length + A.length : Nat) : Int) - A.length) ((P.length + A.length : Nat) : Int) (A.length : Int) (by omega) (by simp) rfl
      unfold api_Term_of_cost_normal_1_54.f
      rw [List.nil_append, List.nil_append] at e
      rw [e, Option.bind_some]
    · rw [if_neg (by omega)]
      by_cases c2 : B.length < A.length
      · rw [if_pos (by omega), wr (by omega), wr (by omega)]
        obtain ⟨A1, A2, rfl, hA1⟩ : ∃ A1 A2, A = A1 ++ A2 ∧ A1.length = B.length := ⟨A.take B.length, A.drop B.length, (List.take_append_drop _ _).symm, by rw [List.length_take]; omega⟩
        rw [List.length_append] at *
        have e := ex_eq z39 P A1 A2 B S hA1 (((P.length + (A1.length + A2.length) : Nat) : Int) - ((A1.length + A2.length : Nat) : Int)) ((P.length + (A1.length + A2.length) : Nat) : Int) (B.length : Int) (by omega) (by omega) (by omega)
        unfold api_Term_of_cost_normal_1_54.f
        rw [List.append_assoc A1 A2, e, Option.bind_some]
        have e2 := ih (P ++ B) A2 A1 S (by omega) (by omega) (by omega) (by simp only [List.length_append]; omega) k (by omega) ((P.length + (A1.length + A2.length) : Nat) : Int) (by rw [List.length_append]; omega)
        rw [show ((A1.length + A2.length : Nat) : Int) - (B.length : Int) = (A2.length : Int) by omega, ← hA1]
        simp only [List.append_assoc] at e2 ⊢
        exact e2
      · rw [if_neg (by omega), wr (x := ((P.length + A.length : Nat) : Int) - A.length) (by omega), wr (x := ((P.length + A.length : Nat) : Int) + B.length) (by omega), wr (by omega), wr (by omega)]
        obtain ⟨B1, B2, rfl, hB⟩ : ∃ B1 B2, B = B1 ++ B2 ∧ B2.length = A.length := ⟨B.take (B.length - A.length), B.drop (B.length - A.length), (List.take_append_drop _ _).symm, by rw [List.length_drop]; omega⟩
        rw [List.length_append] at *
        have e := ex_eq z39 P A B1 B2 S hB.symm (((P.length + A.length : Nat) : Int) - (A.length : Int)) (((P.length + A.length : Nat) : Int) + ((B1.length + B2.length : Nat) : Int) - (A.length : Int)) (A.length : Int) (by omega) (by omega) rfl
        unfold api_Term_of_cost_normal_1_54.f
        rw [List.append_assoc B1 B2, e, Option.bind_some]
        have e2 := ih P B2 B1 (A ++ S) (by omega) (by omega) (by omega) (by simp only [List.length_append]; omega) k (by omega) ((P.length + A.length : Nat) : Int) (by omega)
        rw [show ((B1.length + B2.length : Nat) : Int) - (A.length : Int) = (B1.length : Int) by omega, ← hB]
        rw [hB] at e2 ⊢
        simp only [List.append_assoc] at e2 ⊢
        exact e2
theorem rdN {D : List S39} {i : Nat} : rd_T39 D (i : Int) = D.getD i z39 := by unfold rd_T39; rw [Int.toNat_natCast]
theorem getR {P X : List S39} (t : Nat) : (P ++ X).getD (P.length + t) z39 = X.getD t z39 := by
  rw [List.getD_eq_getElem?_getD, List.getD_eq_getElem?_getD, List.getElem?_append_right (by omega), show P.length + t - P.length = t by omega]
theorem getL {P X : List S39} {t : Nat} (h : t < P.length) : (P ++ X).getD t z39 = P.getD t z39 := by
  rw [List.getD_eq_getElem?_getD, List.getD_eq_getElem?_getD, List.getElem?_append_left h]
theorem getM {l : List S39} {t : Nat} (h : t < l.length) : l.getD t z39 ∈ l := by
  rw [List.getD_eq_getElem?_getD, List.getElem?_eq_getElem h]
  exact List.getElem_mem h
theorem swap_up (P X : List S39) (x r : S39) (a : Int) (ha : a = P.length) : api_Term_of_cost_normal_1_54.f (P ++ (x :: (r :: X))) a (a + 1) 1 = some (P ++ (r :: (x :: X))) :=
  ex_eq z39 P [x] [] [r] X rfl a (a + 1) 1 ha (by simp; omega) rfl
theorem swap_down (P X : List S39) (x r : S39) (a : Int) (ha : a = ((P.length + 1 : Nat) : Int)) : api_Term_of_cost_normal_1_54.f (P ++ (x :: (r :: X))) a (a - 1) 1 = some (P ++ (r :: (x :: X))) := by
  unfold api_Term_of_cost_normal_1_54.f ex
  rw [if_pos (by simp only [List.length_append, List.length_cons]; omega)]
  subst ha
  rw [Int.toNat_natCast, show (((P.length + 1 : Nat) : Int) - 1).toNat = P.length by omega, show (1 : Int).toNat = 1 from rfl]
  show some (swl z39 (sw z39 (P ++ (x :: (r :: X))) (P.length + 1) P.length) (P.length + 1 + 1) (P.length + 1) 0) = _
  rw [swl]
  unfold sw
  have e0 := getR (P := P) (X := x :: (r :: X)) 0
  rw [Nat.add_zero] at e0
  rw [e0, getR 1, List.set_append_right _ _ (by omega), show P.length + 1 - P.length = 1 by omega, List.set_append_right _ _ (Nat.le_refl _), Nat.sub_self]
  rfl
theorem mv1 (X : List S39) (x : S39) : ∀ (R1 P : List S39), (P ++ (x :: (R1 ++ X))).length < 4611686018427387904 → ∀ k, R1.length + 1 ≤ k → ∀ q : Int, q = ((P.length + 1 + R1.length : Nat) : Int) →
    api_Term_of_cost_normal_1_52.l1 k (P ++ (x :: (R1 ++ X))) q (P.length : Int) = some (P ++ (R1 ++ (x :: X)))
  | [], P, hl, k, hk, q, hq => by
    obtain ⟨k, rfl⟩ : ∃ k', k = k' + 1 := ⟨k - 1, by omega⟩
    simp only [List.length_append, List.length_cons] at hl
    rw [api_Term_of_cost_normal_1_52.l1, wr (by rw [hq]; simp only [List.length_nil]; omega), if_neg (by rw [hq]; simp only [List.length_nil]; omega)]
    rfl
  | r :: R1, P, hl, k, hk, q, hq => by
    obtain ⟨k, rfl⟩ : ∃ k', k = k' + 1 := ⟨k - 1, by omega⟩
    have hl2 := hl
    simp only [List.length_append, List.length_cons] at hl2 hk hq
    rw [api_Term_of_cost_normal_1_52.l1, wr (by omega), if_pos (by omega), wr (by omega), List.cons_append, swap_up P (R1 ++ X) x r _ rfl, Option.bind_some]
    have e := mv1 X x R1 (P ++ [r]) (by simp only [List.length_append, List.length_cons, List.length_nil] at hl ⊢; omega) k (by omega) q (by rw [List.length_append, List.length_singleton]; omega)
    rw [List.length_append, List.length_singleton] at e
    simp only [List.append_assoc, List.cons_append, List.nil_append] at e
    rw [show ((P.length : Int) + 1) = ((P.length + 1 : Nat) : Int) by omega]
    exact e
theorem mv2 (y : S39) (P : List S39) : ∀ (n : Nat) (L2 X : List S39), L2.length = n → (P ++ (L2 ++ (y :: X))).length < 4611686018427387904 → ∀ k, n + 1 ≤ k → ∀ q : Int, q = ((P.length + n : Nat) : Int) →
    api_Term_of_cost_normal_1_52.l3 k (P ++ (L2 ++ (y :: X))) (P.length : Int) q = some (P ++ (y :: (L2 ++ X)))
  | 0, L2, X, h, hl, k, hk, q, hq => by
    obtain ⟨k, rfl⟩ : ∃ k', k = k' + 1 := ⟨k - 1, by omega⟩
    have h0 : L2 = [] := List.length_eq_zero_iff.1 h
    subst h0
    rw [api_Term_of_cost_normal_1_52.l3, if_neg (by omega)]
    rfl
  | n + 1, L2, X, h, hl, k, hk, q, hq => by
    obtain ⟨k, rfl⟩ : ∃ k', k = k' + 1 := ⟨k - 1, by omega⟩
    obtain ⟨L, l, rfl⟩ : ∃ L l, L2 = L ++ [l] := ⟨L2.dropLast, L2.getLast (by intro e; rw [e] at h; simp at h), (List.dropLast_concat_getLast _).symm⟩
    have hL : L.length = n := by rw [List.length_append, List.length_singleton] at h; omega
    have hl2 := hl
    simp only [List.length_append, List.length_cons, List.length_nil] at hl2
    have e0 := swap_down (P ++ L) X l y q (by rw [List.length_append, hq]; omega)
    simp only [List.append_assoc] at e0
    rw [api_Term_of_cost_normal_1_52.l3, if_pos (by omega), wr (by omega)]
    simp only [List.append_assoc, List.cons_append, List.nil_append]
    rw [e0, Option.bind_some]
    exact mv2 y P n L (l :: X) hL (by simp only [List.length_append, List.length_cons, List.length_nil] at hl ⊢; omega) k (by omega) (q - 1) (by omega)
structure Cmp (s : S39 → Prop) (K : Nat) : Prop where
  cf : ∀ x y, s x → s y → ∀ k, K ≤ k → cost_normal_1.f k x.f0 x.f1 y.f0 y.f1 = some (ordT x.f1 y.f1)
  ord : Ord ltT s
theorem mem_take {l : List S39} {i : Nat} {y : S39} (h : y ∈ l.take i) : ∃ t, t < i ∧ t < l.length ∧ y = l.getD t z39 := by
  obtain ⟨t, ht, rfl⟩ := List.getElem_of_mem h
  rw [List.length_take] at ht
  refine ⟨t, by omega, by omega, ?_⟩
  rw [List.getElem_take, List.getD_eq_getElem?_getD, List.getElem?_eq_getElem (by omega)]
  rfl
theorem mem_drop {l : List S39} {i : Nat} {y : S39} (h : y ∈ l.drop i) : ∃ t, i ≤ t ∧ t < l.length ∧ y = l.getD t z39 := by
  obtain ⟨t, ht, rfl⟩ := List.getElem_of_mem h
  rw [List.length_drop] at ht
  refine ⟨i + t, by omega, by omega, ?_⟩
  rw [List.getElem_drop, List.getD_eq_getElem?_getD, List.getElem?_eq_getElem (by omega)]
  rfl
theorem srt_get {l : List S39} (h : Sorted ltT l) (hr : ∀ x ∈ l, ltT x x = false) {i j : Nat} (hij : i ≤ j) (hj : j < l.length) : ltT (l.getD j z39) (l.getD i z39) = false := by
  rw [List.getD_eq_getElem?_getD, List.getD_eq_getElem?_getD, List.getElem?_eq_getElem hj, List.getElem?_eq_getElem (show i < l.length by omega)]
  by_cases e : i = j
  · subst e; exact hr _ (List.getElem_mem _)
  · exact List.pairwise_iff_getElem.1 h i j (by omega) hj (by omega)
theorem mg_one {R : List S39} {x : S39} {i : Nat} (h1 : ∀ t, t < i → t < R.length → ltT (R.getD t z39) x = true) (h2 : ∀ t, i ≤ t → t < R.length → ltT (R.getD t z39) x = false) :
    mg ltT [x] R = R.take i ++ (x :: R.drop i) := by
  have e := mg_split ltT [x] (R.drop i) _ [] (R.take i) (Nat.le_refl _) (fun l hl => by cases hl) (fun r hr l hl => by
    obtain ⟨t, a, b, rfl⟩ := mem_take hr
    rw [List.mem_singleton.1 hl]; exact h1 t a b)
  rw [List.nil_append, List.take_append_drop, mg_nil] at e
  rw [e]
  congr 1
  cases hd : R.drop i with
  | nil => rw [mg_nil2]
  | cons r R2 =>
    obtain ⟨t, a, b, hr⟩ := mem_drop (l := R) (i := i) (y := r) (by rw [hd]; exact List.mem_cons_self)
    rw [mg_cons, if_neg (by rw [hr, h2 t a b]; decide), mg_nil]
theorem mg_two {L : List S39} {y : S39} {i : Nat} (h1 : ∀ t, t < i → t < L.length → ltT y (L.getD t z39) = false) (h2 : ∀ t, i ≤ t → t < L.length → ltT y (L.getD t z39) = true) :
    mg ltT L [y] = L.take i ++ (y :: L.drop i) := by
  have e := mg_split ltT (L.drop i) [y] _ (L.take i) [] (Nat.le_refl _) (fun l hl r hr => by
    obtain ⟨t, a, b, rfl⟩ := mem_take hl
    rw [List.mem_singleton.1 hr]; exact h1 t a b) (fun r hr => by cases hr)
  rw [List.nil_append, List.take_append_drop, mg_nil2] at e
  rw [e]
  congr 1
  cases hd : L.drop i with
  | nil => rw [mg_nil]
  | cons l L2 =>
    obtain ⟨t, a, b, hl⟩ := mem_drop (l := L) (i := i) (y := l) (by rw [hd]; exact List.mem_cons_self)
    rw [mg_cons, if_pos (by rw [hl, h2 t a b]), mg_nil2]
def gN (n : Nat) : Nat := (n + 2) * (n + 12)
theorem gN_ge (n : Nat) : 14 * n + 24 ≤ gN n := by
  unfold gN
  rw [Nat.add_mul, Nat.mul_add]
  have : 0 ≤ n * n := Nat.zero_le _
  omega
theorem gN_lt {n N : Nat} (h : n < N) : gN n + N + 13 ≤ gN N := by
  have h1 : gN n ≤ (N + 1) * (N + 11) := Nat.mul_le_mul (by omega) (by omega)
  have h2 : (N + 1) * (N + 11) + (2 * N + 13) = gN N := by
    unfold gN
    rw [Nat.add_mul, Nat.add_mul, Nat.mul_add, Nat.mul_add, Nat.mul_add, Nat.mul_add]
    omega
  omega
theorem mgE {L R : List S39} (h : L = [] ∨ R = []) : mg ltT L R = L ++ R := by
  rcases h with rfl | rfl
  · rw [mg_nil]; rfl
  · rw [mg_nil2, List.append_nil]
section
variable {s : S39 → Prop} {K : Nat} (hC : Cmp s K)
include hC
theorem bs1 (P R S : List S39) (x : S39) (hs : s x) (hR : ∀ y ∈ R, s y) (hsr : Sorted ltT R) (hl : (P ++ (x :: (R ++ S))).length < 4611686018427387904) :
    ∀ (d i j : Nat), j ≤ i + d → i ≤ j → j ≤ R.length → (∀ t, t < i → t < R.length → ltT (R.getD t z39) x = true) → (∀ t, j ≤ t → t < R.length → ltT (R.getD t z39) x = false) → ∀ k, K + d + R.length + 5 ≤ k →
      ∀ q1 q2 : Int, q1 = ((P.length + 1 + i : Nat) : Int) → q2 = ((P.length + 1 + j : Nat) : Int) →
      api_Term_of_cost_normal_1_52.l0 k (P ++ (x :: (R ++ S))) (P.length : Int) q1 q2 = some (P ++ (mg ltT [x] R ++ S)) := by
  have hl2 := hl
  simp only [List.length_append, List.length_cons] at hl2
  have hend : ∀ (i : Nat), i ≤ R.length → (∀ t, t < i → t < R.length → ltT (R.getD t z39) x = true) → (∀ t, i ≤ t → t < R.length → ltT (R.getD t z39) x = false) → ∀ k, R.length + 3 ≤ k →
      ∀ q1 q2 : Int, q1 = ((P.length + 1 + i : Nat) : Int) → q2 = q1 → api_Term_of_cost_normal_1_52.l0 k (P ++ (x :: (R ++ S))) (P.length : Int) q1 q2 = some (P ++ (mg ltT [x] R ++ S)) := by
    intro i hi h1 h2 k hk q1 q2 hq1 hq2
    obtain ⟨k, rfl⟩ : ∃ k', k = k' + 1 := ⟨k - 1, by omega⟩
    rw [api_Term_of_cost_normal_1_52.l0, if_neg (by omega), mg_one h1 h2]
    have e := mv1 (R.drop i ++ S) x (R.take i) P (by
      simp only [List.length_append, List.length_cons, List.length_take, List.length_drop]; omega) k (by rw [List.length_take]; omega) q1 (by rw [List.length_take, hq1]; omega)
    rw [← List.append_assoc (R.take i), List.take_append_drop] at e
    rw [e]
    simp only [List.append_assoc, List.cons_append]
  intro d
  induction d with
  | zero =>
    intro i j hd hij hj h1 h2 k hk q1 q2 hq1 hq2
    have : i = j := by omega
    subst this
    exact hend i hj h1 h2 k (by omega) q1 q2 hq1 (by omega)
  | succ d ih =>
    intro i j hd hij hj h1 h2 k hk q1 q2 hq1 hq2
    by_cases hlt : i < j
    · obtain ⟨k, rfl⟩ : ∃ k', k = k' + 1 := ⟨k - 1, by omega⟩
      have ht : (P.length + 1 + i + (P.length + 1 + j)) / 2 = P.length + (1 + (i + j) / 2) := by omega
      have htj : (i + j) / 2 < R.length := by omega
      have hmem := getM htj
      rw [api_Term_of_cost_normal_1_52.l0, if_pos (by omega), hq1, hq2, half _ _ (by omega), ht, if_pos (by omega), if_pos (by simp only [List.length_append, List.length_cons]; omega), if_pos (by omega), if_pos (by simp only [List.length_append, List.length_cons]; omega), rdN, rdN,
        getR, show 1 + (i + j) / 2 = (i + j) / 2 + 1 by omega, List.getD_cons_succ, getL htj, show P.length = P.length + 0 from rfl, getR, List.getD_cons_zero, hC.cf _ _ (hR _ hmem) hs k (by omega), Option.bind_some]
      simp only [Nat.add_zero]
      by_cases hc : ordT (R.getD ((i + j) / 2) z39).f1 x.f1 < 0
      · have hc' : ltT (R.getD ((i + j) / 2) z39) x = true := decide_eq_true hc
        rw [if_pos hc, wr (by omega)]
        exact ih ((i + j) / 2 + 1) j (by omega) (by omega) hj (fun t h3 h4 => by
          refine hC.ord.le_lt ltT (hR _ (getM h4)) (hR _ hmem) hs (srt_get hsr (fun y hy => hC.ord.refl ltT y (hR y hy)) (by omega) htj) hc') h2 k (by omega) _ _ (by omega) (by omega)
      · have hc' : ltT (R.getD ((i + j) / 2) z39) x = false := decide_eq_false hc
        rw [if_neg hc]
        exact ih i ((i + j) / 2) (by omega) (by omega) (by omega) h1 (fun t h3 h4 => by
          exact hC.ord.tr x _ _ hs (hR _ hmem) (hR _ (getM h4)) hc' (srt_get hsr (fun y hy => hC.ord.refl ltT y (hR y hy)) h3 h4)) k (by omega) _ _ (by omega) (by omega)
    · have : i = j := by omega
      subst this
      exact hend i hj h1 h2 k (by omega) q1 q2 hq1 (by omega)
theorem bs2 (P L S : List S39) (y : S39) (hs : s y) (hL : ∀ x ∈ L, s x) (hsl : Sorted ltT L) (hl : (P ++ (L ++ (y :: S))).length < 4611686018427387904) :
    ∀ (d i j : Nat), j ≤ i + d → i ≤ j → j ≤ L.length → (∀ t, t < i → t < L.length → ltT y (L.getD t z39) = false) → (∀ t, j ≤ t → t < L.length → ltT y (L.getD t z39) = true) → ∀ k, K + d + L.length + 5 ≤ k →
      ∀ q0 q1 q2 : Int, q0 = ((P.length + L.length : Nat) : Int) → q1 = ((P.length + i : Nat) : Int) → q2 = ((P.length + j : Nat) : Int) →
      api_Term_of_cost_normal_1_52.l2 k (P ++ (L ++ (y :: S))) q0 q1 q2 = some (P ++ (mg ltT L [y] ++ S)) := by
  have hl2 := hl
  simp only [List.length_append, List.length_cons] at hl2
  have hend : ∀ (i : Nat), i ≤ L.length → (∀ t, t < i → t < L.length → ltT y (L.getD t z39) = false) → (∀ t, i ≤ t → t < L.length → ltT y (L.getD t z39) = true) → ∀ k, L.length + 3 ≤ k →
      ∀ q0 q1 q2 : Int, q0 = ((P.length + L.length : Nat) : Int) → q1 = ((P.length + i : Nat) : Int) → q2 = q1 → api_Term_of_cost_normal_1_52.l2 k (P ++ (L ++ (y :: S))) q0 q1 q2 = some (P ++ (mg ltT L [y] ++ S)) := by
    intro i hi h1 h2 k hk q0 q1 q2 hq0 hq1 hq2
    obtain ⟨k, rfl⟩ : ∃ k', k = k' + 1 := ⟨k - 1, by omega⟩
    rw [api_Term_of_cost_normal_1_52.l2, if_neg (by omega), mg_two h1 h2]
    have e := mv2 y (P ++ L.take i) (L.drop i).length (L.drop i) S rfl (by
      simp only [List.length_append, List.length_cons, List.length_take, List.length_drop]; omega) k (by rw [List.length_drop]; omega) q0 (by rw [List.length_append, List.length_take, List.length_drop, hq0]; omega)
    rw [List.length_append, List.length_take, Nat.min_eq_left hi] at e
    simp only [List.append_assoc] at e
    rw [← List.append_assoc (L.take i), List.take_append_drop] at e
    rw [hq1, e]
    simp only [List.append_assoc, List.cons_append]
  intro d
  induction d with
  | zero =>
    intro i j hd hij hj h1 h2 k hk q0 q1 q2 hq0 hq1 hq2
    have : i = j := by omega
    subst this
    exact hend i hj h1 h2 k (by omega) q0 q1 q2 hq0 hq1 (by omega)
  | succ d ih =>
    intro i j hd hij hj h1 h2 k hk q0 q1 q2 hq0 hq1 hq2
    by_cases hlt : i < j
    · obtain ⟨k, rfl⟩ : ∃ k', k = k' + 1 := ⟨k - 1, by omega⟩
      have ht : (P.length + i + (P.length + j)) / 2 = P.length + (i + j) / 2 := by omega
      have htj : (i + j) / 2 < L.length := by omega
      have hmem := getM htj
      have ey : (L ++ (y :: S)).getD L.length z39 = y := by rw [show L.length = L.length + 0 from rfl, getR, List.getD_cons_zero]
      rw [api_Term_of_cost_normal_1_52.l2, if_pos (by omega), if_pos (by omega), if_pos (by simp only [List.length_append, List.length_cons]; omega), hq1, hq2, half _ _ (by omega), ht, if_pos (by omega), if_pos (by simp only [List.length_append, List.length_cons]; omega), hq0, rdN, rdN,
        getR, getR, getL htj, ey, hC.cf _ _ hs (hL _ hmem) k (by omega), Option.bind_some]
      by_cases hc : ordT y.f1 (L.getD ((i + j) / 2) z39).f1 < 0
      · have hc' : ltT y (L.getD ((i + j) / 2) z39) = true := decide_eq_true hc
        rw [if_pos hc]
        exact ih i ((i + j) / 2) (by omega) (by omega) (by omega) h1 (fun t h3 h4 => by
          exact hC.ord.lt_le ltT hs (hL _ hmem) (hL _ (getM h4)) hc' (srt_get hsl (fun z hz => hC.ord.refl ltT z (hL z hz)) h3 h4)) k (by omega) _ _ _ rfl (by omega) (by omega)
      · have hc' : ltT y (L.getD ((i + j) / 2) z39) = false := decide_eq_false hc
        rw [if_neg hc, wr (by omega)]
        exact ih ((i + j) / 2 + 1) j (by omega) (by omega) hj (fun t h3 h4 => by
          exact hC.ord.tr _ _ y (hL _ (getM h4)) (hL _ hmem) hs (srt_get hsl (fun z hz => hC.ord.refl ltT z (hL z hz)) (by omega) htj) hc') h2 k (by omega) _ _ _ rfl (by omega) (by omega)
    · have : i = j := by omega
      subst this
      exact hend i hj h1 h2 k (by omega) q0 q1 q2 hq0 hq1 (by omega)
theorem bs3 (P L R S : List S39) (h lo hi : Nat) (hL : ∀ x ∈ L, s x) (hR : ∀ x ∈ R, s x) (hsl : Sorted ltT L) (hsr : Sorted ltT R) (hl : (P ++ (L ++ (R ++ S))).length < 2305843009213693952)
    (h1 : hi ≤ h) (h2 : hi ≤ L.length) (h3 : h ≤ lo + R.length) (res : List S39) (F : Nat) (hKF : K ≤ F) (x1 x2 x3 x18 x19 x22 : Int) (e22 : x22 = ((2 * P.length + h + L.length : Nat) : Int) - 1)
    (hcont : ∀ i, lo ≤ i → i ≤ hi → (∀ t, lo ≤ t → t < i → ltT (R.getD (h - 1 - t) z39) (L.getD t z39) = false) → (∀ t, i ≤ t → t < hi → ltT (R.getD (h - 1 - t) z39) (L.getD t z39) = true) → ∀ k, F ≤ k → ∀ q : Int, q = ((P.length + i : Nat) : Int) →
      api_Term_of_cost_normal_1_52.l4 (k + 1) (P ++ (L ++ (R ++ S))) x1 x2 x3 x18 x19 q q x22 = some res) :
    ∀ (d i j : Nat), j ≤ i + d → lo ≤ i → i ≤ j → j ≤ hi → (∀ t, lo ≤ t → t < i → ltT (R.getD (h - 1 - t) z39) (L.getD t z39) = false) → (∀ t, j ≤ t → t < hi → ltT (R.getD (h - 1 - t) z39) (L.getD t z39) = true) → ∀ k, F + 1 + d ≤ k →
      ∀ q1 q2 : Int, q1 = ((P.length + i : Nat) : Int) → q2 = ((P.length + j : Nat) : Int) →
      api_Term_of_cost_normal_1_52.l4 k (P ++ (L ++ (R ++ S))) x1 x2 x3 x18 x19 q1 q2 x22 = some res := by
  have hl2 := hl
  simp only [List.length_append] at hl2
  have rf : ∀ (l : List S39), (∀ x ∈ l, s x) → ∀ x ∈ l, ltT x x = false := fun l hl x hx => hC.ord.refl ltT x (hl x hx)
  intro d
  induction d with
  | zero =>
    intro i j hd hlo hij hj g1 g2 k hk q1 q2 hq1 hq2
    have : i = j := by omega
    subst this
    obtain ⟨k, rfl⟩ : ∃ k', k = k' + 1 := ⟨k - 1, by omega⟩
    rw [hq2, ← hq1]
    exact hcont i hlo hj g1 g2 k (by omega) q1 hq1
  | succ d ih =>
    intro i j hd hlo hij hj g1 g2 k hk q1 q2 hq1 hq2
    obtain ⟨k, rfl⟩ : ∃ k', k = k' + 1 := ⟨k - 1, by omega⟩
    by_cases hlt : i < j
    · have ht : (P.length + i + (P.length + j)) / 2 = P.length + (i + j) / 2 := by omega
      have hc0 : (i + j) / 2 < hi := by omega
      have htl : (i + j) / 2 < L.length := by omega
      have htr : h - 1 - (i + j) / 2 < R.length := by omega
      have hml := hL _ (getM htl)
      have hmr := hR _ (getM htr)
      have ep : x22 - ((P.length + (i + j) / 2 : Nat) : Int) = ((P.length + (L.length + (h - 1 - (i + j) / 2)) : Nat) : Int) := by rw [e22]; omega
      rw [api_Term_of_cost_normal_1_52.l4, if_pos (by omega), hq1, hq2, half _ _ (by omega), ht, wr (by rw [ep]; omega), ep, if_pos (by omega), if_pos (by simp only [List.length_append]; omega), if_pos (by omega), if_pos (by simp only [List.length_append]; omega), rdN, rdN,
        getR, getR, getR, getL htr, getL htl, hC.cf _ _ hmr hml k (by omega), Option.bind_some]
      by_cases hc : ordT (R.getD (h - 1 - (i + j) / 2) z39).f1 (L.getD ((i + j) / 2) z39).f1 < 0
      · have hc' : ltT (R.getD (h - 1 - (i + j) / 2) z39) (L.getD ((i + j) / 2) z39) = true := decide_eq_true hc
        rw [if_pos hc]
        exact ih i ((i + j) / 2) (by omega) hlo (by omega) (by omega) g1 (fun t h4 h5 => by
          have a1 := srt_get hsr (rf R hR) (i := h - 1 - t) (j := h - 1 - (i + j) / 2) (by omega) htr
          have a2 := srt_get hsl (rf L hL) (i := (i + j) / 2) (j := t) h4 (by omega)
          exact hC.ord.lt_le ltT (hR _ (getM (by omega))) hml (hL _ (getM (by omega))) (hC.ord.le_lt ltT (hR _ (getM (by omega))) hmr hml a1 hc') a2) k (by omega) _ _ (by omega) (by omega)
      · have hc' : ltT (R.getD (h - 1 - (i + j) / 2) z39) (L.getD ((i + j) / 2) z39) = false := decide_eq_false hc
        rw [if_neg hc, wr (by omega)]
        exact ih ((i + j) / 2 + 1) j (by omega) (by omega) (by omega) hj (fun t h4 h5 => by
          have a1 := srt_get hsr (rf R hR) (i := h - 1 - (i + j) / 2) (j := h - 1 - t) (by omega) (by omega)
          have a2 := srt_get hsl (rf L hL) (i := t) (j := (i + j) / 2) (by omega) htl
          exact hC.ord.tr _ _ _ (hL _ (getM (by omega))) hmr (hR _ (getM (by omega))) (hC.ord.tr _ _ _ (hL _ (getM (by omega))) hml hmr a2 hc') a1) g2 k (by omega) _ _ (by omega) (by omega)
    · have : i = j := by omega
      subst this
      rw [hq2, ← hq1]
      exact hcont i hlo hj g1 g2 k (by omega) q1 hq1
theorem sym_eq : ∀ (N : Nat) (P L R S : List S39), L.length + R.length = N → 0 < L.length → 0 < R.length → (∀ x ∈ L, s x) → (∀ x ∈ R, s x) → Sorted ltT L → Sorted ltT R → (P ++ (L ++ (R ++ S))).length < 2305843009213693952 →
    ∀ k, K + gN N ≤ k → ∀ a m b : Int, a = ((P.length : Nat) : Int) → m = ((P.length + L.length : Nat) : Int) → b = ((P.length + L.length + R.length : Nat) : Int) →
      api_Term_of_cost_normal_1_52.f k (P ++ (L ++ (R ++ S))) a m b = some (P ++ (mg ltT L R ++ S)) := by
  intro N
  induction N using Nat.strongRecOn with
  | _ N ih =>
  intro P L R S hN hl0 hr0 hL hR hsl hsr hl k hk a m b ea em eb
  have hg := gN_ge N
  obtain ⟨k, rfl⟩ : ∃ k', k = k' + 1 := ⟨k - 1, by omega⟩
  have hl2 := hl
  simp only [List.length_append] at hl2
  subst ea em eb
  rw [api_Term_of_cost_normal_1_52.f, wr (x := ((P.length + L.length : Nat) : Int) - (P.length : Int)) (by omega)]
  by_cases c1 : L.length = 1
  · rw [if_pos (by omega)]
    obtain ⟨x, rfl⟩ := List.length_eq_one_iff.1 c1
    exact bs1 hC P R S x (hL x List.mem_cons_self) hR hsr (by simp only [List.length_append, List.length_cons, List.length_nil] at hl ⊢; omega) R.length 0 R.length (by omega) (Nat.zero_le _) (Nat.le_refl _) (fun t h => by omega) (fun t h h' => by omega) k (by omega) _ _ (by simp) (by simp)
  · rw [if_neg (by omega), wr (x := ((P.length + L.length + R.length : Nat) : Int) - ((P.length + L.length : Nat) : Int)) (by omega)]
    by_cases c2 : R.length = 1
    · rw [if_pos (by omega)]
      obtain ⟨y, rfl⟩ := List.length_eq_one_iff.1 c2
      exact bs2 hC P L S y (hR y List.mem_cons_self) hL hsl (by simp only [List.length_append, List.length_cons, List.length_nil] at hl ⊢; omega) L.length 0 L.length (by omega) (Nat.zero_le _) (Nat.le_refl _) (fun t h => by omega) (fun t h h' => by omega) k (by omega) _ _ _ rfl (by simp) rfl
    · rw [if_neg (by omega), half _ _ (by omega)]
      obtain ⟨h, eh⟩ : ∃ h, h = N / 2 := ⟨_, rfl⟩
      have hmid : (P.length + (P.length + L.length + R.length)) / 2 = P.length + h := by omega
      rw [hmid, wr (x := ((P.length + h : Nat) : Int) + ((P.length + L.length : Nat) : Int)) (by omega), wr (x := ((P.length + h : Nat) : Int) + ((P.length + L.length : Nat) : Int) - ((P.length + L.length + R.length : Nat) : Int)) (by omega)]
      obtain ⟨G, eG⟩ : ∃ G, G + N + 13 = K + gN N := ⟨K + gN N - N - 13, by omega⟩
      have hGn : ∀ n, n < N → K + gN n ≤ G := fun n hn => by have := gN_lt hn; omega
      have rf : ∀ (l : List S39), (∀ x ∈ l, s x) → ∀ x ∈ l, ltT x x = false := fun l hl x hx => hC.ord.refl ltT x (hl x hx)
      have hcont : ∀ (lo hi : Nat), hi ≤ h → hi ≤ L.length → h ≤ lo + R.length → (lo = 0 ∨ h = lo + R.length) → (hi = h ∨ hi = L.length) → ∀ i, lo ≤ i → i ≤ hi →
          (∀ t, lo ≤ t → t < i → ltT (R.getD (h - 1 - t) z39) (L.getD t z39) = false) → (∀ t, i ≤ t → t < hi → ltT (R.getD (h - 1 - t) z39) (L.getD t z39) = true) → ∀ k', G + 3 ≤ k' → ∀ q : Int, q = ((P.length + i : Nat) : Int) →
          api_Term_of_cost_normal_1_52.l4 (k' + 1) (P ++ (L ++ (R ++ S))) (P.length : Int) ((P.length + L.length : Nat) : Int) ((P.length + L.length + R.length : Nat) : Int) ((P.length + h : Nat) : Int) (((P.length + h : Nat) : Int) + ((P.length + L.length : Nat) : Int)) q q (((2 * P.length + h + L.length : Nat) : Int) - 1) = some (P ++ (mg ltT L R ++ S)) := by
        intro lo hi b1 b2 b3 b4 b5 i hlo hhi g1 g2 k' hk' q hq
        obtain ⟨L1, L2, R1, R2, eL, eR, n1, n2, hsplit⟩ : ∃ L1 L2 R1 R2, L = L1 ++ L2 ∧ R = R1 ++ R2 ∧ L1.length = i ∧ R1.length = h - i ∧ mg ltT L R = mg ltT L1 R1 ++ mg ltT L2 R2 := by
          refine ⟨L.take i, L.drop i, R.take (h - i), R.drop (h - i), (List.take_append_drop _ _).symm, (List.take_append_drop _ _).symm, by rw [List.length_take]; omega, by rw [List.length_take]; omega, ?_⟩
          have e := mg_split ltT (L.drop i) (R.drop (h - i)) _ (L.take i) (R.take (h - i)) (Nat.le_refl _) (fun x hx y hy => by
            obtain ⟨t, t1, t2, rfl⟩ := mem_take hx
            obtain ⟨u, u1, u2, rfl⟩ := mem_drop hy
            have hne : lo < i := by omega
            have e0 := g1 (i - 1) (by omega) (by omega)
            rw [show h - 1 - (i - 1) = h - i by omega] at e0
            have a1 := srt_get hsl (rf L hL) (i := t) (j := i - 1) (by omega) (by omega)
            have a2 := srt_get hsr (rf R hR) (i := h - i) (j := u) u1 u2
            exact hC.ord.tr _ _ _ (hL _ (getM t2)) (hR _ (getM (by omega))) (hR _ (getM u2)) (hC.ord.tr _ _ _ (hL _ (getM t2)) (hL _ (getM (by omega))) (hR _ (getM (by omega))) a1 e0) a2) (fun y hy x hx => by
            obtain ⟨u, u1, u2, rfl⟩ := mem_take hy
            obtain ⟨t, t1, t2, rfl⟩ := mem_drop hx
            have hne : i < hi := by omega
            have e0 := g2 i (Nat.le_refl _) hne
            have a1 := srt_get hsr (rf R hR) (i := u) (j := h - 1 - i) (by omega) (by omega)
            have a2 := srt_get hsl (rf L hL) (i := i) (j := t) t1 t2
            exact hC.ord.lt_le ltT (hR _ (getM u2)) (hL _ (getM (by omega))) (hL _ (getM t2)) (hC.ord.le_lt ltT (hR _ (getM u2)) (hR _ (getM (by omega))) (hL _ (getM (by omega))) a1 e0) a2)
          rw [List.take_append_drop, List.take_append_drop] at e
          exact e
        have nL : L.length = i + L2.length := by rw [eL, List.length_append, n1]
        have nR : R.length = (h - i) + R2.length := by rw [eR, List.length_append, n2]
        have sL1 : ∀ x ∈ L1, s x := fun x hx => hL x (by rw [eL]; exact List.mem_append_left _ hx)
        have sL2 : ∀ x ∈ L2, s x := fun x hx => hL x (by rw [eL]; exact List.mem_append_right _ hx)
        have sR1 : ∀ x ∈ R1, s x := fun x hx => hR x (by rw [eR]; exact List.mem_append_left _ hx)
        have sR2 : ∀ x ∈ R2, s x := fun x hx => hR x (by rw [eR]; exact List.mem_append_right _ hx)
        have oL : Sorted ltT L1 ∧ Sorted ltT L2 := by rw [eL] at hsl; exact ⟨(List.pairwise_append.1 hsl).1, (List.pairwise_append.1 hsl).2.1⟩
        have oR : Sorted ltT R1 ∧ Sorted ltT R2 := by rw [eR] at hsr; exact ⟨(List.pairwise_append.1 hsr).1, (List.pairwise_append.1 hsr).2.1⟩
        have hen : ((P.length + h : Nat) : Int) + ((P.length + L.length : Nat) : Int) - q = ((P.length + L.length + (h - i) : Nat) : Int) := by rw [hq]; omega
        have hrest : ∀ (k4 : Nat) (X1 : List S39), G ≤ k4 → X1.length = h →
            (if ((P.length + h : Nat) : Int) < ((P.length + L.length + (h - i) : Nat) : Int) then (if ((P.length + L.length + (h - i) : Nat) : Int) < ((P.length + L.length + R.length : Nat) : Int) then ((api_Term_of_cost_normal_1_52.f k4 (P ++ (X1 ++ (L2 ++ (R2 ++ S)))) ((P.length + h : Nat) : Int) ((P.length + L.length + (h - i) : Nat) : Int) ((P.length + L.length + R.length : Nat) : Int)).bind fun t141 => (some t141)) else (some (P ++ (X1 ++ (L2 ++ (R2 ++ S)))))) else (some (P ++ (X1 ++ (L2 ++ (R2 ++ S)))))) = some (P ++ (X1 ++ (mg ltT L2 R2 ++ S))) := by
          intro k4 X1 h4 hX
          by_cases d1 : 0 < L2.length
          · rw [if_pos (by omega)]
            by_cases d2 : 0 < R2.length
            · rw [if_pos (by omega)]
              have e := ih (L2.length + R2.length) (by omega) (P ++ X1) L2 R2 S rfl d1 d2 sL2 sR2 oL.2 oR.2 (by simp only [List.length_append]; omega) k4 (by have := hGn (L2.length + R2.length) (by omega); omega) ((P.length + h : Nat) : Int) ((P.length + L.length + (h - i) : Nat) : Int) ((P.length + L.length + R.length : Nat) : Int) (by rw [List.length_append, hX]) (by rw [List.length_append, hX]; omega) (by rw [List.length_append, hX]; omega)
              simp only [List.append_assoc] at e
              rw [e, Option.bind_some]
            · rw [if_neg (by omega), mgE (.inr (List.length_eq_zero_iff.1 (by omega))), List.append_assoc]
          · rw [if_neg (by omega), mgE (.inl (List.length_eq_zero_iff.1 (by omega))), List.append_assoc]
        have hj8 : ∀ (k3 : Nat) (B : Bool), G + 1 ≤ k3 → (B = true ↔ 0 < i ∧ i < h) →
            api_Term_of_cost_normal_1_52.j8 k3 (P ++ (L1 ++ (R1 ++ (L2 ++ (R2 ++ S))))) (P.length : Int) ((P.length + L.length + R.length : Nat) : Int) ((P.length + h : Nat) : Int) q ((P.length + L.length + (h - i) : Nat) : Int) B = some (P ++ (mg ltT L R ++ S)) := by
          intro k3 B h3 hB
          obtain ⟨k4, rfl⟩ : ∃ k', k3 = k' + 1 := ⟨k3 - 1, by omega⟩
          rw [hsplit, api_Term_of_cost_normal_1_52.j8, List.append_assoc]
          by_cases hb : B = true
          · have hb' := hB.1 hb
            rw [if_pos hb]
            have e := ih h (by omega) P L1 R1 (L2 ++ (R2 ++ S)) (by omega) (by omega) (by omega) sL1 sR1 oL.1 oR.1 (by simp only [List.length_append]; omega) k4 (by have := hGn h (by omega); omega) (P.length : Int) q ((P.length + h : Nat) : Int) rfl (by rw [hq, n1]) (by omega)
            rw [e, Option.bind_some]
            exact hrest k4 (mg ltT L1 R1) (by omega) (by rw [length_mg]; omega)
          · rw [if_neg hb, mgE (L := L1) (R := R1) (by
              by_cases h0 : i = 0
              · exact .inl (List.length_eq_zero_iff.1 (by omega))
              · refine .inr (List.length_eq_zero_iff.1 ?_)
                have : ¬ (0 < i ∧ i < h) := fun hh => hb (hB.2 hh)
                omega)]
            have e := hrest k4 (L1 ++ R1) (by omega) (by rw [List.length_append]; omega)
            simp only [List.append_assoc] at e ⊢
            exact e
        have hj7 : ∀ (k2 : Nat), G + 2 ≤ k2 →
            api_Term_of_cost_normal_1_52.j7 k2 (P ++ (L1 ++ (R1 ++ (L2 ++ (R2 ++ S))))) (P.length : Int) ((P.length + L.length + R.length : Nat) : Int) ((P.length + h : Nat) : Int) q ((P.length + L.length + (h - i) : Nat) : Int) = some (P ++ (mg ltT L R ++ S)) := by
          intro k2 h2
          obtain ⟨k3, rfl⟩ : ∃ k', k2 = k' + 1 := ⟨k2 - 1, by omega⟩
          rw [api_Term_of_cost_normal_1_52.j7]
          by_cases h0 : 0 < i
          · rw [if_pos (by omega)]
            exact hj8 k3 _ (by omega) (by rw [decide_eq_true_iff]; omega)
          · rw [if_neg (by omega)]
            exact hj8 k3 _ (by omega) (by simp; omega)
        have eD : P ++ (L ++ (R ++ S)) = P ++ (L1 ++ (L2 ++ (R1 ++ (R2 ++ S)))) := by rw [eL, eR]; simp only [List.append_assoc]
        have hj6n : (L2 = [] ∨ R1 = []) → ∀ k1, G + 3 ≤ k1 → api_Term_of_cost_normal_1_52.j6 k1 (P ++ (L ++ (R ++ S))) (P.length : Int) ((P.length + L.length : Nat) : Int) ((P.length + L.length + R.length : Nat) : Int) ((P.length + h : Nat) : Int) q ((P.length + L.length + (h - i) : Nat) : Int) false = some (P ++ (mg ltT L R ++ S)) := by
          intro hn k1 h1
          obtain ⟨k2, rfl⟩ : ∃ k', k1 = k' + 1 := ⟨k1 - 1, by omega⟩
          have eD1 : P ++ (L ++ (R ++ S)) = P ++ (L1 ++ (R1 ++ (L2 ++ (R2 ++ S)))) := by
            rw [eD]
            rcases hn with hn | hn <;> rw [hn] <;> rfl
          rw [api_Term_of_cost_normal_1_52.j6, if_neg (by decide), eD1]
          exact hj7 k2 (by omega)
        rw [api_Term_of_cost_normal_1_52.l4, if_neg (by omega), wr (x := ((P.length + h : Nat) : Int) + ((P.length + L.length : Nat) : Int) - q) (by omega), hen]
        by_cases e1 : 0 < L2.length
        · rw [if_pos (by omega)]
          by_cases e2 : 0 < R1.length
          · rw [decide_eq_true (by omega)]
            obtain ⟨k2, rfl⟩ : ∃ k'', k' = k'' + 1 := ⟨k' - 1, by omega⟩
            have er := rot_eq (L2.length + R1.length) (P ++ L1) L2 R1 (R2 ++ S) (Nat.le_refl _) e1 e2 (by simp only [List.length_append]; omega) k2 (by omega) ((P.length + L.length : Nat) : Int) (by rw [List.length_append]; omega)
            simp only [List.append_assoc] at er
            rw [api_Term_of_cost_normal_1_52.j6, if_pos rfl, eD]
            unfold api_Term_of_cost_normal_1_53.f
            rw [wr (x := ((P.length + L.length : Nat) : Int) - q) (by omega), wr (x := ((P.length + L.length + (h - i) : Nat) : Int) - ((P.length + L.length : Nat) : Int)) (by omega), show ((P.length + L.length : Nat) : Int) - q = (L2.length : Int) by omega, show ((P.length + L.length + (h - i) : Nat) : Int) - ((P.length + L.length : Nat) : Int) = (R1.length : Int) by omega, er, Option.bind_some]
            exact hj7 k2 (by omega)
          · rw [decide_eq_false (by omega)]
            exact hj6n (.inr (List.length_eq_zero_iff.1 (by omega))) k' hk'
        · rw [if_neg (by omega)]
          exact hj6n (.inl (List.length_eq_zero_iff.1 (by omega))) k' hk'
      obtain ⟨k, rfl⟩ : ∃ k', k = k' + 1 := ⟨k - 1, by omega⟩
      have e22 : ((P.length + h : Nat) : Int) + ((P.length + L.length : Nat) : Int) - 1 = ((2 * P.length + h + L.length : Nat) : Int) - 1 := by omega
      by_cases c3 : h < L.length
      · rw [if_pos (by omega), api_Term_of_cost_normal_1_52.j4, wr (by omega), e22]
        exact bs3 hC P L R S h (h - R.length) h hL hR hsl hsr hl (Nat.le_refl _) (by omega) (by omega) _ (G + 3) (by omega) _ _ _ _ _ _ rfl (hcont (h - R.length) h (Nat.le_refl _) (by omega) (by omega) (.inr (by omega)) (.inl rfl)) N (h - R.length) h (by omega) (Nat.le_refl _) (by omega) (Nat.le_refl _) (fun t h5 h6 => by omega) (fun t h5 h6 => by omega) k (by omega) _ _ (by omega) rfl
      · rw [if_neg (by omega), api_Term_of_cost_normal_1_52.j4, wr (by omega), e22]
        exact bs3 hC P L R S h 0 L.length hL hR hsl hsr hl (by omega) (Nat.le_refl _) (by omega) _ (G + 3) (by omega) _ _ _ _ _ _ rfl (hcont 0 L.length (by omega) (Nat.le_refl _) (by omega) (.inl rfl) (.inr rfl)) N 0 L.length (by omega) (Nat.le_refl _) (Nat.zero_le _) (Nat.le_refl _) (fun t h5 h6 => by omega) (fun t h5 h6 => by omega) k (by omega) _ _ (by omega) rfl
end
end Sym
end Go.Proofs.Ytkkocmmilmbgpaa.S
end
section
namespace Go.Proofs.Ytkkocmmilmbgpaa.S
open Go.RowKit Go.Proofs.YtkkocmmilmbgpaaW.PrintWords
set_option linter.unusedVariables false
set_option linter.unusedSimpArgs false
namespace Sym
open Mg
inductive Blk (z : Nat) : List S39 → List S39 → Prop
  | last (xs : List S39) (h : xs.length ≤ z) : Blk z xs (st ltT xs)
  | cons (A xs ds : List S39) (h : A.length = z) (hb : Blk z xs ds) : Blk z (A ++ xs) (st ltT A ++ ds)
theorem Blk.len {z : Nat} {xs ds : List S39} (h : Blk z xs ds) : ds.length = xs.length := by
  induction h with
  | last xs h => exact st_len ltT xs
  | cons A xs ds h hb ih => rw [List.length_append, List.length_append, st_len, ih]
theorem Blk.nil {z : Nat} (hz : 0 < z) {ds : List S39} (h : Blk z [] ds) : ds = [] := List.length_eq_zero_iff.1 (by rw [h.len]; rfl)
theorem Blk.all {z : Nat} (hz : 0 < z) {xs ds : List S39} (h : Blk z xs ds) (hl : xs.length ≤ z) : ds = st ltT xs := by
  cases h with
  | last xs h => rfl
  | cons A xs ds h hb =>
    rw [List.length_append] at hl
    have e : xs = [] := List.length_eq_zero_iff.1 (by omega)
    subst e
    rw [hb.nil hz, List.append_nil, List.append_nil]
theorem l1_up (x : List S39) (n z : Int) (k : Nat) {r : List S39} : ∀ d, api_Term_of_cost_normal_1_49.l1 k x n z = some r → api_Term_of_cost_normal_1_49.l1 (k + d) x n z = some r
  | 0, h => h
  | d + 1, h => (api_Term_of_cost_normal_1_49.mono_l (k + d)).2.1 x n z r (l1_up x n z k d h)
section
variable {s : S39 → Prop} {K : Nat} (hC : Cmp s K)
include hC
theorem pass (n z : Nat) (hz : 0 < z) (hn : n < 1152921504606846976) (hzn : z < 1152921504606846976) : ∀ (N : Nat) (P ys ds : List S39), ys.length ≤ N → P.length + ys.length = n → (∀ x ∈ ys, s x) → Blk z ys ds →
    ∃ ds', Blk (2 * z) ys ds' ∧ ∀ (k : Nat) (r : List S39), K + gN n ≤ k → api_Term_of_cost_normal_1_49.l1 k (P ++ ds') (n : Int) ((2 * z : Nat) : Int) = some r →
      ∀ a b : Int, a = P.length → b = ((P.length + 2 * z : Nat) : Int) → api_Term_of_cost_normal_1_49.l2 (k + N + 1) (P ++ ds) (n : Int) (z : Int) a b = some r := by
  intro N
  induction N using Nat.strongRecOn with
  | _ N ih =>
  intro P ys ds hN hP hs hB
  have hgm : ∀ q, q ≤ n → gN q ≤ gN n := fun q hq => by
    rcases Nat.eq_or_lt_of_le hq with e | e
    · rw [e]; exact Nat.le_refl _
    · have := gN_lt e; omega
  have mrg : ∀ (L R S : List S39), (∀ x ∈ L, s x) → (∀ x ∈ R, s x) → 0 < L.length → 0 < R.length → P.length + (L.length + (R.length + S.length)) = n → ∀ k, K + gN n ≤ k → ∀ a m b : Int, a = ((P.length : Nat) : Int) → m = ((P.length + L.length : Nat) : Int) → b = ((P.length + L.length + R.length : Nat) : Int) →
      api_Term_of_cost_normal_1_52.f k (P ++ (st ltT L ++ (st ltT R ++ S))) a m b = some (P ++ (st ltT (L ++ R) ++ S)) := by
    intro L R S h1 h2 h3 h4 h5 k hk a m b ea em eb
    have e := sym_eq hC (L.length + R.length) P (st ltT L) (st ltT R) S (by rw [st_len, st_len]) (by rw [st_len]; exact h3) (by rw [st_len]; exact h4) (fun x hx => h1 x ((st_mem ltT).1 hx)) (fun x hx => h2 x ((st_mem ltT).1 hx)) (st_sorted ltT hC.ord L h1) (st_sorted ltT hC.ord R h2) (by simp only [List.length_append, st_len]; omega) k (by have := hgm (L.length + R.length) (by omega); omega) a m b ea (by rw [st_len]; exact em) (by rw [st_len, st_len]; exact eb)
    rw [e, st_append ltT hC.ord L R h1 h2]
  cases hB with
  | last _ h =>
    refine ⟨st ltT ys, .last ys (by omega), fun k r hk hr a b ea eb => ?_⟩
    rw [api_Term_of_cost_normal_1_49.l2, if_neg (by omega), if_neg (by rw [wr (by omega)]; omega), wr (by omega), show ((z : Nat) : Int) * 2 = ((2 * z : Nat) : Int) by omega]
    exact l1_up _ _ _ k N hr
  | cons A xs1 ds1 hA hb =>
    rw [List.length_append] at hN hP
    have sA : ∀ x ∈ A, s x := fun x hx => hs x (List.mem_append_left _ hx)
    have s1 : ∀ x ∈ xs1, s x := fun x hx => hs x (List.mem_append_right _ hx)
    cases hb with
    | last _ h =>
      by_cases c1 : xs1.length = z
      · obtain ⟨ds', hd, hk'⟩ := ih (N - 2 * z) (by omega) (P ++ st ltT (A ++ xs1)) [] [] (Nat.zero_le _) (by rw [List.length_append, st_len, List.length_append]; simp; omega) (fun x hx => by cases hx) (.last [] (Nat.zero_le _))
        have e0 : ds' = [] := hd.nil (by omega)
        subst e0
        refine ⟨st ltT (A ++ xs1), .last _ (by rw [List.length_append]; omega), fun k r hk hr a b ea eb => ?_⟩
        have e := mrg A xs1 [] sA s1 (by omega) (by omega) (by simp; omega) (k + N) (by omega) a (a + z) b ea (by omega) (by omega)
        rw [List.append_nil, List.append_nil] at e
        rw [api_Term_of_cost_normal_1_49.l2, if_pos (by omega), wr (by omega), e, Option.bind_some, wr (x := 2 * (z : Int)) (by omega), wr (by omega)]
        have e2 := hk' k r hk (by rw [List.append_nil]; exact hr) b (b + 2 * (z : Int)) (by rw [List.length_append, st_len, List.length_append]; omega) (by rw [List.length_append, st_len, List.length_append]; omega)
        rw [List.append_nil] at e2
        have e3 : ∀ d, api_Term_of_cost_normal_1_49.l2 (k + (N - 2 * z) + 1 + d) (P ++ st ltT (A ++ xs1)) (n : Int) (z : Int) b (b + 2 * (z : Int)) = some r := by
          intro d
          induction d with
          | zero => exact e2
          | succ d ihd => exact (api_Term_of_cost_normal_1_49.mono_l _).2.2 _ _ _ _ _ r ihd
        have := e3 (2 * z - 1)
        rw [show k + (N - 2 * z) + 1 + (2 * z - 1) = k + N by omega] at this
        exact this
      · refine ⟨st ltT (A ++ xs1), .last _ (by rw [List.length_append]; omega), fun k r hk hr a b ea eb => ?_⟩
        rw [api_Term_of_cost_normal_1_49.l2, if_neg (by omega), wr (x := a + (z : Int)) (by omega), wr (x := (z : Int) * 2) (by omega), show ((z : Nat) : Int) * 2 = ((2 * z : Nat) : Int) by omega]
        by_cases c2 : 0 < xs1.length
        · have e := mrg A xs1 [] sA s1 (by omega) c2 (by simp; omega) (k + N) (by omega) a (a + z) (n : Int) ea (by omega) (by omega)
          rw [List.append_nil, List.append_nil] at e
          rw [if_pos (by omega), e, Option.bind_some]
          exact l1_up _ _ _ k N hr
        · have e0 : xs1 = [] := List.length_eq_zero_iff.1 (by omega)
          subst e0
          rw [if_neg (by omega), show st ltT ([] : List S39) = [] from rfl, List.append_nil]
          rw [List.append_nil] at hr
          exact l1_up _ _ _ k N hr
    | cons B xs2 ds2 hB2 hb2 =>
      rw [List.length_append] at hN hP
      have sB : ∀ x ∈ B, s x := fun x hx => s1 x (List.mem_append_left _ hx)
      have s2 : ∀ x ∈ xs2, s x := fun x hx => s1 x (List.mem_append_right _ hx)
      obtain ⟨ds', hd, hk'⟩ := ih (N - 2 * z) (by omega) (P ++ st ltT (A ++ B)) xs2 ds2 (by omega) (by rw [List.length_append, st_len, List.length_append]; omega) s2 hb2
      refine ⟨st ltT (A ++ B) ++ ds', by rw [← List.append_assoc A B xs2]; exact .cons (A ++ B) xs2 ds' (by rw [List.length_append]; omega) hd, fun k r hk hr a b ea eb => ?_⟩
      have e := mrg A B ds2 sA sB (by omega) (by omega) (by rw [hb2.len]; omega) (k + N) (by omega) a (a + z) b ea (by omega) (by omega)
      rw [api_Term_of_cost_normal_1_49.l2, if_pos (by omega), wr (x := a + (z : Int)) (by omega), e, Option.bind_some, wr (x := 2 * (z : Int)) (by omega), wr (by omega)]
      have e2 := hk' k r hk (by rw [List.append_assoc]; exact hr) b (b + 2 * (z : Int)) (by rw [List.length_append, st_len, List.length_append]; omega) (by rw [List.length_append, st_len, List.length_append]; omega)
      rw [List.append_assoc] at e2
      have e3 : ∀ d, api_Term_of_cost_normal_1_49.l2 (k + (N - 2 * z) + 1 + d) (P ++ (st ltT (A ++ B) ++ ds2)) (n : Int) (z : Int) b (b + 2 * (z : Int)) = some r := by
        intro d
        induction d with
        | zero => exact e2
        | succ d ihd => exact (api_Term_of_cost_normal_1_49.mono_l _).2.2 _ _ _ _ _ r ihd
      have := e3 (2 * z - 1)
      rw [show k + (N - 2 * z) + 1 + (2 * z - 1) = k + N by omega] at this
      exact this
theorem merge_all (n : Nat) (hn : n < 1152921504606846976) (xs : List S39) (hx : xs.length = n) (hs : ∀ x ∈ xs, s x) : ∀ (e z : Nat) (ds : List S39), 0 < z → n ≤ z * 2 ^ e → Blk z xs ds → ∀ k, K + gN n + (n + 2) * (e + 1) ≤ k →
    api_Term_of_cost_normal_1_49.l1 k ds (n : Int) (z : Int) = some (st ltT xs)
  | 0, z, ds, hz, h, hB, k, hk => by
    obtain ⟨k, rfl⟩ : ∃ k', k = k' + 1 := ⟨k - 1, by omega⟩
    rw [api_Term_of_cost_normal_1_49.l1, if_neg (by omega), hB.all hz (by omega)]
  | e + 1, z, ds, hz, h, hB, k, hk => by
    rw [Nat.mul_add] at hk
    obtain ⟨k, rfl⟩ : ∃ k', k = k' + 1 := ⟨k - 1, by omega⟩
    rw [api_Term_of_cost_normal_1_49.l1]
    by_cases c : z < n
    · obtain ⟨ds', hd, hk'⟩ := pass hC n z hz hn (by omega) n [] xs ds (by omega) (by simpa using hx) hs hB
      obtain ⟨k2, e2⟩ : ∃ k2, k = k2 + n + 1 := ⟨k - n - 1, by omega⟩
      rw [if_pos (by omega), wr (by omega), e2]
      exact hk' k2 _ (by omega) (merge_all n hn xs hx hs e (2 * z) ds' (by omega) (by rw [Nat.pow_succ] at h; rw [Nat.mul_comm 2 z, Nat.mul_assoc, Nat.mul_comm 2]; exact h) hd k2 (by omega)) 0 (2 * (z : Int)) (by simp) (by simp)
    · rw [if_neg (by omega), hB.all hz (by omega)]
omit hC in
theorem phase0 (hI : ∀ (P B S : List S39), (∀ x ∈ B, s x) → P.length + (B.length + S.length) < 1152921504606846976 → ∀ a b : Int, a = P.length → b = ((P.length + B.length : Nat) : Int) → api_Term_of_cost_normal_1_51.f (P ++ (B ++ S)) a b = some (P ++ (st ltT B ++ S)))
    (n : Nat) (hn : n < 1152921504606846976) : ∀ (N : Nat) (P ys : List S39), ys.length ≤ N → P.length + ys.length = n → (∀ x ∈ ys, s x) →
      ∃ ds, Blk 20 ys ds ∧ ∀ (k : Nat) (r : List S39), api_Term_of_cost_normal_1_49.l1 k (P ++ ds) (n : Int) 20 = some r → ∀ a b : Int, a = P.length → b = ((P.length + 20 : Nat) : Int) →
        api_Term_of_cost_normal_1_49.l0 (k + N + 1) (P ++ ys) (n : Int) 20 a b = some r := by
  intro N
  induction N using Nat.strongRecOn with
  | _ N ih =>
  intro P ys hN hP hs
  by_cases c : 20 ≤ ys.length
  · obtain ⟨B, xs, rfl, hB⟩ : ∃ B xs, ys = B ++ xs ∧ B.length = 20 := ⟨ys.take 20, ys.drop 20, (List.take_append_drop _ _).symm, by rw [List.length_take]; omega⟩
    rw [List.length_append] at hN hP
    have sB : ∀ x ∈ B, s x := fun x hx => hs x (List.mem_append_left _ hx)
    obtain ⟨ds, hd, hk'⟩ := ih (N - 20) (by omega) (P ++ st ltT B) xs (by omega) (by rw [List.length_append, st_len]; omega) (fun x hx => hs x (List.mem_append_right _ hx))
    refine ⟨st ltT B ++ ds, .cons B xs ds hB hd, fun k r hr a b ea eb => ?_⟩
    rw [api_Term_of_cost_normal_1_49.l0, if_pos (by omega), hI P B xs sB (by omega) a b ea (by omega), Option.bind_some, wr (by omega)]
    have e2 := hk' k r (by rw [List.append_assoc]; exact hr) b (b + 20) (by rw [List.length_append, st_len]; omega) (by rw [List.length_append, st_len]; omega)
    rw [List.append_assoc] at e2
    have e3 : ∀ d, api_Term_of_cost_normal_1_49.l0 (k + (N - 20) + 1 + d) (P ++ (st ltT B ++ xs)) (n : Int) 20 b (b + 20) = some r := by
      intro d
      induction d with
      | zero => exact e2
      | succ d ihd => exact (api_Term_of_cost_normal_1_49.mono_l _).1 _ _ _ _ _ r ihd
    have := e3 19
    rw [show k + (N - 20) + 1 + 19 = k + N by omega] at this
    exact this
  · refine ⟨st ltT ys, .last ys (by omega), fun k r hr a b ea eb => ?_⟩
    have e := hI P ys [] hs (by simp only [List.length_nil]; omega) a (n : Int) ea (by omega)
    rw [List.append_nil, List.append_nil] at e
    rw [api_Term_of_cost_normal_1_49.l0, if_neg (by omega), e, Option.bind_some]
    exact l1_up _ _ _ k N hr
theorem stable_eq (hI : ∀ (P B S : List S39), (∀ x ∈ B, s x) → P.length + (B.length + S.length) < 1152921504606846976 → ∀ a b : Int, a = P.length → b = ((P.length + B.length : Nat) : Int) → api_Term_of_cost_normal_1_51.f (P ++ (B ++ S)) a b = some (P ++ (st ltT B ++ S)))
    (xs : List S39) (hn : xs.length < 1152921504606846976) (hs : ∀ x ∈ xs, s x) (k : Nat) (hk : K + gN xs.length + (xs.length + 2) * 61 + xs.length + 1 ≤ k) :
    api_Term_of_cost_normal_1_49.f k xs (xs.length : Int) = some (st ltT xs) := by
  obtain ⟨ds, hd, hk'⟩ := phase0 hI xs.length hn xs.length [] xs (Nat.le_refl _) (by simp) hs
  obtain ⟨k2, rfl⟩ : ∃ k2, k = k2 + xs.length + 1 := ⟨k - xs.length - 1, by omega⟩
  have e := merge_all hC xs.length hn xs rfl hs 60 20 ds (by decide) (by omega) hd k2 (by omega)
  exact hk' k2 _ e 0 20 (by simp) (by simp)
end
end Sym
end Go.Proofs.Ytkkocmmilmbgpaa.S
end
section
namespace Go.Proofs.Ytkkocmmilmbgpaa.S
open Go.RowKit Go.Proofs.YtkkocmmilmbgpaaW.PrintWords
set_option linter.unusedVariables false
set_option linter.unusedSimpArgs false
namespace Sym
open Mg
theorem get_list (l : List S39) (i : Nat) : l.toArray[i]! = l.getD i z39 := by
  by_cases h : i < l.length
  · rw [getElem!_pos l.toArray i (by simpa using h), List.getD_eq_getElem?_getD, List.getElem?_eq_getElem h]
    simp
  · rw [getElem!_neg l.toArray i (by simpa using h), List.getD_eq_getElem?_getD, List.getElem?_eq_none (by omega)]
    rfl
theorem swp_list (l : List S39) (i j : Nat) : Sort.swp l.toArray i j = (sw z39 l i j).toArray := by
  unfold Sort.swp sw
  rw [get_list, get_list, List.setIfInBounds_toArray, List.setIfInBounds_toArray]
theorem sw_adj (P X : List S39) (x r : S39) : sw z39 (P ++ (x :: (r :: X))) (P.length + 1) P.length = P ++ (r :: (x :: X)) := by
  unfold sw
  have e0 := getR (P := P) (X := x :: (r :: X)) 0
  rw [Nat.add_zero] at e0
  rw [e0, getR 1, List.set_append_right _ _ (by omega), show P.length + 1 - P.length = 1 by omega, List.set_append_right _ _ (Nat.le_refl _), Nat.sub_self]
  rfl
theorem st_one (x : S39) : st ltT [x] = [x] := by
  rw [st, st, mg_nil2]
theorem ogo (a b i : Nat) (d : Array S39) (h : i < b) : Sort.insOuter ltT a b i d = Sort.insOuter ltT a b (i + 1) (Sort.insInner ltT a i d) := by rw [Sort.insOuter, if_pos h]
theorem ostop (a b i : Nat) (d : Array S39) (h : ¬ i < b) : Sort.insOuter ltT a b i d = d := by rw [Sort.insOuter, if_neg h]
section
variable {s : S39 → Prop} (ho : Ord ltT s)
include ho
theorem inner_eq (P : List S39) (x : S39) (hx : s x) : ∀ (n : Nat) (Q T : List S39), Q.length = n → (∀ y ∈ Q, s y) → Sorted ltT Q →
    Sort.insInner ltT P.length (P.length + n) (P ++ (Q ++ (x :: T))).toArray = (P ++ (mg ltT Q [x] ++ T)).toArray
  | 0, Q, T, hn, hs, hq => by
    have e : Q = [] := List.length_eq_zero_iff.1 hn
    subst e
    rw [mg_nil, Nat.add_zero]
    cases hP : P.length with
    | zero => rfl
    | succ j =>
      unfold Sort.insInner
      rw [if_neg (by simp)]
      rfl
  | n + 1, Q, T, hn, hs, hq => by
    obtain ⟨Q', y, rfl⟩ : ∃ L l, Q = L ++ [l] := ⟨Q.dropLast, Q.getLast (by intro e; rw [e] at hn; simp at hn), (List.dropLast_concat_getLast _).symm⟩
    have hQ : Q'.length = n := by rw [List.length_append, List.length_singleton] at hn; omega
    have sy : s y := hs y (List.mem_append_right _ (List.mem_singleton.2 rfl))
    have sQ : ∀ z ∈ Q', s z := fun z hz => hs z (List.mem_append_left _ hz)
    obtain ⟨o1, o2, o3⟩ := List.pairwise_append.1 hq
    have eD : P ++ ((Q' ++ [y]) ++ (x :: T)) = (P ++ Q') ++ (y :: (x :: T)) := by simp only [List.append_assoc, List.cons_append, List.nil_append]
    have hl : (P ++ Q').length = P.length + n := by rw [List.length_append, hQ]
    have g1 : (P ++ ((Q' ++ [y]) ++ (x :: T))).toArray[P.length + n + 1]! = x := by
      rw [get_list, eD, ← hl, getR 1]; rfl
    have g0 : (P ++ ((Q' ++ [y]) ++ (x :: T))).toArray[P.length + n]! = y := by
      rw [get_list, eD]
      have e0 := getR (P := P ++ Q') (X := y :: (x :: T)) 0
      rw [Nat.add_zero, hl] at e0
      rw [e0]; rfl
    rw [show P.length + (n + 1) = (P.length + n) + 1 by omega]
    unfold Sort.insInner
    rw [g1, g0]
    cases hc : ltT x y with
    | true =>
      rw [if_pos (by simp; omega), swp_list, eD]
      have ea := sw_adj (P ++ Q') T y x
      rw [hl] at ea
      rw [ea, List.append_assoc, inner_eq P x hx n Q' (y :: T) hQ sQ o1]
      have e := mg_split ltT [y] [] _ Q' [x] (Nat.le_refl _) (fun l hl r hr => by cases hr) (fun r hr l hl => by rw [List.mem_singleton.1 hr, List.mem_singleton.1 hl]; exact hc)
      rw [List.append_nil, mg_nil2] at e
      rw [e, List.append_assoc]
      rfl
    | false =>
      rw [if_neg (by simp)]
      have e := mg_two (L := Q' ++ [y]) (y := x) (i := (Q' ++ [y]).length) (fun t h1 h2 => by
        have hm := getM h2
        rcases List.mem_append.1 hm with h | h
        · exact ho.tr _ y x (sQ _ h) sy hx (o3 _ h y (List.mem_singleton.2 rfl)) hc
        · rw [List.mem_singleton.1 h]; exact hc) (fun t h1 h2 => by omega)
      rw [List.take_length, List.drop_length] at e
      rw [e]
      simp only [List.append_assoc, List.cons_append, List.nil_append]
theorem outer_eq (P S : List S39) (b : Nat) : ∀ (B2 B1 : List S39), (∀ y ∈ B1, s y) → (∀ y ∈ B2, s y) → b = P.length + B1.length + B2.length →
    Sort.insOuter ltT P.length b (P.length + B1.length) (P ++ (st ltT B1 ++ (B2 ++ S))).toArray = (P ++ (st ltT (B1 ++ B2) ++ S)).toArray
  | [], B1, h1, h2, hb => by
    rw [ostop _ _ _ _ (by simp at hb; omega), List.append_nil]
    rfl
  | x :: B2, B1, h1, h2, hb => by
    have hx := h2 x List.mem_cons_self
    rw [ogo _ _ _ _ (by simp at hb; omega), List.cons_append]
    have e := inner_eq ho P x hx B1.length (st ltT B1) (B2 ++ S) (st_len ltT B1) (fun y hy => h1 y ((st_mem ltT).1 hy)) (st_sorted ltT ho B1 h1)
    rw [e]
    have e2 := st_append ltT ho B1 [x] h1 (fun y hy => by rw [List.mem_singleton.1 hy]; exact hx)
    rw [st_one] at e2
    rw [← e2]
    have e3 := outer_eq P S b B2 (B1 ++ [x]) (fun y hy => by
      rcases List.mem_append.1 hy with h | h
      · exact h1 y h
      · rw [List.mem_singleton.1 h]; exact hx) (fun y hy => h2 y (List.mem_cons_of_mem _ hy)) (by rw [List.length_append, List.length_singleton, hb, List.length_cons]; omega)
    rw [List.length_append, List.length_singleton, List.append_assoc B1, List.singleton_append] at e3
    exact e3
theorem ins_eq (P B S : List S39) (hs : ∀ x ∈ B, s x) (hl : P.length + (B.length + S.length) < 1152921504606846976) (a b : Int) (ha : a = P.length) (hb : b = ((P.length + B.length : Nat) : Int)) : api_Term_of_cost_normal_1_51.f (P ++ (B ++ S)) a b = some (P ++ (st ltT B ++ S)) := by
  unfold api_Term_of_cost_normal_1_51.f
  rw [if_pos (by simp only [List.length_append]; omega), ha, hb, Int.toNat_natCast, Int.toNat_natCast]
  unfold Sort.insertionSort
  match B, hs, hl with
  | [], _, _ =>
    rw [ostop _ _ _ _ (by simp)]
    rfl
  | x :: B, hs, _ =>
    have e := outer_eq ho P S (P.length + (x :: B).length) B [x] (fun y hy => by rw [List.mem_singleton.1 hy]; exact hs x List.mem_cons_self) (fun y hy => hs y (List.mem_cons_of_mem _ hy)) (by simp; omega)
    rw [st_one, List.length_singleton, List.singleton_append] at e
    rw [List.cons_append]
    rw [List.singleton_append] at e
    rw [e]
end
end Sym
end Go.Proofs.Ytkkocmmilmbgpaa.S
end
section
namespace Go.Proofs.Ytkkocmmilmbgpaa.S
open Go.RowKit Go.Proofs.YtkkocmmilmbgpaaW.PrintWords
set_option linter.unusedVariables false
set_option linter.unusedSimpArgs false
namespace Sym
open Mg
def okF (a : List Int) : Prop := a.length ≤ 256 ∧ ∀ e ∈ a, 0 ≤ e ∧ e ≤ 128
def okT (x : S39) : Prop := okF x.f1
def sumI : List Int → Int
  | [] => 0
  | x :: l => x + sumI l
theorem sumI_b : ∀ (a : List Int), (∀ e ∈ a, 0 ≤ e ∧ e ≤ 128) → 0 ≤ sumI a ∧ sumI a ≤ 128 * (a.length : Int)
  | [], _ => ⟨by simp [sumI], by simp [sumI]⟩
  | x :: a, h => by
    have h1 := h x List.mem_cons_self
    have h2 := sumI_b a (fun e he => h e (List.mem_cons_of_mem _ he))
    rw [sumI, List.length_cons]
    omega
theorem sumW_eq : ∀ (a : List Int) (x : Int), 0 ≤ x → x + 128 * (a.length : Int) ≤ 1000000 → (∀ e ∈ a, 0 ≤ e ∧ e ≤ 128) → sumW x a = x + sumI a
  | [], x, _, _, _ => by rw [sumW, sumI]; omega
  | y :: a, x, hx, hl, h => by
    have h1 := h y List.mem_cons_self
    rw [List.length_cons] at hl
    rw [sumW, wr (by omega), sumW_eq a (x + y) (by omega) (by omega) (fun e he => h e (List.mem_cons_of_mem _ he)), sumI]
    omega
def pad : Nat → List Int → List Int
  | 0, _ => []
  | n + 1, [] => 0 :: pad n []
  | n + 1, x :: a => x :: pad n a
theorem pad_len : ∀ (n : Nat) (a : List Int), (pad n a).length = n
  | 0, _ => rfl
  | n + 1, [] => by rw [pad, List.length_cons, pad_len n]
  | n + 1, x :: a => by rw [pad, List.length_cons, pad_len n]
def cmpP : List Int → List Int → Int
  | x :: a, y :: b => if x = y then cmpP a b else y - x
  | _, _ => 0
theorem cmpT_pad : ∀ (n : Nat) (a b : List Int), a.length ≤ n → b.length ≤ n → (∀ e ∈ a, 0 ≤ e ∧ e ≤ 128) → (∀ e ∈ b, 0 ≤ e ∧ e ≤ 128) → cmpT a b = cmpP (pad n a) (pad n b)
  | 0, [], [], _, _, _, _ => rfl
  | 0, x :: a, _, h, _, _, _ => by simp at h
  | 0, [], y :: b, _, h, _, _ => by simp at h
  | n + 1, [], [], h1, h2, g1, g2 => by
    rw [pad, cmpP, if_pos rfl, ← cmpT_pad n [] [] (Nat.zero_le _) (Nat.zero_le _) g1 g2]
  | n + 1, [], y :: b, h1, h2, g1, g2 => by
    have hy := g2 y List.mem_cons_self
    have e := cmpT_pad n [] b (Nat.zero_le _) (by simpa using h2) g1 (fun e he => g2 e (List.mem_cons_of_mem _ he))
    rw [cmpT] at e
    rw [pad, pad, cmpP, cmpT, cmpN, e, wr (by omega)]
  | n + 1, x :: a, [], h1, h2, g1, g2 => by
    have hx := g1 x List.mem_cons_self
    have e := cmpT_pad n a [] (by simpa using h1) (Nat.zero_le _) (fun e he => g1 e (List.mem_cons_of_mem _ he)) g2
    rw [pad, pad, cmpP, cmpT, e, wr (by omega)]
  | n + 1, x :: a, y :: b, h1, h2, g1, g2 => by
    have hx := g1 x List.mem_cons_self
    have hy := g2 y List.mem_cons_self
    have e := cmpT_pad n a b (by simpa using h1) (by simpa using h2) (fun e he => g1 e (List.mem_cons_of_mem _ he)) (fun e he => g2 e (List.mem_cons_of_mem _ he))
    rw [pad, pad, cmpP, cmpT, e, wr (by omega)]
theorem cmpP_neg : ∀ (a b : List Int), cmpP b a = - cmpP a b
  | [], [] => rfl
  | [], y :: b => by simp [cmpP]
  | x :: a, [] => by simp [cmpP]
  | x :: a, y :: b => by
    rw [cmpP, cmpP]
    by_cases h : x = y
    · rw [if_pos h.symm, if_pos h, cmpP_neg a b]
    · rw [if_neg (fun e => h e.symm), if_neg h]; omega
theorem cmpP_tr : ∀ (n : Nat) (a b c : List Int), a.length = n → b.length = n → c.length = n → 0 ≤ cmpP b a → 0 ≤ cmpP c b → 0 ≤ cmpP c a
  | 0, a, b, c, ha, hb, hc, _, _ => by
    rw [List.length_eq_zero_iff.1 ha, List.length_eq_zero_iff.1 hc]
    simp [cmpP]
  | n + 1, x :: a, y :: b, z :: c, ha, hb, hc, h1, h2 => by
    rw [cmpP] at h1 h2 ⊢
    by_cases e1 : y = x
    · rw [if_pos e1] at h1
      by_cases e2 : z = y
      · rw [if_pos e2] at h2
        rw [if_pos (e2.trans e1)]
        exact cmpP_tr n a b c (by simpa using ha) (by simpa using hb) (by simpa using hc) h1 h2
      · rw [if_neg e2] at h2
        rw [if_neg (fun e => e2 (e.trans e1.symm))]
        omega
    · rw [if_neg e1] at h1
      by_cases e2 : z = y
      · rw [if_neg (fun e => e1 (e2.symm.trans e))]; omega
      · rw [if_neg e2] at h2
        rw [if_neg (by omega)]; omega
  | n + 1, [], _, _, ha, _, _, _, _ => by simp at ha
  | n + 1, _ :: _, [], _, _, hb, _, _, _ => by simp at hb
  | n + 1, _ :: _, _ :: _, [], _, _, hc, _, _ => by simp at hc
theorem ordT_eq {a b : List Int} (ha : okF a) (hb : okF b) : ordT a b = if sumI a = sumI b then cmpP (pad 256 a) (pad 256 b) else sumI b - sumI a := by
  have b1 := sumI_b a ha.2
  have b2 := sumI_b b hb.2
  have l1 := ha.1
  have l2 := hb.1
  unfold ordT
  rw [sumW_eq a 0 (by omega) (by omega) ha.2, sumW_eq b 0 (by omega) (by omega) hb.2, Int.zero_add, Int.zero_add, cmpT_pad 256 a b ha.1 hb.1 ha.2 hb.2]
  split
  · rfl
  · rw [wr (by omega)]
theorem okT_ord : Ord ltT okT := by
  refine ⟨fun x y hx hy h => ?_, fun x y z hx hy hz h1 h2 => ?_⟩
  · unfold ltT at h ⊢
    have h' := of_decide_eq_true h
    refine decide_eq_false ?_
    rw [ordT_eq hx hy] at h'
    rw [ordT_eq hy hx]
    have hn := cmpP_neg (pad 256 x.f1) (pad 256 y.f1)
    split at h'
    · rename_i e; rw [if_pos e.symm]; omega
    · rename_i e; rw [if_neg (fun e2 => e e2.symm)]; omega
  · unfold ltT at h1 h2 ⊢
    have h1' := of_decide_eq_false h1
    have h2' := of_decide_eq_false h2
    refine decide_eq_false ?_
    rw [ordT_eq hy hx] at h1'
    rw [ordT_eq hz hy] at h2'
    rw [ordT_eq hz hx]
    have ht := cmpP_tr 256 (pad 256 x.f1) (pad 256 y.f1) (pad 256 z.f1) (pad_len _ _) (pad_len _ _) (pad_len _ _)
    by_cases e1 : sumI y.f1 = sumI x.f1
    · rw [if_pos e1] at h1'
      by_cases e2 : sumI z.f1 = sumI y.f1
      · rw [if_pos e2] at h2'
        rw [if_pos (e2.trans e1)]
        have := ht (by omega) (by omega)
        omega
      · rw [if_neg e2] at h2'
        rw [if_neg (fun e => e2 (e.trans e1.symm))]
        omega
    · rw [if_neg e1] at h1'
      by_cases e2 : sumI z.f1 = sumI y.f1
      · rw [if_neg (fun e => e1 (e2.symm.trans e))]; omega
      · rw [if_neg e2] at h2'
        rw [if_neg (by omega)]; omega
theorem okT_cmp : Cmp okT 2060 := ⟨fun x y hx hy k hk => by
  have l1 := hx.1
  have l2 := hy.1
  unfold cost_normal_1.f
  rw [order_eq x.f1 y.f1 (by omega) (by omega) k (by omega)]
  rfl, okT_ord⟩
theorem stable_terms (xs : List S39) (hn : xs.length < 1152921504606846976) (hs : ∀ x ∈ xs, okT x) (k : Nat) (hk : 2060 + gN xs.length + (xs.length + 2) * 61 + xs.length + 1 ≤ k) :
    api_Term_of_cost_normal_1_49.f k xs (xs.length : Int) = some (st ltT xs) :=
  stable_eq okT_cmp (fun P B S h hl a b ha hb => ins_eq okT_ord P B S h hl a b ha hb) xs hn hs k hk
end Sym
end Go.Proofs.Ytkkocmmilmbgpaa.S
end
section
namespace Go.Proofs.Ytkkocmmilmbgpaa.S
open Go.RowKit Go.Proofs.YtkkocmmilmbgpaaW.PrintWords
set_option linter.unusedVariables false
set_option linter.unusedSimpArgs false
namespace Nf
open Mg Sym
def tr : List Int → List Int
  | [] => []
  | x :: a => if x = 0 ∧ tr a = [] then [] else x :: tr a
theorem tr_snoc0 : ∀ a : List Int, tr (a ++ [0]) = tr a
  | [] => rfl
  | x :: a => by rw [List.cons_append, tr, tr, tr_snoc0 a]
theorem tr_snoc {x : Int} (hx : x ≠ 0) : ∀ a : List Int, tr (a ++ [x]) = a ++ [x]
  | [] => by rw [List.nil_append, tr, if_neg (fun h => hx h.1)]; rfl
  | y :: a => by rw [List.cons_append, tr, tr_snoc hx a, if_neg (fun h => by simp at h)]
theorem tr_tr : ∀ a : List Int, tr (tr a) = tr a
  | [] => rfl
  | x :: a => by
    rw [tr]
    by_cases h : x = 0 ∧ tr a = []
    · rw [if_pos h]; rfl
    · rw [if_neg h, tr, tr_tr a, if_neg h]
theorem tr_len : ∀ a : List Int, (tr a).length ≤ a.length
  | [] => Nat.le_refl _
  | x :: a => by
    rw [tr]
    have := tr_len a
    split
    · simp
    · simp; omega
theorem tr_mem : ∀ (a : List Int) (e : Int), e ∈ tr a → e ∈ a
  | [], e, h => h
  | x :: a, e, h => by
    rw [tr] at h
    split at h
    · cases h
    · rcases List.mem_cons.1 h with h | h
      · rw [h]; exact List.mem_cons_self
      · exact List.mem_cons_of_mem _ (tr_mem a e h)
theorem okF_tr {a : List Int} (h : okF a) : okF (tr a) := ⟨Nat.le_trans (tr_len a) h.1, fun e he => h.2 e (tr_mem a e he)⟩
theorem pad_tr : ∀ (n : Nat) (a : List Int), pad n (tr a) = pad n a
  | 0, _ => by rw [pad, pad]
  | n + 1, [] => rfl
  | n + 1, x :: a => by
    rw [tr]
    by_cases h : x = 0 ∧ tr a = []
    · rw [if_pos h, pad, pad, h.1, ← pad_tr n a, h.2]
    · rw [if_neg h, pad, pad, pad_tr n a]
theorem tr_pad : ∀ (n : Nat) (a : List Int), a.length ≤ n → tr (pad n a) = tr a
  | 0, [], _ => rfl
  | 0, _ :: _, h => by simp at h
  | n + 1, [], _ => by
    have h := tr_pad n [] (Nat.zero_le _)
    rw [pad]
    simp [tr, h]
  | n + 1, x :: a, h => by rw [pad, tr, tr, tr_pad n a (by simpa using h)]
theorem sumI_tr : ∀ a : List Int, sumI (tr a) = sumI a
  | [] => rfl
  | x :: a => by
    have h2 := sumI_tr a
    rw [tr]
    by_cases h : x = 0 ∧ tr a = []
    · rw [if_pos h, sumI, sumI, ← h2, h.2, h.1]; rfl
    · rw [if_neg h, sumI, sumI, h2]
theorem cmpP_zero : ∀ (a b : List Int), a.length = b.length → cmpP a b = 0 → a = b
  | [], [], _, _ => rfl
  | [], _ :: _, h, _ => by simp at h
  | _ :: _, [], h, _ => by simp at h
  | x :: a, y :: b, h, hz => by
    rw [cmpP] at hz
    by_cases e : x = y
    · rw [if_pos e] at hz
      rw [e, cmpP_zero a b (by simpa using h) hz]
    · rw [if_neg e] at hz
      exact absurd (show x = y by omega) e
theorem cmpP_self : ∀ a : List Int, cmpP a a = 0
  | [] => rfl
  | x :: a => by rw [cmpP, if_pos rfl, cmpP_self a]
theorem ord_zero {a b : List Int} (ha : okF a) (hb : okF b) : ordT a b = 0 ↔ tr a = tr b := by
  rw [ordT_eq ha hb]
  constructor
  · intro h
    by_cases e : sumI a = sumI b
    · rw [if_pos e] at h
      have := cmpP_zero _ _ (by rw [pad_len, pad_len]) h
      rw [← tr_pad 256 a ha.1, this, tr_pad 256 b hb.1]
    · rw [if_neg e] at h; omega
  · intro h
    have e : sumI a = sumI b := by rw [← sumI_tr a, h, sumI_tr]
    have e2 : pad 256 a = pad 256 b := by rw [← pad_tr 256 a, h, pad_tr]
    rw [if_pos e, e2, cmpP_self]
theorem ord_neg {a b : List Int} (ha : okF a) (hb : okF b) : ordT b a = - ordT a b := by
  rw [ordT_eq ha hb, ordT_eq hb ha]
  by_cases e : sumI a = sumI b
  · rw [if_pos e, if_pos e.symm, cmpP_neg]
  · rw [if_neg e, if_neg (fun h => e h.symm)]; omega
theorem lt_of {x y : S39} (hx : okT x) (hy : okT y) (h1 : ordT x.f1 y.f1 ≠ 0) (h2 : ltT y x = false) : ltT x y = true := by
  have h3 := of_decide_eq_false h2
  rw [ord_neg hx hy] at h3
  exact decide_eq_true (by omega)
end Nf
end Go.Proofs.Ytkkocmmilmbgpaa.S
end
section
namespace Go.Proofs.Ytkkocmmilmbgpaa.S
open Go.RowKit Go.Proofs.YtkkocmmilmbgpaaW.PrintWords
set_option linter.unusedVariables false
set_option linter.unusedSimpArgs false
namespace Nf
open Mg Sym
def pl (a b : Int) : Int := ((min (a.toNat + b.toNat) (18446744073709551615 : Nat) : Nat) : Int)
def go : S39 → List S39 → List S39
  | c, [] => [c]
  | c, t :: ts => if ordT c.f1 t.f1 = 0 then go ⟨pl c.f0 t.f0, c.f1⟩ ts else c :: go t ts
def nf1 : List S39 → List S39
  | [] => []
  | c :: ts => go c ts
def pre (t : S39) : List S39 := if t.f0 > 0 then [⟨t.f0, tr t.f1⟩] else []
def prep (l : List S39) : List S39 := l.flatMap pre
def nf (l : List S39) : List S39 := nf1 (st ltT (prep l))
def okC (x : S39) : Prop := okT x ∧ tr x.f1 = x.f1 ∧ 1 ≤ x.f0 ∧ x.f0 ≤ 18446744073709551615
structure Nrm (l : List S39) : Prop where
  srt : l.Pairwise fun x y => ltT x y = true
  ok : ∀ x ∈ l, okC x
theorem go_nrm : ∀ (ts : List S39) (c : S39), Sorted ltT (c :: ts) → (∀ x ∈ c :: ts, okC x) → Nrm (go c ts) ∧ (∀ y ∈ go c ts, ∃ x ∈ c :: ts, y.f1 = x.f1) ∧ (go c ts).length ≤ ts.length + 1
  | [], c, _, hok => ⟨⟨List.pairwise_singleton _ _, fun x hx => hok x hx⟩, fun y hy => ⟨y, hy, rfl⟩, Nat.le_refl _⟩
  | t :: ts, c, hs, hok => by
    have hc := hok c List.mem_cons_self
    have ht := hok t (List.mem_cons_of_mem _ List.mem_cons_self)
    rw [Sorted, List.pairwise_cons] at hs
    obtain ⟨h1, h2⟩ := hs
    rw [go]
    by_cases e : ordT c.f1 t.f1 = 0
    · rw [if_pos e]
      rw [List.pairwise_cons] at h2
      have hpl : 1 ≤ pl c.f0 t.f0 ∧ pl c.f0 t.f0 ≤ 18446744073709551615 := by
        have := hc.2.2.1
        unfold pl; omega
      obtain ⟨r1, r2, r3⟩ := go_nrm ts ⟨pl c.f0 t.f0, c.f1⟩ (List.pairwise_cons.2 ⟨fun y hy => h1 y (List.mem_cons_of_mem _ hy), h2.2⟩) (fun x hx => by
        rcases List.mem_cons.1 hx with hx | hx
        · rw [hx]; exact ⟨hc.1, hc.2.1, hpl⟩
        · exact hok x (List.mem_cons_of_mem _ (List.mem_cons_of_mem _ hx)))
      refine ⟨r1, fun y hy => ?_, by simp only [List.length_cons]; omega⟩
      obtain ⟨x, hx, ex⟩ := r2 y hy
      rcases List.mem_cons.1 hx with hx | hx
      · exact ⟨c, List.mem_cons_self, by rw [ex, hx]⟩
      · exact ⟨x, List.mem_cons_of_mem _ (List.mem_cons_of_mem _ hx), ex⟩
    · rw [if_neg e]
      obtain ⟨r1, r2, r3⟩ := go_nrm ts t h2 (fun x hx => hok x (List.mem_cons_of_mem _ hx))
      refine ⟨⟨List.pairwise_cons.2 ⟨fun y hy => ?_, r1.srt⟩, fun x hx => ?_⟩, fun y hy => ?_, by simp only [List.length_cons]; omega⟩
      · obtain ⟨x, hx, ex⟩ := r2 y hy
        have hct : ltT c t = true := lt_of hc.1 ht.1 e (h1 t List.mem_cons_self)
        have hxok := hok x (List.mem_cons_of_mem _ hx)
        have hxt : ltT x t = false := by
          rcases List.mem_cons.1 hx with hx | hx
          · rw [hx]; exact Ord.refl ltT okT_ord t ht.1
          · exact (List.pairwise_cons.1 h2).1 x hx
        have := Ord.lt_le ltT okT_ord hc.1 ht.1 hxok.1 hct hxt
        unfold ltT at this ⊢
        rw [ex]; exact this
      · rcases List.mem_cons.1 hx with hx | hx
        · rw [hx]; exact hc
        · exact r1.ok x hx
      · rcases List.mem_cons.1 hy with hy | hy
        · exact ⟨c, List.mem_cons_self, by rw [hy]⟩
        · obtain ⟨x, hx, ex⟩ := r2 y hy
          exact ⟨x, List.mem_cons_of_mem _ hx, ex⟩
def S (φ : List Int → Nat) : List S39 → Nat
  | [] => 0
  | x :: l => x.f0.toNat * φ (tr x.f1) + S φ l
def tot : List S39 → Nat := S fun _ => 1
theorem S_append (φ : List Int → Nat) : ∀ a b : List S39, S φ (a ++ b) = S φ a + S φ b
  | [], b => by simp [S]
  | x :: a, b => by rw [List.cons_append, S, S, S_append φ a b]; omega
theorem S_mg (φ : List Int → Nat) : ∀ (n : Nat) (L R : List S39), L.length + R.length ≤ n → S φ (mg ltT L R) = S φ L + S φ R := by
  intro n
  induction n with
  | zero =>
    intro L R hn
    have h1 : L = [] := List.length_eq_zero_iff.1 (by omega)
    have h2 : R = [] := List.length_eq_zero_iff.1 (by omega)
    subst h1; subst h2
    rw [mg_nil]; rfl
  | succ n ih =>
    intro L R hn
    match L, R with
    | [], R => rw [mg_nil]; simp [S]
    | l :: L, [] => rw [mg_nil2]; simp [S]
    | l :: L, r :: R =>
      rw [mg_cons]
      split
      · rw [S, ih (l :: L) R (by simp at hn ⊢; omega), S, S]; omega
      · rw [S, ih L (r :: R) (by simp at hn ⊢; omega), S, S]; omega
theorem S_st (φ : List Int → Nat) : ∀ l : List S39, S φ (st ltT l) = S φ l
  | [] => rfl
  | x :: l => by rw [st, S_mg φ _ _ _ (Nat.le_refl _), S_st φ l, S, S, S]; omega
theorem S_pre (φ : List Int → Nat) (t : S39) : S φ (pre t) = t.f0.toNat * φ (tr t.f1) := by
  unfold pre
  split
  · rw [S, S, tr_tr]; simp only [Nat.add_zero]
  · rw [S, show t.f0.toNat = 0 by omega, Nat.zero_mul]
theorem S_prep (φ : List Int → Nat) : ∀ l : List S39, S φ (prep l) = S φ l
  | [] => rfl
  | x :: l => by
    rw [prep, List.flatMap_cons, S_append, S_pre, S]
    have := S_prep φ l
    rw [prep] at this
    rw [this]
theorem S_go (φ : List Int → Nat) : ∀ (ts : List S39) (c : S39), (∀ x ∈ c :: ts, okC x) → tot (c :: ts) ≤ 18446744073709551615 → S φ (go c ts) = S φ (c :: ts)
  | [], c, _, _ => rfl
  | t :: ts, c, hok, hb => by
    have hc := hok c List.mem_cons_self
    have ht := hok t (List.mem_cons_of_mem _ List.mem_cons_self)
    rw [go]
    by_cases e : ordT c.f1 t.f1 = 0
    · rw [if_pos e]
      have e2 := (ord_zero hc.1 ht.1).1 e
      have hb' := hb
      rw [tot, S, S] at hb'
      have hp : (pl c.f0 t.f0).toNat = c.f0.toNat + t.f0.toNat := by unfold pl; omega
      have hp1 : 1 ≤ pl c.f0 t.f0 ∧ pl c.f0 t.f0 ≤ 18446744073709551615 := by
        have := hc.2.2.1
        unfold pl; omega
      rw [S_go φ ts ⟨pl c.f0 t.f0, c.f1⟩ (fun x hx => by
        rcases List.mem_cons.1 hx with hx | hx
        · rw [hx]; exact ⟨hc.1, hc.2.1, hp1⟩
        · exact hok x (List.mem_cons_of_mem _ (List.mem_cons_of_mem _ hx))) (by rw [tot, S]; simp only [hp]; omega)]
      rw [S, S, S]
      simp only [hp, e2, Nat.add_mul]
      omega
    · rw [if_neg e, S, S_go φ ts t (fun x hx => hok x (List.mem_cons_of_mem _ hx)) (by rw [tot, S] at hb; rw [tot]; omega)]
      rfl
def okA (x : S39) : Prop := okT x ∧ 0 ≤ x.f0 ∧ x.f0 ≤ 18446744073709551615
theorem prep_ok {l : List S39} (h : ∀ x ∈ l, okA x) : ∀ x ∈ st ltT (prep l), okC x := by
  intro x hx
  rw [st_mem ltT] at hx
  obtain ⟨y, hy, hx⟩ := List.mem_flatMap.1 hx
  unfold pre at hx
  split at hx
  · rw [List.mem_singleton.1 hx]
    exact ⟨okF_tr (h y hy).1, tr_tr _, by show 1 ≤ y.f0; omega, (h y hy).2.2⟩
  · cases hx
theorem prep_sorted {l : List S39} (h : ∀ x ∈ l, okA x) : Sorted ltT (st ltT (prep l)) := st_sorted ltT okT_ord _ (fun x hx => (prep_ok h x ((st_mem ltT).2 hx)).1)
theorem prep_len : ∀ l : List S39, (prep l).length ≤ l.length
  | [] => Nat.le_refl _
  | x :: l => by
    have := prep_len l
    rw [prep] at this
    rw [prep, List.flatMap_cons, List.length_append, List.length_cons]
    have : (pre x).length ≤ 1 := by unfold pre; split <;> simp
    omega
theorem nf_nrm {l : List S39} (h : ∀ x ∈ l, okA x) : Nrm (nf l) := by
  have h1 := prep_ok h
  have h2 := prep_sorted h
  unfold nf
  generalize st ltT (prep l) = m at h1 h2
  match m with
  | [] => exact ⟨List.Pairwise.nil, fun x hx => by cases hx⟩
  | c :: ts => exact (go_nrm ts c h2 h1).1
theorem nf_len {l : List S39} (h : ∀ x ∈ l, okA x) : (nf l).length ≤ l.length := by
  have h0 := prep_len l
  have h1 := prep_ok h
  have h2 := prep_sorted h
  have h3 := st_len ltT (prep l)
  unfold nf
  generalize st ltT (prep l) = m at h1 h2 h3
  match m with
  | [] => simp [nf1]
  | c :: ts => have := (go_nrm ts c h2 h1).2.2; rw [nf1]; simp only [List.length_cons] at h3; omega
theorem nf_S (φ : List Int → Nat) {l : List S39} (h : ∀ x ∈ l, okA x) (hb : tot l ≤ 18446744073709551615) : S φ (nf l) = S φ l := by
  have h1 := prep_ok h
  have h2 := S_st φ (prep l)
  rw [S_prep] at h2
  have h3 := S_st (fun _ => 1) (prep l)
  rw [S_prep] at h3
  unfold nf
  generalize st ltT (prep l) = m at h1 h2 h3
  match m with
  | [] => exact h2
  | c :: ts => rw [nf1, S_go φ ts c h1 (by rw [tot, h3]; exact hb)]; exact h2
theorem nf_ok {l : List S39} (h : ∀ x ∈ l, okA x) : ∀ x ∈ nf l, okA x := fun x hx => ⟨((nf_nrm h).ok x hx).1, by have := ((nf_nrm h).ok x hx).2.2; omega, ((nf_nrm h).ok x hx).2.2.2⟩
def ind (e : List Int) : List Int → Nat := fun e' => if e' = e then 1 else 0
def cf (e : List Int) (l : List S39) : Nat := S (ind e) l
theorem S_zero (φ : List Int → Nat) : ∀ l : List S39, (∀ x ∈ l, φ (tr x.f1) = 0) → S φ l = 0
  | [], _ => rfl
  | x :: l, h => by rw [S, h x List.mem_cons_self, S_zero φ l (fun y hy => h y (List.mem_cons_of_mem _ hy)), Nat.mul_zero]
theorem lt_tr {x y : S39} (hx : okT x) (hy : okT y) (h : ltT x y = true) : tr x.f1 ≠ tr y.f1 := fun e => by
  have := (ord_zero hx hy).2 e
  have h2 := of_decide_eq_true h
  omega
theorem nrm_uniq : ∀ (a b : List S39), Nrm a → Nrm b → (∀ e, cf e a = cf e b) → a = b
  | [], [], _, _, _ => rfl
  | [], y :: b, _, hb, h => by
    have h1 := h (tr y.f1)
    rw [cf, cf, S, S] at h1
    have := (hb.ok y List.mem_cons_self).2.2.1
    rw [show ind (tr y.f1) (tr y.f1) = 1 by simp [ind]] at h1
    omega
  | x :: a, [], ha, _, h => by
    have h1 := h (tr x.f1)
    rw [cf, cf, S, S] at h1
    have := (ha.ok x List.mem_cons_self).2.2.1
    rw [show ind (tr x.f1) (tr x.f1) = 1 by simp [ind]] at h1
    omega
  | x :: a, y :: b, ha, hb, h => by
    have hx := ha.ok x List.mem_cons_self
    have hy := hb.ok y List.mem_cons_self
    obtain ⟨sa, sa'⟩ := List.pairwise_cons.1 ha.srt
    obtain ⟨sb, sb'⟩ := List.pairwise_cons.1 hb.srt
    have na : Nrm a := ⟨sa', fun z hz => ha.ok z (List.mem_cons_of_mem _ hz)⟩
    have nb : Nrm b := ⟨sb', fun z hz => hb.ok z (List.mem_cons_of_mem _ hz)⟩
    have key : ∀ (u : S39) (v : S39) (l : List S39), okT u → okT v → (∀ z ∈ l, okT z) → (∀ z ∈ l, ltT v z = true) → ltT u v = true → cf (tr u.f1) (v :: l) = 0 := by
      intro u v l hu hv hl hvl huv
      refine S_zero _ _ (fun z hz => ?_)
      have : tr u.f1 ≠ tr z.f1 := by
        rcases List.mem_cons.1 hz with hz | hz
        · rw [hz]; exact lt_tr hu hv huv
        · exact lt_tr hu (hl z hz) (Ord.lt_le ltT okT_ord hu hv (hl z hz) huv (okT_ord.tot _ _ hv (hl z hz) (hvl z hz)))
      unfold ind
      rw [if_neg (fun e => this e.symm)]
    have hxy : tr x.f1 = tr y.f1 := by
      by_cases e : ordT x.f1 y.f1 = 0
      · exact (ord_zero hx.1 hy.1).1 e
      · exfalso
        by_cases e2 : ltT x y = true
        · have h1 := h (tr x.f1)
          rw [key x y b hx.1 hy.1 (fun z hz => (nb.ok z hz).1) sb e2, cf, S, show ind (tr x.f1) (tr x.f1) = 1 by simp [ind]] at h1
          have := hx.2.2.1
          omega
        · have e3 : ltT y x = true := lt_of hy.1 hx.1 (by rw [ord_neg hx.1 hy.1]; omega) (by simpa using e2)
          have h1 := h (tr y.f1)
          rw [key y x a hy.1 hx.1 (fun z hz => (na.ok z hz).1) sa e3, cf, S, show ind (tr y.f1) (tr y.f1) = 1 by simp [ind]] at h1
          have := hy.2.2.1
          omega
    have hf1 : x.f1 = y.f1 := by rw [← hx.2.1, hxy, hy.2.1]
    have za : ∀ (u : S39) (l : List S39), okT u → (∀ z ∈ l, okT z) → (∀ z ∈ l, ltT u z = true) → cf (tr u.f1) l = 0 := fun u l hu hl hul => S_zero _ _ (fun z hz => by
      unfold ind
      rw [if_neg (fun e => lt_tr hu (hl z hz) (hul z hz) e.symm)])
    have hf0 : x.f0 = y.f0 := by
      have h1 := h (tr x.f1)
      have z1 := za x a hx.1 (fun z hz => (na.ok z hz).1) sa
      have z2 := za y b hy.1 (fun z hz => (nb.ok z hz).1) sb
      rw [← hxy] at z2
      rw [cf] at z1 z2
      rw [cf, cf, S, S, ← hxy, z1, z2, show ind (tr x.f1) (tr x.f1) = 1 by simp [ind]] at h1
      have := hx.2.2.1
      have := hy.2.2.1
      omega
    have hxx : x = y := by
      cases x; cases y
      simp only at hf0 hf1
      rw [hf0, hf1]
    subst hxx
    rw [nrm_uniq a b na nb (fun e => by have := h e; rw [cf, cf, S, S] at this; rw [cf, cf]; omega)]
theorem nf_eq {a b : List S39} (ha : ∀ x ∈ a, okA x) (hb : ∀ x ∈ b, okA x) (ta : tot a ≤ 18446744073709551615) (tb : tot b ≤ 18446744073709551615) (h : ∀ φ, S φ a = S φ b) : nf a = nf b :=
  nrm_uniq _ _ (nf_nrm ha) (nf_nrm hb) (fun e => by rw [cf, cf, nf_S _ ha ta, nf_S _ hb tb, h])
end Nf
end Go.Proofs.Ytkkocmmilmbgpaa.S
end
section
namespace Go.Proofs.Ytkkocmmilmbgpaa.S
open Go.RowKit Go.Proofs.YtkkocmmilmbgpaaW.PrintWords Go.Proofs.YtkkocmmilmbgpaaW.PrintLast Go.Proofs.YtkkocmmilmbgpaaW.PrintMore
attribute [local go_sem] max2_int min2_int max_two min_two max_three min_three max_four min_four
set_option linter.unusedVariables false
set_option linter.unusedSimpArgs false
def slices_Clone_int_int.f (l0 : List Int) : Option (List Int) := (some (([] : List Int) : List Int)).bind fun y109 => (if y109.length + l0.length < 17592186044416 then (some (y109 ++ l0)) else (none))
set_option maxHeartbeats 8000000 in
set_option maxRecDepth 100000 in
theorem slices_Clone_int_int.calls (A0 : Option Addr) (c0 : Nat) (l0 : List Int) (r : List Int) (w : World) (hr0 : Kd.C (Kd.int .i64) w A0 l0.length l0) (hc0 : l0.length ≤ c0) (h : slices_Clone_int_int.f l0 = some r) :
    Calls Try.prog 48 #[.slice A0 l0.length c0] w fun e w' => ∃ v0_ : Value, e = .returned (v0_) ∧ Kd.R (Kd.int .i64) 3 w' w.heap.size (fun _ => True) v0_ r ∧ Below w.heap.size w w' := by
  have HR0 := Aside0.mk hr0
  have HC0 := Aside0.mk hc0
  clear hr0 hc0
  have HB := Aside0.mk (Below.refl w.heap.size w)
  have H : ((some (([] : List Int) : List Int)).bind fun y109 => (if y109.length + l0.length < 17592186044416 then (some (y109 ++ l0)) else (none))) = some r := h
  clear h
  obtain ⟨y109, hy109⟩ : ∃ y_ : List Int, y_ = (([] : List Int)) := ⟨_, rfl⟩
  replace H : (if y109.length + l0.length < 17592186044416 then (some (y109 ++ l0)) else (none)) = some r := by first | (rw [hy109]; with_reducible exact H) | (have H2_ := (Option.bind_some _ _).symm.trans H; rw [hy109]; with_reducible exact H2_) | (have H2_ := (Option.bind_some _ _).symm.trans H; with_reducible exact H2_) | with_reducible exact H | (rw [hy109]; exact H) | exact H
  have Ny109 := Aside0.mk hy109
  clear hy109
  by_cases c2 : y109.length + l0.length < 17592186044416
  · rw [if_pos c2] at H
    have LMc2 := Aside0.mk c2
    clear c2
    obtain ⟨y112, hy112⟩ : ∃ y_ : List Int, y_ = (y109 ++ l0) := ⟨_, rfl⟩
    replace H : (some y112) = some r := by first | (rw [hy112]; with_reducible exact H) | (have H2_ := (Option.bind_some _ _).symm.trans H; rw [hy112]; with_reducible exact H2_) | (have H2_ := (Option.bind_some _ _).symm.trans H; with_reducible exact H2_) | with_reducible exact H | (rw [hy112]; exact H) | exact H
    have Ny112 := Aside0.mk hy112
    clear hy112
    obtain rfl := Option.some.inj H
    have q37 : ∀ (w : World) (a : Option Addr) (n c n' c' : Nat), (binOp .eql 37 (.slice a n c) (.slice none n' c')).run Try.prog w = .ok (.bool a.isNone) w := fun w a n c n' c' => Lib.run_eql_slice_nil w _ _ a n c n' c' Try.underlying37
    cases A0 with
    | none =>
      have hl : l0 = [] := by
        cases l0 with
        | nil => rfl
        | cons x l =>
          obtain ⟨ad, e, _⟩ := HR0.out.2.2 (by simp)
          cases e
      subst hl
      have e112 : y112 = [] := by rw [Ny112.out, Ny109.out]; rfl
      subst e112
      go_enter Try.func48, Try.ntmps48
      go_wp2
      go_ret
      exact ⟨_, rfl, Kd.R_nil _ _ _ _ _, Below.refl _ _⟩
    | some ad =>
      go_enter Try.func48, Try.ntmps48
      go_wp2_with (first | ((with_reducible refine gate_dst (N := 5) rfl ?_); refine Kd.R_lit (Kd.int .i64) _ 3 ?hg (N := 5) ?hd (xs := ([] : List Int)) (inner := []) (ok := fun _ => True) (okp := fun _ => True) ?hr ?hp (fun _ hk => hk) trivial (Below.refl _ _) (Nat.le_refl _) (by simp) ?_; (case hd => rfl); (case hg => rfl); (case hr => first | (go_simp; done) | (go_simp; rfl)); (case hp => exact (Reps.none _ _)); intro v110 w3 ho4 hb hg_ hnew_; clear hg_ hnew_; (first | rw [← Ny109.out] at ho4 | (simp only [Int.reduceToNat] at ho4; rw [← Ny109.out] at ho4)); have n0_ := Aside0.mk (Kd.R_lower ho4 (below_size (by repeat (first | (with_reducible first | exact HB.out | apply below_alloc | apply pw_below_drewN | apply below_drew1) | exact HB.out)))); have n1_ := Aside0.mk (below_step (by repeat (first | (with_reducible first | exact HB.out | apply below_alloc | apply pw_below_drewN | apply below_drew1) | exact HB.out)) hb); clear HB; have HO111 := n0_; have HB := n1_; clear n0_ n1_; clear hb ho4) | ((with_reducible refine gate_builtin (b := .append) (xs := #[.tmp 5, .tmp 6]) rfl ?_); at_builtin; refine Kd.R_append_rows (Kd.int .i64) (w0 := w) w.heap.size rfl (.tmp 5) (.tmp 6) 37 3 (.int .i64 0) 8 rfl Try.underlying37 info3 rfl (by decide) (by omega) v110 y109 l0 _ _ _ (fun _ => True) (fun _ => False) rfl rfl ?aO ?aR (fun _ _ h => h) (fun _ h => h.elim) ?aF ?aB ?aS ?aL ?_; (case aR => repeat (first | exact (Kd.C_below HR0.out HB.out) | (with_reducible refine Kd.C_alloc ?_ _) | (with_reducible refine Kd.C_drewN ?_ _) | (with_reducible refine Kd.C_drew ?_))); (case aB => exact (by repeat (first | (with_reducible first | exact HB.out | apply below_alloc | apply pw_below_drewN | apply below_drew1) | exact HB.out))); (case aF => exact (fun _ _ => trivial)); (case aO => exact (by (with_reducible repeat (first | apply Kd.R_alloc | apply Kd.R_drewN | apply Kd.R_drew)); exact HO111.out)); (case aS => exact (below_size (by repeat (first | (with_reducible first | exact HB.out | apply below_alloc | apply pw_below_drewN | apply below_drew1) | exact HB.out)))); (case aL => have := LMc2.out; omega); intro v113 w5 ho hb hg hat; rw [← Ny112.out] at ho; have n0_ := Aside0.mk (hb); have n1_ := Aside0.mk (ho); clear HB; clear HO111; have HB := n0_; have HO114 := n1_; clear n0_ n1_; clear ho hb hg hat))
      go_ret
      exact ⟨_, by first | rfl | (simp [errW_none, errW_some] <;> rfl) | (simp [*, errW_none, errW_some] <;> rfl), by (with_reducible repeat (first | apply Kd.R_alloc | apply Kd.R_drewN | apply Kd.R_drew)); exact HO114.out, by repeat (first | (with_reducible first | exact HB.out | apply below_alloc | apply pw_below_drewN | apply below_drew1) | exact HB.out)⟩
  · rw [if_neg c2] at H
    exact absurd H (by simp)
end Go.Proofs.Ytkkocmmilmbgpaa.S
end
section
namespace Go.Proofs.Ytkkocmmilmbgpaa.S
open Go.RowKit Go.Proofs.YtkkocmmilmbgpaaW.PrintWords
set_option linter.unusedVariables false
def bits_Add64.f (x y c : Int) : Option (Int × Int) :=
  if 0 ≤ x ∧ x ≤ 18446744073709551615 ∧ 0 ≤ y ∧ y ≤ 18446744073709551615 ∧ 0 ≤ c ∧ c ≤ 1 then some ((x + y + c) % 18446744073709551616, (x + y + c) / 18446744073709551616) else none
theorem bits_Add64.calls (x y c : Int) (r1 r2 : Int) (w : World) (h : bits_Add64.f x y c = some (r1, r2)) :
    ExtCalls Try.prog 36 #[.int .u64 x, .int .u64 y, .int .u64 c] w fun e w' => e = .returned (.tuple #[.int .u64 r1, .int .u64 r2]) ∧ Drawn0 w w' := by
  unfold bits_Add64.f at h
  split at h
  · rename_i hc
    obtain ⟨h0, h1, h2, h3, h4, h5⟩ := hc
    simp only [Option.some.injEq, Prod.mk.injEq] at h
    obtain ⟨rfl, rfl⟩ := h
    exact ⟨_, w, by
      rw [run_callFunc_extern Try.func36 (by kernel_rfl) (by kernel_rfl) (by kernel_rfl) (e := add64Entry) (by kernel_rfl), run_add64 x y c h0 h2 h4 h5]; rfl, rfl, Drawn0.refl _⟩
  · cases h
end Go.Proofs.Ytkkocmmilmbgpaa.S
end
section
namespace Go.Proofs.Ytkkocmmilmbgpaa.S
open Go.RowKit Go.Proofs.YtkkocmmilmbgpaaW.PrintWords Go.Proofs.YtkkocmmilmbgpaaW.PrintLast Go.Proofs.YtkkocmmilmbgpaaW.PrintMore
attribute [local go_sem] max2_int min2_int max_two min_two max_three min_three max_four min_four
set_option linter.unusedVariables false
set_option linter.unusedSimpArgs false
def cost_plus.f (a0 : Int) (a1 : Int) : Option (Int) := (bits_Add64.f a0 a1 0).bind fun bt122 => (if bt122.2 > 0 then (some 18446744073709551615) else (some bt122.1))
set_option maxHeartbeats 8000000 in
set_option maxRecDepth 100000 in
theorem cost_plus.calls (a0 : Int) (a1 : Int) (r : Int) (w : World) (h : cost_plus.f a0 a1 = some r) :
    Calls Try.prog 22 #[.int .u64 a0, .int .u64 a1] w fun e w' => e = .returned (.int .u64 r) ∧ Drawn0 w w' := by
  have H : ((bits_Add64.f a0 a1 0).bind fun bt122 => (if bt122.2 > 0 then (some 18446744073709551615) else (some bt122.1))) = some r := h
  clear h
  replace H := Option.bind_eq_some_iff.mp H
  obtain ⟨⟨t122, t123⟩, A30, H⟩ := H
  replace H : (if t123 > 0 then (some 18446744073709551615) else (some t122)) = some r := H
  have A3 := Aside0.mk A30
  clear A30
  by_cases c4 : t123 > 0
  · rw [if_pos c4] at H
    have c4b0 : decide (0 < t123) = true := decide_eq_true c4
    clear c4
    obtain rfl := Option.some.inj H
    go_enter Try.func22, Try.ntmps22
    go_wp2_with (((with_reducible refine gate_callee (f := 36) rfl ?_); refine goesE_ (some 10) rfl rfl Try.func36 (by kernel_rfl) rfl #[.int .u64 a0, .int .u64 a1, .int .u64 0] rfl (by (try simp only [List.map_toArray, List.map_cons, List.map_nil]); rfl) ?_; (with_reducible refine (bits_Add64.calls a0 a1 0 t122 t123 _ A3.out).mono ?_); rintro e w' ⟨rfl, ⟨nd, rfl⟩⟩; refine ⟨_, rfl, ?_⟩))
    go_ret
    exact ⟨by rfl, by repeat (first | exact Drawn0.refl _ | apply Drawn0.step)⟩
  · rw [if_neg c4] at H
    have c4b0 : decide (0 < t123) = false := decide_eq_false c4
    clear c4
    obtain rfl := Option.some.inj H
    go_enter Try.func22, Try.ntmps22
    go_wp2_with (((with_reducible refine gate_callee (f := 36) rfl ?_); refine goesE_ (some 10) rfl rfl Try.func36 (by kernel_rfl) rfl #[.int .u64 a0, .int .u64 a1, .int .u64 0] rfl (by (try simp only [List.map_toArray, List.map_cons, List.map_nil]); rfl) ?_; (with_reducible refine (bits_Add64.calls a0 a1 0 t122 t123 _ A3.out).mono ?_); rintro e w' ⟨rfl, ⟨nd, rfl⟩⟩; refine ⟨_, rfl, ?_⟩))
    go_ret
    exact ⟨by rfl, by repeat (first | exact Drawn0.refl _ | apply Drawn0.step)⟩
end Go.Proofs.Ytkkocmmilmbgpaa.S
end
section
namespace Go.Proofs.Ytkkocmmilmbgpaa.S
open Go.RowKit Go.Proofs.YtkkocmmilmbgpaaW.PrintWords Go.Proofs.YtkkocmmilmbgpaaW.PrintLast Go.Proofs.YtkkocmmilmbgpaaW.PrintMore
attribute [local go_sem] max2_int min2_int max_two min_two max_three min_three max_four min_four
set_option linter.unusedVariables false
set_option linter.unusedSimpArgs false
def bits_Mul64.f (a0 : Int) (a1 : Int) : Option (Int × Int) := some (IntKind.u64.wrap ((IntKind.u64.wrap ((IntKind.u64.wrap ((a0 / 4294967296) * (a1 / 4294967296))) + ((IntKind.u64.wrap ((IntKind.u64.wrap ((a0 / 4294967296) * (Go.bits .and .u64 a1 4294967295))) + ((IntKind.u64.wrap ((Go.bits .and .u64 a0 4294967295) * (Go.bits .and .u64 a1 4294967295))) / 4294967296))) / 4294967296))) + ((IntKind.u64.wrap ((Go.bits .and .u64 (IntKind.u64.wrap ((IntKind.u64.wrap ((a0 / 4294967296) * (Go.bits .and .u64 a1 4294967295))) + ((IntKind.u64.wrap ((Go.bits .and .u64 a0 4294967295) * (Go.bits .and .u64 a1 4294967295))) / 4294967296))) 4294967295) + (IntKind.u64.wrap ((Go.bits .and .u64 a0 4294967295) * (a1 / 4294967296))))) / 4294967296)), IntKind.u64.wrap (a0 * a1))
set_option maxHeartbeats 8000000 in
set_option maxRecDepth 100000 in
theorem bits_Mul64.calls (a0 : Int) (a1 : Int) (r1 : Int) (r2 : Int) (w : World) (h : bits_Mul64.f a0 a1 = some (r1, r2)) :
    Calls Try.prog 37 #[.int .u64 a0, .int .u64 a1] w fun e w' => e = .returned (.tuple #[.int .u64 r1, .int .u64 r2]) ∧ Drawn0 w w' := by
  have H : (some (IntKind.u64.wrap ((IntKind.u64.wrap ((IntKind.u64.wrap ((a0 / 4294967296) * (a1 / 4294967296))) + ((IntKind.u64.wrap ((IntKind.u64.wrap ((a0 / 4294967296) * (Go.bits .and .u64 a1 4294967295))) + ((IntKind.u64.wrap ((Go.bits .and .u64 a0 4294967295) * (Go.bits .and .u64 a1 4294967295))) / 4294967296))) / 4294967296))) + ((IntKind.u64.wrap ((Go.bits .and .u64 (IntKind.u64.wrap ((IntKind.u64.wrap ((a0 / 4294967296) * (Go.bits .and .u64 a1 4294967295))) + ((IntKind.u64.wrap ((Go.bits .and .u64 a0 4294967295) * (Go.bits .and .u64 a1 4294967295))) / 4294967296))) 4294967295) + (IntKind.u64.wrap ((Go.bits .and .u64 a0 4294967295) * (a1 / 4294967296))))) / 4294967296)), IntKind.u64.wrap (a0 * a1))) = some (r1, r2) := h
  clear h
  simp only [Option.some.injEq, Prod.mk.injEq] at H
  obtain ⟨rfl, rfl⟩ := H
  go_enter Try.func37, Try.ntmps37
  go_wp2
  go_ret2
  exact ⟨by first | rfl | (simp; done) | (simp [*]; done), by repeat (first | exact Drawn0.refl _ | apply Drawn0.step)⟩
end Go.Proofs.Ytkkocmmilmbgpaa.S
end
section
namespace Go.Proofs.Ytkkocmmilmbgpaa.S
open Go.RowKit Go.Proofs.YtkkocmmilmbgpaaW.PrintWords Go.Proofs.YtkkocmmilmbgpaaW.PrintLast Go.Proofs.YtkkocmmilmbgpaaW.PrintMore
attribute [local go_sem] max2_int min2_int max_two min_two max_three min_three max_four min_four
set_option linter.unusedVariables false
set_option linter.unusedSimpArgs false
def cost_times.f (a0 : Int) (a1 : Int) : Option (Int) := (bits_Mul64.f a0 a1).bind fun bt145 => (if bt145.1 > 0 then (some 18446744073709551615) else (some bt145.2))
set_option maxHeartbeats 8000000 in
set_option maxRecDepth 100000 in
theorem cost_times.calls (a0 : Int) (a1 : Int) (r : Int) (w : World) (h : cost_times.f a0 a1 = some r) :
    Calls Try.prog 23 #[.int .u64 a0, .int .u64 a1] w fun e w' => e = .returned (.int .u64 r) ∧ Drawn0 w w' := by
  have H : ((bits_Mul64.f a0 a1).bind fun bt145 => (if bt145.1 > 0 then (some 18446744073709551615) else (some bt145.2))) = some r := h
  clear h
  replace H := Option.bind_eq_some_iff.mp H
  obtain ⟨⟨t145, t146⟩, A30, H⟩ := H
  replace H : (if t145 > 0 then (some 18446744073709551615) else (some t146)) = some r := H
  have A3 := Aside0.mk A30
  clear A30
  by_cases c4 : t145 > 0
  · rw [if_pos c4] at H
    have c4b0 : decide (0 < t145) = true := decide_eq_true c4
    clear c4
    obtain rfl := Option.some.inj H
    go_enter Try.func23, Try.ntmps23
    go_wp2_with (((with_reducible refine gate_callee (f := 37) rfl ?_); refine goesL_ (some 10) rfl rfl Try.func37 (by kernel_rfl) rfl #[.int .u64 a0, .int .u64 a1] rfl (by (try simp only [List.map_toArray, List.map_cons, List.map_nil]); rfl) ?_; (with_reducible refine (bits_Mul64.calls a0 a1 t145 t146 _ A3.out).mono ?_); rintro e w' ⟨rfl, ⟨nd, rfl⟩⟩; refine ⟨_, rfl, ?_⟩))
    go_ret
    exact ⟨by rfl, by repeat (first | exact Drawn0.refl _ | apply Drawn0.step)⟩
  · rw [if_neg c4] at H
    have c4b0 : decide (0 < t145) = false := decide_eq_false c4
    clear c4
    obtain rfl := Option.some.inj H
    go_enter Try.func23, Try.ntmps23
    go_wp2_with (((with_reducible refine gate_callee (f := 37) rfl ?_); refine goesL_ (some 10) rfl rfl Try.func37 (by kernel_rfl) rfl #[.int .u64 a0, .int .u64 a1] rfl (by (try simp only [List.map_toArray, List.map_cons, List.map_nil]); rfl) ?_; (with_reducible refine (bits_Mul64.calls a0 a1 t145 t146 _ A3.out).mono ?_); rintro e w' ⟨rfl, ⟨nd, rfl⟩⟩; refine ⟨_, rfl, ?_⟩))
    go_ret
    exact ⟨by rfl, by repeat (first | exact Drawn0.refl _ | apply Drawn0.step)⟩
end Go.Proofs.Ytkkocmmilmbgpaa.S
end
section
namespace Go.Proofs.Ytkkocmmilmbgpaa.S
open Go.RowKit Go.Proofs.YtkkocmmilmbgpaaW.PrintWords Go.Proofs.YtkkocmmilmbgpaaW.PrintLast Go.Proofs.YtkkocmmilmbgpaaW.PrintMore
attribute [local go_sem] max2_int min2_int max_two min_two max_three min_three max_four min_four
set_option linter.unusedVariables false
set_option linter.unusedSimpArgs false
def cost_powered.l0 : Nat → Int → Int → Int → Option (Int)
  | 0, _, _, _ => none
  | k + 1, x0, x1, x2 => if x2 > 0 then ((cost_times.f x0 x1).bind fun t180 => (if t180 = x0 then (some x0) else (cost_powered.l0 k t180 x1 (wrap64 (x2 - 1))))) else (some x0)
def cost_powered.f (k : Nat) (a0 : Int) (a1 : Int) (a2 : Int) : Option (Int) := cost_powered.l0 k a0 a1 a2
theorem cost_powered.mono_l : ∀ k, (∀ y0 y1 y2, LeO (cost_powered.l0 k y0 y1 y2) (cost_powered.l0 (k + 1) y0 y1 y2))
  | 0 => fun _ _ _ r h => by simp [cost_powered.l0] at h
  | k + 1 => by
    have ih0 := cost_powered.mono_l k
    · intro y0 y1 y2
      unfold cost_powered.l0
      repeat' first
      | (with_reducible exact ih0 _ _ _)
      | (with_reducible exact LeO.refl _)
      | (with_reducible exact LeO.none _)
      | (with_reducible refine LeO.ite ?_ ?_)
      | (with_reducible refine LeO.bind ?_ (fun _ => ?_))
      | exact ih0 _ _ _
      | exact LeO.none _
      | refine LeO.ite ?_ ?_
      | refine LeO.bind ?_ (fun _ => ?_)
theorem cost_powered.mono : ∀ a0 a1 a2 k, LeO (cost_powered.f k a0 a1 a2) (cost_powered.f (k + 1) a0 a1 a2) := by
  intro a0 a1 a2 k
  have ih0 := cost_powered.mono_l k
  unfold cost_powered.f
  repeat' first
      | (with_reducible exact ih0 _ _ _)
      | (with_reducible exact LeO.refl _)
      | (with_reducible exact LeO.none _)
      | (with_reducible refine LeO.ite ?_ ?_)
      | (with_reducible refine LeO.bind ?_ (fun _ => ?_))
      | exact ih0 _ _ _
      | exact LeO.none _
      | refine LeO.ite ?_ ?_
      | refine LeO.bind ?_ (fun _ => ?_)
set_option maxHeartbeats 8000000 in
set_option maxRecDepth 100000 in
theorem cost_powered.calls (k : Nat) (a0 : Int) (a1 : Int) (a2 : Int) (r : Int) (w : World) (h : cost_powered.f k a0 a1 a2 = some r) :
    Calls Try.prog 21 #[.int .u64 a0, .int .u64 a1, .int .i64 a2] w fun e w' => e = .returned (.int .u64 r) ∧ Drawn0 w w' := by
  have H : (cost_powered.l0 k a0 a1 a2) = some r := h
  clear h
  have H' := Aside0.mk H
  clear H
  go_enter Try.func21, Try.ntmps21
  go_wp2
  go_loopg [0, 2] k (fun kq v0 v2 w' => ∃ (x0_1 : Int) (x2_1 : Int), v0 = .int .u64 x0_1 ∧ v2 = .int .i64 x2_1 ∧ Aside0 (cost_powered.l0 kq x0_1 a1 x2_1 = some r) ∧ Aside0 (kq ≤ k) ∧ Drawn0 w w')
  case atStart => exact ⟨(a0), (a2), (by rfl), (by rfl), H', ⟨Nat.le_refl _⟩, by exact Drawn0.refl _⟩
  case round =>
    clear H'
    obtain ⟨x0_1, x2_1, rfl, rfl, HA, HK1, ⟨m1, rfl⟩⟩ := hrel
    cases gk with
    | zero => exact absurd HA.out (by simp [cost_powered.l0])
    | succ k1 =>
      have H := HA.out
      clear HA
      simp only [cost_powered.l0] at H
      by_cases c4 : x2_1 > 0
      · rw [if_pos c4] at H
        have c4b0 : decide (0 < x2_1) = true := decide_eq_true c4
        clear c4
        replace H := Option.bind_eq_some_iff.mp H
        obtain ⟨t180, A50, H⟩ := H
        replace H : (if t180 = x0_1 then (some x0_1) else (cost_powered.l0 k1 t180 a1 (wrap64 (x2_1 - 1)))) = some r := H
        have A5 := Aside0.mk A50
        clear A50
        by_cases c6 : t180 = x0_1
        · rw [if_pos c6] at H
          have c6b0 : (t180 == x0_1) = true := beq_iff_eq.mpr c6
          have c6b1 : (t180 != x0_1) = false := bne_eq_false_iff_eq.mpr c6
          clear c6
          obtain rfl := Option.some.inj H
          go_wp2_with (((with_reducible refine gate_callee (f := 23) rfl ?_); refine goesL_ (some 14) rfl rfl Try.func23 (by kernel_rfl) rfl #[.int .u64 x0_1, .int .u64 a1] rfl (by (try simp only [List.map_toArray, List.map_cons, List.map_nil]); rfl) ?_; (with_reducible refine (cost_times.calls x0_1 a1 t180 _ A5.out).mono ?_); rintro e w' ⟨rfl, ⟨nd, rfl⟩⟩; refine ⟨_, rfl, ?_⟩))
          go_ret
          exact ⟨by rfl, by repeat (first | exact Drawn0.refl _ | apply Drawn0.step)⟩
        · rw [if_neg c6] at H
          have c6b0 : (t180 == x0_1) = false := beq_eq_false_iff_ne.mpr c6
          have c6b1 : (t180 != x0_1) = true := bne_iff_ne.mpr c6
          have H' := Aside0.mk H
          clear H
          go_wp2_with (((with_reducible refine gate_callee (f := 23) rfl ?_); refine goesL_ (some 14) rfl rfl Try.func23 (by kernel_rfl) rfl #[.int .u64 x0_1, .int .u64 a1] rfl (by (try simp only [List.map_toArray, List.map_cons, List.map_nil]); rfl) ?_; (with_reducible refine (cost_times.calls x0_1 a1 t180 _ A5.out).mono ?_); rintro e w' ⟨rfl, ⟨nd, rfl⟩⟩; refine ⟨_, rfl, ?_⟩))
          go_roundg k1
          case measure => have := HK1.out; omega
          case rel => exact ⟨(t180), (wrap64 (x2_1 - 1)), (by rfl), (by rfl), H', ⟨by have := HK1.out; omega⟩, by repeat (first | exact Drawn0.refl _ | apply Drawn0.step)⟩
      · rw [if_neg c4] at H
        have c4b0 : decide (0 < x2_1) = false := decide_eq_false c4
        clear c4
        obtain rfl := Option.some.inj H
        go_wp2
        go_ret
        exact ⟨by rfl, by repeat (first | exact Drawn0.refl _ | apply Drawn0.step)⟩
end Go.Proofs.Ytkkocmmilmbgpaa.S
end
section
namespace Go.Proofs.Ytkkocmmilmbgpaa.S
open Go.RowKit Go.Proofs.YtkkocmmilmbgpaaW.PrintWords Go.Proofs.YtkkocmmilmbgpaaW.PrintLast Go.Proofs.YtkkocmmilmbgpaaW.PrintMore
attribute [local go_sem] max2_int min2_int max_two min_two max_three min_three max_four min_four
set_option linter.unusedVariables false
set_option linter.unusedSimpArgs false
mutual
def cost_Value.l0 : Nat → List Int → Int → List (S39) → Int → Int → Option (Int)
  | 0, _, _, _, _, _ => none
  | k + 1, x1, x5, x12, x13, x14 => if x14 < x13 then (if 0 ≤ x14 then (if x14 < (x12.length : Int) then (cost_Value.l1 k x1 x5 ((rd_T39 x12 x14).f0) x12 x13 x14 ((rd_T39 x12 x14).f1) (((rd_T39 x12 x14).f1).length : Int) 0) else (none)) else (none)) else (some x5)
def cost_Value.l1 : Nat → List Int → Int → Int → List (S39) → Int → Int → List Int → Int → Int → Option (Int)
  | 0, _, _, _, _, _, _, _, _, _ => none
  | k + 1, x1, x5, x8, x12, x13, x14, x21, x22, x23 => if x23 < x22 then (if 0 ≤ x23 then (if x23 < (x21.length : Int) then (if x23 < (x1.length : Int) then ((cost_powered.f k x8 (rd x1 x23) (rd x21 x23)).bind fun t185 => (cost_Value.l1 k x1 x5 t185 x12 x13 x14 x21 x22 (wrap64 (x23 + 1)))) else ((cost_powered.f k x8 0 (rd x21 x23)).bind fun t186 => (cost_Value.l1 k x1 x5 t186 x12 x13 x14 x21 x22 (wrap64 (x23 + 1))))) else (none)) else (none)) else ((cost_plus.f x5 x8).bind fun t187 => (cost_Value.l0 k x1 t187 x12 x13 (wrap64 (x14 + 1))))
end
def cost_Value.f (k : Nat) (l0 : List (S39)) (l1 : List Int) : Option (Int) := cost_Value.l0 k l1 0 l0 (l0.length : Int) 0
theorem cost_Value.mono_l : ∀ k, (∀ y0 y1 y2 y3 y4, LeO (cost_Value.l0 k y0 y1 y2 y3 y4) (cost_Value.l0 (k + 1) y0 y1 y2 y3 y4)) ∧ (∀ y0 y1 y2 y3 y4 y5 y6 y7 y8, LeO (cost_Value.l1 k y0 y1 y2 y3 y4 y5 y6 y7 y8) (cost_Value.l1 (k + 1) y0 y1 y2 y3 y4 y5 y6 y7 y8))
  | 0 => ⟨fun _ _ _ _ _ r h => by simp [cost_Value.l0] at h, fun _ _ _ _ _ _ _ _ _ r h => by simp [cost_Value.l1] at h⟩
  | k + 1 => by
    obtain ⟨ih0, ih1⟩ := cost_Value.mono_l k
    refine ⟨?_, ?_⟩
    · intro y0 y1 y2 y3 y4
      unfold cost_Value.l0
      repeat' first
      | (with_reducible exact ih0 _ _ _ _ _)
      | (with_reducible exact ih1 _ _ _ _ _ _ _ _ _)
      | (with_reducible exact cost_powered.mono _ _ _ _)
      | (with_reducible exact LeO.refl _)
      | (with_reducible exact LeO.none _)
      | (with_reducible refine LeO.ite ?_ ?_)
      | (with_reducible refine LeO.bind ?_ (fun _ => ?_))
      | exact ih0 _ _ _ _ _
      | exact ih1 _ _ _ _ _ _ _ _ _
      | exact cost_powered.mono _ _ _ _
      | exact LeO.none _
      | refine LeO.ite ?_ ?_
      | refine LeO.bind ?_ (fun _ => ?_)
    · intro y0 y1 y2 y3 y4 y5 y6 y7 y8
      unfold cost_Value.l1
      repeat' first
      | (with_reducible exact ih0 _ _ _ _ _)
      | (with_reducible exact ih1 _ _ _ _ _ _ _ _ _)
      | (with_reducible exact cost_powered.mono _ _ _ _)
      | (with_reducible exact LeO.refl _)
      | (with_reducible exact LeO.none _)
      | (with_reducible refine LeO.ite ?_ ?_)
      | (with_reducible refine LeO.bind ?_ (fun _ => ?_))
      | exact ih0 _ _ _ _ _
      | exact ih1 _ _ _ _ _ _ _ _ _
      | exact cost_powered.mono _ _ _ _
      | exact LeO.none _
      | refine LeO.ite ?_ ?_
      | refine LeO.bind ?_ (fun _ => ?_)
theorem cost_Value.mono : ∀ a0 a1 k, LeO (cost_Value.f k a0 a1) (cost_Value.f (k + 1) a0 a1) := by
  intro a0 a1 k
  obtain ⟨ih0, ih1⟩ := cost_Value.mono_l k
  unfold cost_Value.f
  repeat' first
      | (with_reducible exact ih0 _ _ _ _ _)
      | (with_reducible exact ih1 _ _ _ _ _ _ _ _ _)
      | (with_reducible exact cost_powered.mono _ _ _ _)
      | (with_reducible exact LeO.refl _)
      | (with_reducible exact LeO.none _)
      | (with_reducible refine LeO.ite ?_ ?_)
      | (with_reducible refine LeO.bind ?_ (fun _ => ?_))
      | exact ih0 _ _ _ _ _
      | exact ih1 _ _ _ _ _ _ _ _ _
      | exact cost_powered.mono _ _ _ _
      | exact LeO.none _
      | refine LeO.ite ?_ ?_
      | refine LeO.bind ?_ (fun _ => ?_)
set_option maxHeartbeats 8000000 in
set_option maxRecDepth 100000 in
theorem cost_Value.calls (k : Nat) (A0 : Option Addr) (c0 : Nat) (l0 : List (S39)) (A1 : Option Addr) (c1 : Nat) (l1 : List Int) (r : Int) (w : World) (hr0 : Kd.C k39 w A0 l0.length l0) (hc0 : l0.length ≤ c0) (hr1 : Kd.C (Kd.int .u64) w A1 l1.length l1) (hc1 : l1.length ≤ c1) (h : cost_Value.f k l0 l1 = some r) :
    Calls Try.prog 7 #[.slice A0 l0.length c0, .slice A1 l1.length c1] w fun e w' => e = .returned (.int .u64 r) ∧ Below w.heap.size w w' := by
  have hu39 := Try.underlying39
  have HR0 := am hr0
  have HC0 := am hc0
  clear hr0 hc0
  have HR1 := am hr1
  have HC1 := am hc1
  clear hr1 hc1
  have HB := am (Below.refl w.heap.size w)
  have H : (cost_Value.l0 k l1 0 l0 (l0.length : Int) 0) = some r := h
  clear h
  have H' := am H
  clear H
  go_enter Try.func7, Try.ntmps7
  go_wp2
  go_loopg [5, 14] k (fun kq v5 v14 w' => ∃ (x5_1 : Int) (x14_1 : Int), v5 = .int .u64 x5_1 ∧ v14 = .int .i64 x14_1 ∧ Aside0 (cost_Value.l0 kq l1 x5_1 l0 (l0.length : Int) x14_1 = some r) ∧ Aside0 (kq ≤ k) ∧ Aside0 (Below w.heap.size w w'))
  case atStart => exact ⟨(0), (0), (by rfl), (by rfl), H', ⟨Nat.le_refl _⟩, ⟨by exact HB.out⟩⟩
  case round =>
    clear H'
    obtain ⟨x5_1, x14_1, rfl, rfl, HA, HK1, HB⟩ := hrel
    cases gk with
    | zero => exact absurd HA.out (by simp [cost_Value.l0])
    | succ k1 =>
      have H := HA.out
      clear HA
      simp only [cost_Value.l0] at H
      by_cases c3 : x14_1 < (l0.length : Int)
      · rw [if_pos c3] at H
        have c3b0 : decide (x14_1 < (l0.length : Int)) = true := decide_eq_true c3
        clear c3
        replace H := its H
        obtain ⟨c4, H⟩ := H
        have c4b0 : decide (0 ≤ x14_1) = true := decide_eq_true c4
        clear c4
        replace H := its H
        obtain ⟨c5, H⟩ := H
        have c5b0 : decide (x14_1 < (l0.length : Int)) = true := decide_eq_true c5
        clear c5
        have H' := am H
        clear H
        have p181 : 0 ≤ (x14_1 : Int) := of_decide_eq_true (by (with_reducible assumption))
        have q181 : x14_1 < (l0.length : Int) := of_decide_eq_true (by (with_reducible assumption))
        obtain ⟨ad181, A181_1, c181_1, e181, hx181_0, hx181_1, hl181_1, hi181_1⟩ := at_T39 HR0.out x14_1 p181 q181
        cases e181
        replace hx181_0 := (HB.out.cell (World.block_lt_of_cell? w _ hx181_0)).trans hx181_0
        replace hx181_1 := (HB.out.cell (World.block_lt_of_cell? w _ hx181_1)).trans hx181_1
        have HR181_1 := am hi181_1
        have HC181_1 := am hl181_1
        clear hi181_1 hl181_1
        replace p181 := eq_true p181
        replace q181 := eq_true q181
        go_wp2_with (((with_reducible refine gate_dst (N := 7) rfl ?_); refine box_event ?hg (N := 7) ?hd (cs := #[.int .u64 0, .slice none 0 0]) (t := 39) ?hr ?_; (case hd => rfl); (case hg => rfl); (case hr => (go_simp; done)); intro gb182 hg w6 hbox hb; have BK182 := am (hbox); have GW182 := am ((by rw [hg]; exact (below_size HB.out) : w.heap.size ≤ gb182)); have GE182 := am ((by rw [hg]; exact (below_size HB.out) : w.heap.size ≤ gb182)); replace HB := am (below_step HB.out hb); clear hb hbox hg; have hcz7_0 : w6.cell? ⟨gb182, 0, none⟩ = some (.int .u64 0) := (blk_cell BK182.out 0).trans rfl; have hcz7_1 : w6.cell? ⟨gb182, 1, none⟩ = some (.slice none 0 0) := (blk_cell BK182.out 1).trans rfl; have hfz7_0 := blk_frozen BK182.out 0; have hfz7_1 := blk_frozen BK182.out 1))
        go_loopg [8, 23] k1 (fun kq v8 v23 w' => ∃ (x8_2 : Int) (x23_2 : Int), v8 = .int .u64 x8_2 ∧ v23 = .int .i64 x23_2 ∧ Aside0 (cost_Value.l1 kq l1 x5_1 x8_2 l0 (l0.length : Int) x14_1 ((rd_T39 l0 x14_1).f1) (((rd_T39 l0 x14_1).f1).length : Int) x23_2 = some r) ∧ Aside0 (kq ≤ k1) ∧ Aside0 (w'.heap[gb182]? = some (.cells #[.int .u64 ((rd_T39 l0 x14_1).f0), (.slice A181_1 ((rd_T39 l0 x14_1).f1).length c181_1)] 39 (0, 0))) ∧ Aside0 (Below w.heap.size w w'))
        case atStart => exact ⟨((rd_T39 l0 x14_1).f0), (0), (by rfl), (by rfl), H', ⟨Nat.le_refl _⟩, ⟨by (with_reducible repeat (first | refine blk_drewN ?_ _ | refine blk_drew ?_ | refine blk_alloc ?_ _)); refine blk_put (cs := #[.int .u64 ((rd_T39 l0 x14_1).f0), .slice none 0 0]) ?_ 1 _ rfl; (with_reducible repeat (first | refine blk_drewN ?_ _ | refine blk_drew ?_ | refine blk_alloc ?_ _)); refine blk_put (cs := #[.int .u64 0, .slice none 0 0]) ?_ 0 _ rfl; (with_reducible repeat (first | refine blk_drewN ?_ _ | refine blk_drew ?_ | refine blk_alloc ?_ _)); exact BK182.out⟩, ⟨by repeat ((with_reducible first | exact HB.out | refine below_set ?_ GE182.out))⟩⟩
        case round =>
          clear H'
          try clear c3b0
          try clear c4b0
          try clear c5b0
          try clear hcz7_0
          try clear hcz7_1
          try clear hfz7_0
          try clear hfz7_1
          try clear hx181_0
          try clear hx181_1
          try clear p181
          try clear q181
          obtain ⟨x8_2, x23_2, rfl, rfl, HA, HK2, BK182, HB⟩ := hrel
          cases gk with
          | zero => exact absurd HA.out (by simp [cost_Value.l1])
          | succ k2 =>
            have H := HA.out
            clear HA
            simp only [cost_Value.l1] at H
            by_cases c8 : x23_2 < (((rd_T39 l0 x14_1).f1).length : Int)
            · rw [if_pos c8] at H
              have c8b0 : decide (x23_2 < (((rd_T39 l0 x14_1).f1).length : Int)) = true := decide_eq_true c8
              clear c8
              replace H := its H
              obtain ⟨c9, H⟩ := H
              have c9b0 : decide (0 ≤ x23_2) = true := decide_eq_true c9
              clear c9
              replace H := its H
              obtain ⟨c10, H⟩ := H
              have c10b0 : decide (x23_2 < (((rd_T39 l0 x14_1).f1).length : Int)) = true := decide_eq_true c10
              clear c10
              by_cases c11 : x23_2 < (l1.length : Int)
              · rw [if_pos c11] at H
                have c11b0 : decide (x23_2 < (l1.length : Int)) = true := decide_eq_true c11
                clear c11
                replace H := Option.bind_eq_some_iff.mp H
                obtain ⟨t185, A120, H⟩ := H
                replace H : (cost_Value.l1 k2 l1 x5_1 t185 l0 (l0.length : Int) x14_1 ((rd_T39 l0 x14_1).f1) (((rd_T39 l0 x14_1).f1).length : Int) (wrap64 (x23_2 + 1))) = some r := H
                have A12 := am A120
                clear A120
                have H' := am H
                clear H
                have p183 : 0 ≤ (x23_2 : Int) := of_decide_eq_true (by (with_reducible assumption))
                have q183 : x23_2 < (((rd_T39 l0 x14_1).f1).length : Int) := of_decide_eq_true (by (with_reducible assumption))
                obtain ⟨ad183, e183, hx183_0⟩ := Kd.at_int HR181_1.out x23_2 p183 q183
                cases e183
                replace hx183_0 := (HB.out.cell (World.block_lt_of_cell? w _ hx183_0)).trans hx183_0
                replace p183 := eq_true p183
                replace q183 := eq_true q183
                have p184 : 0 ≤ (x23_2 : Int) := of_decide_eq_true (by (with_reducible assumption))
                have q184 : x23_2 < (l1.length : Int) := of_decide_eq_true (by (with_reducible assumption))
                obtain ⟨ad184, e184, hx184_0⟩ := Kd.at_int HR1.out x23_2 p184 q184
                cases e184
                replace hx184_0 := (HB.out.cell (World.block_lt_of_cell? w _ hx184_0)).trans hx184_0
                replace p184 := eq_true p184
                replace q184 := eq_true q184
                go_wp2_with (((with_reducible refine gate_callee (f := 21) rfl ?_); refine goesL_ (some 39) rfl rfl Try.func21 (by kernel_rfl) rfl #[.int .u64 x8_2, .int .u64 (rd l1 x23_2), .int .i64 (rd ((rd_T39 l0 x14_1).f1) x23_2)] rfl (by (try simp only [List.map_toArray, List.map_cons, List.map_nil]); rfl) ?_; (with_reducible refine (cost_powered.calls k2 x8_2 (rd l1 x23_2) (rd ((rd_T39 l0 x14_1).f1) x23_2) t185 _ A12.out).mono ?_); rintro e w' ⟨rfl, ⟨nd, rfl⟩⟩; refine ⟨_, rfl, ?_⟩))
                go_roundg k2
                case measure => have := HK1.out; have := HK2.out; omega
                case rel => exact ⟨(t185), (wrap64 (x23_2 + 1)), (by rfl), (by rfl), H', ⟨by have := HK1.out; have := HK2.out; omega⟩, ⟨by (with_reducible repeat (refine blk_drewN ?_ _)); exact BK182.out⟩, ⟨by repeat ((with_reducible first | exact HB.out | apply pw_below_drewN))⟩⟩
              · rw [if_neg c11] at H
                have c11b0 : decide (x23_2 < (l1.length : Int)) = false := decide_eq_false c11
                clear c11
                replace H := Option.bind_eq_some_iff.mp H
                obtain ⟨t186, A130, H⟩ := H
                replace H : (cost_Value.l1 k2 l1 x5_1 t186 l0 (l0.length : Int) x14_1 ((rd_T39 l0 x14_1).f1) (((rd_T39 l0 x14_1).f1).length : Int) (wrap64 (x23_2 + 1))) = some r := H
                have A13 := am A130
                clear A130
                have H' := am H
                clear H
                have p183 : 0 ≤ (x23_2 : Int) := of_decide_eq_true (by (with_reducible assumption))
                have q183 : x23_2 < (((rd_T39 l0 x14_1).f1).length : Int) := of_decide_eq_true (by (with_reducible assumption))
                obtain ⟨ad183, e183, hx183_0⟩ := Kd.at_int HR181_1.out x23_2 p183 q183
                cases e183
                replace hx183_0 := (HB.out.cell (World.block_lt_of_cell? w _ hx183_0)).trans hx183_0
                replace p183 := eq_true p183
                replace q183 := eq_true q183
                go_wp2_with (((with_reducible refine gate_callee (f := 21) rfl ?_); refine goesL_ (some 39) rfl rfl Try.func21 (by kernel_rfl) rfl #[.int .u64 x8_2, .int .u64 0, .int .i64 (rd ((rd_T39 l0 x14_1).f1) x23_2)] rfl (by (try simp only [List.map_toArray, List.map_cons, List.map_nil]); rfl) ?_; (with_reducible refine (cost_powered.calls k2 x8_2 0 (rd ((rd_T39 l0 x14_1).f1) x23_2) t186 _ A13.out).mono ?_); rintro e w' ⟨rfl, ⟨nd, rfl⟩⟩; refine ⟨_, rfl, ?_⟩))
                go_roundg k2
                case measure => have := HK1.out; have := HK2.out; omega
                case rel => exact ⟨(t186), (wrap64 (x23_2 + 1)), (by rfl), (by rfl), H', ⟨by have := HK1.out; have := HK2.out; omega⟩, ⟨by (with_reducible repeat (refine blk_drewN ?_ _)); exact BK182.out⟩, ⟨by repeat ((with_reducible first | exact HB.out | apply pw_below_drewN))⟩⟩
            · rw [if_neg c8] at H
              have c8b0 : decide (x23_2 < (((rd_T39 l0 x14_1).f1).length : Int)) = false := decide_eq_false c8
              clear c8
              replace H := Option.bind_eq_some_iff.mp H
              obtain ⟨t187, A140, H⟩ := H
              replace H : (cost_Value.l0 k2 l1 t187 l0 (l0.length : Int) (wrap64 (x14_1 + 1))) = some r := H
              have A14 := am A140
              clear A140
              have H' := am H
              clear H
              go_wp2_with (((with_reducible refine gate_callee (f := 22) rfl ?_); refine goesL_ (some 43) rfl rfl Try.func22 (by kernel_rfl) rfl #[.int .u64 x5_1, .int .u64 x8_2] rfl (by (try simp only [List.map_toArray, List.map_cons, List.map_nil]); rfl) ?_; (with_reducible refine (cost_plus.calls x5_1 x8_2 t187 _ A14.out).mono ?_); rintro e w' ⟨rfl, ⟨nd, rfl⟩⟩; refine ⟨_, rfl, ?_⟩))
              go_roundg k2
              case measure => have := HK1.out; have := HK2.out; omega
              case rel => exact ⟨(t187), (wrap64 (x14_1 + 1)), (by rfl), (by rfl), H', ⟨by have := HK1.out; have := HK2.out; omega⟩, ⟨by repeat ((with_reducible first | exact HB.out | apply pw_below_drewN))⟩⟩
      · rw [if_neg c3] at H
        have c3b0 : decide (x14_1 < (l0.length : Int)) = false := decide_eq_false c3
        clear c3
        obtain rfl := Option.some.inj H
        go_wp2
        go_ret
        exact ⟨by rfl, by exact HB.out⟩
end Go.Proofs.Ytkkocmmilmbgpaa.S
end
section
namespace Go.Proofs.Ytkkocmmilmbgpaa.S
open Go.RowKit Go.Proofs.YtkkocmmilmbgpaaW.PrintWords Go.Proofs.YtkkocmmilmbgpaaW.PrintLast Go.Proofs.YtkkocmmilmbgpaaW.PrintMore
attribute [local go_sem] max2_int min2_int max_two min_two max_three min_three max_four min_four
set_option linter.unusedVariables false
set_option linter.unusedSimpArgs false
def cost_Bound.f (a0_0 : Int) (a0_1 : Int) (a0_2 : Int) (a0_3 : Int) (a0_4 : Int) (a0_5 : Int) : Option (Int) := (cost_plus.f a0_4 1).bind fun t189 => ((cost_times.f a0_1 t189).bind fun t190 => ((cost_plus.f a0_2 1).bind fun t191 => ((cost_times.f t190 t191).bind fun t192 => ((cost_times.f 4 a0_0).bind fun t193 => ((cost_plus.f t192 t193).bind fun t194 => ((cost_plus.f a0_3 1).bind fun t195 => ((cost_times.f t195 t194).bind fun t196 => ((cost_plus.f a0_0 1).bind fun t197 => ((cost_times.f a0_5 t197).bind fun t198 => ((cost_plus.f t196 t198).bind fun t199 => (some t199)))))))))))
set_option maxHeartbeats 8000000 in
set_option maxRecDepth 100000 in
theorem cost_Bound.calls (a0_0 : Int) (a0_1 : Int) (a0_2 : Int) (a0_3 : Int) (a0_4 : Int) (a0_5 : Int) (r : Int) (w : World) (h : cost_Bound.f a0_0 a0_1 a0_2 a0_3 a0_4 a0_5 = some r) :
    Calls Try.prog 8 #[.agg #[.int .u64 a0_0, .int .u64 a0_1, .int .u64 a0_2, .int .u64 a0_3, .int .u64 a0_4, .int .u64 a0_5]] w fun e w' => e = .returned (.int .u64 r) ∧ Below w.heap.size w w' := by
  have hu26 := Try.underlying26
  have HB := am (Below.refl w.heap.size w)
  have H : ((cost_plus.f a0_4 1).bind fun t189 => ((cost_times.f a0_1 t189).bind fun t190 => ((cost_plus.f a0_2 1).bind fun t191 => ((cost_times.f t190 t191).bind fun t192 => ((cost_times.f 4 a0_0).bind fun t193 => ((cost_plus.f t192 t193).bind fun t194 => ((cost_plus.f a0_3 1).bind fun t195 => ((cost_times.f t195 t194).bind fun t196 => ((cost_plus.f a0_0 1).bind fun t197 => ((cost_times.f a0_5 t197).bind fun t198 => ((cost_plus.f t196 t198).bind fun t199 => (some t199)))))))))))) = some r := h
  clear h
  replace H := Option.bind_eq_some_iff.mp H
  obtain ⟨t189, A20, H⟩ := H
  replace H : ((cost_times.f a0_1 t189).bind fun t190 => ((cost_plus.f a0_2 1).bind fun t191 => ((cost_times.f t190 t191).bind fun t192 => ((cost_times.f 4 a0_0).bind fun t193 => ((cost_plus.f t192 t193).bind fun t194 => ((cost_plus.f a0_3 1).bind fun t195 => ((cost_times.f t195 t194).bind fun t196 => ((cost_plus.f a0_0 1).bind fun t197 => ((cost_times.f a0_5 t197).bind fun t198 => ((cost_plus.f t196 t198).bind fun t199 => (some t199))))))))))) = some r := H
  have A2 := am A20
  clear A20
  replace H := Option.bind_eq_some_iff.mp H
  obtain ⟨t190, A30, H⟩ := H
  replace H : ((cost_plus.f a0_2 1).bind fun t191 => ((cost_times.f t190 t191).bind fun t192 => ((cost_times.f 4 a0_0).bind fun t193 => ((cost_plus.f t192 t193).bind fun t194 => ((cost_plus.f a0_3 1).bind fun t195 => ((cost_times.f t195 t194).bind fun t196 => ((cost_plus.f a0_0 1).bind fun t197 => ((cost_times.f a0_5 t197).bind fun t198 => ((cost_plus.f t196 t198).bind fun t199 => (some t199)))))))))) = some r := H
  have A3 := am A30
  clear A30
  replace H := Option.bind_eq_some_iff.mp H
  obtain ⟨t191, A40, H⟩ := H
  replace H : ((cost_times.f t190 t191).bind fun t192 => ((cost_times.f 4 a0_0).bind fun t193 => ((cost_plus.f t192 t193).bind fun t194 => ((cost_plus.f a0_3 1).bind fun t195 => ((cost_times.f t195 t194).bind fun t196 => ((cost_plus.f a0_0 1).bind fun t197 => ((cost_times.f a0_5 t197).bind fun t198 => ((cost_plus.f t196 t198).bind fun t199 => (some t199))))))))) = some r := H
  have A4 := am A40
  clear A40
  replace H := Option.bind_eq_some_iff.mp H
  obtain ⟨t192, A50, H⟩ := H
  replace H : ((cost_times.f 4 a0_0).bind fun t193 => ((cost_plus.f t192 t193).bind fun t194 => ((cost_plus.f a0_3 1).bind fun t195 => ((cost_times.f t195 t194).bind fun t196 => ((cost_plus.f a0_0 1).bind fun t197 => ((cost_times.f a0_5 t197).bind fun t198 => ((cost_plus.f t196 t198).bind fun t199 => (some t199)))))))) = some r := H
  have A5 := am A50
  clear A50
  replace H := Option.bind_eq_some_iff.mp H
  obtain ⟨t193, A60, H⟩ := H
  replace H : ((cost_plus.f t192 t193).bind fun t194 => ((cost_plus.f a0_3 1).bind fun t195 => ((cost_times.f t195 t194).bind fun t196 => ((cost_plus.f a0_0 1).bind fun t197 => ((cost_times.f a0_5 t197).bind fun t198 => ((cost_plus.f t196 t198).bind fun t199 => (some t199))))))) = some r := H
  have A6 := am A60
  clear A60
  replace H := Option.bind_eq_some_iff.mp H
  obtain ⟨t194, A70, H⟩ := H
  replace H : ((cost_plus.f a0_3 1).bind fun t195 => ((cost_times.f t195 t194).bind fun t196 => ((cost_plus.f a0_0 1).bind fun t197 => ((cost_times.f a0_5 t197).bind fun t198 => ((cost_plus.f t196 t198).bind fun t199 => (some t199)))))) = some r := H
  have A7 := am A70
  clear A70
  replace H := Option.bind_eq_some_iff.mp H
  obtain ⟨t195, A80, H⟩ := H
  replace H : ((cost_times.f t195 t194).bind fun t196 => ((cost_plus.f a0_0 1).bind fun t197 => ((cost_times.f a0_5 t197).bind fun t198 => ((cost_plus.f t196 t198).bind fun t199 => (some t199))))) = some r := H
  have A8 := am A80
  clear A80
  replace H := Option.bind_eq_some_iff.mp H
  obtain ⟨t196, A90, H⟩ := H
  replace H : ((cost_plus.f a0_0 1).bind fun t197 => ((cost_times.f a0_5 t197).bind fun t198 => ((cost_plus.f t196 t198).bind fun t199 => (some t199)))) = some r := H
  have A9 := am A90
  clear A90
  replace H := Option.bind_eq_some_iff.mp H
  obtain ⟨t197, A100, H⟩ := H
  replace H : ((cost_times.f a0_5 t197).bind fun t198 => ((cost_plus.f t196 t198).bind fun t199 => (some t199))) = some r := H
  have A10 := am A100
  clear A100
  replace H := Option.bind_eq_some_iff.mp H
  obtain ⟨t198, A110, H⟩ := H
  replace H : ((cost_plus.f t196 t198).bind fun t199 => (some t199)) = some r := H
  have A11 := am A110
  clear A110
  replace H := Option.bind_eq_some_iff.mp H
  obtain ⟨t199, A120, H⟩ := H
  replace H : (some t199) = some r := H
  have A12 := am A120
  clear A120
  obtain rfl := Option.some.inj H
  go_enter Try.func8, Try.ntmps8
  go_wp2_with (((with_reducible refine gate_dst (N := 1) rfl ?_); refine box_event ?hg (N := 1) ?hd (cs := #[.int .u64 a0_0, .int .u64 a0_1, .int .u64 a0_2, .int .u64 a0_3, .int .u64 a0_4, .int .u64 a0_5]) (t := 26) ?hr ?_; (case hd => rfl); (case hg => rfl); (case hr => (go_simp; done)); intro gb188 hg w13 hbox hb; have BK188 := am (hbox); have GW188 := am ((by rw [hg]; exact (below_size HB.out) : w.heap.size ≤ gb188)); have GE188 := am ((by rw [hg]; exact (below_size HB.out) : w.heap.size ≤ gb188)); replace HB := am (below_step HB.out hb); clear hb hbox hg; have hcz14_0 : w13.cell? ⟨gb188, 0, none⟩ = some (.int .u64 a0_0) := (blk_cell BK188.out 0).trans rfl; have hcz14_1 : w13.cell? ⟨gb188, 1, none⟩ = some (.int .u64 a0_1) := (blk_cell BK188.out 1).trans rfl; have hcz14_2 : w13.cell? ⟨gb188, 2, none⟩ = some (.int .u64 a0_2) := (blk_cell BK188.out 2).trans rfl; have hcz14_3 : w13.cell? ⟨gb188, 3, none⟩ = some (.int .u64 a0_3) := (blk_cell BK188.out 3).trans rfl; have hcz14_4 : w13.cell? ⟨gb188, 4, none⟩ = some (.int .u64 a0_4) := (blk_cell BK188.out 4).trans rfl; have hcz14_5 : w13.cell? ⟨gb188, 5, none⟩ = some (.int .u64 a0_5) := (blk_cell BK188.out 5).trans rfl; have hfz14_0 := blk_frozen BK188.out 0; have hfz14_1 := blk_frozen BK188.out 1; have hfz14_2 := blk_frozen BK188.out 2; have hfz14_3 := blk_frozen BK188.out 3; have hfz14_4 := blk_frozen BK188.out 4; have hfz14_5 := blk_frozen BK188.out 5))
  repeat ((with_reducible refine at_region ?_); go_quiet (first | (go_at_call 22; (with_reducible refine (cost_plus.calls a0_4 1 t189 _ A2.out).mono ?_); rintro e w' ⟨rfl, ⟨nd, rfl⟩⟩; (try exact ⟨rfl, _, World.drewN_drewN _ _ _⟩)) | (go_at_call 23; (with_reducible refine (cost_times.calls a0_1 t189 t190 _ A3.out).mono ?_); rintro e w' ⟨rfl, ⟨nd, rfl⟩⟩; (try exact ⟨rfl, _, World.drewN_drewN _ _ _⟩)) | (go_at_call 22; (with_reducible refine (cost_plus.calls a0_2 1 t191 _ A4.out).mono ?_); rintro e w' ⟨rfl, ⟨nd, rfl⟩⟩; (try exact ⟨rfl, _, World.drewN_drewN _ _ _⟩)) | (go_at_call 23; (with_reducible refine (cost_times.calls t190 t191 t192 _ A5.out).mono ?_); rintro e w' ⟨rfl, ⟨nd, rfl⟩⟩; (try exact ⟨rfl, _, World.drewN_drewN _ _ _⟩)) | (go_at_call 23; (with_reducible refine (cost_times.calls 4 a0_0 t193 _ A6.out).mono ?_); rintro e w' ⟨rfl, ⟨nd, rfl⟩⟩; (try exact ⟨rfl, _, World.drewN_drewN _ _ _⟩)) | (go_at_call 22; (with_reducible refine (cost_plus.calls t192 t193 t194 _ A7.out).mono ?_); rintro e w' ⟨rfl, ⟨nd, rfl⟩⟩; (try exact ⟨rfl, _, World.drewN_drewN _ _ _⟩)) | (go_at_call 22; (with_reducible refine (cost_plus.calls a0_3 1 t195 _ A8.out).mono ?_); rintro e w' ⟨rfl, ⟨nd, rfl⟩⟩; (try exact ⟨rfl, _, Eq.trans (World.drewN_drewN _ _ _) (congrArg (World.drewN _) (Nat.add_assoc _ _ _))⟩)) | (go_at_call 23; (with_reducible refine (cost_times.calls t195 t194 t196 _ A9.out).mono ?_); rintro e w' ⟨rfl, ⟨nd, rfl⟩⟩; (try exact ⟨rfl, _, Eq.trans (World.drewN_drewN _ _ _) (congrArg (World.drewN _) (Nat.add_assoc _ _ _))⟩)) | (go_at_call 22; (with_reducible refine (cost_plus.calls a0_0 1 t197 _ A10.out).mono ?_); rintro e w' ⟨rfl, ⟨nd, rfl⟩⟩; (try exact ⟨rfl, _, Eq.trans (World.drewN_drewN _ _ _) (congrArg (World.drewN _) (Nat.add_assoc _ _ _))⟩)) | (go_at_call 23; (with_reducible refine (cost_times.calls a0_5 t197 t198 _ A11.out).mono ?_); rintro e w' ⟨rfl, ⟨nd, rfl⟩⟩; (try exact ⟨rfl, _, Eq.trans (World.drewN_drewN _ _ _) (congrArg (World.drewN _) (Nat.add_assoc _ _ _))⟩)) | (go_at_call 22; (with_reducible refine (cost_plus.calls t196 t198 t199 _ A12.out).mono ?_); rintro e w' ⟨rfl, ⟨nd, rfl⟩⟩; (try exact ⟨rfl, _, Eq.trans (World.drewN_drewN _ _ _) (congrArg (World.drewN _) (Nat.add_assoc _ _ _))⟩))); try go_wp2_with (first | ((with_reducible refine gate_dst (N := 1) rfl ?_); refine box_event ?hg (N := 1) ?hd (cs := #[.int .u64 a0_0, .int .u64 a0_1, .int .u64 a0_2, .int .u64 a0_3, .int .u64 a0_4, .int .u64 a0_5]) (t := 26) ?hr ?_; (case hd => rfl); (case hg => rfl); (case hr => first | (go_simp; done) | (go_simp; rfl)); intro gb188 hg w13 hbox hb; have BK188 := am (hbox); have GW188 := am ((by rw [hg]; exact (below_size (by repeat (first | (with_reducible first | exact HB.out | apply below_alloc | apply pw_below_drewN | apply below_drew1) | exact HB.out))) : w.heap.size ≤ gb188)); have GE188 := am ((by rw [hg]; exact (below_size (by repeat (first | (with_reducible first | exact HB.out | apply below_alloc | apply pw_below_drewN | apply below_drew1) | exact HB.out))) : w.heap.size ≤ gb188)); replace HB := am (below_step (by repeat (first | (with_reducible first | exact HB.out | apply below_alloc | apply pw_below_drewN | apply below_drew1) | exact HB.out)) hb); clear hb hbox hg; have hcz14_0 : w13.cell? ⟨gb188, 0, none⟩ = some (.int .u64 a0_0) := (blk_cell BK188.out 0).trans rfl; have hcz14_1 : w13.cell? ⟨gb188, 1, none⟩ = some (.int .u64 a0_1) := (blk_cell BK188.out 1).trans rfl; have hcz14_2 : w13.cell? ⟨gb188, 2, none⟩ = some (.int .u64 a0_2) := (blk_cell BK188.out 2).trans rfl; have hcz14_3 : w13.cell? ⟨gb188, 3, none⟩ = some (.int .u64 a0_3) := (blk_cell BK188.out 3).trans rfl; have hcz14_4 : w13.cell? ⟨gb188, 4, none⟩ = some (.int .u64 a0_4) := (blk_cell BK188.out 4).trans rfl; have hcz14_5 : w13.cell? ⟨gb188, 5, none⟩ = some (.int .u64 a0_5) := (blk_cell BK188.out 5).trans rfl; have hfz14_0 := blk_frozen BK188.out 0; have hfz14_1 := blk_frozen BK188.out 1; have hfz14_2 := blk_frozen BK188.out 2; have hfz14_3 := blk_frozen BK188.out 3; have hfz14_4 := blk_frozen BK188.out 4; have hfz14_5 := blk_frozen BK188.out 5) | (go_at_call 22; (with_reducible refine (cost_plus.calls a0_4 1 t189 _ A2.out).mono ?_); rintro e w' ⟨rfl, ⟨nd, rfl⟩⟩) | (go_at_call 23; (with_reducible refine (cost_times.calls a0_1 t189 t190 _ A3.out).mono ?_); rintro e w' ⟨rfl, ⟨nd, rfl⟩⟩) | (go_at_call 22; (with_reducible refine (cost_plus.calls a0_2 1 t191 _ A4.out).mono ?_); rintro e w' ⟨rfl, ⟨nd, rfl⟩⟩) | (go_at_call 23; (with_reducible refine (cost_times.calls t190 t191 t192 _ A5.out).mono ?_); rintro e w' ⟨rfl, ⟨nd, rfl⟩⟩) | (go_at_call 23; (with_reducible refine (cost_times.calls 4 a0_0 t193 _ A6.out).mono ?_); rintro e w' ⟨rfl, ⟨nd, rfl⟩⟩) | (go_at_call 22; (with_reducible refine (cost_plus.calls t192 t193 t194 _ A7.out).mono ?_); rintro e w' ⟨rfl, ⟨nd, rfl⟩⟩) | (go_at_call 22; (with_reducible refine (cost_plus.calls a0_3 1 t195 _ A8.out).mono ?_); rintro e w' ⟨rfl, ⟨nd, rfl⟩⟩) | (go_at_call 23; (with_reducible refine (cost_times.calls t195 t194 t196 _ A9.out).mono ?_); rintro e w' ⟨rfl, ⟨nd, rfl⟩⟩) | (go_at_call 22; (with_reducible refine (cost_plus.calls a0_0 1 t197 _ A10.out).mono ?_); rintro e w' ⟨rfl, ⟨nd, rfl⟩⟩) | (go_at_call 23; (with_reducible refine (cost_times.calls a0_5 t197 t198 _ A11.out).mono ?_); rintro e w' ⟨rfl, ⟨nd, rfl⟩⟩) | (go_at_call 22; (with_reducible refine (cost_plus.calls t196 t198 t199 _ A12.out).mono ?_); rintro e w' ⟨rfl, ⟨nd, rfl⟩⟩)))
  go_ret
  exact ⟨by rfl, by repeat ((with_reducible first | exact HB.out | apply pw_below_drewN))⟩
end Go.Proofs.Ytkkocmmilmbgpaa.S
end
section
namespace Go.Proofs.Ytkkocmmilmbgpaa.S
set_option linter.unusedVariables false
set_option linter.unusedSimpArgs false
open Go.RowKit Go.Proofs.YtkkocmmilmbgpaaW.PrintWords Go.Proofs.YtkkocmmilmbgpaaW.PrintLast Go.Proofs.YtkkocmmilmbgpaaW.PrintMore
namespace Num
theorem maskN (a : Nat) (ha : a < 18446744073709551616) : bits .and .u64 (a : Int) 4294967295 = ((a % 4294967296 : Nat) : Int) := by
  have h := bits_and_u64_nat a 4294967295 ha (by omega)
  have e : a &&& 4294967295 = a % 4294967296 := Nat.and_two_pow_sub_one_eq_mod a 32
  rw [e] at h
  exact h
theorem divN (a : Nat) : (a : Int) / 4294967296 = ((a / 4294967296 : Nat) : Int) := by omega
theorem mulN (a b : Nat) : (a : Int) * (b : Int) = ((a * b : Nat) : Int) := (Int.natCast_mul a b).symm
theorem addN (a b : Nat) : (a : Int) + (b : Int) = ((a + b : Nat) : Int) := (Int.natCast_add a b).symm
theorem wrapN (a : Nat) (ha : a < 18446744073709551616) : IntKind.u64.wrap (a : Int) = (a : Int) := by rw [IntKind.wrap_u64]; omega
theorem wrapM (a : Nat) : IntKind.u64.wrap (a : Int) = ((a % 18446744073709551616 : Nat) : Int) := by rw [IntKind.wrap_u64]; omega
end Num
open Num
theorem bits_Mul64.eq (x y : Nat) (hx : x < 18446744073709551616) (hy : y < 18446744073709551616) :
    bits_Mul64.f x y = some (((x * y / 18446744073709551616 : Nat) : Int), ((x * y % 18446744073709551616 : Nat) : Int)) := by
  obtain ⟨bd, bt, bw, hhi⟩ := Lib.mul64_hi x y hx hy
  have ba := Lib.half_mul_le (a := x / 4294967296) (b := y / 4294967296) (by omega) (by omega)
  have bb := Lib.half_mul_le (a := x / 4294967296) (b := y % 4294967296) (by omega) (by omega)
  have bc := Lib.half_mul_le (a := x % 4294967296) (b := y / 4294967296) (by omega) (by omega)
  have ba' : x / 4294967296 * (y / 4294967296) < 18446744073709551616 := by omega
  have bb' : x / 4294967296 * (y % 4294967296) < 18446744073709551616 := by omega
  have bc' : x % 4294967296 * (y / 4294967296) < 18446744073709551616 := by omega
  have bh1 : x / 4294967296 * (y / 4294967296) + (x / 4294967296 * (y % 4294967296) + x % 4294967296 * (y % 4294967296) / 4294967296) / 4294967296 < 18446744073709551616 := by omega
  have bh : x / 4294967296 * (y / 4294967296) + (x / 4294967296 * (y % 4294967296) + x % 4294967296 * (y % 4294967296) / 4294967296) / 4294967296 + ((x / 4294967296 * (y % 4294967296) + x % 4294967296 * (y % 4294967296) / 4294967296) % 4294967296 + x % 4294967296 * (y / 4294967296)) / 4294967296 < 18446744073709551616 := by omega
  unfold bits_Mul64.f
  simp only [maskN x hx, maskN y hy, divN, mulN, addN, wrapN _ bd, wrapN _ bb', wrapN _ bt, maskN _ bt, wrapN _ bc', wrapN _ bw, wrapN _ ba', wrapN _ bh1, wrapN _ bh, wrapM (x * y)]
  rw [hhi]
end Go.Proofs.Ytkkocmmilmbgpaa.S
end
section
namespace Go.Proofs.Ytkkocmmilmbgpaa.S
open Go.RowKit Go.Proofs.YtkkocmmilmbgpaaW.PrintWords
set_option linter.unusedVariables false
set_option linter.unusedSimpArgs false
namespace Cost
def U (x : Int) : Prop := 0 ≤ x ∧ x ≤ 18446744073709551615
theorem times_eq (a b : Nat) (ha : a ≤ (18446744073709551615 : Nat)) (hb : b ≤ (18446744073709551615 : Nat)) : cost_times.f (a : Int) (b : Int) = some ((min (a * b) (18446744073709551615 : Nat) : Nat) : Int) := by
  unfold cost_times.f
  rw [bits_Mul64.eq a b (by omega) (by omega)]
  generalize a * b = n
  simp only [Option.bind_some]
  by_cases h : n / 18446744073709551616 = 0
  · rw [h, if_neg (by simp)]
    congr 1
    have h1 : n < 18446744073709551616 := by omega
    rw [Nat.mod_eq_of_lt h1, Nat.min_eq_left (by omega)]
  · rw [if_pos (by omega), Nat.min_eq_right (by omega)]
    rfl
theorem plus_eq (a b : Nat) (ha : a ≤ (18446744073709551615 : Nat)) (hb : b ≤ (18446744073709551615 : Nat)) : cost_plus.f (a : Int) (b : Int) = some ((min (a + b) (18446744073709551615 : Nat) : Nat) : Int) := by
  unfold cost_plus.f bits_Add64.f
  rw [if_pos (by omega)]
  simp only [Option.bind_some]
  by_cases h : a + b ≤ (18446744073709551615 : Nat)
  · rw [if_neg (by omega), Nat.min_eq_left h]
    congr 1
    omega
  · rw [if_pos (by omega), Nat.min_eq_right (by omega)]
    rfl
def pw (n : Nat) : Nat → Nat → Nat
  | 0, c => c
  | t + 1, c => pw n t (min (c * n) (18446744073709551615 : Nat))
theorem pw_le (n : Nat) : ∀ t c, c ≤ (18446744073709551615 : Nat) → pw n t c ≤ (18446744073709551615 : Nat)
  | 0, c, h => h
  | t + 1, c, h => pw_le n t _ (Nat.min_le_right _ _)
theorem pw_fix (n : Nat) : ∀ t c, min (c * n) (18446744073709551615 : Nat) = c → pw n t c = c
  | 0, c, h => rfl
  | t + 1, c, h => by rw [pw, h]; exact pw_fix n t c h
theorem powered_zero (k : Nat) (t : Int) (h : t ≤ 0) (c n : Int) : cost_powered.l0 (k + 1) c n t = some c := by
  rw [cost_powered.l0, if_neg (by omega)]
theorem powered_eq (n : Nat) (hn : n ≤ (18446744073709551615 : Nat)) : ∀ (j c : Nat) (t : Int) (k : Nat), c ≤ (18446744073709551615 : Nat) → (c = 0 ∨ (18446744073709551615 : Nat) ≤ c * 2 ^ j) → t < 9223372036854775808 → j + 3 ≤ k → cost_powered.l0 k c n t = some ((pw n t.toNat c : Nat) : Int)
  | j, c, t, 0, _, _, _, hk => by omega
  | j, c, t, k + 1, hc, hj, ht, hk => by
    by_cases h0 : t ≤ 0
    · rw [powered_zero k t h0, show t.toNat = 0 by omega]; rfl
    · rw [cost_powered.l0, if_pos (by omega), times_eq c n hc hn]
      simp only [Option.bind_some]
      have hw : wrap64 (t - 1) = t - 1 := by unfold wrap64; omega
      obtain ⟨u, hu⟩ : ∃ u : Nat, t.toNat = u + 1 := ⟨t.toNat - 1, by omega⟩
      by_cases hf : min (c * n) (18446744073709551615 : Nat) = c
      · rw [if_pos (by omega), pw_fix n _ c hf]
      · rw [if_neg (by omega), hw, hu, pw]
        have hu' : (t - 1).toNat = u := by omega
        rw [← hu']
        have hc0 : c ≠ 0 := fun h => hf (by subst h; simp)
        have hn1 : n ≠ 1 := fun h => hf (by subst h; rw [Nat.mul_one]; exact Nat.min_eq_left hc)
        have hj' : (18446744073709551615 : Nat) ≤ c * 2 ^ j := by omega
        by_cases hn0 : n = 0
        · subst hn0
          obtain ⟨k2, rfl⟩ : ∃ k2, k = k2 + 2 := ⟨k - 2, by omega⟩
          have hz : min (c * 0) (18446744073709551615 : Nat) = 0 := by simp
          rw [hz, pw_fix 0 _ 0 (by simp)]
          rw [cost_powered.l0]
          by_cases h1 : t - 1 > 0
          · rw [if_pos h1, times_eq 0 0 (by omega) (by omega)]
            simp
          · rw [if_neg h1]
        · cases j with
          | zero =>
            refine absurd ?_ hf
            have : c = (18446744073709551615 : Nat) := by rw [Nat.pow_zero, Nat.mul_one] at hj'; omega
            subst this
            have := Nat.mul_le_mul_left (18446744073709551615 : Nat) (show 1 ≤ n by omega)
            omega
          | succ j =>
            refine powered_eq n hn j _ (t - 1) k (Nat.min_le_right _ _) (.inr ?_) (by omega) (by omega)
            have h2 : c * 2 ≤ c * n := Nat.mul_le_mul_left c (by omega)
            have h3 : c * 2 ^ (j + 1) = c * 2 * 2 ^ j := by rw [Nat.pow_succ, Nat.mul_assoc, Nat.mul_comm 2]
            by_cases hm : c * n ≤ (18446744073709551615 : Nat)
            · rw [Nat.min_eq_left hm]
              exact Nat.le_trans (h3 ▸ hj') (Nat.mul_le_mul_right _ h2)
            · rw [Nat.min_eq_right (by omega)]
              exact Nat.le_mul_of_pos_right (18446744073709551615 : Nat) (Nat.pow_pos (by decide))
theorem powered_f (c n : Int) (hc : U c) (hn : U n) (t : Int) (ht : t < 9223372036854775808) (k : Nat) (hk : 67 ≤ k) : cost_powered.f k c n t = some ((pw n.toNat t.toNat c.toNat : Nat) : Int) := by
  obtain ⟨c, rfl⟩ := Int.eq_ofNat_of_zero_le hc.1
  obtain ⟨n, rfl⟩ := Int.eq_ofNat_of_zero_le hn.1
  refine powered_eq n (by have := hn.2; omega) 64 c t k (by have := hc.2; omega) ?_ ht (by omega)
  by_cases h : c = 0
  · exact .inl h
  · exact .inr (by rw [show (2 : Nat) ^ 64 = 18446744073709551616 by decide]; have := Nat.mul_le_mul_right 18446744073709551616 (show 1 ≤ c by omega); omega)
def tv (lims : List Int) : Nat → List Int → Nat → Nat
  | _, [], c => c
  | j, e :: es, c => tv lims (j + 1) es (pw (rd lims (j : Int)).toNat e.toNat c)
def vv (lims : List Int) : List S39 → Nat → Nat
  | [], acc => acc
  | x :: xs, acc => vv lims xs (min (acc + tv lims 0 x.f1 x.f0.toNat) (18446744073709551615 : Nat))
def okT (x : S39) : Prop := U x.f0 ∧ x.f1.length * 8 ≤ 140737488351232 ∧ ∀ e ∈ x.f1, e < 9223372036854775808
def rounds : List S39 → Nat
  | [] => 68
  | x :: xs => x.f1.length + 2 + rounds xs
theorem rounds_ge : ∀ xs, 68 ≤ rounds xs
  | [] => Nat.le_refl _
  | x :: xs => by have := rounds_ge xs; rw [rounds]; omega
theorem rd_U {l : List Int} (h : ∀ x ∈ l, U x) (j : Nat) : U (rd l (j : Int)) := by
  unfold rd
  rw [show ((j : Int)).toNat = j by omega, List.getD_eq_getElem?_getD]
  cases hx : l[j]? with
  | none => exact ⟨by simp, by simp⟩
  | some x => exact h x (List.mem_of_getElem? hx)
theorem inner_eq (lims : List Int) (hl : ∀ x ∈ lims, U x) (acc : Nat) (hacc : acc ≤ (18446744073709551615 : Nat)) (L : List S39) (n i : Int) (ts : List Int) (hts : ts.length < 9223372036854775807) (he : ∀ e ∈ ts, e < 9223372036854775808) :
    ∀ (es : List Int) (j c k : Nat), c ≤ (18446744073709551615 : Nat) → ts.drop j = es → 67 + es.length + 1 ≤ k →
      cost_Value.l1 k lims acc c L n i ts ts.length j = cost_Value.l0 (k - es.length - 1) lims ((min (acc + tv lims j es c) (18446744073709551615 : Nat) : Nat) : Int) L n (wrap64 (i + 1)) := by
  intro es
  induction es with
  | nil =>
    intro j c k hc hd hk
    obtain ⟨k, rfl⟩ : ∃ k', k = k' + 1 := ⟨k - 1, by omega⟩
    have hj : ts.length ≤ j := List.drop_eq_nil_iff.1 hd
    rw [cost_Value.l1, if_neg (by omega), plus_eq acc c hacc hc]
    simp only [Option.bind_some, tv, List.length_nil, Nat.sub_zero, Nat.add_sub_cancel]
  | cons e es ih =>
    intro j c k hc hd hk
    obtain ⟨k, rfl⟩ : ∃ k', k = k' + 1 := ⟨k - 1, by omega⟩
    have hj : j < ts.length := by
      rcases Nat.lt_or_ge j ts.length with h | h
      · exact h
      · rw [List.drop_eq_nil_of_le h] at hd; cases hd
    have e1 : (j : Int) < (ts.length : Int) := by omega
    have e2 : (0 : Int) ≤ (j : Int) := by omega
    have hw : wrap64 ((j : Int) + 1) = ((j + 1 : Nat) : Int) := by unfold wrap64; omega
    have hcU : U (c : Int) := ⟨by omega, by omega⟩
    simp only [List.length_cons] at hk
    have k67 : 67 ≤ k := by omega
    have kes : 67 + es.length + 1 ≤ k := by omega
    have h1 := List.drop_eq_getElem_cons hj
    rw [hd] at h1
    injection h1 with h1 h2
    have hr : rd ts (j : Int) = e := by unfold rd; rw [h1]; simp [List.getD_eq_getElem?_getD, List.getElem?_eq_getElem hj]
    have hr0 : (if (j : Int) < (lims.length : Int) then rd lims (j : Int) else 0) = rd lims (j : Int) := by
      split
      · rfl
      · unfold rd; rw [List.getD_eq_getElem?_getD, List.getElem?_eq_none (by omega)]; rfl
    have hU := rd_U hl j
    have hp := powered_f (c : Int) (rd lims (j : Int)) hcU hU e (he e (by rw [h1]; exact List.getElem_mem hj)) k k67
    rw [Int.toNat_natCast] at hp
    have hn := ih (j + 1) (pw (rd lims (j : Int)).toNat e.toNat c) k (pw_le _ _ _ hc) h2.symm kes
    rw [cost_Value.l1, if_pos e1, if_pos e2, if_pos e1, hr, hw]
    have hg : ∀ x : Int, x = rd lims (j : Int) → ((cost_powered.f k c x e).bind fun t => cost_Value.l1 k lims acc t L n i ts ts.length ((j + 1 : Nat) : Int)) =
        cost_Value.l0 (k + 1 - (e :: es).length - 1) lims ((min (acc + tv lims j (e :: es) c) (18446744073709551615 : Nat) : Nat) : Int) L n (wrap64 (i + 1)) := by
      rintro x rfl
      rw [hp, Option.bind_some, hn, tv]
      rw [show k + 1 - (e :: es).length - 1 = k - es.length - 1 by rw [List.length_cons]; clear hn hp hU; omega]
    split
    · exact hg _ rfl
    · rename_i hx
      rw [if_neg hx] at hr0
      exact hg _ hr0
theorem outer_eq (lims : List Int) (hl : ∀ x ∈ lims, U x) (L : List S39) (hL : L.length < 9223372036854775807) (hok : ∀ x ∈ L, okT x) :
    ∀ (xs : List S39) (i acc k : Nat), acc ≤ (18446744073709551615 : Nat) → L.drop i = xs → rounds xs ≤ k → cost_Value.l0 k lims acc L L.length i = some ((vv lims xs acc : Nat) : Int) := by
  intro xs
  induction xs with
  | nil =>
    intro i acc k ha hd hk
    have hk := Nat.le_trans (rounds_ge _) hk
    obtain ⟨k, rfl⟩ : ∃ k', k = k' + 1 := ⟨k - 1, by omega⟩
    have hj : L.length ≤ i := List.drop_eq_nil_iff.1 hd
    rw [cost_Value.l0, if_neg (by omega)]; rfl
  | cons x xs ih =>
    intro i acc k ha hd hk
    have hk0 := Nat.le_trans (rounds_ge _) hk
    obtain ⟨k, rfl⟩ : ∃ k', k = k' + 1 := ⟨k - 1, by omega⟩
    have hj : i < L.length := by
      rcases Nat.lt_or_ge i L.length with h | h
      · exact h
      · rw [List.drop_eq_nil_of_le h] at hd; cases hd
    have h1 := List.drop_eq_getElem_cons hj
    rw [hd] at h1
    injection h1 with h1 h2
    have hr : rd_T39 L (i : Int) = x := by unfold rd_T39; rw [h1]; simp [List.getD_eq_getElem?_getD, List.getElem?_eq_getElem hj]
    have hx : okT x := hok x (by rw [h1]; exact List.getElem_mem hj)
    have hge := rounds_ge xs
    rw [rounds] at hk
    have hw : wrap64 ((i : Int) + 1) = ((i + 1 : Nat) : Int) := by unfold wrap64; omega
    rw [cost_Value.l0, if_pos (by omega), if_pos (by omega), if_pos (by omega), hr]
    have hf : x.f0 = ((x.f0.toNat : Nat) : Int) := by have := hx.1.1; omega
    have hi := inner_eq lims hl acc ha L L.length i x.f1 (by have := hx.2.1; omega) hx.2.2 x.f1 0 x.f0.toNat k (by have := hx.1.2; omega) rfl (by omega)
    rw [← hf] at hi
    rw [show ((0 : Nat) : Int) = 0 from rfl] at hi
    rw [hi, hw, vv]
    exact ih (i + 1) _ _ (Nat.min_le_right _ _) h2.symm (by omega)
theorem value_eq (lims : List Int) (hl : ∀ x ∈ lims, U x) (L : List S39) (hL : L.length < 9223372036854775807) (hok : ∀ x ∈ L, okT x) (k : Nat) (hk : rounds L ≤ k) :
    cost_Value.f k L lims = some ((vv lims L 0 : Nat) : Int) := outer_eq lims hl L hL hok L 0 0 k (by decide) rfl hk
def bd (a b c d e f : Nat) : Nat :=
  min (min (min (d + 1) (18446744073709551615 : Nat) * min (min (min (b * min (e + 1) (18446744073709551615 : Nat)) (18446744073709551615 : Nat) * min (c + 1) (18446744073709551615 : Nat)) (18446744073709551615 : Nat) + min (4 * a) (18446744073709551615 : Nat)) (18446744073709551615 : Nat)) (18446744073709551615 : Nat) + min (f * min (a + 1) (18446744073709551615 : Nat)) (18446744073709551615 : Nat)) (18446744073709551615 : Nat)
structure Load where
  (f0 f1 f2 f3 f4 f5 : Int)
end Cost
end Go.Proofs.Ytkkocmmilmbgpaa.S
end
section
namespace Go.Proofs.Ytkkocmmilmbgpaa.S
open Go.RowKit Go.Proofs.YtkkocmmilmbgpaaW.PrintWords Go.Proofs.YtkkocmmilmbgpaaW.PrintLast Go.Proofs.YtkkocmmilmbgpaaW.PrintMore
attribute [local go_sem] max2_int min2_int max_two min_two max_three min_three max_four min_four
set_option linter.unusedVariables false
set_option linter.unusedSimpArgs false
def api_Term_of_cost_normal_1_40.f (k : Nat) (l0 : List (S39))  : Option ((List (S39))) := (api_Term_of_cost_normal_1_49.f k l0 (l0.length : Int)).bind fun t147 => (some t147)
theorem api_Term_of_cost_normal_1_40.mono : ∀ a0 k, LeO (api_Term_of_cost_normal_1_40.f k a0) (api_Term_of_cost_normal_1_40.f (k + 1) a0) := by
  intro a0 k
  unfold api_Term_of_cost_normal_1_40.f
  repeat' first
      | (with_reducible exact api_Term_of_cost_normal_1_49.mono _ _ _)
      | (with_reducible exact LeO.refl _)
      | (with_reducible exact LeO.none _)
      | (with_reducible refine LeO.ite ?_ ?_)
      | (with_reducible refine LeO.bind ?_ (fun _ => ?_))
      | exact api_Term_of_cost_normal_1_49.mono _ _ _
      | exact LeO.none _
      | refine LeO.ite ?_ ?_
      | refine LeO.bind ?_ (fun _ => ?_)
set_option maxHeartbeats 8000000 in
set_option maxRecDepth 100000 in
theorem api_Term_of_cost_normal_1_40.calls (W0_ : World) (okE_ : Nat → Prop) (k : Nat) (P0_ : Nat → Prop) (u9000_ : Value) (l0 : List (S39))  (r : List (S39)) (w0 w : World) (hB : Below w0.heap.size w0 w) (ho0 : Kd.R (kG W0_ okE_) 39 w w0.heap.size P0_ u9000_ l0) (hW_ : Keeps W0_ w okE_) (hZ_ : W0_.heap.size ≤ w.heap.size) (hD_ : ∀ k_, okE_ k_ → k_ < W0_.heap.size → ¬ P0_ k_) (h : api_Term_of_cost_normal_1_40.f k l0 = some r) :
    Calls Try.prog 40 #[u9000_, .func (.func 41) #[] #[]] w fun e w' => e = .returned (.tuple #[]) ∧ Kd.R (kG W0_ okE_) 39 w' w0.heap.size (fun k_ => (P0_ k_ ∨ w.heap.size ≤ k_)) u9000_ r ∧ Below w0.heap.size w0 w' ∧ Kept w w' (fun k_ => P0_ k_) := by
  have HO0 := am (show Kd.R (kG W0_ okE_) 39 w w0.heap.size (fun k_ => (P0_ k_ ∨ w.heap.size ≤ k_)) u9000_ l0 from Kd.R_mono ho0 (fun k_ hk => (.inl hk)))
  have HK := am (Kept.refl w (fun k_ => P0_ k_))
  have HW0 := am hB.size
  have HB := am hB
  clear hB
  have H : ((api_Term_of_cost_normal_1_49.f k l0 (l0.length : Int)).bind fun t147 => (some t147)) = some r := h
  clear h
  replace H := Option.bind_eq_some_iff.mp H
  obtain ⟨t147, A30, H⟩ := H
  replace H : (some t147) = some r := H
  have A3 := am A30
  clear A30
  obtain rfl := Option.some.inj H
  obtain ⟨Ao4, co4, eo4⟩ := Kd.R_slice HO0.out
  subst eo4
  go_enter Try.func40, Try.ntmps40
  go_wp2_with (((with_reducible refine gate_callee (f := 49) rfl ?_); refine goesL_ (some 8) rfl rfl Try.func49 (by kernel_rfl) rfl #[.slice Ao4 l0.length co4, .int .i64 (l0.length : Int), .func (.func 41) #[] #[]] rfl (by (try simp only [List.map_toArray, List.map_cons, List.map_nil]); rfl) ?_; (with_reducible refine (api_Term_of_cost_normal_1_49.calls W0_ okE_ k (fun k_ => some k_ = (.slice Ao4 l0.length co4 : Value).ownBlock) (.slice Ao4 l0.length co4) l0 (l0.length : Int)  t147 w0 _ ?side1 ?side2 ?sideW ?sideZ ?sideD A3.out).mono ?_); (case side1 => exact HB.out); (case side2 => exact Kd.R_tight rfl HO0.out); (case sideW => exact hW_.trans hZ_ HK.out hD_); (case sideZ => exact Nat.le_trans hZ_ HK.out.1); (case sideD => exact fun k_ ho_ hl_ e_ => (HO0.out.1 k_ e_.symm).elim (hD_ k_ ho_ hl_) (fun hn_ => absurd hl_ (by omega))); rintro e w5 ⟨rfl, hy0, hb, hkp⟩; refine ⟨_, rfl, ?_⟩; have n0_ := am (Kd.R_reok rfl hy0 (fun k_ e_ => HO0.out.1 k_ e_)); have n1_ := am (Kept.then_ (S := (fun k_ => P0_ k_)) (by exact HK.out) hkp (fun k_ hs_ => (fun e_ => (HO0.out.1 k_ e_.symm)) hs_)); have n2_ := am (hb); clear HO0; clear HK; clear HB; have HO0 := n0_; have HK := n1_; have HB := n2_; clear n0_ n1_ n2_; (try clear hb); (try clear hkp); (try clear hy0)))
  go_end0
  exact ⟨by rfl, by exact HO0.out, by exact HB.out, by exact HK.out⟩
end Go.Proofs.Ytkkocmmilmbgpaa.S
end
section
namespace Go.Proofs.Ytkkocmmilmbgpaa.S
open Go.RowKit Go.Proofs.YtkkocmmilmbgpaaW.PrintWords Go.Proofs.YtkkocmmilmbgpaaW.PrintLast Go.Proofs.YtkkocmmilmbgpaaW.PrintMore
set_option linter.unusedVariables false
theorem sort_N (k : Nat) (ok : Nat → Prop) (A : Option Addr) (c : Nat) (xs r : List S39) (w0 w : World) (HB : Below w0.heap.size w0 w) (HO : Kd.N k39 39 w w0.heap.size ok (.slice A xs.length c) xs) (hlx : ∀ x ∈ xs, x.f1.length < 4611686018427387904) (h : api_Term_of_cost_normal_1_40.f k xs = some r) :
    Calls Try.prog 40 #[.slice A xs.length c, .func (.func 41) #[] #[]] w fun e w' => e = .returned (.tuple #[]) ∧ (Kd.N k39 39 w' w0.heap.size ok (.slice A xs.length c) r ∧ w.grownBy w' (Value.slice A xs.length c).ownBlock) := by
  refine (api_Term_of_cost_normal_1_40.calls w (fun k => ok k ∧ some k ≠ (Value.slice A xs.length c).ownBlock) k (fun k => some k = (Value.slice A xs.length c).ownBlock) (.slice A xs.length c) xs r w0 w HB (kG_of_N HO hlx) (fun _ _ _ => rfl) (Nat.le_refl _) (fun k hk _ e => hk.2 e) h).mono ?_
  rintro e w' ⟨rfl, hR, hB2, hK2⟩
  exact ⟨rfl, N_of_kG hR (fun k hk hl => hK2.2 k hl hk.2) HO.1, ⟨hB2.os.trans HB.os.symm, hB2.tape.trans HB.tape.symm, hB2.output.trans HB.output.symm, hK2.1, fun k hl hne => hK2.2 k hl hne⟩⟩
end Go.Proofs.Ytkkocmmilmbgpaa.S
end
section
namespace Go.Proofs.Ytkkocmmilmbgpaa.S
open Go.RowKit Go.Proofs.YtkkocmmilmbgpaaW.PrintWords Go.Proofs.YtkkocmmilmbgpaaW.PrintLast Go.Proofs.YtkkocmmilmbgpaaW.PrintMore
attribute [local go_sem] max2_int min2_int max_two min_two max_three min_three max_four min_four
set_option linter.unusedVariables false
set_option linter.unusedSimpArgs false
def cost_cut.l0 : Nat → List Int → Int → Option (List Int)
  | 0, _, _ => none
  | k + 1, x0, x3 => if x3 > 0 then (if 0 ≤ (wrap64 (x3 - 1)) then (if (wrap64 (x3 - 1)) < (x0.length : Int) then (if (rd x0 (wrap64 (x3 - 1))) = 0 then (cost_cut.l0 k x0 (wrap64 (x3 - 1))) else (if 0 ≤ x3 then (if x3 ≤ (x0.length : Int) then ((slices_Clone_int_int.f (x0.take (x3 : Int).toNat)).bind fun t111 => (some t111)) else (none)) else (none))) else (none)) else (none)) else (if 0 ≤ x3 then (if x3 ≤ (x0.length : Int) then ((slices_Clone_int_int.f (x0.take (x3 : Int).toNat)).bind fun t115 => (some t115)) else (none)) else (none))
def cost_cut.f (k : Nat) (l0 : List Int) : Option (List Int) := cost_cut.l0 k l0 (l0.length : Int)
theorem cost_cut.mono_l : ∀ k, (∀ y0 y1, LeO (cost_cut.l0 k y0 y1) (cost_cut.l0 (k + 1) y0 y1))
  | 0 => fun _ _ r h => by simp [cost_cut.l0] at h
  | k + 1 => by
    have ih0 := cost_cut.mono_l k
    · intro y0 y1
      unfold cost_cut.l0
      repeat' first
      | (with_reducible exact ih0 _ _)
      | (with_reducible exact LeO.refl _)
      | (with_reducible exact LeO.none _)
      | (with_reducible refine LeO.ite ?_ ?_)
      | (with_reducible refine LeO.bind ?_ (fun _ => ?_))
      | exact ih0 _ _
      | exact LeO.none _
      | refine LeO.ite ?_ ?_
      | refine LeO.bind ?_ (fun _ => ?_)
theorem cost_cut.mono : ∀ a0 k, LeO (cost_cut.f k a0) (cost_cut.f (k + 1) a0) := by
  intro a0 k
  have ih0 := cost_cut.mono_l k
  unfold cost_cut.f
  repeat' first
      | (with_reducible exact ih0 _ _)
      | (with_reducible exact LeO.refl _)
      | (with_reducible exact LeO.none _)
      | (with_reducible refine LeO.ite ?_ ?_)
      | (with_reducible refine LeO.bind ?_ (fun _ => ?_))
      | exact ih0 _ _
      | exact LeO.none _
      | refine LeO.ite ?_ ?_
      | refine LeO.bind ?_ (fun _ => ?_)
set_option maxHeartbeats 8000000 in
set_option maxRecDepth 100000 in
theorem cost_cut.calls (k : Nat) (A0 : Option Addr) (c0 : Nat) (l0 : List Int) (r : List Int) (w : World) (hr0 : Kd.C (Kd.int .i64) w A0 l0.length l0) (hc0 : l0.length ≤ c0) (h : cost_cut.f k l0 = some r) :
    Calls Try.prog 39 #[.slice A0 l0.length c0] w fun e w' => ∃ v0_ : Value, e = .returned (v0_) ∧ Kd.R (Kd.int .i64) 3 w' w.heap.size (fun _ => True) v0_ r ∧ Below w.heap.size w w' := by
  have HR0 := am hr0
  have HC0 := am hc0
  clear hr0 hc0
  have HB := am (Below.refl w.heap.size w)
  have H : (cost_cut.l0 k l0 (l0.length : Int)) = some r := h
  clear h
  have H' := am H
  clear H
  go_enter Try.func39, Try.ntmps39
  go_wp2
  go_loopg [3] k (fun kq v3 w' => ∃ (x3_1 : Int), v3 = .int .i64 x3_1 ∧ Aside0 (cost_cut.l0 kq l0 x3_1 = some r) ∧ Aside0 (kq ≤ k) ∧ Aside0 (Below w.heap.size w w'))
  case atStart => exact ⟨((l0.length : Int)), (by rfl), H', ⟨Nat.le_refl _⟩, ⟨by exact HB.out⟩⟩
  case round =>
    clear H'
    obtain ⟨x3_1, rfl, HA, HK1, HB⟩ := hrel
    cases gk with
    | zero => exact absurd HA.out (by simp [cost_cut.l0])
    | succ k1 =>
      have H := HA.out
      clear HA
      simp only [cost_cut.l0] at H
      by_cases c2 : x3_1 > 0
      · rw [if_pos c2] at H
        have c2b0 : decide (0 < x3_1) = true := decide_eq_true c2
        clear c2
        obtain ⟨ji3, hji3⟩ : ∃ j_ : Int, (wrap64 (x3_1 - 1)) = j_ := ⟨_, rfl⟩
        replace H : (if 0 ≤ (ji3) then (if (ji3) < (l0.length : Int) then (if (rd l0 (ji3)) = 0 then (cost_cut.l0 k1 l0 ji3) else (if 0 ≤ x3_1 then (if x3_1 ≤ (l0.length : Int) then ((slices_Clone_int_int.f (l0.take (x3_1 : Int).toNat)).bind fun t111 => (some t111)) else (none)) else (none))) else (none)) else (none)) = some r := by (rw [hji3] at H; exact H)
        have hji3w : (IntKind.i64.wrap (x3_1 - 1)) = ji3 := (i64_w _).trans hji3
        replace H := its H
        obtain ⟨c4, H⟩ := H
        have c4b0 : decide (0 ≤ (ji3)) = true := decide_eq_true c4
        clear c4
        replace H := its H
        obtain ⟨c5, H⟩ := H
        have c5b0 : decide ((ji3) < (l0.length : Int)) = true := decide_eq_true c5
        clear c5
        by_cases c6 : (rd l0 (ji3)) = 0
        · rw [if_pos c6] at H
          have c6b0 : ((rd l0 (ji3)) == 0) = true := beq_iff_eq.mpr c6
          have c6b1 : ((rd l0 (ji3)) != 0) = false := bne_eq_false_iff_eq.mpr c6
          clear c6
          have H' := am H
          clear H
          have p109 : 0 ≤ ((ji3) : Int) := of_decide_eq_true (by (with_reducible assumption))
          have q109 : (ji3) < (l0.length : Int) := of_decide_eq_true (by (with_reducible assumption))
          obtain ⟨ad109, e109, hx109_0⟩ := Kd.at_int HR0.out (ji3) p109 q109
          cases e109
          replace hx109_0 := (HB.out.cell (World.block_lt_of_cell? w _ hx109_0)).trans hx109_0
          replace p109 := eq_true p109
          replace q109 := eq_true q109
          go_wp2
          go_roundg k1
          case measure => have := HK1.out; omega
          case rel => exact ⟨(ji3), (by rfl), H', ⟨by have := HK1.out; omega⟩, ⟨by exact HB.out⟩⟩
        · rw [if_neg c6] at H
          have c6b0 : ((rd l0 (ji3)) == 0) = false := beq_eq_false_iff_ne.mpr c6
          have c6b1 : ((rd l0 (ji3)) != 0) = true := bne_iff_ne.mpr c6
          replace H := its H
          obtain ⟨c7, H⟩ := H
          have c7b0 := eq_true c7
          have c7b1 : decide (0 ≤ x3_1) = true := decide_eq_true c7
          clear c7
          replace H := its H
          obtain ⟨c8, H⟩ := H
          have c8b0 := eq_true c8
          have c8b1 : decide (x3_1 ≤ (l0.length : Int)) = true := decide_eq_true c8
          clear c8
          replace H := Option.bind_eq_some_iff.mp H
          obtain ⟨t111, A90, H⟩ := H
          replace H : (some t111) = some r := H
          have A9 := am A90
          clear A90
          obtain rfl := Option.some.inj H
          have p109 : 0 ≤ ((ji3) : Int) := of_decide_eq_true (by (with_reducible assumption))
          have q109 : (ji3) < (l0.length : Int) := of_decide_eq_true (by (with_reducible assumption))
          obtain ⟨ad109, e109, hx109_0⟩ := Kd.at_int HR0.out (ji3) p109 q109
          cases e109
          replace hx109_0 := (HB.out.cell (World.block_lt_of_cell? w _ hx109_0)).trans hx109_0
          replace p109 := eq_true p109
          replace q109 := eq_true q109
          obtain ⟨i010, hi010, _, hsz10, _⟩ := info_parts info3
          obtain ⟨hcut10, hA10, hC10⟩ := print_take_of (P := Try.prog) (Value.int .i64) 0 37 3 .i64 Try.underlying37 hi010 hsz10 (some ad109) c0 l0 x3_1 (of_decide_eq_true (by (with_reducible assumption))) (of_decide_eq_true (by (with_reducible assumption))) HC0.out
          have HR110 := am (Kd.C_of_reads (h1 := fun _ => rfl) (hA10 _ (Kd.reads_of_C HR0.out)))
          have HC110 := am hC10
          clear hA10 hC10 hi010 hsz10
          go_wp2_with (((with_reducible refine gate_callee (f := 48) rfl ?_); refine goesL_ (some 21) rfl rfl Try.func48 (by kernel_rfl) rfl #[.slice (some ad109) (l0.take (x3_1 : Int).toNat).length c0] rfl (by (try simp only [List.map_toArray, List.map_cons, List.map_nil]); (rw [show (l0.take (x3_1 : Int).toNat).length = x3_1.toNat from (by rw [List.length_take]; have h_ : (x3_1 : Int) ≤ (l0.length : Int) := of_decide_eq_true (by (with_reducible assumption)); omega)] <;> rfl)) ?_; (with_reducible refine (slices_Clone_int_int.calls _ _ (l0.take (x3_1 : Int).toNat) t111 _ ?side1 ?side2 A9.out).mono ?_); (case side1 => exact (Kd.C_below HR110.out HB.out)); (case side2 => exact HC110.out); rintro e w11 ⟨v112, rfl, ho0, hb⟩; refine ⟨_, rfl, ?_⟩; have HO113 := am (Kd.R_lower ho0 (below_size HB.out)); replace HB := am (below_step HB.out hb); (try clear hb); (try clear ho0)))
          go_ret
          exact ⟨_, by rfl, by exact HO113.out, by exact HB.out⟩
      · rw [if_neg c2] at H
        have c2b0 : decide (0 < x3_1) = false := decide_eq_false c2
        clear c2
        replace H := its H
        obtain ⟨c12, H⟩ := H
        have c12b0 := eq_true c12
        have c12b1 : decide (0 ≤ x3_1) = true := decide_eq_true c12
        clear c12
        replace H := its H
        obtain ⟨c13, H⟩ := H
        have c13b0 := eq_true c13
        have c13b1 : decide (x3_1 ≤ (l0.length : Int)) = true := decide_eq_true c13
        clear c13
        replace H := Option.bind_eq_some_iff.mp H
        obtain ⟨t115, A140, H⟩ := H
        replace H : (some t115) = some r := H
        have A14 := am A140
        clear A140
        obtain rfl := Option.some.inj H
        obtain ⟨i015, hi015, _, hsz15, _⟩ := info_parts info3
        obtain ⟨hcut15, hA15, hC15⟩ := print_take_of (P := Try.prog) (Value.int .i64) 0 37 3 .i64 Try.underlying37 hi015 hsz15 A0 c0 l0 x3_1 (of_decide_eq_true (by (with_reducible assumption))) (of_decide_eq_true (by (with_reducible assumption))) HC0.out
        have HR114 := am (Kd.C_of_reads (h1 := fun _ => rfl) (hA15 _ (Kd.reads_of_C HR0.out)))
        have HC114 := am hC15
        clear hA15 hC15 hi015 hsz15
        go_wp2_with (((with_reducible refine gate_callee (f := 48) rfl ?_); refine goesL_ (some 21) rfl rfl Try.func48 (by kernel_rfl) rfl #[.slice A0 (l0.take (x3_1 : Int).toNat).length c0] rfl (by (try simp only [List.map_toArray, List.map_cons, List.map_nil]); (rw [show (l0.take (x3_1 : Int).toNat).length = x3_1.toNat from (by rw [List.length_take]; have h_ : (x3_1 : Int) ≤ (l0.length : Int) := of_decide_eq_true (by (with_reducible assumption)); omega)] <;> rfl)) ?_; (with_reducible refine (slices_Clone_int_int.calls _ _ (l0.take (x3_1 : Int).toNat) t115 _ ?side1 ?side2 A14.out).mono ?_); (case side1 => exact (Kd.C_below HR114.out HB.out)); (case side2 => exact HC114.out); rintro e w16 ⟨v116, rfl, ho0, hb⟩; refine ⟨_, rfl, ?_⟩; have HO117 := am (Kd.R_lower ho0 (below_size HB.out)); replace HB := am (below_step HB.out hb); (try clear hb); (try clear ho0)))
        go_ret
        exact ⟨_, by rfl, by exact HO117.out, by exact HB.out⟩
end Go.Proofs.Ytkkocmmilmbgpaa.S
end

/- Part 8 of a claim of this seat: texts merged by a program of the claim's session (wip/bundle.py). -/
import Derived.Test.YtkkocmmilmbgpaaZCa2
import Derived.Test.YtkkocmmilmbgpaaZCa4
import Derived.Test.YtkkocmmilmbgpaaZCa6
import Derived.Test.YtkkocmmilmbgpaaZCa7
section
namespace Go.Proofs.Ytkkocmmilmbgpaa.S
open Go.RowKit Go.Proofs.YtkkocmmilmbgpaaW.PrintWords
set_option linter.unusedVariables false
set_option linter.unusedSimpArgs false
namespace Nf
open Mg Sym
def sumL (a b : List Int) : List Int := (List.range (max a.length b.length)).map fun i => a.getD i 0 + b.getD i 0
theorem sumL_len (a b : List Int) : (sumL a b).length = max a.length b.length := by simp [sumL]
theorem sumL_comm (a b : List Int) : sumL a b = sumL b a := by
  unfold sumL
  rw [Nat.max_comm]
  congr 1
  funext i
  omega
theorem sumL_get (a b : List Int) (i : Nat) : (sumL a b).getD i 0 = a.getD i 0 + b.getD i 0 := by
  rw [List.getD_eq_getElem?_getD]
  by_cases h : i < max a.length b.length
  · unfold sumL
    rw [List.getElem?_map, List.getElem?_range h]
    rfl
  · rw [List.getElem?_eq_none (by rw [sumL_len]; omega), List.getD_eq_getElem?_getD, List.getD_eq_getElem?_getD, List.getElem?_eq_none (by omega), List.getElem?_eq_none (by omega)]
    rfl
theorem tr_get : ∀ (a : List Int) (i : Nat), (tr a).getD i 0 = a.getD i 0
  | [], i => rfl
  | x :: a, i => by
    have h2 := tr_get a
    rw [tr]
    by_cases h : x = 0 ∧ tr a = []
    · rw [if_pos h]
      match i with
      | 0 => rw [h.1]; rfl
      | i + 1 => have := h2 i; rw [h.2] at this; simpa using this
    · rw [if_neg h]
      match i with
      | 0 => rfl
      | i + 1 => have := h2 i; simpa using this
theorem pad_get : ∀ (n : Nat) (a b : List Int), (∀ i, a.getD i 0 = b.getD i 0) → pad n a = pad n b
  | 0, _, _, _ => rfl
  | n + 1, a, b, h => by
    have hd : ∀ l : List Int, pad (n + 1) l = l.getD 0 0 :: pad n (l.drop 1) := by
      intro l
      cases l with
      | nil => rfl
      | cons x l => rfl
    rw [hd a, hd b, h 0, pad_get n (a.drop 1) (b.drop 1) (fun i => by
      have := h (i + 1)
      rw [List.getD_eq_getElem?_getD, List.getD_eq_getElem?_getD] at this ⊢
      rw [List.getElem?_drop, List.getElem?_drop, Nat.add_comm 1 i]
      exact this)]
theorem tr_of_get {a b : List Int} (h : ∀ i, a.getD i 0 = b.getD i 0) : tr a = tr b := by
  rw [← tr_pad (max a.length b.length) a (Nat.le_max_left _ _), ← tr_pad (max a.length b.length) b (Nat.le_max_right _ _), pad_get _ a b h]
theorem tr_sumL (a b : List Int) : tr (sumL a b) = tr (sumL (tr a) (tr b)) := tr_of_get (fun i => by rw [sumL_get, sumL_get, tr_get, tr_get])
def bigB (e : Int) : Bool := decide (e > 64)
def mulT (x y : S39) : S39 := ⟨((min (x.f0.toNat * y.f0.toNat) (18446744073709551615 : Nat) : Nat) : Int), sumL x.f1 y.f1⟩
def big (x y : S39) : Bool := (sumL x.f1 y.f1).any bigB
def tm (b : List S39) : List S39 → List S39 → List S39 × Int
  | acc, [] => if (nf acc).length > 4096 then ([], 2) else (nf acc, 0)
  | acc, x :: xs => if b.any (big x) then ([], 2) else if (acc ++ b.map (mulT x)).length > 16384 then (if (nf (acc ++ b.map (mulT x))).length > 4096 then ([], 2) else tm b (nf (acc ++ b.map (mulT x))) xs) else tm b (acc ++ b.map (mulT x)) xs
def zadd : List Int → List Int → List Int
  | r :: R, t :: ts => (r + t) :: zadd R ts
  | R, _ => R
theorem zadd_len : ∀ R ts : List Int, (zadd R ts).length = R.length
  | [], [] => rfl
  | [], _ :: _ => rfl
  | _ :: _, [] => rfl
  | r :: R, t :: ts => by rw [zadd, List.length_cons, zadd_len R ts, List.length_cons]
theorem zadd_get : ∀ (R ts : List Int), ts.length ≤ R.length → ∀ i, (zadd R ts).getD i 0 = R.getD i 0 + ts.getD i 0
  | [], [], _, i => by simp [zadd]
  | [], _ :: _, h, i => by simp at h
  | r :: R, [], _, i => by simp [zadd]
  | r :: R, t :: ts, h, 0 => rfl
  | r :: R, t :: ts, h, i + 1 => by
    have := zadd_get R ts (by simpa using h) i
    rw [zadd]
    simpa using this
theorem ext_get {a b : List Int} (hl : a.length = b.length) (h : ∀ i, a.getD i 0 = b.getD i 0) : a = b := by
  apply List.ext_getElem hl
  intro i h1 h2
  have := h i
  rw [List.getD_eq_getElem?_getD, List.getD_eq_getElem?_getD, List.getElem?_eq_getElem h1, List.getElem?_eq_getElem h2] at this
  exact this
theorem zadd_sumL (a b : List Int) : zadd (cpy (List.replicate (max a.length b.length) 0) a) b = sumL a b := by
  have e : cpy (List.replicate (max a.length b.length) 0) a = a ++ List.replicate (max a.length b.length - a.length) 0 := by
    unfold cpy
    rw [List.length_replicate, Nat.min_eq_left (Nat.le_max_left _ _), List.take_length, List.drop_replicate]
  rw [e]
  refine ext_get (by rw [zadd_len, sumL_len]; simp; omega) (fun i => ?_)
  rw [zadd_get _ _ (by simp; omega), sumL_get]
  congr 1
  rw [List.getD_eq_getElem?_getD, List.getD_eq_getElem?_getD]
  by_cases h : i < a.length
  · rw [List.getElem?_append_left h]
  · rw [List.getElem?_append_right (by omega), List.getElem?_replicate, List.getElem?_eq_none (by omega)]
    split <;> rfl
theorem hasT_l0 (a : List Int) (hl : a.length < 1000000) : ∀ (ts P : List Int), a = P ++ ts → ∀ k, ts.length + 1 ≤ k → ∃ r, slices_IndexFunc_int_int_of_cost_Times_1.l0 k a (a.length : Int) (P.length : Int) = some r ∧ decide (r ≥ 0) = ts.any bigB
  | [], P, hP, 0, hk => by omega
  | [], P, hP, k + 1, hk => by
    rw [List.append_nil] at hP
    subst hP
    exact ⟨-1, by rw [slices_IndexFunc_int_int_of_cost_Times_1.l0, if_neg (by omega)], rfl⟩
  | t :: ts, P, hP, 0, hk => by omega
  | t :: ts, P, hP, k + 1, hk => by
    have hTl : a.length = P.length + (ts.length + 1) := by rw [hP]; simp
    have hr1 : rd a (P.length : Int) = t := by rw [hP]; exact rdI P t ts
    have hP2 : a = (P ++ [t]) ++ ts := by rw [hP]; simp
    have hql : ((P.length + 1 : Nat) : Int) = ((P ++ [t]).length : Int) := by simp
    rw [slices_IndexFunc_int_int_of_cost_Times_1.l0, if_pos (by omega), if_pos (by omega), if_pos (by omega), hr1, cost_Times_1.f, Option.bind_some, wsucc _ (by omega), hql]
    cases hb : bigB t with
    | true =>
      have : decide (t > 64) = true := hb
      rw [this]
      exact ⟨_, if_pos rfl, by rw [List.any_cons, hb]; simp⟩
    | false =>
      have : decide (t > 64) = false := hb
      rw [this, if_neg (by decide)]
      obtain ⟨r, h1, h2⟩ := hasT_l0 a hl ts (P ++ [t]) hP2 k (by simp only [List.length_cons] at hk; omega)
      exact ⟨r, h1, by rw [h2, List.any_cons, hb]; rfl⟩
theorem hasT_eq (a : List Int) (hl : a.length < 1000000) (k : Nat) (hk : a.length + 1 ≤ k) : slices_ContainsFunc_int_int_of_cost_Times_1.f k a = some (a.any bigB) := by
  unfold slices_ContainsFunc_int_int_of_cost_Times_1.f slices_IndexFunc_int_int_of_cost_Times_1.f
  obtain ⟨r, h1, h2⟩ := hasT_l0 a hl a [] rfl k hk
  rw [show ((([] : List Int).length : Nat) : Int) = 0 from rfl] at h1
  rw [h1, Option.bind_some, h2]
section
variable (x1 x7 x25 x31 : List S39) (x26 x27 x32 x33 c : Int) (e : List Int) (d : Int)
theorem times_l2 (b : List Int) (hb : b.length ≤ 256) (R0 : List Int) (res : Option (List S39 × Int)) (K : Nat)
    (hK : ∀ k, K ≤ k → ((slices_ContainsFunc_int_int_of_cost_Times_1.f k R0).bind fun t173 => (if t173 = true then (some (([] : List (S39)), 2)) else (if x7.length < 4398046511104 then (cost_Times.l1 k x1 (x7 ++ [(⟨d, R0⟩ : S39)]) x25 x26 x27 x31 x32 (wrap64 (x33 + 1)) c e) else (none)))) = res) :
    ∀ (ts P A R : List Int), b = P ++ ts → A.length = P.length → ts.length ≤ R.length → (∀ t ∈ ts, 0 ≤ t ∧ t ≤ 128) → (∀ r ∈ R, 0 ≤ r ∧ r ≤ 128) → A ++ zadd R ts = R0 →
      ∀ k, K + ts.length + 1 ≤ k → cost_Times.l2 k x1 x7 x25 x26 x27 x31 x32 x33 b (b.length : Int) (P.length : Int) c e d (A ++ R) = res
  | ts, P, A, R, hP, hA, hR, h1, h2, h3, 0, hk => by omega
  | [], P, A, R, hP, hA, hR, h1, h2, h3, k + 1, hk => by
    rw [List.append_nil] at hP
    subst hP
    rw [cost_Times.l2, if_neg (by omega)]
    have : zadd R [] = R := by cases R <;> rfl
    rw [this] at h3
    rw [h3]
    exact hK k (by simp at hk; omega)
  | t :: ts, P, A, [], hP, hA, hR, h1, h2, h3, k + 1, hk => by simp at hR
  | t :: ts, P, A, r :: R, hP, hA, hR, h1, h2, h3, k + 1, hk => by
    have hTl : b.length = P.length + (ts.length + 1) := by rw [hP]; simp
    have hr1 : rd b (P.length : Int) = t := by rw [hP]; exact rdI P t ts
    have hr2 : rd (A ++ r :: R) (P.length : Int) = r := by rw [← hA]; exact rdI A r R
    have hP2 : b = (P ++ [t]) ++ ts := by rw [hP]; simp
    have hql : ((P.length + 1 : Nat) : Int) = ((P ++ [t]).length : Int) := by simp
    have ht := h1 t List.mem_cons_self
    have hr := h2 r List.mem_cons_self
    rw [List.length_cons] at hk
    rw [cost_Times.l2, if_pos (by omega), if_pos (by omega), if_pos (by omega), if_pos (by rw [List.length_append, List.length_cons]; omega), hr1, hr2, show wrap64 (r + t) = r + t by unfold wrap64; omega, wsucc _ (by omega), hql, Int.toNat_natCast, ← hA, List.set_append_right _ _ (Nat.le_refl _), Nat.sub_self, List.set_cons_zero]
    have := times_l2 b hb R0 res K hK ts (P ++ [t]) (A ++ [r + t]) R hP2 (by simp [hA]) (by simpa using hR) (fun y hy => h1 y (List.mem_cons_of_mem _ hy)) (fun y hy => h2 y (List.mem_cons_of_mem _ hy)) (by rw [← h3, zadd]; simp) k (by omega)
    rw [List.append_assoc] at this
    exact this
end
theorem mem_cpy (n : Nat) (a : List Int) (h : ∀ e ∈ a, 0 ≤ e ∧ e ≤ 128) : ∀ r ∈ cpy (List.replicate n 0) a, 0 ≤ r ∧ r ≤ 128 := by
  intro r hr
  unfold cpy at hr
  rcases List.mem_append.1 hr with hr | hr
  · exact h r (List.mem_of_mem_take hr)
  · have := List.eq_of_mem_replicate (List.mem_of_mem_drop hr)
    omega
section
variable (x25 : List S39) (x26 x27 : Int) (b : List S39) (hb : b.length < 1000000) (hokb : ∀ y ∈ b, okC y) (x : S39) (hx : okC x)
include hb hokb hx
theorem times_l1 (acc0 : List S39) (hacc : acc0.length < 1000000) (res : Option (List S39 × Int)) (K : Nat)
    (hK : b.any (big x) = false → ∀ k, K ≤ k → (if ((acc0 ++ b.map (mulT x)).length : Int) > 16384 then ((cost_normal.f k (acc0 ++ b.map (mulT x))).bind fun t177 => (if (t177.length : Int) > 4096 then (some (([] : List (S39)), 2)) else (cost_Times.l0 k b t177 x25 x26 (wrap64 (x27 + 1))))) else (cost_Times.l0 k b (acc0 ++ b.map (mulT x)) x25 x26 (wrap64 (x27 + 1)))) = res) :
    ∀ (ts P : List S39), b = P ++ ts → P.any (big x) = false → ∃ K', ∀ k, K' ≤ k → cost_Times.l1 k b (acc0 ++ P.map (mulT x)) x25 x26 x27 b (b.length : Int) (P.length : Int) x.f0 x.f1 = if b.any (big x) then some ([], 2) else res
  | [], P, hP, hn => ⟨K + 1, fun k hk => by
    obtain ⟨k, rfl⟩ : ∃ j, k = j + 1 := ⟨k - 1, by omega⟩
    rw [List.append_nil] at hP
    subst hP
    have e : (if b.any (big x) = true then some (([] : List S39), (2 : Int)) else res) = res := by rw [hn]; rfl
    rw [e, cost_Times.l1, if_neg (by omega)]
    exact hK hn k (by omega)⟩
  | t :: ts, P, hP, hn => by
    have hTl : b.length = P.length + (ts.length + 1) := by rw [hP]; simp
    have hr1 : rd_T39 b (P.length : Int) = t := by rw [hP]; exact rdT P t ts
    have hP2 : b = (P ++ [t]) ++ ts := by rw [hP]; simp
    have hql : ((P.length + 1 : Nat) : Int) = ((P ++ [t]).length : Int) := by simp
    have ht := hokb t (by rw [hP]; simp)
    have hmx : (mx (x.f1.length : Int) (t.f1.length : Int)) = ((max x.f1.length t.f1.length : Nat) : Int) := by unfold mx; split <;> omega
    have hl1 := hx.1.1
    have hl2 := ht.1.1
    have hmul : cost_times.f x.f0 t.f0 = some (mulT x t).f0 := by
      obtain ⟨p, hp⟩ := Int.eq_ofNat_of_zero_le (show 0 ≤ x.f0 by have := hx.2.2; omega)
      obtain ⟨q, hq⟩ := Int.eq_ofNat_of_zero_le (show 0 ≤ t.f0 by have := ht.2.2; omega)
      have h1 := hx.2.2
      have h2 := ht.2.2
      unfold mulT
      rw [hp, hq, Cost.times_eq p q (by omega) (by omega)]
      rfl
    have hfin : ∃ K2, ∀ k, K2 ≤ k → ((slices_ContainsFunc_int_int_of_cost_Times_1.f k (sumL x.f1 t.f1)).bind fun t173 => (if t173 = true then (some (([] : List (S39)), 2)) else (if (acc0 ++ P.map (mulT x)).length < 4398046511104 then (cost_Times.l1 k b ((acc0 ++ P.map (mulT x)) ++ [(⟨(mulT x t).f0, sumL x.f1 t.f1⟩ : S39)]) x25 x26 x27 b (b.length : Int) (wrap64 ((P.length : Int) + 1)) x.f0 x.f1) else (none)))) = if b.any (big x) then some ([], 2) else res := by
      cases hbig : big x t with
      | true =>
        refine ⟨300, fun k hk => ?_⟩
        rw [hasT_eq _ (by rw [sumL_len]; omega) k (by rw [sumL_len]; omega), Option.bind_some, show (sumL x.f1 t.f1).any bigB = true from hbig, if_pos rfl, if_pos]
        rw [hP, List.any_append, List.any_cons, hbig]
        simp
      | false =>
        obtain ⟨K2, hK2⟩ := times_l1 acc0 hacc res K hK ts (P ++ [t]) hP2 (by rw [List.any_append, hn, List.any_cons, hbig]; rfl)
        refine ⟨K2 + 300, fun k hk => ?_⟩
        rw [hasT_eq _ (by rw [sumL_len]; omega) k (by rw [sumL_len]; omega), Option.bind_some, show (sumL x.f1 t.f1).any bigB = false from hbig, if_neg (by decide), if_pos (by simp only [List.length_append, List.length_map]; omega), wsucc _ (by omega), hql]
        have := hK2 k (by omega)
        rw [List.map_append, ← List.append_assoc] at this
        exact this
    obtain ⟨K2, hK2⟩ := hfin
    refine ⟨K2 + 3000, fun k hk => ?_⟩
    obtain ⟨k, rfl⟩ : ∃ j, k = j + 1 := ⟨k - 1, by omega⟩
    rw [cost_Times.l1, if_pos (by omega), if_pos (by omega), if_pos (by omega), hr1, hmul, Option.bind_some, hmx, if_pos (by omega), if_pos (by omega), order_eq x.f1 x.f1 (by omega) (by omega) k (by omega), Option.bind_some, Int.toNat_natCast]
    have hc : (cpy (List.replicate (max x.f1.length t.f1.length) 0) x.f1).length = max x.f1.length t.f1.length := by
      unfold cpy; simp; omega
    exact times_l2 b (acc0 ++ P.map (mulT x)) x25 b x26 x27 (b.length : Int) (P.length : Int) x.f0 x.f1 (mulT x t).f0 t.f1 hl2 (sumL x.f1 t.f1) _ K2 hK2 t.f1 [] [] _ rfl rfl (by rw [hc]; omega) (fun e he => ht.1.2 e he) (mem_cpy _ _ (fun e he => hx.1.2 e he)) (by rw [List.nil_append, zadd_sumL]) k (by omega)
end
theorem sumL_mem {a b : List Int} {e : Int} (h : e ∈ sumL a b) (ha : ∀ e ∈ a, 0 ≤ e) (hb : ∀ e ∈ b, 0 ≤ e) : 0 ≤ e := by
  unfold sumL at h
  obtain ⟨i, _, rfl⟩ := List.mem_map.1 h
  have g : ∀ l : List Int, (∀ e ∈ l, 0 ≤ e) → 0 ≤ l.getD i 0 := by
    intro l hl
    rw [List.getD_eq_getElem?_getD]
    cases h : l[i]? with
    | none => simp
    | some v => exact hl v (List.mem_of_getElem? h)
  have := g a ha
  have := g b hb
  omega
theorem mulT_ok {x y : S39} (hx : okT x) (hy : okT y) (hb : big x y = false) : okA (mulT x y) := by
  refine ⟨⟨by show (sumL x.f1 y.f1).length ≤ 256; rw [sumL_len]; have := hx.1; have := hy.1; omega, fun e he => ?_⟩, by show (0 : Int) ≤ ((min (x.f0.toNat * y.f0.toNat) (18446744073709551615 : Nat) : Nat) : Int); omega, by show ((min (x.f0.toNat * y.f0.toNat) (18446744073709551615 : Nat) : Nat) : Int) ≤ 18446744073709551615; omega⟩
  have h1 := sumL_mem he (fun e h => (hx.2 e h).1) (fun e h => (hy.2 e h).1)
  have h2 := List.any_eq_false.1 hb e he
  unfold bigB at h2
  simp only [decide_eq_true_eq] at h2
  omega
theorem times_l0 (a b : List S39) (hb : b.length ≤ 4096) (hokb : ∀ y ∈ b, okC y) (ha : a.length ≤ 4096) (hoka : ∀ x ∈ a, okC x) : ∀ (ts P acc : List S39), a = P ++ ts → acc.length ≤ 16384 → (∀ x ∈ acc, okA x) → ∃ K, ∀ k, K ≤ k → cost_Times.l0 k b acc a (a.length : Int) (P.length : Int) = some (tm b acc ts)
  | [], P, acc, hP, hl, hok => by
    obtain ⟨K, hK⟩ := normal_eq acc (by omega) hok
    refine ⟨K + 1, fun k hk => ?_⟩
    obtain ⟨k, rfl⟩ : ∃ j, k = j + 1 := ⟨k - 1, by omega⟩
    rw [List.append_nil] at hP
    subst hP
    rw [cost_Times.l0, if_neg (by omega), hK k (by omega), Option.bind_some, tm]
    by_cases h : (nf acc).length > 4096
    · rw [if_pos (by omega), if_pos h]
    · rw [if_neg (by omega), if_neg h]
  | x :: ts, P, acc, hP, hl, hok => by
    have hTl : a.length = P.length + (ts.length + 1) := by rw [hP]; simp
    have hr1 : rd_T39 a (P.length : Int) = x := by rw [hP]; exact rdT P x ts
    have hP2 : a = (P ++ [x]) ++ ts := by rw [hP]; simp
    have hql : ((P.length + 1 : Nat) : Int) = ((P ++ [x]).length : Int) := by simp
    have hx := hoka x (by rw [hP]; simp)
    have hacc : b.any (big x) = false → ∀ z ∈ acc ++ b.map (mulT x), okA z := fun hn z hz => by
      rcases List.mem_append.1 hz with hz | hz
      · exact hok z hz
      · obtain ⟨y, hy, rfl⟩ := List.mem_map.1 hz
        exact mulT_ok hx.1 (hokb y hy).1 (by have := List.any_eq_false.1 hn y hy; simpa using this)
    have hlen : (acc ++ b.map (mulT x)).length ≤ 20480 := by simp only [List.length_append, List.length_map]; omega
    have hcont : ∃ K, b.any (big x) = false → ∀ k, K ≤ k → (if ((acc ++ b.map (mulT x)).length : Int) > 16384 then ((cost_normal.f k (acc ++ b.map (mulT x))).bind fun t177 => (if (t177.length : Int) > 4096 then (some (([] : List (S39)), 2)) else (cost_Times.l0 k b t177 a (a.length : Int) (wrap64 ((P.length : Int) + 1))))) else (cost_Times.l0 k b (acc ++ b.map (mulT x)) a (a.length : Int) (wrap64 ((P.length : Int) + 1)))) = some (tm b acc (x :: ts)) := by
      cases hn : b.any (big x) with
      | true => exact ⟨0, fun h => by cases h⟩
      | false =>
        by_cases h1 : (acc ++ b.map (mulT x)).length > 16384
        · obtain ⟨K1, hK1⟩ := normal_eq (acc ++ b.map (mulT x)) (by omega) (hacc hn)
          by_cases h2 : (nf (acc ++ b.map (mulT x))).length > 4096
          · refine ⟨K1, fun _ k hk => ?_⟩
            rw [if_pos (by omega), hK1 k hk, Option.bind_some, if_pos (by omega), tm, hn, if_neg (by decide), if_pos h1, if_pos h2]
          · obtain ⟨K2, hK2⟩ := times_l0 a b hb hokb ha hoka ts (P ++ [x]) (nf (acc ++ b.map (mulT x))) hP2 (by omega) (nf_ok (hacc hn))
            refine ⟨K1 + K2, fun _ k hk => ?_⟩
            rw [if_pos (by omega), hK1 k (by omega), Option.bind_some, if_neg (by omega), wsucc _ (by omega), hql, hK2 k (by omega), tm, hn, if_neg (by decide), if_pos h1, if_neg h2]
        · obtain ⟨K2, hK2⟩ := times_l0 a b hb hokb ha hoka ts (P ++ [x]) (acc ++ b.map (mulT x)) hP2 (by omega) (hacc hn)
          refine ⟨K2, fun _ k hk => ?_⟩
          rw [if_neg (by omega), wsucc _ (by omega), hql, hK2 k (by omega), tm, hn, if_neg (by decide), if_neg h1]
    obtain ⟨K, hK⟩ := hcont
    obtain ⟨K2, hK2⟩ := times_l1 a (a.length : Int) (P.length : Int) b (by omega) hokb x hx acc (by omega) (some (tm b acc (x :: ts))) K hK b [] rfl rfl
    refine ⟨K2 + 1, fun k hk => ?_⟩
    obtain ⟨k, rfl⟩ : ∃ j, k = j + 1 := ⟨k - 1, by omega⟩
    rw [cost_Times.l0, if_pos (by omega), if_pos (by omega), if_pos (by omega), hr1]
    have := hK2 k (by omega)
    rw [List.map_nil, List.append_nil, show ((([] : List S39).length : Nat) : Int) = 0 from rfl] at this
    rw [this]
    by_cases hn : b.any (big x) = true
    · rw [if_pos hn, tm, if_pos hn]
    · rw [if_neg hn]
theorem nf_len4 {l : List S39} (h : canV l = 0) (hu : ∀ x ∈ l, U x.f0) : (nf l).length ≤ 4096 := Nat.le_trans (nf_len (ok_of_can h hu)) (can_ok h).1
theorem Times_eq (a b : List S39) (ha : canV a = 0) (hb : canV b = 0) (ua : ∀ x ∈ a, U x.f0) (ub : ∀ x ∈ b, U x.f0) : ∃ K, ∀ k, K ≤ k → cost_Times.f k a b = some (tm (nf b) [] (nf a)) := by
  have la := (can_ok ha).1
  have lb := (can_ok hb).1
  obtain ⟨K1, hK1⟩ := normal_eq a (by omega) (ok_of_can ha ua)
  obtain ⟨K2, hK2⟩ := normal_eq b (by omega) (ok_of_can hb ub)
  obtain ⟨K3, hK3⟩ := times_l0 (nf a) (nf b) (nf_len4 hb ub) (nf_nrm (ok_of_can hb ub)).ok (nf_len4 ha ua) (nf_nrm (ok_of_can ha ua)).ok (nf a) [] [] rfl (by simp) (fun x hx => by cases hx)
  refine ⟨K1 + K2 + K3 + 10000, fun k hk => ?_⟩
  unfold cost_Times.f
  rw [both_eq a b k (by omega), Option.bind_some, if_pos ha, if_pos hb, hK1 k (by omega), Option.bind_some, hK2 k (by omega), Option.bind_some]
  exact hK3 k (by omega)
def prods (a b : List S39) : List S39 := a.flatMap fun x => b.map (mulT x)
theorem tm_small (b : List S39) : ∀ (xs acc : List S39), (∀ x ∈ xs, ∀ y ∈ b, big x y = false) → acc.length + xs.length * b.length ≤ 4096 → (∀ x ∈ acc ++ prods xs b, okA x) → tm b acc xs = (nf (acc ++ prods xs b), 0)
  | [], acc, _, hl, hok => by
    have : prods [] b = [] := rfl
    rw [this, List.append_nil] at hok ⊢
    rw [tm, if_neg (by have := nf_len hok; simp at hl; omega)]
  | x :: xs, acc, hb, hl, hok => by
    rw [List.length_cons, Nat.add_mul] at hl
    have hp : prods (x :: xs) b = b.map (mulT x) ++ prods xs b := by simp [prods]
    rw [hp, ← List.append_assoc] at hok ⊢
    have hn : ¬ (b.any (big x) = true) := by
      rw [Bool.not_eq_true, List.any_eq_false]
      intro y hy
      rw [hb x List.mem_cons_self y hy]; decide
    rw [tm, if_neg hn, if_neg (by simp only [List.length_append, List.length_map]; omega)]
    exact tm_small b xs _ (fun z hz y hy => hb z (List.mem_cons_of_mem _ hz) y hy) (by simp only [List.length_append, List.length_map]; omega) hok
end Nf
end Go.Proofs.Ytkkocmmilmbgpaa.S
end
section
namespace Go.Proofs.Ytkkocmmilmbgpaa.S
open Go.RowKit Go.Proofs.YtkkocmmilmbgpaaW.PrintWords
set_option linter.unusedVariables false
set_option linter.unusedSimpArgs false
namespace Nf
open Mg Sym
theorem S_congr {f g : List Int → Nat} : ∀ {l : List S39}, (∀ x ∈ l, f (tr x.f1) = g (tr x.f1)) → S f l = S g l
  | [], _ => rfl
  | x :: l, h => by rw [S, S, h x List.mem_cons_self, S_congr (fun y hy => h y (List.mem_cons_of_mem _ hy))]
theorem S_add (f g : List Int → Nat) : ∀ l : List S39, S (fun e => f e + g e) l = S f l + S g l
  | [] => rfl
  | x :: l => by
    rw [S, S, S, S_add f g l, Nat.mul_add]
    omega
theorem S_mul (c : Nat) (f : List Int → Nat) : ∀ l : List S39, S (fun e => c * f e) l = c * S f l
  | [] => rfl
  | x :: l => by
    rw [S, S, S_mul c f l, Nat.mul_add, Nat.mul_left_comm]
theorem S_null : ∀ l : List S39, S (fun _ => 0) l = 0
  | [] => rfl
  | x :: l => by rw [S, S_null l, Nat.mul_zero]
theorem S_swap (g : List Int → List Int → Nat) (b : List S39) : ∀ a : List S39, S (fun e1 => S (g e1) b) a = S (fun e2 => S (fun e1 => g e1 e2) a) b
  | [] => (S_null b).symm
  | x :: a => by
    rw [S, S_swap g b a, ← S_mul, ← S_add]
    rfl
theorem S_le (φ : List Int → Nat) : ∀ (l : List S39) (x : S39), x ∈ l → x.f0.toNat * φ (tr x.f1) ≤ S φ l
  | y :: l, x, h => by
    rw [S]
    rcases List.mem_cons.1 h with h | h
    · rw [h]; exact Nat.le_add_right _ _
    · exact Nat.le_trans (S_le φ l x h) (Nat.le_add_left _ _)
theorem S_mono {f g : List Int → Nat} : ∀ {l : List S39}, (∀ x ∈ l, f (tr x.f1) ≤ g (tr x.f1)) → S f l ≤ S g l
  | [], _ => Nat.le_refl _
  | x :: l, h => by
    rw [S, S]
    exact Nat.add_le_add (Nat.mul_le_mul_left _ (h x List.mem_cons_self)) (S_mono (fun y hy => h y (List.mem_cons_of_mem _ hy)))
theorem le_tot {l : List S39} {x : S39} (h : x ∈ l) : x.f0.toNat ≤ tot l := by
  have := S_le (fun _ => 1) l x h
  rw [Nat.mul_one] at this
  exact this
def conv (φ : List Int → Nat) (e1 : List Int) : List Int → Nat := fun e2 => φ (tr (sumL e1 e2))
def D (φ : List Int → Nat) (a b : List S39) : Nat := S (fun e1 => S (conv φ e1) b) a
theorem S_map (φ : List Int → Nat) (x : S39) : ∀ b : List S39, (∀ y ∈ b, x.f0.toNat * y.f0.toNat ≤ 18446744073709551615) → S φ (b.map (mulT x)) = x.f0.toNat * S (conv φ (tr x.f1)) b
  | [], _ => rfl
  | y :: b, h => by
    have h1 := h y List.mem_cons_self
    rw [List.map_cons, S, S, S_map φ x b (fun z hz => h z (List.mem_cons_of_mem _ hz)), Nat.mul_add]
    congr 1
    have e : (mulT x y).f0.toNat = x.f0.toNat * y.f0.toNat := by unfold mulT; rw [Nat.min_eq_left h1]; exact Int.toNat_natCast _
    rw [e]
    show _ * φ (tr (sumL x.f1 y.f1)) = _
    rw [tr_sumL]
    unfold conv
    rw [Nat.mul_assoc]
theorem S_prods (φ : List Int → Nat) (b : List S39) : ∀ a : List S39, (∀ x ∈ a, ∀ y ∈ b, x.f0.toNat * y.f0.toNat ≤ 18446744073709551615) → S φ (prods a b) = D φ a b
  | [], _ => rfl
  | x :: a, h => by
    have hp : prods (x :: a) b = b.map (mulT x) ++ prods a b := by simp [prods]
    rw [hp, S_append, S_map φ x b (h x List.mem_cons_self), S_prods φ b a (fun y hy => h y (List.mem_cons_of_mem _ hy))]
    rfl
theorem D_comm (φ : List Int → Nat) (a b : List S39) : D φ a b = D φ b a := by
  unfold D
  rw [S_swap]
  congr 1
  funext e2
  congr 1
  funext e1
  unfold conv
  rw [sumL_comm]
theorem D_congr (φ : List Int → Nat) {a a' b b' : List S39} (ha : ∀ f, S f a = S f a') (hb : ∀ f, S f b = S f b') : D φ a b = D φ a' b' := by
  unfold D
  rw [ha]
  congr 1
  funext e1
  rw [hb]
theorem D_append (φ : List Int → Nat) (a b c : List S39) : D φ a (b ++ c) = D φ a b + D φ a c := by
  unfold D
  rw [← S_add]
  congr 1
  funext e1
  rw [S_append]
structure Gd (n L T : Nat) (l : List S39) : Prop where
  len : l.length ≤ L
  tm : ∀ x ∈ l, x.f1.length ≤ 3 ∧ (∀ e ∈ x.f1, 0 ≤ e ∧ e ≤ n) ∧ U x.f0
  tt : tot l ≤ T
theorem Gd.can {n L T : Nat} {l : List S39} (h : Gd n L T l) (hn : n ≤ 64) (hL : L ≤ 4096) : canV l = 0 :=
  can_of (Nat.le_trans h.len hL) (fun x hx => ⟨by have := (h.tm x hx).1; omega, fun e he => by have := (h.tm x hx).2.1 e he; omega⟩)
theorem Gd.u {n L T : Nat} {l : List S39} (h : Gd n L T l) : ∀ x ∈ l, U x.f0 := fun x hx => (h.tm x hx).2.2
theorem Gd.okA {n L T : Nat} {l : List S39} (h : Gd n L T l) (hn : n ≤ 128) : ∀ x ∈ l, okA x := fun x hx => ⟨⟨by have := (h.tm x hx).1; omega, fun e he => by have := (h.tm x hx).2.1 e he; omega⟩, (h.tm x hx).2.2⟩
theorem Gd.app {n L T L' T' : Nat} {a b : List S39} (ha : Gd n L T a) (hb : Gd n L' T' b) : Gd n (L + L') (T + T') (a ++ b) :=
  ⟨by rw [List.length_append]; exact Nat.add_le_add ha.len hb.len, fun x hx => (List.mem_append.1 hx).elim (ha.tm x) (hb.tm x), by have := ha.tt; have := hb.tt; rw [tot] at *; rw [S_append]; omega⟩
theorem nf_mem {l : List S39} (h : ∀ x ∈ l, okA x) : ∀ y ∈ nf l, ∃ x ∈ l, y.f1 = tr x.f1 := by
  have h1 := prep_ok h
  have h2 := prep_sorted h
  have h3 : ∀ y ∈ st ltT (prep l), ∃ x ∈ l, y.f1 = tr x.f1 := by
    intro y hy
    rw [st_mem ltT] at hy
    obtain ⟨x, hx, hy⟩ := List.mem_flatMap.1 hy
    refine ⟨x, hx, ?_⟩
    unfold pre at hy
    split at hy
    · rw [List.mem_singleton.1 hy]
    · cases hy
  unfold nf
  generalize st ltT (prep l) = m at h1 h2 h3
  match m with
  | [] => intro y hy; cases hy
  | c :: ts =>
    intro y hy
    obtain ⟨x, hx, e⟩ := (go_nrm ts c h2 h1).2.1 y hy
    obtain ⟨z, hz, e2⟩ := h3 x hx
    exact ⟨z, hz, e.trans e2⟩
theorem Gd.nf {n L T : Nat} {l : List S39} (h : Gd n L T l) (hn : n ≤ 128) (hT : T ≤ 18446744073709551615) : Gd n L T (nf l) :=
  ⟨Nat.le_trans (nf_len (h.okA hn)) h.len, fun y hy => by
    obtain ⟨x, hx, e⟩ := nf_mem (h.okA hn) y hy
    have h1 := h.tm x hx
    have h2 := nf_ok (h.okA hn) y hy
    exact ⟨by rw [e]; exact Nat.le_trans (tr_len _) h1.1, fun u hu => h1.2.1 u (tr_mem _ _ (by rw [← e]; exact hu)), h2.2⟩, by
    rw [tot, nf_S _ (h.okA hn) (Nat.le_trans h.tt hT)]; exact h.tt⟩
theorem Gd.S_nf {n L T : Nat} {l : List S39} (h : Gd n L T l) (hn : n ≤ 128) (hT : T ≤ 18446744073709551615) (φ : List Int → Nat) : S φ (Nf.nf l) = S φ l := nf_S φ (h.okA hn) (Nat.le_trans h.tt hT)
theorem sumL_le {a b : List Int} {n m : Nat} (ha : ∀ e ∈ a, 0 ≤ e ∧ e ≤ n) (hb : ∀ e ∈ b, 0 ≤ e ∧ e ≤ m) : ∀ e ∈ sumL a b, 0 ≤ e ∧ e ≤ ((n + m : Nat) : Int) := by
  intro e h
  unfold sumL at h
  obtain ⟨i, _, rfl⟩ := List.mem_map.1 h
  have g : ∀ (l : List Int) (n : Nat), (∀ e ∈ l, 0 ≤ e ∧ e ≤ (n : Int)) → 0 ≤ l.getD i 0 ∧ l.getD i 0 ≤ n := by
    intro l n hl
    rw [List.getD_eq_getElem?_getD]
    cases h : l[i]? with
    | none => simp
    | some v => exact hl v (List.mem_of_getElem? h)
  have := g a n ha
  have := g b m hb
  omega
theorem Gd.nosat {n L T n' L' T' : Nat} {a b : List S39} (ha : Gd n L T a) (hb : Gd n' L' T' b) (hT : T * T' ≤ 18446744073709551615) : ∀ x ∈ a, ∀ y ∈ b, x.f0.toNat * y.f0.toNat ≤ 18446744073709551615 := fun x hx y hy =>
  Nat.le_trans (Nat.mul_le_mul (Nat.le_trans (le_tot hx) ha.tt) (Nat.le_trans (le_tot hy) hb.tt)) hT
theorem prods_len (b : List S39) : ∀ a : List S39, (prods a b).length = a.length * b.length
  | [] => by simp [prods]
  | x :: a => by
    have hp : prods (x :: a) b = b.map (mulT x) ++ prods a b := by simp [prods]
    rw [hp, List.length_append, prods_len b a, List.length_map, List.length_cons, Nat.add_mul]
    omega
theorem Gd.prods {n L T n' L' T' : Nat} {a b : List S39} (ha : Gd n L T a) (hb : Gd n' L' T' b) (hT : T * T' ≤ 18446744073709551615) : Gd (n + n') (L * L') (T * T') (prods a b) :=
  ⟨by rw [prods_len]; exact Nat.mul_le_mul ha.len hb.len, fun z hz => by
    obtain ⟨x, hx, hz⟩ := List.mem_flatMap.1 hz
    obtain ⟨y, hy, rfl⟩ := List.mem_map.1 hz
    have h1 := ha.tm x hx
    have h2 := hb.tm y hy
    refine ⟨by show (sumL x.f1 y.f1).length ≤ 3; rw [sumL_len]; have := h1.1; have := h2.1; omega, sumL_le h1.2.1 h2.2.1, ?_⟩
    show U ((min (x.f0.toNat * y.f0.toNat) (18446744073709551615 : Nat) : Nat) : Int)
    unfold U; omega, by
    rw [tot, S_prods _ b a (ha.nosat hb hT)]
    have : D (fun _ => 1) a b = tot a * tot b := by
      unfold D
      have : (fun e1 => S (conv (fun _ => 1) e1) b) = fun e1 => tot b * (fun _ => 1) e1 := by funext e1; rw [Nat.mul_one]; rfl
      rw [this, S_mul, Nat.mul_comm]
      rfl
    rw [this]
    exact Nat.mul_le_mul ha.tt hb.tt⟩
theorem times_small {n L T n' L' T' : Nat} {a b : List S39} (ha : Gd n L T a) (hb : Gd n' L' T' b) (hn : n + n' ≤ 64) (hL : L ≤ 4096) (hL' : L' ≤ 4096) (hLL : L * L' ≤ 4096) (h1 : T ≤ 18446744073709551615) (h2 : T' ≤ 18446744073709551615) (hT : T * T' ≤ 18446744073709551615) :
    ∃ K, ∀ k, K ≤ k → cost_Times.f k a b = some (Nf.nf (Nf.prods (Nf.nf a) (Nf.nf b)), 0) := by
  obtain ⟨K, hK⟩ := Times_eq a b (ha.can (by omega) hL) (hb.can (by omega) hL') ha.u hb.u
  have na := ha.nf (by omega) h1
  have nb := hb.nf (by omega) h2
  have hp := (na.prods nb hT).okA (by omega)
  refine ⟨K, fun k hk => ?_⟩
  rw [hK k hk, tm_small (Nf.nf b) (Nf.nf a) [] (fun x hx y hy => ?_) (by have := Nat.mul_le_mul na.len nb.len; simp only [List.length_nil]; omega) (by rw [List.nil_append]; exact hp), List.nil_append]
  unfold big
  rw [List.any_eq_false]
  intro e he
  have := sumL_le (na.tm x hx).2.1 (nb.tm y hy).2.1 e he
  unfold bigB
  simp only [decide_eq_true_eq]
  omega
def phi (lm : Nat → Nat) : Nat → List Int → Nat
  | _, [] => 1
  | j, e :: es => lm j ^ e.toNat * phi lm (j + 1) es
theorem phi_tr (lm : Nat → Nat) : ∀ (es : List Int) (j : Nat), phi lm j (tr es) = phi lm j es
  | [], _ => rfl
  | x :: a, j => by
    have h2 := phi_tr lm a (j + 1)
    rw [tr]
    by_cases h : x = 0 ∧ tr a = []
    · rw [if_pos h, phi, phi, ← h2, h.1, h.2]; simp [phi]
    · rw [if_neg h, phi, phi, h2]
theorem phi_zeros (lm : Nat → Nat) (m : Nat) : ∀ (a : List Int) (j : Nat), phi lm j (a ++ List.replicate m 0) = phi lm j a
  | [], j => by
    induction m generalizing j with
    | zero => rfl
    | succ m ih =>
      rw [List.nil_append] at ih ⊢
      have h := ih (j + 1)
      rw [List.replicate_succ]
      simp [phi, h]
  | x :: a, j => by rw [List.cons_append, phi, phi, phi_zeros lm m a (j + 1)]
theorem phi_zadd (lm : Nat → Nat) : ∀ (R ts : List Int) (j : Nat), ts.length ≤ R.length → (∀ e ∈ R, 0 ≤ e) → (∀ e ∈ ts, 0 ≤ e) → phi lm j (zadd R ts) = phi lm j R * phi lm j ts
  | [], [], _, _, _, _ => rfl
  | [], _ :: _, _, h, _, _ => by simp at h
  | r :: R, [], j, _, _, _ => by rw [zadd]; simp [phi]; simp
  | r :: R, t :: ts, j, h, h1, h2 => by
    have e1 := h1 r List.mem_cons_self
    have e2 := h2 t List.mem_cons_self
    rw [zadd, phi, phi, phi, phi_zadd lm R ts (j + 1) (by simpa using h) (fun e he => h1 e (List.mem_cons_of_mem _ he)) (fun e he => h2 e (List.mem_cons_of_mem _ he)), show (r + t).toNat = r.toNat + t.toNat by omega, Nat.pow_add]
    simp only [Nat.mul_assoc, Nat.mul_left_comm]
theorem phi_mul (lm : Nat → Nat) (a b : List Int) (ha : ∀ e ∈ a, 0 ≤ e) (hb : ∀ e ∈ b, 0 ≤ e) (j : Nat) : phi lm j (sumL a b) = phi lm j a * phi lm j b := by
  have e : cpy (List.replicate (max a.length b.length) 0) a = a ++ List.replicate (max a.length b.length - a.length) 0 := by
    unfold cpy
    rw [List.length_replicate, Nat.min_eq_left (Nat.le_max_left _ _), List.take_length, List.drop_replicate]
  rw [← zadd_sumL, e, phi_zadd lm _ _ _ (by simp; omega) (fun x hx => by
    rcases List.mem_append.1 hx with hx | hx
    · exact ha x hx
    · have := List.eq_of_mem_replicate hx; omega) hb, phi_zeros]
theorem D_phi (lm : Nat → Nat) {n L T n' L' T' : Nat} {a b : List S39} (ha : Gd n L T a) (hb : Gd n' L' T' b) : D (phi lm 0) a b = S (phi lm 0) a * S (phi lm 0) b := by
  unfold D
  have h : ∀ x ∈ a, S (conv (phi lm 0) (tr x.f1)) b = S (phi lm 0) b * phi lm 0 (tr x.f1) := by
    intro x hx
    rw [Nat.mul_comm, ← S_mul]
    refine S_congr (fun y hy => ?_)
    unfold conv
    rw [phi_tr, phi_mul lm _ _ (fun e he => ((ha.tm x hx).2.1 e (tr_mem _ _ he)).1) (fun e he => ((hb.tm y hy).2.1 e (tr_mem _ _ he)).1)]
  rw [S_congr (g := fun e => S (phi lm 0) b * phi lm 0 e) h, S_mul, Nat.mul_comm]
theorem phi_le (lm : Nat → Nat) (hlm : ∀ j, 1 ≤ lm j ∧ lm j ≤ 6) : ∀ (es : List Int) (j : Nat), (∀ e ∈ es, 0 ≤ e ∧ e ≤ 2) → phi lm j es ≤ 36 ^ es.length
  | [], _, _ => Nat.le_refl _
  | e :: es, j, h => by
    have h1 := h e List.mem_cons_self
    have h2 := phi_le lm hlm es (j + 1) (fun x hx => h x (List.mem_cons_of_mem _ hx))
    have h3 := hlm j
    have h4 : lm j ^ e.toNat ≤ 36 := Nat.le_trans (Nat.pow_le_pow_left h3.2 _) (Nat.le_trans (Nat.pow_le_pow_right (by decide) (show e.toNat ≤ 2 by omega)) (by decide))
    rw [phi, List.length_cons, Nat.pow_succ, Nat.mul_comm (36 ^ es.length)]
    exact Nat.mul_le_mul h4 h2
theorem pw_eq (n : Nat) : ∀ t c : Nat, c * (max 1 n) ^ t ≤ 18446744073709551615 → Cost.pw n t c = c * n ^ t
  | 0, c, _ => by rw [Cost.pw, Nat.pow_zero, Nat.mul_one]
  | t + 1, c, h => by
    rw [Nat.pow_succ, Nat.mul_comm ((max 1 n) ^ t), ← Nat.mul_assoc] at h
    have h1 : c * n ≤ c * max 1 n := Nat.mul_le_mul_left _ (Nat.le_max_right _ _)
    have h2 : c * n * (max 1 n) ^ t ≤ c * max 1 n * (max 1 n) ^ t := Nat.mul_le_mul_right _ h1
    have h3 : c * n ≤ c * n * (max 1 n) ^ t := Nat.le_mul_of_pos_right _ (Nat.pow_pos (by omega))
    rw [Cost.pw, Nat.min_eq_left (by omega), pw_eq n t (c * n) (by omega), Nat.pow_succ, Nat.mul_assoc, Nat.mul_comm n]
def lmOf (lims : List Int) (j : Nat) : Nat := (rd lims (j : Int)).toNat
def lm1 (lims : List Int) (j : Nat) : Nat := max 1 (lmOf lims j)
theorem phi1_pos (lims : List Int) : ∀ (es : List Int) (j : Nat), 1 ≤ phi (lm1 lims) j es
  | [], _ => Nat.le_refl _
  | e :: es, j => by
    rw [phi]
    exact Nat.mul_pos (Nat.pow_pos (by unfold lm1; omega)) (phi1_pos lims es (j + 1))
theorem tv_eq (lims : List Int) : ∀ (es : List Int) (j c : Nat), c * phi (lm1 lims) j es ≤ 18446744073709551615 → Cost.tv lims j es c = c * phi (lmOf lims) j es
  | [], j, c, _ => by rw [Cost.tv, phi, Nat.mul_one]
  | e :: es, j, c, h => by
    rw [phi, ← Nat.mul_assoc] at h
    have h1 := Nat.le_mul_of_pos_right (c * lm1 lims j ^ e.toNat) (phi1_pos lims es (j + 1))
    have h2 : lmOf lims j ^ e.toNat ≤ lm1 lims j ^ e.toNat := Nat.pow_le_pow_left (Nat.le_max_right _ _) _
    rw [Cost.tv, pw_eq (rd lims (j : Int)).toNat e.toNat c (Nat.le_trans h1 h), show c * (rd lims (j : Int)).toNat ^ e.toNat = c * lmOf lims j ^ e.toNat from rfl, tv_eq lims es (j + 1) _ (Nat.le_trans (Nat.mul_le_mul_right _ (Nat.mul_le_mul_left c h2)) h), phi, Nat.mul_assoc]
theorem vv_eq (lims : List Int) : ∀ (L : List S39) (c : Nat), c + S (phi (lm1 lims) 0) L ≤ 18446744073709551615 → Cost.vv lims L c = c + S (phi (lmOf lims) 0) L
  | [], c, _ => by rw [Cost.vv, S]; rfl
  | x :: L, c, h => by
    rw [S, phi_tr] at h
    have h1 := tv_eq lims x.f1 0 x.f0.toNat (by omega)
    have h2 : phi (lmOf lims) 0 x.f1 ≤ phi (lm1 lims) 0 x.f1 := by
      have g : ∀ (es : List Int) (j : Nat), phi (lmOf lims) j es ≤ phi (lm1 lims) j es := by
        intro es
        induction es with
        | nil => intro j; exact Nat.le_refl _
        | cons e es ih => intro j; rw [phi, phi]; exact Nat.mul_le_mul (Nat.pow_le_pow_left (Nat.le_max_right _ _) _) (ih (j + 1))
      exact g _ _
    have h3 := Nat.mul_le_mul_left x.f0.toNat h2
    rw [Cost.vv, h1, Nat.min_eq_left (by omega), vv_eq lims L _ (by omega), S, phi_tr]
    omega
theorem val_eq (lims : List Int) (hl : ∀ x ∈ lims, Cost.U x) {n L T : Nat} {l : List S39} (h : Gd n L T l) (hn : n ≤ 128) (hL : L ≤ 1000000) (hb : S (phi (lm1 lims) 0) l ≤ 18446744073709551615) : ∃ K, ∀ k, K ≤ k → cost_Value.f k l lims = some ((S (phi (lmOf lims) 0) l : Nat) : Int) := by
  refine ⟨Cost.rounds l, fun k hk => ?_⟩
  rw [Cost.value_eq lims hl l (by have := h.len; omega) (fun x hx => ⟨(h.tm x hx).2.2, by have := (h.tm x hx).1; omega, fun e he => by have := (h.tm x hx).2.1 e he; omega⟩) k hk, vv_eq lims l 0 (by omega), Nat.zero_add]
end Nf
end Go.Proofs.Ytkkocmmilmbgpaa.S
end
section
namespace Go.Proofs.Ytkkocmmilmbgpaa.S
open Go.RowKit Go.Proofs.YtkkocmmilmbgpaaW.PrintWords Go.Proofs.YtkkocmmilmbgpaaW.PrintLast Go.Proofs.YtkkocmmilmbgpaaW.PrintMore
attribute [local go_sem] max2_int min2_int max_two min_two max_three min_three max_four min_four
set_option linter.unusedVariables false
set_option linter.unusedSimpArgs false
mutual
def locksteplaw28_small.l0 : Nat → List (S39) → List (S39) → Int → Option ((List (S39)))
  | 0, _, _, _ => none
  | k + 1, x0, x3, x4 => if x4 < (x0.length : Int) then (locksteplaw28_small.j1 k x0 x3 x4 (decide (x4 < 6))) else (locksteplaw28_small.j1 k x0 x3 x4 false)
def locksteplaw28_small.j1 : Nat → List (S39) → List (S39) → Int → Bool → Option ((List (S39)))
  | 0, _, _, _, _ => none
  | k + 1, x0, x3, x4, x15 => if x15 = true then (if 0 ≤ x4 then (if x4 < (x0.length : Int) then (locksteplaw28_small.l1 k x0 x3 x4 0 (Int.tmod ((rd_T39 x0 x4).f0) 100) ([] : List Int)) else (none)) else (none)) else (some x3)
def locksteplaw28_small.l1 : Nat → List (S39) → List (S39) → Int → Int → Int → List Int → Option ((List (S39)))
  | 0, _, _, _, _, _, _ => none
  | k + 1, x0, x3, x4, x6, x458000, x458001 => if 0 ≤ x4 then (if x4 < (x0.length : Int) then (if x6 < (((rd_T39 x0 x4).f1).length : Int) then (locksteplaw28_small.j3 k x0 x3 x4 x6 (decide (x6 < 3)) x458000 x458001) else (locksteplaw28_small.j3 k x0 x3 x4 x6 false x458000 x458001)) else (none)) else (none)
def locksteplaw28_small.j3 : Nat → List (S39) → List (S39) → Int → Int → Bool → Int → List Int → Option ((List (S39)))
  | 0, _, _, _, _, _, _, _ => none
  | k + 1, x0, x3, x4, x6, x36, x458000, x458001 => if x36 = true then (if 0 ≤ x4 then (if x4 < (x0.length : Int) then (if 0 ≤ x6 then (if x6 < (((rd_T39 x0 x4).f1).length : Int) then (if (Int.tmod (rd ((rd_T39 x0 x4).f1) x6) 3) < 0 then (if x458001.length < 17592186044416 then (locksteplaw28_small.l1 k x0 x3 x4 (wrap64 (x6 + 1)) x458000 (x458001 ++ [wrap64 (-(Int.tmod (rd ((rd_T39 x0 x4).f1) x6) 3))])) else (none)) else (if x458001.length < 17592186044416 then (locksteplaw28_small.l1 k x0 x3 x4 (wrap64 (x6 + 1)) x458000 (x458001 ++ [Int.tmod (rd ((rd_T39 x0 x4).f1) x6) 3])) else (none))) else (none)) else (none)) else (none)) else (none)) else (if x3.length < 4398046511104 then (locksteplaw28_small.l0 k x0 (x3 ++ [(⟨x458000, x458001⟩ : S39)]) (wrap64 (x4 + 1))) else (none))
end
def locksteplaw28_small.f (k : Nat) (l0 : List (S39)) : Option ((List (S39))) := locksteplaw28_small.l0 k l0 ([] : List (S39)) 0
theorem locksteplaw28_small.mono_l : ∀ k, (∀ y0 y1 y2, LeO (locksteplaw28_small.l0 k y0 y1 y2) (locksteplaw28_small.l0 (k + 1) y0 y1 y2)) ∧ (∀ y0 y1 y2 y3, LeO (locksteplaw28_small.j1 k y0 y1 y2 y3) (locksteplaw28_small.j1 (k + 1) y0 y1 y2 y3)) ∧ (∀ y0 y1 y2 y3 y4 y5, LeO (locksteplaw28_small.l1 k y0 y1 y2 y3 y4 y5) (locksteplaw28_small.l1 (k + 1) y0 y1 y2 y3 y4 y5)) ∧ (∀ y0 y1 y2 y3 y4 y5 y6, LeO (locksteplaw28_small.j3 k y0 y1 y2 y3 y4 y5 y6) (locksteplaw28_small.j3 (k + 1) y0 y1 y2 y3 y4 y5 y6))
  | 0 => ⟨fun _ _ _ r h => by simp [locksteplaw28_small.l0] at h, fun _ _ _ _ r h => by simp [locksteplaw28_small.j1] at h, fun _ _ _ _ _ _ r h => by simp [locksteplaw28_small.l1] at h, fun _ _ _ _ _ _ _ r h => by simp [locksteplaw28_small.j3] at h⟩
  | k + 1 => by
    obtain ⟨ih0, ih1, ih2, ih3⟩ := locksteplaw28_small.mono_l k
    refine ⟨?_, ?_, ?_, ?_⟩
    · intro y0 y1 y2
      unfold locksteplaw28_small.l0
      repeat' first
      | (with_reducible exact ih0 _ _ _)
      | (with_reducible exact ih1 _ _ _ _)
      | (with_reducible exact ih2 _ _ _ _ _ _)
      | (with_reducible exact ih3 _ _ _ _ _ _ _)
      | (with_reducible exact LeO.refl _)
      | (with_reducible exact LeO.none _)
      | (with_reducible refine LeO.ite ?_ ?_)
      | (with_reducible refine LeO.bind ?_ (fun _ => ?_))
      | exact ih0 _ _ _
      | exact ih1 _ _ _ _
      | exact ih2 _ _ _ _ _ _
      | exact ih3 _ _ _ _ _ _ _
      | exact LeO.none _
      | refine LeO.ite ?_ ?_
      | refine LeO.bind ?_ (fun _ => ?_)
    · intro y0 y1 y2 y3
      unfold locksteplaw28_small.j1
      repeat' first
      | (with_reducible exact ih0 _ _ _)
      | (with_reducible exact ih1 _ _ _ _)
      | (with_reducible exact ih2 _ _ _ _ _ _)
      | (with_reducible exact ih3 _ _ _ _ _ _ _)
      | (with_reducible exact LeO.refl _)
      | (with_reducible exact LeO.none _)
      | (with_reducible refine LeO.ite ?_ ?_)
      | (with_reducible refine LeO.bind ?_ (fun _ => ?_))
      | exact ih0 _ _ _
      | exact ih1 _ _ _ _
      | exact ih2 _ _ _ _ _ _
      | exact ih3 _ _ _ _ _ _ _
      | exact LeO.none _
      | refine LeO.ite ?_ ?_
      | refine LeO.bind ?_ (fun _ => ?_)
    · intro y0 y1 y2 y3 y4 y5
      unfold locksteplaw28_small.l1
      repeat' first
      | (with_reducible exact ih0 _ _ _)
      | (with_reducible exact ih1 _ _ _ _)
      | (with_reducible exact ih2 _ _ _ _ _ _)
      | (with_reducible exact ih3 _ _ _ _ _ _ _)
      | (with_reducible exact LeO.refl _)
      | (with_reducible exact LeO.none _)
      | (with_reducible refine LeO.ite ?_ ?_)
      | (with_reducible refine LeO.bind ?_ (fun _ => ?_))
      | exact ih0 _ _ _
      | exact ih1 _ _ _ _
      | exact ih2 _ _ _ _ _ _
      | exact ih3 _ _ _ _ _ _ _
      | exact LeO.none _
      | refine LeO.ite ?_ ?_
      | refine LeO.bind ?_ (fun _ => ?_)
    · intro y0 y1 y2 y3 y4 y5 y6
      unfold locksteplaw28_small.j3
      repeat' first
      | (with_reducible exact ih0 _ _ _)
      | (with_reducible exact ih1 _ _ _ _)
      | (with_reducible exact ih2 _ _ _ _ _ _)
      | (with_reducible exact ih3 _ _ _ _ _ _ _)
      | (with_reducible exact LeO.refl _)
      | (with_reducible exact LeO.none _)
      | (with_reducible refine LeO.ite ?_ ?_)
      | (with_reducible refine LeO.bind ?_ (fun _ => ?_))
      | exact ih0 _ _ _
      | exact ih1 _ _ _ _
      | exact ih2 _ _ _ _ _ _
      | exact ih3 _ _ _ _ _ _ _
      | exact LeO.none _
      | refine LeO.ite ?_ ?_
      | refine LeO.bind ?_ (fun _ => ?_)
theorem locksteplaw28_small.mono : ∀ a0 k, LeO (locksteplaw28_small.f k a0) (locksteplaw28_small.f (k + 1) a0) := by
  intro a0 k
  obtain ⟨ih0, ih1, ih2, ih3⟩ := locksteplaw28_small.mono_l k
  unfold locksteplaw28_small.f
  repeat' first
      | (with_reducible exact ih0 _ _ _)
      | (with_reducible exact ih1 _ _ _ _)
      | (with_reducible exact ih2 _ _ _ _ _ _)
      | (with_reducible exact ih3 _ _ _ _ _ _ _)
      | (with_reducible exact LeO.refl _)
      | (with_reducible exact LeO.none _)
      | (with_reducible refine LeO.ite ?_ ?_)
      | (with_reducible refine LeO.bind ?_ (fun _ => ?_))
      | exact ih0 _ _ _
      | exact ih1 _ _ _ _
      | exact ih2 _ _ _ _ _ _
      | exact ih3 _ _ _ _ _ _ _
      | exact LeO.none _
      | refine LeO.ite ?_ ?_
      | refine LeO.bind ?_ (fun _ => ?_)
set_option maxHeartbeats 8000000 in
set_option maxRecDepth 100000 in
theorem locksteplaw28_small.calls (k : Nat) (A0 : Option Addr) (c0 : Nat) (l0 : List (S39)) (r : List (S39)) (w : World) (hr0 : Kd.C k39 w A0 l0.length l0) (hc0 : l0.length ≤ c0) (h : locksteplaw28_small.f k l0 = some r) :
    Calls Try.prog 20 #[.slice A0 l0.length c0] w fun e w' => ∃ v0_ : Value, e = .returned (v0_) ∧ Kd.R k39 39 w' w.heap.size (fun _ => True) v0_ r ∧ Below w.heap.size w w' := by
  have hu39 := Try.underlying39
  have HR0 := am hr0
  have HC0 := am hc0
  clear hr0 hc0
  have HB := am (Below.refl w.heap.size w)
  have H : (locksteplaw28_small.l0 k l0 ([] : List (S39)) 0) = some r := h
  clear h
  have H' := am H
  clear H
  go_enter Try.func20, Try.ntmps20
  go_wp2
  go_loopg [3, 4] k (fun kq v3 v4 w' => ∃ (x3_1 : List (S39)) (x4_1 : Int), v4 = .int .i64 x4_1 ∧ Aside0 (locksteplaw28_small.l0 kq l0 x3_1 x4_1 = some r) ∧ Aside0 (kq ≤ k) ∧ Aside0 (Kd.R k39 39 w' w.heap.size (fun _ => True) v3 x3_1) ∧ Aside0 (Below w.heap.size w w'))
  case atStart => exact ⟨(([] : List (S39))), (0), (by rfl), H', ⟨Nat.le_refl _⟩, ⟨by exact Kd.R_nil _ _ _ _ _⟩, ⟨by exact HB.out⟩⟩
  case round =>
    clear H'
    obtain ⟨x3_1, x4_1, rfl, HA, HK1, HO_3, HB⟩ := hrel
    cases gk with
    | zero => exact absurd HA.out (by simp [locksteplaw28_small.l0])
    | succ k1 =>
      have H := HA.out
      clear HA
      simp only [locksteplaw28_small.l0] at H
      have HC2 := am H
      clear H
      go_upto_region 3 with (fail)
      go_cut [15] (fun v15 wc => ∃ (kq : Nat) (x15_1 : Bool), v15 = .bool x15_1 ∧ Aside0 (locksteplaw28_small.j1 kq l0 x3_1 x4_1 x15_1 = some r) ∧ Aside0 (kq ≤ k1) ∧ Aside0 (Kd.R k39 39 wc w.heap.size (fun _ => True) u3 x3_1) ∧ Aside0 (Below w.heap.size w wc))
      case first =>
        have H := HC2.out
        clear HC2
        by_cases c3 : x4_1 < (l0.length : Int)
        · rw [if_pos c3] at H
          have c3b0 : decide (x4_1 < (l0.length : Int)) = true := decide_eq_true c3
          clear c3
          (skip)
          have H' := am H
          clear H
          go_wp2
          go_meet
          case rel => exact ⟨_, (decide (x4_1 < 6)), (by with_reducible rfl), H', ⟨by have := HK1.out; omega⟩, ⟨by exact HO_3.out⟩, ⟨by exact HB.out⟩⟩
        · rw [if_neg c3] at H
          have c3b0 : decide (x4_1 < (l0.length : Int)) = false := decide_eq_false c3
          clear c3
          (skip)
          have H' := am H
          clear H
          go_wp2
          go_meet
          case rel => exact ⟨_, (false), (by with_reducible rfl), H', ⟨by have := HK1.out; omega⟩, ⟨by exact HO_3.out⟩, ⟨by exact HB.out⟩⟩
      case rest =>
        clear HC2
        obtain ⟨kq, x15_1, rfl, HA, HJ1, HO_3, HB⟩ := hcut
        cases kq with
        | zero => exact absurd HA.out (by simp [locksteplaw28_small.j1])
        | succ kj1 =>
          have H := HA.out
          clear HA
          simp only [locksteplaw28_small.j1] at H
          by_cases c4 : x15_1 = true
          · subst c4
            have H1 : (if 0 ≤ x4_1 then (if x4_1 < (l0.length : Int) then (locksteplaw28_small.l1 kj1 l0 x3_1 x4_1 0 (Int.tmod ((rd_T39 l0 x4_1).f0) 100) ([] : List Int)) else (none)) else (none)) = some r := by rw [if_pos rfl] at H; exact H
            clear H
            have H := H1
            clear H1
            replace H := its H
            obtain ⟨c5, H⟩ := H
            have c5b0 : decide (0 ≤ x4_1) = true := decide_eq_true c5
            clear c5
            replace H := its H
            obtain ⟨c6, H⟩ := H
            have c6b0 : decide (x4_1 < (l0.length : Int)) = true := decide_eq_true c6
            clear c6
            have H' := am H
            clear H
            have p456 : 0 ≤ (x4_1 : Int) := of_decide_eq_true (by (with_reducible assumption))
            have q456 : x4_1 < (l0.length : Int) := of_decide_eq_true (by (with_reducible assumption))
            obtain ⟨ad456, A456_1, c456_1, e456, hx456_0, hx456_1, hl456_1, hi456_1⟩ := at_T39 HR0.out x4_1 p456 q456
            cases e456
            replace hx456_0 := (HB.out.cell (World.block_lt_of_cell? w _ hx456_0)).trans hx456_0
            replace hx456_1 := (HB.out.cell (World.block_lt_of_cell? w _ hx456_1)).trans hx456_1
            have HR456_1 := am hi456_1
            have HC456_1 := am hl456_1
            clear hi456_1 hl456_1
            replace p456 := eq_true p456
            replace q456 := eq_true q456
            go_wp2_with (((with_reducible refine gate_dst (N := 5) rfl ?_); refine box_event ?hg (N := 5) ?hd (cs := #[.int .u64 0, .slice none 0 0]) (t := 39) ?hr ?_; (case hd => rfl); (case hg => rfl); (case hr => (go_simp; done)); intro gb457 hg w7 hbox hb; replace HO_3 := am (Kd.R_below (Kd.R_elderB HO_3.out gb457 (Nat.le_of_eq hg.symm)) hb); have BK457 := am (hbox); have GW457 := am ((by rw [hg]; exact (below_size HB.out) : w.heap.size ≤ gb457)); have GE457 := am ((by rw [hg]; exact (below_size HB.out) : w.heap.size ≤ gb457)); replace HB := am (below_step HB.out hb); clear hb hbox hg; have hcz8_0 : w7.cell? ⟨gb457, 0, none⟩ = some (.int .u64 0) := (blk_cell BK457.out 0).trans rfl; have hcz8_1 : w7.cell? ⟨gb457, 1, none⟩ = some (.slice none 0 0) := (blk_cell BK457.out 1).trans rfl; have hfz8_0 := blk_frozen BK457.out 0; have hfz8_1 := blk_frozen BK457.out 1))
            go_loopg [6] kj1 (fun kq v6 w' => ∃ (x6_3 : Int) (x458001_3 : List Int) (u458001 : Value), v6 = .int .i64 x6_3 ∧ Aside0 (locksteplaw28_small.l1 kq l0 x3_1 x4_1 x6_3 (Int.tmod ((rd_T39 l0 x4_1).f0) 100) x458001_3 = some r) ∧ Aside0 (kq ≤ kj1) ∧ Aside0 (Kd.R k39 39 w' w.heap.size (fun k_ => some k_ ≠ (u458001 : Value).ownBlock ∧ k_ ≠ gb457) u3 x3_1) ∧ Aside0 (Kd.R (Kd.int .i64) 3 w' w.heap.size (fun _ => True) u458001 x458001_3) ∧ Aside0 (w'.heap[gb457]? = some (.cells #[.int .u64 (Int.tmod ((rd_T39 l0 x4_1).f0) 100), u458001] 39 (0, 0))) ∧ Aside0 (Below w.heap.size w w'))
            case atStart => exact ⟨(0), (([] : List Int)), (.slice none 0 0), (by rfl), H', ⟨Nat.le_refl _⟩, ⟨by exact Kd.R_mono (Kd.R_far (p := ⟨gb457, 1, none⟩) (Kd.R_far (p := ⟨gb457, 0, none⟩) (Kd.R_mono HO_3.out (fun k_ hk => (⟨hk, hk.2⟩ : _ ∧ k_ ≠ gb457))) (fun _ hk => hk.2) (.int .u64 (Int.tmod ((rd_T39 l0 x4_1).f0) 100))) (fun _ hk => hk.2) (.slice none 0 0)) (fun _ hk => ⟨(by simp [Value.ownBlock]), hk.1.2⟩)⟩, ⟨by exact Kd.R_nil _ _ _ _ _⟩, ⟨by (with_reducible repeat (first | refine blk_drewN ?_ _ | refine blk_drew ?_ | refine blk_alloc ?_ _)); refine blk_put (cs := #[.int .u64 (Int.tmod ((rd_T39 l0 x4_1).f0) 100), .slice none 0 0]) ?_ 1 _ rfl; (with_reducible repeat (first | refine blk_drewN ?_ _ | refine blk_drew ?_ | refine blk_alloc ?_ _)); refine blk_put (cs := #[.int .u64 0, .slice none 0 0]) ?_ 0 _ rfl; (with_reducible repeat (first | refine blk_drewN ?_ _ | refine blk_drew ?_ | refine blk_alloc ?_ _)); exact BK457.out⟩, ⟨by repeat ((with_reducible first | exact HB.out | refine below_set ?_ GE457.out))⟩⟩
            case round =>
              clear H'
              try clear c5b0
              try clear c6b0
              try clear hcz8_0
              try clear hcz8_1
              try clear hfz8_0
              try clear hfz8_1
              try clear hx456_0
              try clear hx456_1
              try clear p456
              try clear q456
              obtain ⟨x6_3, x458001_3, u458001, rfl, HA, HK3, HO_3, HO_458001, BK457, HB⟩ := hrel
              cases gk with
              | zero => exact absurd HA.out (by simp [locksteplaw28_small.l1])
              | succ k3 =>
                have H := HA.out
                clear HA
                simp only [locksteplaw28_small.l1] at H
                have HC9 := am H
                clear H
                go_upto_region 7 with (fail)
                go_cut [36] (fun v36 wc => ∃ (kq : Nat) (x36_8 : Bool), v36 = .bool x36_8 ∧ Aside0 (locksteplaw28_small.j3 kq l0 x3_1 x4_1 x6_3 x36_8 (Int.tmod ((rd_T39 l0 x4_1).f0) 100) x458001_3 = some r) ∧ Aside0 (kq ≤ k3) ∧ Aside0 (Kd.R k39 39 wc w.heap.size (fun k_ => some k_ ≠ (u458001 : Value).ownBlock ∧ k_ ≠ gb457) u3 x3_1) ∧ Aside0 (Kd.R (Kd.int .i64) 3 wc w.heap.size (fun _ => True) u458001 x458001_3) ∧ Aside0 (wc.heap[gb457]? = some (.cells #[.int .u64 (Int.tmod ((rd_T39 l0 x4_1).f0) 100), u458001] 39 (0, 0))) ∧ Aside0 (Below w.heap.size w wc))
                case first =>
                  have H := HC9.out
                  clear HC9
                  replace H := its H
                  obtain ⟨c10, H⟩ := H
                  have c10b0 : decide (0 ≤ x4_1) = true := decide_eq_true c10
                  clear c10
                  (skip)
                  replace H := its H
                  obtain ⟨c11, H⟩ := H
                  have c11b0 : decide (x4_1 < (l0.length : Int)) = true := decide_eq_true c11
                  clear c11
                  by_cases c12 : x6_3 < (((rd_T39 l0 x4_1).f1).length : Int)
                  · rw [if_pos c12] at H
                    have c12b0 : decide (x6_3 < (((rd_T39 l0 x4_1).f1).length : Int)) = true := decide_eq_true c12
                    clear c12
                    have H' := am H
                    clear H
                    have p458 : 0 ≤ (x4_1 : Int) := of_decide_eq_true (by (with_reducible assumption))
                    have q458 : x4_1 < (l0.length : Int) := of_decide_eq_true (by (with_reducible assumption))
                    obtain ⟨ad458, A458_1, c458_1, e458, hx458_0, hx458_1, hl458_1, hi458_1⟩ := at_T39 HR0.out x4_1 p458 q458
                    obtain rfl : ad456 = ad458 := (by injection e458)
                    replace hx458_0 := (HB.out.cell (World.block_lt_of_cell? w _ hx458_0)).trans hx458_0
                    replace hx458_1 := (HB.out.cell (World.block_lt_of_cell? w _ hx458_1)).trans hx458_1
                    have HR458_1 := am hi458_1
                    have HC458_1 := am hl458_1
                    clear hi458_1 hl458_1
                    replace p458 := eq_true p458
                    replace q458 := eq_true q458
                    go_wp2
                    go_meet
                    case rel => exact ⟨_, (decide (x6_3 < 3)), (by with_reducible rfl), H', ⟨by have := HK1.out; have := HJ1.out; have := HK3.out; omega⟩, ⟨by exact HO_3.out⟩, ⟨by exact HO_458001.out⟩, ⟨by (with_reducible repeat (first | refine blk_drewN ?_ _ | refine blk_drew ?_ | refine blk_alloc ?_ _)); exact BK457.out⟩, ⟨by exact HB.out⟩⟩
                  · rw [if_neg c12] at H
                    have c12b0 : decide (x6_3 < (((rd_T39 l0 x4_1).f1).length : Int)) = false := decide_eq_false c12
                    clear c12
                    have H' := am H
                    clear H
                    have p458 : 0 ≤ (x4_1 : Int) := of_decide_eq_true (by (with_reducible assumption))
                    have q458 : x4_1 < (l0.length : Int) := of_decide_eq_true (by (with_reducible assumption))
                    obtain ⟨ad458, A458_1, c458_1, e458, hx458_0, hx458_1, hl458_1, hi458_1⟩ := at_T39 HR0.out x4_1 p458 q458
                    obtain rfl : ad456 = ad458 := (by injection e458)
                    replace hx458_0 := (HB.out.cell (World.block_lt_of_cell? w _ hx458_0)).trans hx458_0
                    replace hx458_1 := (HB.out.cell (World.block_lt_of_cell? w _ hx458_1)).trans hx458_1
                    have HR458_1 := am hi458_1
                    have HC458_1 := am hl458_1
                    clear hi458_1 hl458_1
                    replace p458 := eq_true p458
                    replace q458 := eq_true q458
                    go_wp2
                    go_meet
                    case rel => exact ⟨_, (false), (by with_reducible rfl), H', ⟨by have := HK1.out; have := HJ1.out; have := HK3.out; omega⟩, ⟨by exact HO_3.out⟩, ⟨by exact HO_458001.out⟩, ⟨by (with_reducible repeat (first | refine blk_drewN ?_ _ | refine blk_drew ?_ | refine blk_alloc ?_ _)); exact BK457.out⟩, ⟨by exact HB.out⟩⟩
                case rest =>
                  clear HC9
                  obtain ⟨kq, x36_8, rfl, HA, HJ8, HO_3, HO_458001, BK457, HB⟩ := hcut
                  cases kq with
                  | zero => exact absurd HA.out (by simp [locksteplaw28_small.j3])
                  | succ kj8 =>
                    have H := HA.out
                    clear HA
                    simp only [locksteplaw28_small.j3] at H
                    by_cases c13 : x36_8 = true
                    · subst c13
                      have H1 : (if 0 ≤ x4_1 then (if x4_1 < (l0.length : Int) then (if 0 ≤ x6_3 then (if x6_3 < (((rd_T39 l0 x4_1).f1).length : Int) then (if (Int.tmod (rd ((rd_T39 l0 x4_1).f1) x6_3) 3) < 0 then (if x458001_3.length < 17592186044416 then (locksteplaw28_small.l1 kj8 l0 x3_1 x4_1 (wrap64 (x6_3 + 1)) (Int.tmod ((rd_T39 l0 x4_1).f0) 100) (x458001_3 ++ [wrap64 (-(Int.tmod (rd ((rd_T39 l0 x4_1).f1) x6_3) 3))])) else (none)) else (if x458001_3.length < 17592186044416 then (locksteplaw28_small.l1 kj8 l0 x3_1 x4_1 (wrap64 (x6_3 + 1)) (Int.tmod ((rd_T39 l0 x4_1).f0) 100) (x458001_3 ++ [Int.tmod (rd ((rd_T39 l0 x4_1).f1) x6_3) 3])) else (none))) else (none)) else (none)) else (none)) else (none)) = some r := by rw [if_pos rfl] at H; exact H
                      clear H
                      have H := H1
                      clear H1
                      replace H := its H
                      obtain ⟨c14, H⟩ := H
                      have c14b0 : decide (0 ≤ x4_1) = true := decide_eq_true c14
                      clear c14
                      replace H := its H
                      obtain ⟨c15, H⟩ := H
                      have c15b0 : decide (x4_1 < (l0.length : Int)) = true := decide_eq_true c15
                      clear c15
                      replace H := its H
                      obtain ⟨c16, H⟩ := H
                      have c16b0 : decide (0 ≤ x6_3) = true := decide_eq_true c16
                      clear c16
                      replace H := its H
                      obtain ⟨c17, H⟩ := H
                      have c17b0 : decide (x6_3 < (((rd_T39 l0 x4_1).f1).length : Int)) = true := decide_eq_true c17
                      clear c17
                      by_cases c18 : (Int.tmod (rd ((rd_T39 l0 x4_1).f1) x6_3) 3) < 0
                      · rw [if_pos c18] at H
                        have c18b0 : decide ((Int.tmod (rd ((rd_T39 l0 x4_1).f1) x6_3) 3) < 0) = true := decide_eq_true c18
                        clear c18
                        replace H := its H
                        obtain ⟨c19, H⟩ := H
                        have LMc19 := am c19
                        clear c19
                        obtain ⟨y461, hy461⟩ : ∃ y_ : List Int, y_ = (x458001_3 ++ [wrap64 (-(Int.tmod (rd ((rd_T39 l0 x4_1).f1) x6_3) 3))]) := ⟨_, rfl⟩
                        replace H : (locksteplaw28_small.l1 kj8 l0 x3_1 x4_1 (wrap64 (x6_3 + 1)) (Int.tmod ((rd_T39 l0 x4_1).f0) 100) y461) = some r := by (rw [hy461]; with_reducible exact H)
                        have Ny461 := am hy461
                        clear hy461
                        have H' := am H
                        clear H
                        have p459 : 0 ≤ (x4_1 : Int) := of_decide_eq_true (by (with_reducible assumption))
                        have q459 : x4_1 < (l0.length : Int) := of_decide_eq_true (by (with_reducible assumption))
                        obtain ⟨ad459, A459_1, c459_1, e459, hx459_0, hx459_1, hl459_1, hi459_1⟩ := at_T39 HR0.out x4_1 p459 q459
                        obtain rfl : ad456 = ad459 := (by injection e459)
                        replace hx459_0 := (HB.out.cell (World.block_lt_of_cell? w _ hx459_0)).trans hx459_0
                        replace hx459_1 := (HB.out.cell (World.block_lt_of_cell? w _ hx459_1)).trans hx459_1
                        have HR459_1 := am hi459_1
                        have HC459_1 := am hl459_1
                        clear hi459_1 hl459_1
                        replace p459 := eq_true p459
                        replace q459 := eq_true q459
                        have p460 : 0 ≤ (x6_3 : Int) := of_decide_eq_true (by (with_reducible assumption))
                        have q460 : x6_3 < (((rd_T39 l0 x4_1).f1).length : Int) := of_decide_eq_true (by (with_reducible assumption))
                        obtain ⟨ad460, e460, hx460_0⟩ := Kd.at_int HR459_1.out x6_3 p460 q460
                        cases e460
                        replace hx460_0 := (HB.out.cell (World.block_lt_of_cell? w _ hx460_0)).trans hx460_0
                        replace p460 := eq_true p460
                        replace q460 := eq_true q460
                        have hcz20_0 : wc.cell? ⟨gb457, 0, none⟩ = some (.int .u64 (Int.tmod ((rd_T39 l0 x4_1).f0) 100)) := (blk_cell BK457.out 0).trans rfl
                        have hcz20_1 : wc.cell? ⟨gb457, 1, none⟩ = some (u458001) := (blk_cell BK457.out 1).trans rfl
                        have hfz20_0 := blk_frozen BK457.out 0
                        have hfz20_1 := blk_frozen BK457.out 1
                        go_wp2_with (((with_reducible refine gate_builtin (b := .append) (xs := #[.tmp 53, .tmp 55]) rfl ?_); at_builtin; refine Kd.R_append (Kd.int .i64) (w0 := w) w.heap.size rfl (.tmp 53) (.tmp 55) 37 3 (.int .i64 0) 8 rfl Try.underlying37 info3 rfl (by decide) (by omega) u458001 x458001_3 (wrap64 (-(Int.tmod (rd ((rd_T39 l0 x4_1).f1) x6_3) 3))) [.int .i64 (wrap64 (-(Int.tmod (rd ((rd_T39 l0 x4_1).f1) x6_3) 3)))] (fun _ => True) (fun _ => False) rfl rfl ?aP (fun _ hk => hk.elim) ?aF ?aO ?aB ?aS ?aL ?_; (case aP => exact rfl); (case aB => exact HB.out); (case aF => exact (fun _ _ => trivial)); (case aO => exact HO_458001.out); (case aS => exact (below_size HB.out)); (case aL => have := LMc19.out; omega); intro v462 w21 ho hb hg hat; rw [← Ny461.out] at ho; replace HO_3 := am (Kd.R_after (ok := (fun k_ => k_ ≠ gb457)) (by exact Kd.R_mono HO_3.out (fun _ hk => ⟨hk.2, hk.1⟩)) hg hat); replace BK457 := am (blk_grown (g := gb457) (o := .cells #[.int .u64 (Int.tmod ((rd_T39 l0 x4_1).f0) 100), u458001] 39 (0, 0)) (by (with_reducible repeat (first | refine blk_drewN ?_ _ | refine blk_drew ?_ | refine blk_alloc ?_ _)); exact BK457.out) hg (Kd.R_ne HO_458001.out BK457.out (by decide))); replace HB := am (hb); have HO463 := am (ho); clear HO_458001; clear ho hb hg hat; obtain ⟨Ao22, co22, eo22⟩ := Kd.R_slice HO463.out; subst eo22; have hcz23_0 : w21.cell? ⟨gb457, 0, none⟩ = some (.int .u64 (Int.tmod ((rd_T39 l0 x4_1).f0) 100)) := (blk_cell BK457.out 0).trans rfl; have hcz23_1 : w21.cell? ⟨gb457, 1, none⟩ = some (u458001) := (blk_cell BK457.out 1).trans rfl; have hfz23_0 := blk_frozen BK457.out 0; have hfz23_1 := blk_frozen BK457.out 1))
                        go_roundg kj8
                        case measure => have := HK1.out; have := HJ1.out; have := HK3.out; have := HJ8.out; omega
                        case rel => exact ⟨(wrap64 (x6_3 + 1)), (y461), (.slice Ao22 y461.length co22), (by rfl), H', ⟨by have := HK1.out; have := HJ1.out; have := HK3.out; have := HJ8.out; omega⟩, ⟨by exact Kd.R_mono (Kd.R_far (p := ⟨gb457, 1, none⟩) (Kd.R_mono HO_3.out (fun k_ hk => (⟨hk, hk.1⟩ : _ ∧ k_ ≠ gb457))) (fun _ hk => hk.2) (.slice Ao22 y461.length co22)) (fun _ hk => ⟨hk.1.2, hk.1.1⟩)⟩, ⟨by exact Kd.R_mono (Kd.R_far (p := ⟨gb457, 1, none⟩) (Kd.R_types HO463.out BK457.out (by decide)) (fun _ hk => hk.2) (.slice Ao22 y461.length co22)) (fun _ hk => trivial)⟩, ⟨by (with_reducible repeat (first | refine blk_drewN ?_ _ | refine blk_drew ?_ | refine blk_alloc ?_ _)); refine blk_put (cs := #[.int .u64 (Int.tmod ((rd_T39 l0 x4_1).f0) 100), u458001]) ?_ 1 _ rfl; (with_reducible repeat (first | refine blk_drewN ?_ _ | refine blk_drew ?_ | refine blk_alloc ?_ _)); exact BK457.out⟩, ⟨by repeat ((with_reducible first | exact HB.out | refine below_set ?_ GE457.out))⟩⟩
                      · rw [if_neg c18] at H
                        have c18b0 : decide ((Int.tmod (rd ((rd_T39 l0 x4_1).f1) x6_3) 3) < 0) = false := decide_eq_false c18
                        clear c18
                        replace H := its H
                        obtain ⟨c24, H⟩ := H
                        have LMc24 := am c24
                        clear c24
                        obtain ⟨y464, hy464⟩ : ∃ y_ : List Int, y_ = (x458001_3 ++ [Int.tmod (rd ((rd_T39 l0 x4_1).f1) x6_3) 3]) := ⟨_, rfl⟩
                        replace H : (locksteplaw28_small.l1 kj8 l0 x3_1 x4_1 (wrap64 (x6_3 + 1)) (Int.tmod ((rd_T39 l0 x4_1).f0) 100) y464) = some r := by (rw [hy464]; with_reducible exact H)
                        have Ny464 := am hy464
                        clear hy464
                        have H' := am H
                        clear H
                        have p459 : 0 ≤ (x4_1 : Int) := of_decide_eq_true (by (with_reducible assumption))
                        have q459 : x4_1 < (l0.length : Int) := of_decide_eq_true (by (with_reducible assumption))
                        obtain ⟨ad459, A459_1, c459_1, e459, hx459_0, hx459_1, hl459_1, hi459_1⟩ := at_T39 HR0.out x4_1 p459 q459
                        obtain rfl : ad456 = ad459 := (by injection e459)
                        replace hx459_0 := (HB.out.cell (World.block_lt_of_cell? w _ hx459_0)).trans hx459_0
                        replace hx459_1 := (HB.out.cell (World.block_lt_of_cell? w _ hx459_1)).trans hx459_1
                        have HR459_1 := am hi459_1
                        have HC459_1 := am hl459_1
                        clear hi459_1 hl459_1
                        replace p459 := eq_true p459
                        replace q459 := eq_true q459
                        have p460 : 0 ≤ (x6_3 : Int) := of_decide_eq_true (by (with_reducible assumption))
                        have q460 : x6_3 < (((rd_T39 l0 x4_1).f1).length : Int) := of_decide_eq_true (by (with_reducible assumption))
                        obtain ⟨ad460, e460, hx460_0⟩ := Kd.at_int HR459_1.out x6_3 p460 q460
                        cases e460
                        replace hx460_0 := (HB.out.cell (World.block_lt_of_cell? w _ hx460_0)).trans hx460_0
                        replace p460 := eq_true p460
                        replace q460 := eq_true q460
                        have hcz25_0 : wc.cell? ⟨gb457, 0, none⟩ = some (.int .u64 (Int.tmod ((rd_T39 l0 x4_1).f0) 100)) := (blk_cell BK457.out 0).trans rfl
                        have hcz25_1 : wc.cell? ⟨gb457, 1, none⟩ = some (u458001) := (blk_cell BK457.out 1).trans rfl
                        have hfz25_0 := blk_frozen BK457.out 0
                        have hfz25_1 := blk_frozen BK457.out 1
                        go_wp2_with (((with_reducible refine gate_builtin (b := .append) (xs := #[.tmp 53, .tmp 55]) rfl ?_); at_builtin; refine Kd.R_append (Kd.int .i64) (w0 := w) w.heap.size rfl (.tmp 53) (.tmp 55) 37 3 (.int .i64 0) 8 rfl Try.underlying37 info3 rfl (by decide) (by omega) u458001 x458001_3 (Int.tmod (rd ((rd_T39 l0 x4_1).f1) x6_3) 3) [.int .i64 (Int.tmod (rd ((rd_T39 l0 x4_1).f1) x6_3) 3)] (fun _ => True) (fun _ => False) rfl rfl ?aP (fun _ hk => hk.elim) ?aF ?aO ?aB ?aS ?aL ?_; (case aP => exact rfl); (case aB => exact HB.out); (case aF => exact (fun _ _ => trivial)); (case aO => exact HO_458001.out); (case aS => exact (below_size HB.out)); (case aL => have := LMc24.out; omega); intro v465 w26 ho hb hg hat; rw [← Ny464.out] at ho; replace HO_3 := am (Kd.R_after (ok := (fun k_ => k_ ≠ gb457)) (by exact Kd.R_mono HO_3.out (fun _ hk => ⟨hk.2, hk.1⟩)) hg hat); replace BK457 := am (blk_grown (g := gb457) (o := .cells #[.int .u64 (Int.tmod ((rd_T39 l0 x4_1).f0) 100), u458001] 39 (0, 0)) (by (with_reducible repeat (first | refine blk_drewN ?_ _ | refine blk_drew ?_ | refine blk_alloc ?_ _)); exact BK457.out) hg (Kd.R_ne HO_458001.out BK457.out (by decide))); replace HB := am (hb); have HO466 := am (ho); clear HO_458001; clear ho hb hg hat; obtain ⟨Ao27, co27, eo27⟩ := Kd.R_slice HO466.out; subst eo27; have hcz28_0 : w26.cell? ⟨gb457, 0, none⟩ = some (.int .u64 (Int.tmod ((rd_T39 l0 x4_1).f0) 100)) := (blk_cell BK457.out 0).trans rfl; have hcz28_1 : w26.cell? ⟨gb457, 1, none⟩ = some (u458001) := (blk_cell BK457.out 1).trans rfl; have hfz28_0 := blk_frozen BK457.out 0; have hfz28_1 := blk_frozen BK457.out 1))
                        go_roundg kj8
                        case measure => have := HK1.out; have := HJ1.out; have := HK3.out; have := HJ8.out; omega
                        case rel => exact ⟨(wrap64 (x6_3 + 1)), (y464), (.slice Ao27 y464.length co27), (by rfl), H', ⟨by have := HK1.out; have := HJ1.out; have := HK3.out; have := HJ8.out; omega⟩, ⟨by exact Kd.R_mono (Kd.R_far (p := ⟨gb457, 1, none⟩) (Kd.R_mono HO_3.out (fun k_ hk => (⟨hk, hk.1⟩ : _ ∧ k_ ≠ gb457))) (fun _ hk => hk.2) (.slice Ao27 y464.length co27)) (fun _ hk => ⟨hk.1.2, hk.1.1⟩)⟩, ⟨by exact Kd.R_mono (Kd.R_far (p := ⟨gb457, 1, none⟩) (Kd.R_types HO466.out BK457.out (by decide)) (fun _ hk => hk.2) (.slice Ao27 y464.length co27)) (fun _ hk => trivial)⟩, ⟨by (with_reducible repeat (first | refine blk_drewN ?_ _ | refine blk_drew ?_ | refine blk_alloc ?_ _)); refine blk_put (cs := #[.int .u64 (Int.tmod ((rd_T39 l0 x4_1).f0) 100), u458001]) ?_ 1 _ rfl; (with_reducible repeat (first | refine blk_drewN ?_ _ | refine blk_drew ?_ | refine blk_alloc ?_ _)); exact BK457.out⟩, ⟨by repeat ((with_reducible first | exact HB.out | refine below_set ?_ GE457.out))⟩⟩
                    · replace c13 := Bool.eq_false_iff.mpr c13
                      subst c13
                      have H1 : (if x3_1.length < 4398046511104 then (locksteplaw28_small.l0 kj8 l0 (x3_1 ++ [(⟨(Int.tmod ((rd_T39 l0 x4_1).f0) 100), x458001_3⟩ : S39)]) (wrap64 (x4_1 + 1))) else (none)) = some r := by rw [if_neg (show ¬ (false = true) by decide)] at H; exact H
                      clear H
                      have H := H1
                      clear H1
                      replace H := its H
                      obtain ⟨c29, H⟩ := H
                      have LMc29 := am c29
                      clear c29
                      obtain ⟨y467, hy467⟩ : ∃ y_ : List (S39), y_ = (x3_1 ++ [(⟨(Int.tmod ((rd_T39 l0 x4_1).f0) 100), x458001_3⟩ : S39)]) := ⟨_, rfl⟩
                      replace H : (locksteplaw28_small.l0 kj8 l0 y467 (wrap64 (x4_1 + 1))) = some r := by (rw [hy467]; with_reducible exact H)
                      have Ny467 := am hy467
                      clear hy467
                      have H' := am H
                      clear H
                      have hcz30_0 : wc.cell? ⟨gb457, 0, none⟩ = some (.int .u64 (Int.tmod ((rd_T39 l0 x4_1).f0) 100)) := (blk_cell BK457.out 0).trans rfl
                      have hcz30_1 : wc.cell? ⟨gb457, 1, none⟩ = some (u458001) := (blk_cell BK457.out 1).trans rfl
                      have hfz30_0 := blk_frozen BK457.out 0
                      have hfz30_1 := blk_frozen BK457.out 1
                      obtain ⟨Ao32, co32, eo32⟩ := Kd.R_slice HO_458001.out
                      subst eo32
                      go_wp2_with (((with_reducible refine gate_builtin (b := .append) (xs := #[.tmp 58, .tmp 60]) rfl ?_); at_builtin; refine Kd.R_append k39 (w0 := w) w.heap.size rfl (.tmp 58) (.tmp 60) 22 39 (.agg #[(.int .u64 0), (.slice none 0 0)]) 32 rfl Try.underlying22 info39 rfl (by decide) (by omega) u3 x3_1 (⟨(Int.tmod ((rd_T39 l0 x4_1).f0) 100), x458001_3⟩ : S39) [.int .u64 (Int.tmod ((rd_T39 l0 x4_1).f0) 100), .slice Ao32 x458001_3.length co32] (fun k_ => k_ ≠ gb457) (fun k_ => ((fun k_ => k_ ≠ gb457)) k_ ∧ some k_ ≠ (u3 : Value).ownBlock) rfl rfl ?aP (fun _ hk => hk) ?aF ?aO ?aB ?aS ?aL ?_; (case aP => exact k39_mkM _ _ _ (⟨(Int.tmod ((rd_T39 l0 x4_1).f0) 100), x458001_3⟩ : S39) (Kd.R_mono (Kd.R_types (Kd.R_apart' (HO_458001.out) (Kd.R_typed HO_3.out) (by decide)) BK457.out (by decide)) (fun k_ hk => ⟨hk.2, hk.1.2⟩))); (case aB => exact HB.out); (case aF => exact (fun k_ hk => Kd.freshB (g := gb457) (o := .cells #[.int .u64 (Int.tmod ((rd_T39 l0 x4_1).f0) 100), .slice Ao32 x458001_3.length co32] 39 (0, 0)) (by (with_reducible repeat (first | refine blk_drewN ?_ _ | refine blk_drew ?_ | refine blk_alloc ?_ _)); exact BK457.out) k_ hk)); (case aO => exact (by exact Kd.R_mono HO_3.out (fun _ hk => hk.2))); (case aS => exact (below_size HB.out)); (case aL => have := LMc29.out; omega); intro v468 w31 ho hb hg hat; rw [← Ny467.out] at ho; replace BK457 := am (blk_grown (g := gb457) (o := .cells #[.int .u64 (Int.tmod ((rd_T39 l0 x4_1).f0) 100), .slice Ao32 x458001_3.length co32] 39 (0, 0)) (by (with_reducible repeat (first | refine blk_drewN ?_ _ | refine blk_drew ?_ | refine blk_alloc ?_ _)); exact BK457.out) hg (Kd.R_away HO_3.out (fun _ hk => hk.2))); replace HB := am (hb); have HO469 := am (ho); clear HO_3 HO_458001; clear ho hb hg hat))
                      go_roundg kj8
                      case measure => have := HK1.out; have := HJ1.out; have := HK3.out; have := HJ8.out; omega
                      case rel => exact ⟨(y467), (wrap64 (x4_1 + 1)), (by rfl), H', ⟨by have := HK1.out; have := HJ1.out; have := HK3.out; have := HJ8.out; omega⟩, ⟨by exact Kd.R_mono HO469.out (fun _ hk => trivial)⟩, ⟨by exact HB.out⟩⟩
          · replace c4 := Bool.eq_false_iff.mpr c4
            subst c4
            have H1 : (some x3_1) = some r := by rw [if_neg (show ¬ (false = true) by decide)] at H; exact H
            clear H
            have H := H1
            clear H1
            obtain rfl := Option.some.inj H
            go_wp2
            go_ret
            exact ⟨_, by rfl, by exact HO_3.out, by exact HB.out⟩
end Go.Proofs.Ytkkocmmilmbgpaa.S
end
section
namespace Go.Proofs.Ytkkocmmilmbgpaa.S
open Go.RowKit Go.Proofs.YtkkocmmilmbgpaaW.PrintWords
set_option linter.unusedVariables false
set_option linter.unusedSimpArgs false
namespace Nf
open Mg Sym
structure Sm (l : List S39) : Prop where
  len : l.length ≤ 6
  tm : ∀ x ∈ l, x.f1.length ≤ 3 ∧ (∀ e ∈ x.f1, 0 ≤ e ∧ e ≤ 2) ∧ 0 ≤ x.f0 ∧ x.f0 ≤ 99
theorem tmod_b (e : Int) (m : Int) (hm : 0 < m) : (0 ≤ e → 0 ≤ Int.tmod e m ∧ Int.tmod e m < m) ∧ -m < Int.tmod e m ∧ Int.tmod e m < m := by
  have h1 : 0 ≤ e → 0 ≤ Int.tmod e m ∧ Int.tmod e m < m := fun he => ⟨Int.tmod_nonneg m he, Int.tmod_lt_of_pos e hm⟩
  refine ⟨h1, ?_, Int.tmod_lt_of_pos e hm⟩
  by_cases he : 0 ≤ e
  · have := h1 he; omega
  · have h2 := Int.neg_tmod (a := e) (b := m)
    have h3 := Int.tmod_lt_of_pos (-e) hm
    omega
theorem small_l1 (T acc : List S39) (i : Nat) (t : S39) (hi : i < T.length) (hT : T.length < 1000000000000000) (hr : rd_T39 T (i : Int) = t) (ht : t.f1.length < 1000000000000000) (c : Int) (hacc : acc.length ≤ 6)
    (hK : ∀ es : List Int, es.length ≤ 3 → (∀ e ∈ es, 0 ≤ e ∧ e ≤ 2) → ∃ r, Sm r ∧ ∃ K, ∀ k, K ≤ k → locksteplaw28_small.l0 k T (acc ++ [⟨c, es⟩]) (wrap64 ((i : Int) + 1)) = some r) :
    ∀ (d : Nat) (es : List Int), es.length + d = 3 → (∀ e ∈ es, 0 ≤ e ∧ e ≤ 2) → ∃ r, Sm r ∧ ∃ K, ∀ k, K ≤ k → locksteplaw28_small.l1 k T acc (i : Int) (es.length : Int) c es = some r := by
  intro d
  induction d with
  | zero =>
    intro es hd hes
    obtain ⟨r, hs, K, h⟩ := hK es (by omega) hes
    refine ⟨r, hs, K + 2, fun k hk => ?_⟩
    obtain ⟨k, rfl⟩ : ∃ j, k = j + 2 := ⟨k - 2, by omega⟩
    have e : ∀ b : Bool, b = false → locksteplaw28_small.j3 (k + 1) T acc (i : Int) (es.length : Int) b c es = some r := fun b hb => by
      rw [locksteplaw28_small.j3, hb, if_neg (by decide), if_pos (by omega)]
      exact h k (by omega)
    rw [locksteplaw28_small.l1, if_pos (by omega), if_pos (by omega), hr]
    split
    · exact e _ (decide_eq_false (by omega))
    · exact e _ rfl
  | succ d ih =>
    intro es hd hes
    by_cases hl : es.length < t.f1.length
    · have hm := tmod_b (rd t.f1 (es.length : Int)) 3 (by decide)
      by_cases hneg : Int.tmod (rd t.f1 (es.length : Int)) 3 < 0
      · obtain ⟨r, hs, K, h⟩ := ih (es ++ [wrap64 (-(Int.tmod (rd t.f1 (es.length : Int)) 3))]) (by simp; omega) (fun e he => by
          rcases List.mem_append.1 he with he | he
          · exact hes e he
          · rw [List.mem_singleton.1 he]; unfold wrap64; omega)
        refine ⟨r, hs, K + 2, fun k hk => ?_⟩
        obtain ⟨k, rfl⟩ : ∃ j, k = j + 2 := ⟨k - 2, by omega⟩
        rw [locksteplaw28_small.l1, if_pos (by omega), if_pos (by omega), hr, if_pos (by omega), locksteplaw28_small.j3, decide_eq_true (by omega), if_pos rfl, if_pos (by omega), if_pos (by omega), if_pos (by omega), hr, if_pos (by omega), if_pos hneg, if_pos (by omega), wsucc _ (by omega)]
        have := h k (by omega)
        rw [List.length_append, List.length_singleton] at this
        exact this
      · obtain ⟨r, hs, K, h⟩ := ih (es ++ [Int.tmod (rd t.f1 (es.length : Int)) 3]) (by simp; omega) (fun e he => by
          rcases List.mem_append.1 he with he | he
          · exact hes e he
          · rw [List.mem_singleton.1 he]; omega)
        refine ⟨r, hs, K + 2, fun k hk => ?_⟩
        obtain ⟨k, rfl⟩ : ∃ j, k = j + 2 := ⟨k - 2, by omega⟩
        rw [locksteplaw28_small.l1, if_pos (by omega), if_pos (by omega), hr, if_pos (by omega), locksteplaw28_small.j3, decide_eq_true (by omega), if_pos rfl, if_pos (by omega), if_pos (by omega), if_pos (by omega), hr, if_pos (by omega), if_neg hneg, if_pos (by omega), wsucc _ (by omega)]
        have := h k (by omega)
        rw [List.length_append, List.length_singleton] at this
        exact this
    · obtain ⟨r, hs, K, h⟩ := hK es (by omega) hes
      refine ⟨r, hs, K + 2, fun k hk => ?_⟩
      obtain ⟨k, rfl⟩ : ∃ j, k = j + 2 := ⟨k - 2, by omega⟩
      rw [locksteplaw28_small.l1, if_pos (by omega), if_pos (by omega), hr, if_neg (by omega), locksteplaw28_small.j3, if_neg (by decide), if_pos (by omega)]
      exact h k (by omega)
theorem small_l0 (T : List S39) (hT : T.length < 1000000000000000) (hf : ∀ x ∈ T, x.f1.length < 1000000000000000 ∧ 0 ≤ x.f0) : ∀ (d : Nat) (acc : List S39), acc.length + d = 6 → Sm acc → ∃ r, Sm r ∧ ∃ K, ∀ k, K ≤ k → locksteplaw28_small.l0 k T acc (acc.length : Int) = some r := by
  intro d
  induction d with
  | zero =>
    intro acc hd hs
    refine ⟨acc, hs, 2, fun k hk => ?_⟩
    obtain ⟨k, rfl⟩ : ∃ j, k = j + 2 := ⟨k - 2, by omega⟩
    have e : ∀ b : Bool, b = false → locksteplaw28_small.j1 (k + 1) T acc (acc.length : Int) b = some acc := fun b hb => by
      rw [locksteplaw28_small.j1, hb, if_neg (by decide)]
    rw [locksteplaw28_small.l0]
    split
    · exact e _ (decide_eq_false (by omega))
    · exact e _ rfl
  | succ d ih =>
    intro acc hd hs
    by_cases hl : acc.length < T.length
    · obtain ⟨t, hr⟩ : ∃ t, rd_T39 T (acc.length : Int) = t := ⟨_, rfl⟩
      have htm : t ∈ T := by
        rw [← hr]
        unfold rd_T39
        rw [Int.toNat_natCast, List.getD_eq_getElem?_getD, List.getElem?_eq_getElem hl]
        exact List.getElem_mem _
      have hb := (tmod_b t.f0 100 (by decide)).1 (hf t htm).2
      obtain ⟨r, h1, K, h2⟩ := small_l1 T acc acc.length t hl hT hr (hf t htm).1 (Int.tmod t.f0 100) hs.len (fun es he1 he2 => by
        have := ih (acc ++ [⟨Int.tmod t.f0 100, es⟩]) (by simp; omega) ⟨by simp; omega, fun x hx => by
          rcases List.mem_append.1 hx with hx | hx
          · exact hs.tm x hx
          · rw [List.mem_singleton.1 hx]
            exact ⟨he1, he2, by show 0 ≤ Int.tmod t.f0 100; omega, by show Int.tmod t.f0 100 ≤ 99; omega⟩⟩
        rw [wsucc _ (by omega)]
        rw [List.length_append, List.length_singleton] at this
        exact this) 3 [] rfl (fun e he => by cases he)
      refine ⟨r, h1, K + 2, fun k hk => ?_⟩
      obtain ⟨k, rfl⟩ : ∃ j, k = j + 2 := ⟨k - 2, by omega⟩
      rw [locksteplaw28_small.l0, if_pos (by omega), locksteplaw28_small.j1, decide_eq_true (by omega), if_pos rfl, if_pos (by omega), if_pos (by omega), hr]
      exact h2 k (by omega)
    · refine ⟨acc, hs, 2, fun k hk => ?_⟩
      obtain ⟨k, rfl⟩ : ∃ j, k = j + 2 := ⟨k - 2, by omega⟩
      rw [locksteplaw28_small.l0, if_neg (by omega), locksteplaw28_small.j1, if_neg (by decide)]
theorem small_eq (T : List S39) (hT : T.length < 1000000000000000) (hf : ∀ x ∈ T, x.f1.length < 1000000000000000 ∧ 0 ≤ x.f0) : ∃ r, Sm r ∧ ∃ K, ∀ k, K ≤ k → locksteplaw28_small.f k T = some r :=
  small_l0 T hT hf 6 [] rfl ⟨by simp, fun x hx => by cases hx⟩
theorem tot_sm : ∀ l : List S39, (∀ x ∈ l, 0 ≤ x.f0 ∧ x.f0 ≤ 99) → tot l ≤ 99 * l.length
  | [], _ => Nat.le_refl _
  | x :: l, h => by
    have h1 := h x List.mem_cons_self
    have h2 := tot_sm l (fun y hy => h y (List.mem_cons_of_mem _ hy))
    rw [tot] at h2 ⊢
    rw [S, List.length_cons]
    omega
theorem Sm.gd {l : List S39} (h : Sm l) : Gd 2 6 594 l :=
  ⟨h.len, fun x hx => ⟨(h.tm x hx).1, (h.tm x hx).2.1, by have := (h.tm x hx).2.2; unfold U; omega⟩, by have := tot_sm l (fun x hx => (h.tm x hx).2.2); have := h.len; omega⟩
theorem S_sm (lm : Nat → Nat) (hlm : ∀ j, 1 ≤ lm j ∧ lm j ≤ 6) : ∀ l : List S39, (∀ x ∈ l, x.f1.length ≤ 3 ∧ (∀ e ∈ x.f1, 0 ≤ e ∧ e ≤ 2) ∧ 0 ≤ x.f0 ∧ x.f0 ≤ 99) → S (phi lm 0) l ≤ 4618944 * l.length
  | [], _ => Nat.le_refl _
  | x :: l, h => by
    have h1 := h x List.mem_cons_self
    have h2 := S_sm lm hlm l (fun y hy => h y (List.mem_cons_of_mem _ hy))
    have h3 := phi_le lm hlm x.f1 0 h1.2.1
    have h4 : 36 ^ x.f1.length ≤ 46656 := Nat.le_trans (Nat.pow_le_pow_right (by decide) h1.1) (by decide)
    have h5 : x.f0.toNat * phi lm 0 x.f1 ≤ 99 * 46656 := Nat.mul_le_mul (by omega) (Nat.le_trans h3 h4)
    rw [S, phi_tr, List.length_cons]
    omega
theorem Sm.S {l : List S39} (h : Sm l) (lm : Nat → Nat) (hlm : ∀ j, 1 ≤ lm j ∧ lm j ≤ 6) : S (phi lm 0) l ≤ 27713664 := by
  have := S_sm lm hlm l h.tm
  have := h.len
  omega
end Nf
end Go.Proofs.Ytkkocmmilmbgpaa.S
end
section
namespace Go.Proofs.Ytkkocmmilmbgpaa.S
open Go.RowKit Go.Proofs.YtkkocmmilmbgpaaW.PrintWords Go.Proofs.YtkkocmmilmbgpaaW.PrintLast Go.Proofs.YtkkocmmilmbgpaaW.PrintMore
attribute [local go_sem] max2_int min2_int max_two min_two max_three min_three max_four min_four
set_option linter.unusedVariables false
set_option linter.unusedSimpArgs false
def locksteplaw28_lives.f (k : Nat)  : Option (Bool) := (some (([(⟨3, ([] : List Int)⟩ : S39), (⟨2, (([1] : List Int))⟩ : S39)] : List (S39)) : List (S39))).bind fun y203 => ((cost_Times.f k y203 y203).bind fun bt206 => (if bt206.2 = 0 then (if (bt206.1.length : Int) = 3 then (if 0 < (bt206.1.length : Int) then (if ((rd_T39 bt206.1 0).f0) = 4 then (if 1 < (bt206.1.length : Int) then (if ((rd_T39 bt206.1 1).f0) = 12 then (if 2 < (bt206.1.length : Int) then (if ((rd_T39 bt206.1 2).f0) = 9 then ((cost_Value.f k bt206.1 (([5] : List Int))).bind fun t216 => (if t216 = 169 then ((cost_Bound.f 0 0 0 0 0 0).bind fun t217 => (some (t217 == 0))) else (some false))) else (some false)) else (none)) else (some false)) else (none)) else (some false)) else (none)) else (some false)) else (some false)))
theorem locksteplaw28_lives.mono : ∀ k, LeO (locksteplaw28_lives.f k ) (locksteplaw28_lives.f (k + 1) ) := by
  intro  k
  unfold locksteplaw28_lives.f
  repeat' first
      | (with_reducible exact cost_Times.mono _ _ _)
      | (with_reducible exact cost_Value.mono _ _ _)
      | (with_reducible exact LeO.refl _)
      | (with_reducible exact LeO.none _)
      | (with_reducible refine LeO.ite ?_ ?_)
      | (with_reducible refine LeO.bind ?_ (fun _ => ?_))
      | exact cost_Times.mono _ _ _
      | exact cost_Value.mono _ _ _
      | exact LeO.none _
      | refine LeO.ite ?_ ?_
      | refine LeO.bind ?_ (fun _ => ?_)
set_option maxHeartbeats 8000000 in
set_option maxRecDepth 100000 in
theorem locksteplaw28_lives.calls (k : Nat)  (r : Bool) (w : World) (h : locksteplaw28_lives.f k  = some r) :
    Calls Try.prog 6 #[] w fun e w' => e = .returned (.bool r) ∧ Below w.heap.size w w' := by
  have hu39 := Try.underlying39
  have hu26 := Try.underlying26
  have HB := am (Below.refl w.heap.size w)
  have H : ((some (([(⟨3, ([] : List Int)⟩ : S39), (⟨2, (([1] : List Int))⟩ : S39)] : List (S39)) : List (S39))).bind fun y203 => ((cost_Times.f k y203 y203).bind fun bt206 => (if bt206.2 = 0 then (if (bt206.1.length : Int) = 3 then (if 0 < (bt206.1.length : Int) then (if ((rd_T39 bt206.1 0).f0) = 4 then (if 1 < (bt206.1.length : Int) then (if ((rd_T39 bt206.1 1).f0) = 12 then (if 2 < (bt206.1.length : Int) then (if ((rd_T39 bt206.1 2).f0) = 9 then ((cost_Value.f k bt206.1 (([5] : List Int))).bind fun t216 => (if t216 = 169 then ((cost_Bound.f 0 0 0 0 0 0).bind fun t217 => (some (t217 == 0))) else (some false))) else (some false)) else (none)) else (some false)) else (none)) else (some false)) else (none)) else (some false)) else (some false)))) = some r := h
  clear h
  obtain ⟨y200, hy200⟩ : ∃ y_ : List Int, y_ = (([1] : List Int)) := ⟨_, rfl⟩
  replace H : ((some (([(⟨3, ([] : List Int)⟩ : S39), (⟨2, y200⟩ : S39)] : List (S39)) : List (S39))).bind fun y203 => ((cost_Times.f k y203 y203).bind fun bt206 => (if bt206.2 = 0 then (if (bt206.1.length : Int) = 3 then (if 0 < (bt206.1.length : Int) then (if ((rd_T39 bt206.1 0).f0) = 4 then (if 1 < (bt206.1.length : Int) then (if ((rd_T39 bt206.1 1).f0) = 12 then (if 2 < (bt206.1.length : Int) then (if ((rd_T39 bt206.1 2).f0) = 9 then ((cost_Value.f k bt206.1 (([5] : List Int))).bind fun t216 => (if t216 = 169 then ((cost_Bound.f 0 0 0 0 0 0).bind fun t217 => (some (t217 == 0))) else (some false))) else (some false)) else (none)) else (some false)) else (none)) else (some false)) else (none)) else (some false)) else (some false)))) = some r := by (rw [hy200]; with_reducible exact H)
  have Ny200 := am hy200
  clear hy200
  obtain ⟨y203, hy203⟩ : ∃ y_ : List (S39), y_ = (([(⟨3, ([] : List Int)⟩ : S39), (⟨2, y200⟩ : S39)] : List (S39))) := ⟨_, rfl⟩
  replace H : ((cost_Times.f k y203 y203).bind fun bt206 => (if bt206.2 = 0 then (if (bt206.1.length : Int) = 3 then (if 0 < (bt206.1.length : Int) then (if ((rd_T39 bt206.1 0).f0) = 4 then (if 1 < (bt206.1.length : Int) then (if ((rd_T39 bt206.1 1).f0) = 12 then (if 2 < (bt206.1.length : Int) then (if ((rd_T39 bt206.1 2).f0) = 9 then ((cost_Value.f k bt206.1 (([5] : List Int))).bind fun t216 => (if t216 = 169 then ((cost_Bound.f 0 0 0 0 0 0).bind fun t217 => (some (t217 == 0))) else (some false))) else (some false)) else (none)) else (some false)) else (none)) else (some false)) else (none)) else (some false)) else (some false))) = some r := by (have H2_ := (Option.bind_some _ _).symm.trans H; rw [hy203]; with_reducible exact H2_)
  have Ny203 := am hy203
  clear hy203
  replace H := Option.bind_eq_some_iff.mp H
  obtain ⟨⟨t206, t209⟩, A10, H⟩ := H
  replace H : (if t209 = 0 then (if (t206.length : Int) = 3 then (if 0 < (t206.length : Int) then (if ((rd_T39 t206 0).f0) = 4 then (if 1 < (t206.length : Int) then (if ((rd_T39 t206 1).f0) = 12 then (if 2 < (t206.length : Int) then (if ((rd_T39 t206 2).f0) = 9 then ((cost_Value.f k t206 (([5] : List Int))).bind fun t216 => (if t216 = 169 then ((cost_Bound.f 0 0 0 0 0 0).bind fun t217 => (some (t217 == 0))) else (some false))) else (some false)) else (none)) else (some false)) else (none)) else (some false)) else (none)) else (some false)) else (some false)) = some r := H
  have A1 := am A10
  clear A10
  by_cases c2 : t209 = 0
  · rw [if_pos c2] at H
    have c2b0 : (t209 == 0) = true := beq_iff_eq.mpr c2
    have c2b1 : (t209 != 0) = false := bne_eq_false_iff_eq.mpr c2
    clear c2
    by_cases c3 : (t206.length : Int) = 3
    · rw [if_pos c3] at H
      have c3b0 : ((t206.length : Int) == 3) = true := beq_iff_eq.mpr c3
      have c3b1 : ((t206.length : Int) != 3) = false := bne_eq_false_iff_eq.mpr c3
      clear c3
      replace H := its H
      obtain ⟨c4, H⟩ := H
      have c4b0 : decide (0 < (t206.length : Int)) = true := decide_eq_true c4
      have c4b1 : decide (0 < t206.length) = true := decide_eq_true (by omega)
      clear c4
      by_cases c5 : ((rd_T39 t206 0).f0) = 4
      · rw [if_pos c5] at H
        have c5b0 : (((rd_T39 t206 0).f0) == 4) = true := beq_iff_eq.mpr c5
        have c5b1 : (((rd_T39 t206 0).f0) != 4) = false := bne_eq_false_iff_eq.mpr c5
        clear c5
        replace H := its H
        obtain ⟨c6, H⟩ := H
        have c6b0 : decide (1 < (t206.length : Int)) = true := decide_eq_true c6
        have c6b1 : decide (1 < t206.length) = true := decide_eq_true (by omega)
        clear c6
        by_cases c7 : ((rd_T39 t206 1).f0) = 12
        · rw [if_pos c7] at H
          have c7b0 : (((rd_T39 t206 1).f0) == 12) = true := beq_iff_eq.mpr c7
          have c7b1 : (((rd_T39 t206 1).f0) != 12) = false := bne_eq_false_iff_eq.mpr c7
          clear c7
          replace H := its H
          obtain ⟨c8, H⟩ := H
          have c8b0 : decide (2 < (t206.length : Int)) = true := decide_eq_true c8
          have c8b1 : decide (2 < t206.length) = true := decide_eq_true (by omega)
          clear c8
          by_cases c9 : ((rd_T39 t206 2).f0) = 9
          · rw [if_pos c9] at H
            have c9b0 : (((rd_T39 t206 2).f0) == 9) = true := beq_iff_eq.mpr c9
            have c9b1 : (((rd_T39 t206 2).f0) != 9) = false := bne_eq_false_iff_eq.mpr c9
            clear c9
            obtain ⟨y213, hy213⟩ : ∃ y_ : List Int, y_ = (([5] : List Int)) := ⟨_, rfl⟩
            replace H : ((cost_Value.f k t206 y213).bind fun t216 => (if t216 = 169 then ((cost_Bound.f 0 0 0 0 0 0).bind fun t217 => (some (t217 == 0))) else (some false))) = some r := by (rw [hy213]; with_reducible exact H)
            have Ny213 := am hy213
            clear hy213
            replace H := Option.bind_eq_some_iff.mp H
            obtain ⟨t216, A100, H⟩ := H
            replace H : (if t216 = 169 then ((cost_Bound.f 0 0 0 0 0 0).bind fun t217 => (some (t217 == 0))) else (some false)) = some r := H
            have A10 := am A100
            clear A100
            by_cases c11 : t216 = 169
            · rw [if_pos c11] at H
              have c11b0 : (t216 == 169) = true := beq_iff_eq.mpr c11
              have c11b1 : (t216 != 169) = false := bne_eq_false_iff_eq.mpr c11
              clear c11
              replace H := Option.bind_eq_some_iff.mp H
              obtain ⟨t217, A120, H⟩ := H
              replace H : (some (t217 == 0)) = some r := H
              have A12 := am A120
              clear A120
              obtain rfl := Option.some.inj H
              go_enter Try.func6, Try.ntmps6
              go_wp2_with (first | ((with_reducible refine gate_dst (N := 5) rfl ?_); (try (refine gate_guard (by rfl) ?_; dsimp only)); refine Kd.R_lit (Kd.int .i64) _ 3 ?hg (N := 5) ?hd (xs := ([1] : List Int)) (inner := [.int .i64 1]) (ok := fun _ => True) (okp := fun _ => True) ?hr ?hp (fun _ hk => hk) trivial (Below.refl _ _) (Nat.le_refl _) (by simp) ?_; (case hd => rfl); (case hg => rfl); (case hr => (go_simp; done)); (case hp => exact (Reps.one (show Kd.M (Kd.int .i64) _ _ _ 1 [.int .i64 1] from rfl) (Reps.none _ _))); intro v201 w13 ho14 hb hg_ hnew_; clear hg_ hnew_; (rw [← Ny200.out] at ho14); have HO202 := am (Kd.R_lower ho14 (below_size HB.out)); replace HB := am (below_step HB.out hb); clear hb ho14; obtain ⟨Ao15, co15, eo15⟩ := Kd.R_slice HO202.out; subst eo15) | ((with_reducible refine gate_dst (N := 7) rfl ?_); (try (refine gate_guard (by rfl) ?_; dsimp only)); refine Kd.N_lit k39 _ 39 ?hg (N' := 7) ?hd (xs := ([(⟨3, ([] : List Int)⟩ : S39), (⟨2, y200⟩ : S39)] : List (S39))) (inner := [.int .u64 3, .slice none 0 0, .int .u64 2, .slice Ao15 y200.length co15]) (ok := (fun _ => True)) (okp := (fun _ => True)) ?hr ?hp (fun _ hk => hk) ((show ∀ k_, w13.heap.size ≤ k_ → (fun _ => True) k_ from fun k_ hk => trivial) _ (Nat.le_refl _)) (Below.refl _ _) (Nat.le_refl _) (by simp) ?_; (case hd => rfl); (case hg => rfl); (case hr => (go_simp; done)); (case hp => exact (Reps.c2 (show Kd.FK k39 _ _ (⟨3, ([] : List Int)⟩ : S39) [.int .u64 3, .slice none 0 0] from (k39_mkF _ _ (⟨3, ([] : List Int)⟩ : S39) (Nat.le_refl _) (Kd.F_nil _ _ _))) (Reps.c2 (show Kd.FK k39 _ _ (⟨2, y200⟩ : S39) [.int .u64 2, .slice Ao15 y200.length co15] from (k39_mkF _ _ (⟨2, y200⟩ : S39) (Kd.R_reads' (Kd.R_mono (ok' := (fun _ => True)) (HO202.out) (fun k_ hk => trivial))).2.1 (Kd.R_F (Kd.R_mono (ok' := (fun _ => True)) (HO202.out) (fun k_ hk => trivial))))) (Reps.none _ _)))); intro v204 w16 ho17 hb hg_ hnew_; clear hg_ hnew_; (rw [← Ny203.out] at ho17); have HO205 := am (Kd.N_lower ho17 (below_size HB.out)); replace HB := am (below_step HB.out hb); clear HO202; clear hb ho17; obtain ⟨Ao18, co18, eo18⟩ := Kd.N_slice HO205.out; subst eo18) | ((with_reducible refine gate_callee (f := 14) rfl ?_); refine goesL_ (some 11) rfl rfl Try.func14 (by kernel_rfl) rfl #[.slice Ao18 y203.length co18, .slice Ao18 y203.length co18] rfl (by (try simp only [List.map_toArray, List.map_cons, List.map_nil]); rfl) ?_; (with_reducible refine (cost_Times.calls k _ _ y203 _ _ y203 t206 t209 _ ?side1 ?side2 ?side3 ?side4 A1.out).mono ?_); (case side1 => exact (Kd.N_reads' HO205.out).2.2); (case side2 => exact (Kd.N_reads' HO205.out).2.1); (case side3 => exact (Kd.N_reads' HO205.out).2.2); (case side4 => exact (Kd.N_reads' HO205.out).2.1); rintro e w19 ⟨v207, rfl, ho0, hb⟩; refine ⟨_, rfl, ?_⟩; have HO208 := am (Kd.N_lower (Kd.N_mono (ok' := fun k_ => some k_ ≠ (.slice Ao18 y203.length co18 : Value).ownBlock) ho0 (fun k_ hk_ => (Kd.fresh' (Kd.N_lt HO205.out) k_ hk_))) (below_size HB.out)); replace HO205 := am (Kd.N_elder' HO205.out (Kd.N_base ho0) hb); replace HB := am (below_step HB.out hb); (try clear hb); (try clear ho0); obtain ⟨Ao20, co20, eo20⟩ := Kd.N_slice HO208.out; subst eo20; have p210 : 0 ≤ (0 : Int) := (by omega); have q210 : 0 < (t206.length : Int) := of_decide_eq_true (by (with_reducible assumption)); obtain ⟨ad210, A210_1, c210_1, e210, hx210_0, hx210_1, hl210_1, hi210_1⟩ := at_T39 (Kd.N_reads' HO208.out).2.2 0 p210 q210; cases e210; obtain ⟨ce210, hce210, hMe210, hcc210⟩ := Kd.N_get HO208.out z39 0 p210 (by exact q210); obtain ⟨ua210_1, uc210_1, rfl, ul210_1, ge210_1⟩ := k39_openF hMe210; have hv210_1 := hcc210 1 _ rfl; rw [add_field _ _ 1 (by omega)] at hv210_1; replace hv210_1 := Option.some.inj (hv210_1.symm.trans hx210_1); injection hv210_1 with hva_ hvn_ hvc_; rw [hva_] at ge210_1; rw [hvc_] at ul210_1; have HL210_1 := am (show Kd.V (Kd.int .i64) 3 _ w.heap.size _ _ ((rd_T39 t206 0).f1) from Kd.V_mk ul210_1 ge210_1); clear hva_ hvn_ hvc_ ge210_1 ul210_1; clear hcc210 hce210; have qi210 : (0 < t206.length) = True := eq_true (by omega); (try rw [show ((0 : Int)).toNat = 0 from rfl] at hx210_0); (try rw [show 0 * 2 = 0 from rfl] at hx210_0); (try rw [Addr.add_zero'] at hx210_0); (try rw [show ((0 : Int)).toNat = 0 from rfl] at hx210_1); (try rw [show 0 * 2 = 0 from rfl] at hx210_1); (try rw [Addr.add_zero'] at hx210_1); have HR210_1 := am hi210_1; have HC210_1 := am hl210_1; clear hi210_1 hl210_1; replace p210 := eq_true p210; replace q210 := eq_true q210; have p211 : 0 ≤ (1 : Int) := (by omega); have q211 : 1 < (t206.length : Int) := of_decide_eq_true (by (with_reducible assumption)); obtain ⟨ad211, A211_1, c211_1, e211, hx211_0, hx211_1, hl211_1, hi211_1⟩ := at_T39 (Kd.N_reads' HO208.out).2.2 1 p211 q211; obtain rfl : ad210 = ad211 := (by injection e211); obtain ⟨ce211, hce211, hMe211, hcc211⟩ := Kd.N_get HO208.out z39 1 p211 (by exact q211); obtain ⟨ua211_1, uc211_1, rfl, ul211_1, ge211_1⟩ := k39_openF hMe211; have hv211_1 := hcc211 1 _ rfl; rw [add_field _ _ 1 (by omega)] at hv211_1; replace hv211_1 := Option.some.inj (hv211_1.symm.trans hx211_1); injection hv211_1 with hva_ hvn_ hvc_; rw [hva_] at ge211_1; rw [hvc_] at ul211_1; have HL211_1 := am (show Kd.V (Kd.int .i64) 3 _ w.heap.size _ _ ((rd_T39 t206 1).f1) from Kd.V_mk ul211_1 ge211_1); clear hva_ hvn_ hvc_ ge211_1 ul211_1; clear hcc211 hce211; (try simp only [show (1 : Int).toNat = 1 from rfl, Nat.reduceMul, Nat.reduceEqDiff, Go.Addr.add, ↓reduceIte] at hx211_0); (try simp only [show (1 : Int).toNat = 1 from rfl, Nat.reduceMul, Nat.reduceEqDiff, Go.Addr.add, ↓reduceIte] at hx211_1); have qi211 : (1 < t206.length) = True := eq_true (by omega); have HR211_1 := am hi211_1; have HC211_1 := am hl211_1; clear hi211_1 hl211_1; replace p211 := eq_true p211; replace q211 := eq_true q211; have p212 : 0 ≤ (2 : Int) := (by omega); have q212 : 2 < (t206.length : Int) := of_decide_eq_true (by (with_reducible assumption)); obtain ⟨ad212, A212_1, c212_1, e212, hx212_0, hx212_1, hl212_1, hi212_1⟩ := at_T39 (Kd.N_reads' HO208.out).2.2 2 p212 q212; obtain rfl : ad210 = ad212 := (by injection e212); obtain ⟨ce212, hce212, hMe212, hcc212⟩ := Kd.N_get HO208.out z39 2 p212 (by exact q212); obtain ⟨ua212_1, uc212_1, rfl, ul212_1, ge212_1⟩ := k39_openF hMe212; have hv212_1 := hcc212 1 _ rfl; rw [add_field _ _ 1 (by omega)] at hv212_1; replace hv212_1 := Option.some.inj (hv212_1.symm.trans hx212_1); injection hv212_1 with hva_ hvn_ hvc_; rw [hva_] at ge212_1; rw [hvc_] at ul212_1; have HL212_1 := am (show Kd.V (Kd.int .i64) 3 _ w.heap.size _ _ ((rd_T39 t206 2).f1) from Kd.V_mk ul212_1 ge212_1); clear hva_ hvn_ hvc_ ge212_1 ul212_1; clear hcc212 hce212; (try simp only [show (2 : Int).toNat = 2 from rfl, Nat.reduceMul, Nat.reduceEqDiff, Go.Addr.add, ↓reduceIte] at hx212_0); (try simp only [show (2 : Int).toNat = 2 from rfl, Nat.reduceMul, Nat.reduceEqDiff, Go.Addr.add, ↓reduceIte] at hx212_1); have qi212 : (2 < t206.length) = True := eq_true (by omega); have HR212_1 := am hi212_1; have HC212_1 := am hl212_1; clear hi212_1 hl212_1; replace p212 := eq_true p212; replace q212 := eq_true q212) | ((with_reducible refine gate_dst (N := 44) rfl ?_); (try (refine gate_guard (by rfl) ?_; dsimp only)); refine Kd.R_lit (Kd.int .u64) _ 24 ?hg (N := 44) ?hd (xs := ([5] : List Int)) (inner := [.int .u64 5]) (ok := fun _ => True) (okp := fun _ => True) ?hr ?hp (fun _ hk => hk) trivial (Below.refl _ _) (Nat.le_refl _) (by simp) ?_; (case hd => rfl); (case hg => rfl); (case hr => (go_simp; done)); (case hp => exact (Reps.one (show Kd.M (Kd.int .u64) _ _ _ 5 [.int .u64 5] from rfl) (Reps.none _ _))); intro v214 w21 ho22 hb hg_ hnew_; clear hg_ hnew_; (rw [← Ny213.out] at ho22); replace HO205 := am (Kd.N_elder' HO205.out (Kd.R_base ho22) hb); replace HO208 := am (Kd.N_elder' HO208.out (Kd.R_base ho22) hb); replace HL210_1 := am (Kd.V_elder' HL210_1.out (Kd.R_base ho22) hb); replace HL211_1 := am (Kd.V_elder' HL211_1.out (Kd.R_base ho22) hb); replace HL212_1 := am (Kd.V_elder' HL212_1.out (Kd.R_base ho22) hb); have HO215 := am (Kd.R_lower ho22 (below_size HB.out)); replace HR210_1 := am (Kd.C_below HR210_1.out hb); replace HR211_1 := am (Kd.C_below HR211_1.out hb); replace HR212_1 := am (Kd.C_below HR212_1.out hb); replace HB := am (below_step HB.out hb); clear hb ho22; obtain ⟨Ao23, co23, eo23⟩ := Kd.R_slice HO215.out; subst eo23) | (go_at_call 7; (with_reducible refine (cost_Value.calls k _ _ t206 _ _ y213 t216 _ ?side1 ?side2 ?side3 ?side4 A10.out).mono ?_); (case side1 => exact (Kd.N_reads' HO208.out).2.2); (case side2 => exact (Kd.N_reads' HO208.out).2.1); (case side3 => exact (Kd.R_reads' HO215.out).2.2); (case side4 => exact (Kd.R_reads' HO215.out).2.1); rintro e w24 ⟨rfl, hb⟩; replace HO205 := am (Kd.N_below HO205.out hb); replace HO208 := am (Kd.N_below HO208.out hb); replace HL210_1 := am (Kd.V_below HL210_1.out hb); replace HL211_1 := am (Kd.V_below HL211_1.out hb); replace HL212_1 := am (Kd.V_below HL212_1.out hb); replace HO215 := am (Kd.R_below HO215.out hb); replace HR210_1 := am (Kd.C_below HR210_1.out hb); replace HR211_1 := am (Kd.C_below HR211_1.out hb); replace HR212_1 := am (Kd.C_below HR212_1.out hb); replace HB := am (below_step HB.out hb); (try clear hb)) | (go_at_call 8; (with_reducible refine (cost_Bound.calls 0 0 0 0 0 0 t217 _ A12.out).mono ?_); rintro e w25 ⟨rfl, hb⟩; replace HO205 := am (Kd.N_below HO205.out hb); replace HO208 := am (Kd.N_below HO208.out hb); replace HL210_1 := am (Kd.V_below HL210_1.out hb); replace HL211_1 := am (Kd.V_below HL211_1.out hb); replace HL212_1 := am (Kd.V_below HL212_1.out hb); replace HO215 := am (Kd.R_below HO215.out hb); replace HR210_1 := am (Kd.C_below HR210_1.out hb); replace HR211_1 := am (Kd.C_below HR211_1.out hb); replace HR212_1 := am (Kd.C_below HR212_1.out hb); replace HB := am (below_step HB.out hb); (try clear hb)))
              go_ret
              exact ⟨by rfl, by exact HB.out⟩
            · rw [if_neg c11] at H
              have c11b0 : (t216 == 169) = false := beq_eq_false_iff_ne.mpr c11
              have c11b1 : (t216 != 169) = true := bne_iff_ne.mpr c11
              obtain rfl := Option.some.inj H
              go_enter Try.func6, Try.ntmps6
              go_wp2_with (first | ((with_reducible refine gate_dst (N := 5) rfl ?_); (try (refine gate_guard (by rfl) ?_; dsimp only)); refine Kd.R_lit (Kd.int .i64) _ 3 ?hg (N := 5) ?hd (xs := ([1] : List Int)) (inner := [.int .i64 1]) (ok := fun _ => True) (okp := fun _ => True) ?hr ?hp (fun _ hk => hk) trivial (Below.refl _ _) (Nat.le_refl _) (by simp) ?_; (case hd => rfl); (case hg => rfl); (case hr => (go_simp; done)); (case hp => exact (Reps.one (show Kd.M (Kd.int .i64) _ _ _ 1 [.int .i64 1] from rfl) (Reps.none _ _))); intro v201 w26 ho27 hb hg_ hnew_; clear hg_ hnew_; (rw [← Ny200.out] at ho27); have HO202 := am (Kd.R_lower ho27 (below_size HB.out)); replace HB := am (below_step HB.out hb); clear hb ho27; obtain ⟨Ao28, co28, eo28⟩ := Kd.R_slice HO202.out; subst eo28) | ((with_reducible refine gate_dst (N := 7) rfl ?_); (try (refine gate_guard (by rfl) ?_; dsimp only)); refine Kd.N_lit k39 _ 39 ?hg (N' := 7) ?hd (xs := ([(⟨3, ([] : List Int)⟩ : S39), (⟨2, y200⟩ : S39)] : List (S39))) (inner := [.int .u64 3, .slice none 0 0, .int .u64 2, .slice Ao28 y200.length co28]) (ok := (fun _ => True)) (okp := (fun _ => True)) ?hr ?hp (fun _ hk => hk) ((show ∀ k_, w26.heap.size ≤ k_ → (fun _ => True) k_ from fun k_ hk => trivial) _ (Nat.le_refl _)) (Below.refl _ _) (Nat.le_refl _) (by simp) ?_; (case hd => rfl); (case hg => rfl); (case hr => (go_simp; done)); (case hp => exact (Reps.c2 (show Kd.FK k39 _ _ (⟨3, ([] : List Int)⟩ : S39) [.int .u64 3, .slice none 0 0] from (k39_mkF _ _ (⟨3, ([] : List Int)⟩ : S39) (Nat.le_refl _) (Kd.F_nil _ _ _))) (Reps.c2 (show Kd.FK k39 _ _ (⟨2, y200⟩ : S39) [.int .u64 2, .slice Ao28 y200.length co28] from (k39_mkF _ _ (⟨2, y200⟩ : S39) (Kd.R_reads' (Kd.R_mono (ok' := (fun _ => True)) (HO202.out) (fun k_ hk => trivial))).2.1 (Kd.R_F (Kd.R_mono (ok' := (fun _ => True)) (HO202.out) (fun k_ hk => trivial))))) (Reps.none _ _)))); intro v204 w29 ho30 hb hg_ hnew_; clear hg_ hnew_; (rw [← Ny203.out] at ho30); have HO205 := am (Kd.N_lower ho30 (below_size HB.out)); replace HB := am (below_step HB.out hb); clear HO202; clear hb ho30; obtain ⟨Ao31, co31, eo31⟩ := Kd.N_slice HO205.out; subst eo31) | ((with_reducible refine gate_callee (f := 14) rfl ?_); refine goesL_ (some 11) rfl rfl Try.func14 (by kernel_rfl) rfl #[.slice Ao31 y203.length co31, .slice Ao31 y203.length co31] rfl (by (try simp only [List.map_toArray, List.map_cons, List.map_nil]); rfl) ?_; (with_reducible refine (cost_Times.calls k _ _ y203 _ _ y203 t206 t209 _ ?side1 ?side2 ?side3 ?side4 A1.out).mono ?_); (case side1 => exact (Kd.N_reads' HO205.out).2.2); (case side2 => exact (Kd.N_reads' HO205.out).2.1); (case side3 => exact (Kd.N_reads' HO205.out).2.2); (case side4 => exact (Kd.N_reads' HO205.out).2.1); rintro e w32 ⟨v207, rfl, ho0, hb⟩; refine ⟨_, rfl, ?_⟩; have HO208 := am (Kd.N_lower (Kd.N_mono (ok' := fun k_ => some k_ ≠ (.slice Ao31 y203.length co31 : Value).ownBlock) ho0 (fun k_ hk_ => (Kd.fresh' (Kd.N_lt HO205.out) k_ hk_))) (below_size HB.out)); replace HO205 := am (Kd.N_elder' HO205.out (Kd.N_base ho0) hb); replace HB := am (below_step HB.out hb); (try clear hb); (try clear ho0); obtain ⟨Ao33, co33, eo33⟩ := Kd.N_slice HO208.out; subst eo33; have p210 : 0 ≤ (0 : Int) := (by omega); have q210 : 0 < (t206.length : Int) := of_decide_eq_true (by (with_reducible assumption)); obtain ⟨ad210, A210_1, c210_1, e210, hx210_0, hx210_1, hl210_1, hi210_1⟩ := at_T39 (Kd.N_reads' HO208.out).2.2 0 p210 q210; cases e210; obtain ⟨ce210, hce210, hMe210, hcc210⟩ := Kd.N_get HO208.out z39 0 p210 (by exact q210); obtain ⟨ua210_1, uc210_1, rfl, ul210_1, ge210_1⟩ := k39_openF hMe210; have hv210_1 := hcc210 1 _ rfl; rw [add_field _ _ 1 (by omega)] at hv210_1; replace hv210_1 := Option.some.inj (hv210_1.symm.trans hx210_1); injection hv210_1 with hva_ hvn_ hvc_; rw [hva_] at ge210_1; rw [hvc_] at ul210_1; have HL210_1 := am (show Kd.V (Kd.int .i64) 3 _ w.heap.size _ _ ((rd_T39 t206 0).f1) from Kd.V_mk ul210_1 ge210_1); clear hva_ hvn_ hvc_ ge210_1 ul210_1; clear hcc210 hce210; have qi210 : (0 < t206.length) = True := eq_true (by omega); (try rw [show ((0 : Int)).toNat = 0 from rfl] at hx210_0); (try rw [show 0 * 2 = 0 from rfl] at hx210_0); (try rw [Addr.add_zero'] at hx210_0); (try rw [show ((0 : Int)).toNat = 0 from rfl] at hx210_1); (try rw [show 0 * 2 = 0 from rfl] at hx210_1); (try rw [Addr.add_zero'] at hx210_1); have HR210_1 := am hi210_1; have HC210_1 := am hl210_1; clear hi210_1 hl210_1; replace p210 := eq_true p210; replace q210 := eq_true q210; have p211 : 0 ≤ (1 : Int) := (by omega); have q211 : 1 < (t206.length : Int) := of_decide_eq_true (by (with_reducible assumption)); obtain ⟨ad211, A211_1, c211_1, e211, hx211_0, hx211_1, hl211_1, hi211_1⟩ := at_T39 (Kd.N_reads' HO208.out).2.2 1 p211 q211; obtain rfl : ad210 = ad211 := (by injection e211); obtain ⟨ce211, hce211, hMe211, hcc211⟩ := Kd.N_get HO208.out z39 1 p211 (by exact q211); obtain ⟨ua211_1, uc211_1, rfl, ul211_1, ge211_1⟩ := k39_openF hMe211; have hv211_1 := hcc211 1 _ rfl; rw [add_field _ _ 1 (by omega)] at hv211_1; replace hv211_1 := Option.some.inj (hv211_1.symm.trans hx211_1); injection hv211_1 with hva_ hvn_ hvc_; rw [hva_] at ge211_1; rw [hvc_] at ul211_1; have HL211_1 := am (show Kd.V (Kd.int .i64) 3 _ w.heap.size _ _ ((rd_T39 t206 1).f1) from Kd.V_mk ul211_1 ge211_1); clear hva_ hvn_ hvc_ ge211_1 ul211_1; clear hcc211 hce211; (try simp only [show (1 : Int).toNat = 1 from rfl, Nat.reduceMul, Nat.reduceEqDiff, Go.Addr.add, ↓reduceIte] at hx211_0); (try simp only [show (1 : Int).toNat = 1 from rfl, Nat.reduceMul, Nat.reduceEqDiff, Go.Addr.add, ↓reduceIte] at hx211_1); have qi211 : (1 < t206.length) = True := eq_true (by omega); have HR211_1 := am hi211_1; have HC211_1 := am hl211_1; clear hi211_1 hl211_1; replace p211 := eq_true p211; replace q211 := eq_true q211; have p212 : 0 ≤ (2 : Int) := (by omega); have q212 : 2 < (t206.length : Int) := of_decide_eq_true (by (with_reducible assumption)); obtain ⟨ad212, A212_1, c212_1, e212, hx212_0, hx212_1, hl212_1, hi212_1⟩ := at_T39 (Kd.N_reads' HO208.out).2.2 2 p212 q212; obtain rfl : ad210 = ad212 := (by injection e212); obtain ⟨ce212, hce212, hMe212, hcc212⟩ := Kd.N_get HO208.out z39 2 p212 (by exact q212); obtain ⟨ua212_1, uc212_1, rfl, ul212_1, ge212_1⟩ := k39_openF hMe212; have hv212_1 := hcc212 1 _ rfl; rw [add_field _ _ 1 (by omega)] at hv212_1; replace hv212_1 := Option.some.inj (hv212_1.symm.trans hx212_1); injection hv212_1 with hva_ hvn_ hvc_; rw [hva_] at ge212_1; rw [hvc_] at ul212_1; have HL212_1 := am (show Kd.V (Kd.int .i64) 3 _ w.heap.size _ _ ((rd_T39 t206 2).f1) from Kd.V_mk ul212_1 ge212_1); clear hva_ hvn_ hvc_ ge212_1 ul212_1; clear hcc212 hce212; (try simp only [show (2 : Int).toNat = 2 from rfl, Nat.reduceMul, Nat.reduceEqDiff, Go.Addr.add, ↓reduceIte] at hx212_0); (try simp only [show (2 : Int).toNat = 2 from rfl, Nat.reduceMul, Nat.reduceEqDiff, Go.Addr.add, ↓reduceIte] at hx212_1); have qi212 : (2 < t206.length) = True := eq_true (by omega); have HR212_1 := am hi212_1; have HC212_1 := am hl212_1; clear hi212_1 hl212_1; replace p212 := eq_true p212; replace q212 := eq_true q212) | ((with_reducible refine gate_dst (N := 44) rfl ?_); (try (refine gate_guard (by rfl) ?_; dsimp only)); refine Kd.R_lit (Kd.int .u64) _ 24 ?hg (N := 44) ?hd (xs := ([5] : List Int)) (inner := [.int .u64 5]) (ok := fun _ => True) (okp := fun _ => True) ?hr ?hp (fun _ hk => hk) trivial (Below.refl _ _) (Nat.le_refl _) (by simp) ?_; (case hd => rfl); (case hg => rfl); (case hr => (go_simp; done)); (case hp => exact (Reps.one (show Kd.M (Kd.int .u64) _ _ _ 5 [.int .u64 5] from rfl) (Reps.none _ _))); intro v214 w34 ho35 hb hg_ hnew_; clear hg_ hnew_; (rw [← Ny213.out] at ho35); replace HO205 := am (Kd.N_elder' HO205.out (Kd.R_base ho35) hb); replace HO208 := am (Kd.N_elder' HO208.out (Kd.R_base ho35) hb); replace HL210_1 := am (Kd.V_elder' HL210_1.out (Kd.R_base ho35) hb); replace HL211_1 := am (Kd.V_elder' HL211_1.out (Kd.R_base ho35) hb); replace HL212_1 := am (Kd.V_elder' HL212_1.out (Kd.R_base ho35) hb); have HO215 := am (Kd.R_lower ho35 (below_size HB.out)); replace HR210_1 := am (Kd.C_below HR210_1.out hb); replace HR211_1 := am (Kd.C_below HR211_1.out hb); replace HR212_1 := am (Kd.C_below HR212_1.out hb); replace HB := am (below_step HB.out hb); clear hb ho35; obtain ⟨Ao36, co36, eo36⟩ := Kd.R_slice HO215.out; subst eo36) | (go_at_call 7; (with_reducible refine (cost_Value.calls k _ _ t206 _ _ y213 t216 _ ?side1 ?side2 ?side3 ?side4 A10.out).mono ?_); (case side1 => exact (Kd.N_reads' HO208.out).2.2); (case side2 => exact (Kd.N_reads' HO208.out).2.1); (case side3 => exact (Kd.R_reads' HO215.out).2.2); (case side4 => exact (Kd.R_reads' HO215.out).2.1); rintro e w37 ⟨rfl, hb⟩; replace HO205 := am (Kd.N_below HO205.out hb); replace HO208 := am (Kd.N_below HO208.out hb); replace HL210_1 := am (Kd.V_below HL210_1.out hb); replace HL211_1 := am (Kd.V_below HL211_1.out hb); replace HL212_1 := am (Kd.V_below HL212_1.out hb); replace HO215 := am (Kd.R_below HO215.out hb); replace HR210_1 := am (Kd.C_below HR210_1.out hb); replace HR211_1 := am (Kd.C_below HR211_1.out hb); replace HR212_1 := am (Kd.C_below HR212_1.out hb); replace HB := am (below_step HB.out hb); (try clear hb)))
              go_ret
              exact ⟨by rfl, by exact HB.out⟩
          · rw [if_neg c9] at H
            have c9b0 : (((rd_T39 t206 2).f0) == 9) = false := beq_eq_false_iff_ne.mpr c9
            have c9b1 : (((rd_T39 t206 2).f0) != 9) = true := bne_iff_ne.mpr c9
            obtain rfl := Option.some.inj H
            go_enter Try.func6, Try.ntmps6
            go_wp2_with (first | ((with_reducible refine gate_dst (N := 5) rfl ?_); (try (refine gate_guard (by rfl) ?_; dsimp only)); refine Kd.R_lit (Kd.int .i64) _ 3 ?hg (N := 5) ?hd (xs := ([1] : List Int)) (inner := [.int .i64 1]) (ok := fun _ => True) (okp := fun _ => True) ?hr ?hp (fun _ hk => hk) trivial (Below.refl _ _) (Nat.le_refl _) (by simp) ?_; (case hd => rfl); (case hg => rfl); (case hr => (go_simp; done)); (case hp => exact (Reps.one (show Kd.M (Kd.int .i64) _ _ _ 1 [.int .i64 1] from rfl) (Reps.none _ _))); intro v201 w38 ho39 hb hg_ hnew_; clear hg_ hnew_; (rw [← Ny200.out] at ho39); have HO202 := am (Kd.R_lower ho39 (below_size HB.out)); replace HB := am (below_step HB.out hb); clear hb ho39; obtain ⟨Ao40, co40, eo40⟩ := Kd.R_slice HO202.out; subst eo40) | ((with_reducible refine gate_dst (N := 7) rfl ?_); (try (refine gate_guard (by rfl) ?_; dsimp only)); refine Kd.N_lit k39 _ 39 ?hg (N' := 7) ?hd (xs := ([(⟨3, ([] : List Int)⟩ : S39), (⟨2, y200⟩ : S39)] : List (S39))) (inner := [.int .u64 3, .slice none 0 0, .int .u64 2, .slice Ao40 y200.length co40]) (ok := (fun _ => True)) (okp := (fun _ => True)) ?hr ?hp (fun _ hk => hk) ((show ∀ k_, w38.heap.size ≤ k_ → (fun _ => True) k_ from fun k_ hk => trivial) _ (Nat.le_refl _)) (Below.refl _ _) (Nat.le_refl _) (by simp) ?_; (case hd => rfl); (case hg => rfl); (case hr => (go_simp; done)); (case hp => exact (Reps.c2 (show Kd.FK k39 _ _ (⟨3, ([] : List Int)⟩ : S39) [.int .u64 3, .slice none 0 0] from (k39_mkF _ _ (⟨3, ([] : List Int)⟩ : S39) (Nat.le_refl _) (Kd.F_nil _ _ _))) (Reps.c2 (show Kd.FK k39 _ _ (⟨2, y200⟩ : S39) [.int .u64 2, .slice Ao40 y200.length co40] from (k39_mkF _ _ (⟨2, y200⟩ : S39) (Kd.R_reads' (Kd.R_mono (ok' := (fun _ => True)) (HO202.out) (fun k_ hk => trivial))).2.1 (Kd.R_F (Kd.R_mono (ok' := (fun _ => True)) (HO202.out) (fun k_ hk => trivial))))) (Reps.none _ _)))); intro v204 w41 ho42 hb hg_ hnew_; clear hg_ hnew_; (rw [← Ny203.out] at ho42); have HO205 := am (Kd.N_lower ho42 (below_size HB.out)); replace HB := am (below_step HB.out hb); clear HO202; clear hb ho42; obtain ⟨Ao43, co43, eo43⟩ := Kd.N_slice HO205.out; subst eo43) | ((with_reducible refine gate_callee (f := 14) rfl ?_); refine goesL_ (some 11) rfl rfl Try.func14 (by kernel_rfl) rfl #[.slice Ao43 y203.length co43, .slice Ao43 y203.length co43] rfl (by (try simp only [List.map_toArray, List.map_cons, List.map_nil]); rfl) ?_; (with_reducible refine (cost_Times.calls k _ _ y203 _ _ y203 t206 t209 _ ?side1 ?side2 ?side3 ?side4 A1.out).mono ?_); (case side1 => exact (Kd.N_reads' HO205.out).2.2); (case side2 => exact (Kd.N_reads' HO205.out).2.1); (case side3 => exact (Kd.N_reads' HO205.out).2.2); (case side4 => exact (Kd.N_reads' HO205.out).2.1); rintro e w44 ⟨v207, rfl, ho0, hb⟩; refine ⟨_, rfl, ?_⟩; have HO208 := am (Kd.N_lower (Kd.N_mono (ok' := fun k_ => some k_ ≠ (.slice Ao43 y203.length co43 : Value).ownBlock) ho0 (fun k_ hk_ => (Kd.fresh' (Kd.N_lt HO205.out) k_ hk_))) (below_size HB.out)); replace HO205 := am (Kd.N_elder' HO205.out (Kd.N_base ho0) hb); replace HB := am (below_step HB.out hb); (try clear hb); (try clear ho0); obtain ⟨Ao45, co45, eo45⟩ := Kd.N_slice HO208.out; subst eo45; have p210 : 0 ≤ (0 : Int) := (by omega); have q210 : 0 < (t206.length : Int) := of_decide_eq_true (by (with_reducible assumption)); obtain ⟨ad210, A210_1, c210_1, e210, hx210_0, hx210_1, hl210_1, hi210_1⟩ := at_T39 (Kd.N_reads' HO208.out).2.2 0 p210 q210; cases e210; obtain ⟨ce210, hce210, hMe210, hcc210⟩ := Kd.N_get HO208.out z39 0 p210 (by exact q210); obtain ⟨ua210_1, uc210_1, rfl, ul210_1, ge210_1⟩ := k39_openF hMe210; have hv210_1 := hcc210 1 _ rfl; rw [add_field _ _ 1 (by omega)] at hv210_1; replace hv210_1 := Option.some.inj (hv210_1.symm.trans hx210_1); injection hv210_1 with hva_ hvn_ hvc_; rw [hva_] at ge210_1; rw [hvc_] at ul210_1; have HL210_1 := am (show Kd.V (Kd.int .i64) 3 _ w.heap.size _ _ ((rd_T39 t206 0).f1) from Kd.V_mk ul210_1 ge210_1); clear hva_ hvn_ hvc_ ge210_1 ul210_1; clear hcc210 hce210; have qi210 : (0 < t206.length) = True := eq_true (by omega); (try rw [show ((0 : Int)).toNat = 0 from rfl] at hx210_0); (try rw [show 0 * 2 = 0 from rfl] at hx210_0); (try rw [Addr.add_zero'] at hx210_0); (try rw [show ((0 : Int)).toNat = 0 from rfl] at hx210_1); (try rw [show 0 * 2 = 0 from rfl] at hx210_1); (try rw [Addr.add_zero'] at hx210_1); have HR210_1 := am hi210_1; have HC210_1 := am hl210_1; clear hi210_1 hl210_1; replace p210 := eq_true p210; replace q210 := eq_true q210; have p211 : 0 ≤ (1 : Int) := (by omega); have q211 : 1 < (t206.length : Int) := of_decide_eq_true (by (with_reducible assumption)); obtain ⟨ad211, A211_1, c211_1, e211, hx211_0, hx211_1, hl211_1, hi211_1⟩ := at_T39 (Kd.N_reads' HO208.out).2.2 1 p211 q211; obtain rfl : ad210 = ad211 := (by injection e211); obtain ⟨ce211, hce211, hMe211, hcc211⟩ := Kd.N_get HO208.out z39 1 p211 (by exact q211); obtain ⟨ua211_1, uc211_1, rfl, ul211_1, ge211_1⟩ := k39_openF hMe211; have hv211_1 := hcc211 1 _ rfl; rw [add_field _ _ 1 (by omega)] at hv211_1; replace hv211_1 := Option.some.inj (hv211_1.symm.trans hx211_1); injection hv211_1 with hva_ hvn_ hvc_; rw [hva_] at ge211_1; rw [hvc_] at ul211_1; have HL211_1 := am (show Kd.V (Kd.int .i64) 3 _ w.heap.size _ _ ((rd_T39 t206 1).f1) from Kd.V_mk ul211_1 ge211_1); clear hva_ hvn_ hvc_ ge211_1 ul211_1; clear hcc211 hce211; (try simp only [show (1 : Int).toNat = 1 from rfl, Nat.reduceMul, Nat.reduceEqDiff, Go.Addr.add, ↓reduceIte] at hx211_0); (try simp only [show (1 : Int).toNat = 1 from rfl, Nat.reduceMul, Nat.reduceEqDiff, Go.Addr.add, ↓reduceIte] at hx211_1); have qi211 : (1 < t206.length) = True := eq_true (by omega); have HR211_1 := am hi211_1; have HC211_1 := am hl211_1; clear hi211_1 hl211_1; replace p211 := eq_true p211; replace q211 := eq_true q211; have p212 : 0 ≤ (2 : Int) := (by omega); have q212 : 2 < (t206.length : Int) := of_decide_eq_true (by (with_reducible assumption)); obtain ⟨ad212, A212_1, c212_1, e212, hx212_0, hx212_1, hl212_1, hi212_1⟩ := at_T39 (Kd.N_reads' HO208.out).2.2 2 p212 q212; obtain rfl : ad210 = ad212 := (by injection e212); obtain ⟨ce212, hce212, hMe212, hcc212⟩ := Kd.N_get HO208.out z39 2 p212 (by exact q212); obtain ⟨ua212_1, uc212_1, rfl, ul212_1, ge212_1⟩ := k39_openF hMe212; have hv212_1 := hcc212 1 _ rfl; rw [add_field _ _ 1 (by omega)] at hv212_1; replace hv212_1 := Option.some.inj (hv212_1.symm.trans hx212_1); injection hv212_1 with hva_ hvn_ hvc_; rw [hva_] at ge212_1; rw [hvc_] at ul212_1; have HL212_1 := am (show Kd.V (Kd.int .i64) 3 _ w.heap.size _ _ ((rd_T39 t206 2).f1) from Kd.V_mk ul212_1 ge212_1); clear hva_ hvn_ hvc_ ge212_1 ul212_1; clear hcc212 hce212; (try simp only [show (2 : Int).toNat = 2 from rfl, Nat.reduceMul, Nat.reduceEqDiff, Go.Addr.add, ↓reduceIte] at hx212_0); (try simp only [show (2 : Int).toNat = 2 from rfl, Nat.reduceMul, Nat.reduceEqDiff, Go.Addr.add, ↓reduceIte] at hx212_1); have qi212 : (2 < t206.length) = True := eq_true (by omega); have HR212_1 := am hi212_1; have HC212_1 := am hl212_1; clear hi212_1 hl212_1; replace p212 := eq_true p212; replace q212 := eq_true q212))
            go_ret
            exact ⟨by rfl, by exact HB.out⟩
        · rw [if_neg c7] at H
          have c7b0 : (((rd_T39 t206 1).f0) == 12) = false := beq_eq_false_iff_ne.mpr c7
          have c7b1 : (((rd_T39 t206 1).f0) != 12) = true := bne_iff_ne.mpr c7
          obtain rfl := Option.some.inj H
          go_enter Try.func6, Try.ntmps6
          go_wp2_with (first | ((with_reducible refine gate_dst (N := 5) rfl ?_); (try (refine gate_guard (by rfl) ?_; dsimp only)); refine Kd.R_lit (Kd.int .i64) _ 3 ?hg (N := 5) ?hd (xs := ([1] : List Int)) (inner := [.int .i64 1]) (ok := fun _ => True) (okp := fun _ => True) ?hr ?hp (fun _ hk => hk) trivial (Below.refl _ _) (Nat.le_refl _) (by simp) ?_; (case hd => rfl); (case hg => rfl); (case hr => (go_simp; done)); (case hp => exact (Reps.one (show Kd.M (Kd.int .i64) _ _ _ 1 [.int .i64 1] from rfl) (Reps.none _ _))); intro v201 w46 ho47 hb hg_ hnew_; clear hg_ hnew_; (rw [← Ny200.out] at ho47); have HO202 := am (Kd.R_lower ho47 (below_size HB.out)); replace HB := am (below_step HB.out hb); clear hb ho47; obtain ⟨Ao48, co48, eo48⟩ := Kd.R_slice HO202.out; subst eo48) | ((with_reducible refine gate_dst (N := 7) rfl ?_); (try (refine gate_guard (by rfl) ?_; dsimp only)); refine Kd.N_lit k39 _ 39 ?hg (N' := 7) ?hd (xs := ([(⟨3, ([] : List Int)⟩ : S39), (⟨2, y200⟩ : S39)] : List (S39))) (inner := [.int .u64 3, .slice none 0 0, .int .u64 2, .slice Ao48 y200.length co48]) (ok := (fun _ => True)) (okp := (fun _ => True)) ?hr ?hp (fun _ hk => hk) ((show ∀ k_, w46.heap.size ≤ k_ → (fun _ => True) k_ from fun k_ hk => trivial) _ (Nat.le_refl _)) (Below.refl _ _) (Nat.le_refl _) (by simp) ?_; (case hd => rfl); (case hg => rfl); (case hr => (go_simp; done)); (case hp => exact (Reps.c2 (show Kd.FK k39 _ _ (⟨3, ([] : List Int)⟩ : S39) [.int .u64 3, .slice none 0 0] from (k39_mkF _ _ (⟨3, ([] : List Int)⟩ : S39) (Nat.le_refl _) (Kd.F_nil _ _ _))) (Reps.c2 (show Kd.FK k39 _ _ (⟨2, y200⟩ : S39) [.int .u64 2, .slice Ao48 y200.length co48] from (k39_mkF _ _ (⟨2, y200⟩ : S39) (Kd.R_reads' (Kd.R_mono (ok' := (fun _ => True)) (HO202.out) (fun k_ hk => trivial))).2.1 (Kd.R_F (Kd.R_mono (ok' := (fun _ => True)) (HO202.out) (fun k_ hk => trivial))))) (Reps.none _ _)))); intro v204 w49 ho50 hb hg_ hnew_; clear hg_ hnew_; (rw [← Ny203.out] at ho50); have HO205 := am (Kd.N_lower ho50 (below_size HB.out)); replace HB := am (below_step HB.out hb); clear HO202; clear hb ho50; obtain ⟨Ao51, co51, eo51⟩ := Kd.N_slice HO205.out; subst eo51) | ((with_reducible refine gate_callee (f := 14) rfl ?_); refine goesL_ (some 11) rfl rfl Try.func14 (by kernel_rfl) rfl #[.slice Ao51 y203.length co51, .slice Ao51 y203.length co51] rfl (by (try simp only [List.map_toArray, List.map_cons, List.map_nil]); rfl) ?_; (with_reducible refine (cost_Times.calls k _ _ y203 _ _ y203 t206 t209 _ ?side1 ?side2 ?side3 ?side4 A1.out).mono ?_); (case side1 => exact (Kd.N_reads' HO205.out).2.2); (case side2 => exact (Kd.N_reads' HO205.out).2.1); (case side3 => exact (Kd.N_reads' HO205.out).2.2); (case side4 => exact (Kd.N_reads' HO205.out).2.1); rintro e w52 ⟨v207, rfl, ho0, hb⟩; refine ⟨_, rfl, ?_⟩; have HO208 := am (Kd.N_lower (Kd.N_mono (ok' := fun k_ => some k_ ≠ (.slice Ao51 y203.length co51 : Value).ownBlock) ho0 (fun k_ hk_ => (Kd.fresh' (Kd.N_lt HO205.out) k_ hk_))) (below_size HB.out)); replace HO205 := am (Kd.N_elder' HO205.out (Kd.N_base ho0) hb); replace HB := am (below_step HB.out hb); (try clear hb); (try clear ho0); obtain ⟨Ao53, co53, eo53⟩ := Kd.N_slice HO208.out; subst eo53; have p210 : 0 ≤ (0 : Int) := (by omega); have q210 : 0 < (t206.length : Int) := of_decide_eq_true (by (with_reducible assumption)); obtain ⟨ad210, A210_1, c210_1, e210, hx210_0, hx210_1, hl210_1, hi210_1⟩ := at_T39 (Kd.N_reads' HO208.out).2.2 0 p210 q210; cases e210; obtain ⟨ce210, hce210, hMe210, hcc210⟩ := Kd.N_get HO208.out z39 0 p210 (by exact q210); obtain ⟨ua210_1, uc210_1, rfl, ul210_1, ge210_1⟩ := k39_openF hMe210; have hv210_1 := hcc210 1 _ rfl; rw [add_field _ _ 1 (by omega)] at hv210_1; replace hv210_1 := Option.some.inj (hv210_1.symm.trans hx210_1); injection hv210_1 with hva_ hvn_ hvc_; rw [hva_] at ge210_1; rw [hvc_] at ul210_1; have HL210_1 := am (show Kd.V (Kd.int .i64) 3 _ w.heap.size _ _ ((rd_T39 t206 0).f1) from Kd.V_mk ul210_1 ge210_1); clear hva_ hvn_ hvc_ ge210_1 ul210_1; clear hcc210 hce210; have qi210 : (0 < t206.length) = True := eq_true (by omega); (try rw [show ((0 : Int)).toNat = 0 from rfl] at hx210_0); (try rw [show 0 * 2 = 0 from rfl] at hx210_0); (try rw [Addr.add_zero'] at hx210_0); (try rw [show ((0 : Int)).toNat = 0 from rfl] at hx210_1); (try rw [show 0 * 2 = 0 from rfl] at hx210_1); (try rw [Addr.add_zero'] at hx210_1); have HR210_1 := am hi210_1; have HC210_1 := am hl210_1; clear hi210_1 hl210_1; replace p210 := eq_true p210; replace q210 := eq_true q210; have p211 : 0 ≤ (1 : Int) := (by omega); have q211 : 1 < (t206.length : Int) := of_decide_eq_true (by (with_reducible assumption)); obtain ⟨ad211, A211_1, c211_1, e211, hx211_0, hx211_1, hl211_1, hi211_1⟩ := at_T39 (Kd.N_reads' HO208.out).2.2 1 p211 q211; obtain rfl : ad210 = ad211 := (by injection e211); obtain ⟨ce211, hce211, hMe211, hcc211⟩ := Kd.N_get HO208.out z39 1 p211 (by exact q211); obtain ⟨ua211_1, uc211_1, rfl, ul211_1, ge211_1⟩ := k39_openF hMe211; have hv211_1 := hcc211 1 _ rfl; rw [add_field _ _ 1 (by omega)] at hv211_1; replace hv211_1 := Option.some.inj (hv211_1.symm.trans hx211_1); injection hv211_1 with hva_ hvn_ hvc_; rw [hva_] at ge211_1; rw [hvc_] at ul211_1; have HL211_1 := am (show Kd.V (Kd.int .i64) 3 _ w.heap.size _ _ ((rd_T39 t206 1).f1) from Kd.V_mk ul211_1 ge211_1); clear hva_ hvn_ hvc_ ge211_1 ul211_1; clear hcc211 hce211; (try simp only [show (1 : Int).toNat = 1 from rfl, Nat.reduceMul, Nat.reduceEqDiff, Go.Addr.add, ↓reduceIte] at hx211_0); (try simp only [show (1 : Int).toNat = 1 from rfl, Nat.reduceMul, Nat.reduceEqDiff, Go.Addr.add, ↓reduceIte] at hx211_1); have qi211 : (1 < t206.length) = True := eq_true (by omega); have HR211_1 := am hi211_1; have HC211_1 := am hl211_1; clear hi211_1 hl211_1; replace p211 := eq_true p211; replace q211 := eq_true q211))
          go_ret
          exact ⟨by rfl, by exact HB.out⟩
      · rw [if_neg c5] at H
        have c5b0 : (((rd_T39 t206 0).f0) == 4) = false := beq_eq_false_iff_ne.mpr c5
        have c5b1 : (((rd_T39 t206 0).f0) != 4) = true := bne_iff_ne.mpr c5
        obtain rfl := Option.some.inj H
        go_enter Try.func6, Try.ntmps6
        go_wp2_with (first | ((with_reducible refine gate_dst (N := 5) rfl ?_); (try (refine gate_guard (by rfl) ?_; dsimp only)); refine Kd.R_lit (Kd.int .i64) _ 3 ?hg (N := 5) ?hd (xs := ([1] : List Int)) (inner := [.int .i64 1]) (ok := fun _ => True) (okp := fun _ => True) ?hr ?hp (fun _ hk => hk) trivial (Below.refl _ _) (Nat.le_refl _) (by simp) ?_; (case hd => rfl); (case hg => rfl); (case hr => (go_simp; done)); (case hp => exact (Reps.one (show Kd.M (Kd.int .i64) _ _ _ 1 [.int .i64 1] from rfl) (Reps.none _ _))); intro v201 w54 ho55 hb hg_ hnew_; clear hg_ hnew_; (rw [← Ny200.out] at ho55); have HO202 := am (Kd.R_lower ho55 (below_size HB.out)); replace HB := am (below_step HB.out hb); clear hb ho55; obtain ⟨Ao56, co56, eo56⟩ := Kd.R_slice HO202.out; subst eo56) | ((with_reducible refine gate_dst (N := 7) rfl ?_); (try (refine gate_guard (by rfl) ?_; dsimp only)); refine Kd.N_lit k39 _ 39 ?hg (N' := 7) ?hd (xs := ([(⟨3, ([] : List Int)⟩ : S39), (⟨2, y200⟩ : S39)] : List (S39))) (inner := [.int .u64 3, .slice none 0 0, .int .u64 2, .slice Ao56 y200.length co56]) (ok := (fun _ => True)) (okp := (fun _ => True)) ?hr ?hp (fun _ hk => hk) ((show ∀ k_, w54.heap.size ≤ k_ → (fun _ => True) k_ from fun k_ hk => trivial) _ (Nat.le_refl _)) (Below.refl _ _) (Nat.le_refl _) (by simp) ?_; (case hd => rfl); (case hg => rfl); (case hr => (go_simp; done)); (case hp => exact (Reps.c2 (show Kd.FK k39 _ _ (⟨3, ([] : List Int)⟩ : S39) [.int .u64 3, .slice none 0 0] from (k39_mkF _ _ (⟨3, ([] : List Int)⟩ : S39) (Nat.le_refl _) (Kd.F_nil _ _ _))) (Reps.c2 (show Kd.FK k39 _ _ (⟨2, y200⟩ : S39) [.int .u64 2, .slice Ao56 y200.length co56] from (k39_mkF _ _ (⟨2, y200⟩ : S39) (Kd.R_reads' (Kd.R_mono (ok' := (fun _ => True)) (HO202.out) (fun k_ hk => trivial))).2.1 (Kd.R_F (Kd.R_mono (ok' := (fun _ => True)) (HO202.out) (fun k_ hk => trivial))))) (Reps.none _ _)))); intro v204 w57 ho58 hb hg_ hnew_; clear hg_ hnew_; (rw [← Ny203.out] at ho58); have HO205 := am (Kd.N_lower ho58 (below_size HB.out)); replace HB := am (below_step HB.out hb); clear HO202; clear hb ho58; obtain ⟨Ao59, co59, eo59⟩ := Kd.N_slice HO205.out; subst eo59) | ((with_reducible refine gate_callee (f := 14) rfl ?_); refine goesL_ (some 11) rfl rfl Try.func14 (by kernel_rfl) rfl #[.slice Ao59 y203.length co59, .slice Ao59 y203.length co59] rfl (by (try simp only [List.map_toArray, List.map_cons, List.map_nil]); rfl) ?_; (with_reducible refine (cost_Times.calls k _ _ y203 _ _ y203 t206 t209 _ ?side1 ?side2 ?side3 ?side4 A1.out).mono ?_); (case side1 => exact (Kd.N_reads' HO205.out).2.2); (case side2 => exact (Kd.N_reads' HO205.out).2.1); (case side3 => exact (Kd.N_reads' HO205.out).2.2); (case side4 => exact (Kd.N_reads' HO205.out).2.1); rintro e w60 ⟨v207, rfl, ho0, hb⟩; refine ⟨_, rfl, ?_⟩; have HO208 := am (Kd.N_lower (Kd.N_mono (ok' := fun k_ => some k_ ≠ (.slice Ao59 y203.length co59 : Value).ownBlock) ho0 (fun k_ hk_ => (Kd.fresh' (Kd.N_lt HO205.out) k_ hk_))) (below_size HB.out)); replace HO205 := am (Kd.N_elder' HO205.out (Kd.N_base ho0) hb); replace HB := am (below_step HB.out hb); (try clear hb); (try clear ho0); obtain ⟨Ao61, co61, eo61⟩ := Kd.N_slice HO208.out; subst eo61; have p210 : 0 ≤ (0 : Int) := (by omega); have q210 : 0 < (t206.length : Int) := of_decide_eq_true (by (with_reducible assumption)); obtain ⟨ad210, A210_1, c210_1, e210, hx210_0, hx210_1, hl210_1, hi210_1⟩ := at_T39 (Kd.N_reads' HO208.out).2.2 0 p210 q210; cases e210; obtain ⟨ce210, hce210, hMe210, hcc210⟩ := Kd.N_get HO208.out z39 0 p210 (by exact q210); obtain ⟨ua210_1, uc210_1, rfl, ul210_1, ge210_1⟩ := k39_openF hMe210; have hv210_1 := hcc210 1 _ rfl; rw [add_field _ _ 1 (by omega)] at hv210_1; replace hv210_1 := Option.some.inj (hv210_1.symm.trans hx210_1); injection hv210_1 with hva_ hvn_ hvc_; rw [hva_] at ge210_1; rw [hvc_] at ul210_1; have HL210_1 := am (show Kd.V (Kd.int .i64) 3 _ w.heap.size _ _ ((rd_T39 t206 0).f1) from Kd.V_mk ul210_1 ge210_1); clear hva_ hvn_ hvc_ ge210_1 ul210_1; clear hcc210 hce210; have qi210 : (0 < t206.length) = True := eq_true (by omega); (try rw [show ((0 : Int)).toNat = 0 from rfl] at hx210_0); (try rw [show 0 * 2 = 0 from rfl] at hx210_0); (try rw [Addr.add_zero'] at hx210_0); (try rw [show ((0 : Int)).toNat = 0 from rfl] at hx210_1); (try rw [show 0 * 2 = 0 from rfl] at hx210_1); (try rw [Addr.add_zero'] at hx210_1); have HR210_1 := am hi210_1; have HC210_1 := am hl210_1; clear hi210_1 hl210_1; replace p210 := eq_true p210; replace q210 := eq_true q210))
        go_ret
        exact ⟨by rfl, by exact HB.out⟩
    · rw [if_neg c3] at H
      have c3b0 : ((t206.length : Int) == 3) = false := beq_eq_false_iff_ne.mpr c3
      have c3b1 : ((t206.length : Int) != 3) = true := bne_iff_ne.mpr c3
      obtain rfl := Option.some.inj H
      go_enter Try.func6, Try.ntmps6
      go_wp2_with (first | ((with_reducible refine gate_dst (N := 5) rfl ?_); (try (refine gate_guard (by rfl) ?_; dsimp only)); refine Kd.R_lit (Kd.int .i64) _ 3 ?hg (N := 5) ?hd (xs := ([1] : List Int)) (inner := [.int .i64 1]) (ok := fun _ => True) (okp := fun _ => True) ?hr ?hp (fun _ hk => hk) trivial (Below.refl _ _) (Nat.le_refl _) (by simp) ?_; (case hd => rfl); (case hg => rfl); (case hr => (go_simp; done)); (case hp => exact (Reps.one (show Kd.M (Kd.int .i64) _ _ _ 1 [.int .i64 1] from rfl) (Reps.none _ _))); intro v201 w62 ho63 hb hg_ hnew_; clear hg_ hnew_; (rw [← Ny200.out] at ho63); have HO202 := am (Kd.R_lower ho63 (below_size HB.out)); replace HB := am (below_step HB.out hb); clear hb ho63; obtain ⟨Ao64, co64, eo64⟩ := Kd.R_slice HO202.out; subst eo64) | ((with_reducible refine gate_dst (N := 7) rfl ?_); (try (refine gate_guard (by rfl) ?_; dsimp only)); refine Kd.N_lit k39 _ 39 ?hg (N' := 7) ?hd (xs := ([(⟨3, ([] : List Int)⟩ : S39), (⟨2, y200⟩ : S39)] : List (S39))) (inner := [.int .u64 3, .slice none 0 0, .int .u64 2, .slice Ao64 y200.length co64]) (ok := (fun _ => True)) (okp := (fun _ => True)) ?hr ?hp (fun _ hk => hk) ((show ∀ k_, w62.heap.size ≤ k_ → (fun _ => True) k_ from fun k_ hk => trivial) _ (Nat.le_refl _)) (Below.refl _ _) (Nat.le_refl _) (by simp) ?_; (case hd => rfl); (case hg => rfl); (case hr => (go_simp; done)); (case hp => exact (Reps.c2 (show Kd.FK k39 _ _ (⟨3, ([] : List Int)⟩ : S39) [.int .u64 3, .slice none 0 0] from (k39_mkF _ _ (⟨3, ([] : List Int)⟩ : S39) (Nat.le_refl _) (Kd.F_nil _ _ _))) (Reps.c2 (show Kd.FK k39 _ _ (⟨2, y200⟩ : S39) [.int .u64 2, .slice Ao64 y200.length co64] from (k39_mkF _ _ (⟨2, y200⟩ : S39) (Kd.R_reads' (Kd.R_mono (ok' := (fun _ => True)) (HO202.out) (fun k_ hk => trivial))).2.1 (Kd.R_F (Kd.R_mono (ok' := (fun _ => True)) (HO202.out) (fun k_ hk => trivial))))) (Reps.none _ _)))); intro v204 w65 ho66 hb hg_ hnew_; clear hg_ hnew_; (rw [← Ny203.out] at ho66); have HO205 := am (Kd.N_lower ho66 (below_size HB.out)); replace HB := am (below_step HB.out hb); clear HO202; clear hb ho66; obtain ⟨Ao67, co67, eo67⟩ := Kd.N_slice HO205.out; subst eo67) | ((with_reducible refine gate_callee (f := 14) rfl ?_); refine goesL_ (some 11) rfl rfl Try.func14 (by kernel_rfl) rfl #[.slice Ao67 y203.length co67, .slice Ao67 y203.length co67] rfl (by (try simp only [List.map_toArray, List.map_cons, List.map_nil]); rfl) ?_; (with_reducible refine (cost_Times.calls k _ _ y203 _ _ y203 t206 t209 _ ?side1 ?side2 ?side3 ?side4 A1.out).mono ?_); (case side1 => exact (Kd.N_reads' HO205.out).2.2); (case side2 => exact (Kd.N_reads' HO205.out).2.1); (case side3 => exact (Kd.N_reads' HO205.out).2.2); (case side4 => exact (Kd.N_reads' HO205.out).2.1); rintro e w68 ⟨v207, rfl, ho0, hb⟩; refine ⟨_, rfl, ?_⟩; have HO208 := am (Kd.N_lower (Kd.N_mono (ok' := fun k_ => some k_ ≠ (.slice Ao67 y203.length co67 : Value).ownBlock) ho0 (fun k_ hk_ => (Kd.fresh' (Kd.N_lt HO205.out) k_ hk_))) (below_size HB.out)); replace HO205 := am (Kd.N_elder' HO205.out (Kd.N_base ho0) hb); replace HB := am (below_step HB.out hb); (try clear hb); (try clear ho0); obtain ⟨Ao69, co69, eo69⟩ := Kd.N_slice HO208.out; subst eo69))
      go_ret
      exact ⟨by rfl, by exact HB.out⟩
  · rw [if_neg c2] at H
    have c2b0 : (t209 == 0) = false := beq_eq_false_iff_ne.mpr c2
    have c2b1 : (t209 != 0) = true := bne_iff_ne.mpr c2
    obtain rfl := Option.some.inj H
    go_enter Try.func6, Try.ntmps6
    go_wp2_with (first | ((with_reducible refine gate_dst (N := 5) rfl ?_); (try (refine gate_guard (by rfl) ?_; dsimp only)); refine Kd.R_lit (Kd.int .i64) _ 3 ?hg (N := 5) ?hd (xs := ([1] : List Int)) (inner := [.int .i64 1]) (ok := fun _ => True) (okp := fun _ => True) ?hr ?hp (fun _ hk => hk) trivial (Below.refl _ _) (Nat.le_refl _) (by simp) ?_; (case hd => rfl); (case hg => rfl); (case hr => (go_simp; done)); (case hp => exact (Reps.one (show Kd.M (Kd.int .i64) _ _ _ 1 [.int .i64 1] from rfl) (Reps.none _ _))); intro v201 w70 ho71 hb hg_ hnew_; clear hg_ hnew_; (rw [← Ny200.out] at ho71); have HO202 := am (Kd.R_lower ho71 (below_size HB.out)); replace HB := am (below_step HB.out hb); clear hb ho71; obtain ⟨Ao72, co72, eo72⟩ := Kd.R_slice HO202.out; subst eo72) | ((with_reducible refine gate_dst (N := 7) rfl ?_); (try (refine gate_guard (by rfl) ?_; dsimp only)); refine Kd.N_lit k39 _ 39 ?hg (N' := 7) ?hd (xs := ([(⟨3, ([] : List Int)⟩ : S39), (⟨2, y200⟩ : S39)] : List (S39))) (inner := [.int .u64 3, .slice none 0 0, .int .u64 2, .slice Ao72 y200.length co72]) (ok := (fun _ => True)) (okp := (fun _ => True)) ?hr ?hp (fun _ hk => hk) ((show ∀ k_, w70.heap.size ≤ k_ → (fun _ => True) k_ from fun k_ hk => trivial) _ (Nat.le_refl _)) (Below.refl _ _) (Nat.le_refl _) (by simp) ?_; (case hd => rfl); (case hg => rfl); (case hr => (go_simp; done)); (case hp => exact (Reps.c2 (show Kd.FK k39 _ _ (⟨3, ([] : List Int)⟩ : S39) [.int .u64 3, .slice none 0 0] from (k39_mkF _ _ (⟨3, ([] : List Int)⟩ : S39) (Nat.le_refl _) (Kd.F_nil _ _ _))) (Reps.c2 (show Kd.FK k39 _ _ (⟨2, y200⟩ : S39) [.int .u64 2, .slice Ao72 y200.length co72] from (k39_mkF _ _ (⟨2, y200⟩ : S39) (Kd.R_reads' (Kd.R_mono (ok' := (fun _ => True)) (HO202.out) (fun k_ hk => trivial))).2.1 (Kd.R_F (Kd.R_mono (ok' := (fun _ => True)) (HO202.out) (fun k_ hk => trivial))))) (Reps.none _ _)))); intro v204 w73 ho74 hb hg_ hnew_; clear hg_ hnew_; (rw [← Ny203.out] at ho74); have HO205 := am (Kd.N_lower ho74 (below_size HB.out)); replace HB := am (below_step HB.out hb); clear HO202; clear hb ho74; obtain ⟨Ao75, co75, eo75⟩ := Kd.N_slice HO205.out; subst eo75) | ((with_reducible refine gate_callee (f := 14) rfl ?_); refine goesL_ (some 11) rfl rfl Try.func14 (by kernel_rfl) rfl #[.slice Ao75 y203.length co75, .slice Ao75 y203.length co75] rfl (by (try simp only [List.map_toArray, List.map_cons, List.map_nil]); rfl) ?_; (with_reducible refine (cost_Times.calls k _ _ y203 _ _ y203 t206 t209 _ ?side1 ?side2 ?side3 ?side4 A1.out).mono ?_); (case side1 => exact (Kd.N_reads' HO205.out).2.2); (case side2 => exact (Kd.N_reads' HO205.out).2.1); (case side3 => exact (Kd.N_reads' HO205.out).2.2); (case side4 => exact (Kd.N_reads' HO205.out).2.1); rintro e w76 ⟨v207, rfl, ho0, hb⟩; refine ⟨_, rfl, ?_⟩; have HO208 := am (Kd.N_lower (Kd.N_mono (ok' := fun k_ => some k_ ≠ (.slice Ao75 y203.length co75 : Value).ownBlock) ho0 (fun k_ hk_ => (Kd.fresh' (Kd.N_lt HO205.out) k_ hk_))) (below_size HB.out)); replace HO205 := am (Kd.N_elder' HO205.out (Kd.N_base ho0) hb); replace HB := am (below_step HB.out hb); (try clear hb); (try clear ho0)))
    go_ret
    exact ⟨by rfl, by exact HB.out⟩
end Go.Proofs.Ytkkocmmilmbgpaa.S
end

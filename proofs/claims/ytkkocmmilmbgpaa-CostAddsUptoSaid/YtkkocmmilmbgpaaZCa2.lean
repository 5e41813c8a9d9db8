/- Part 2 of a claim of this seat: texts merged by a program of the claim's session (wip/bundle.py). -/
import Derived.Test.YtkkocmmilmbgpaaZCa0
import Derived.Test.YtkkocmmilmbgpaaZCa1
import Derived.WalkKit
import Derived.Laws.Cover1
import Derived.Laws.Externs
import Derived.Test.YtkkocmmilmbgpaaProg
import Derived.Below
import Derived.Deep.Draws
import Derived.Deep.AppendLies
import Derived.Maps.AppendAt
import Derived.OwnWalk
import Derived.Laws.BytesArg
import Derived.Laws.MakeOwn
import Derived.Laws.OwnMore
import Derived.Deep.OwnRows
import Derived.Tactics
import Derived.Lib.ConvBytes
import Derived.Laws.Slices
import Derived.KernelRfl
import Derived.RowKit3
import Derived.Deep.LoopGhost
import Derived.Deep.QuietTactic
import Derived.BigQuiet
import Derived.WideLaws
import Derived.Deep.DeepCutAuto
import Derived.Deep.CutBlock
import Derived.Deep.RegionHeld3
import Derived.Laws.Rows
import Derived.Lib.AppendStr
import Derived.ArgAppend
import Derived.Laws.IdiomCopy
import Derived.OrdersHeld
import Derived.Laws.BitsLemmas
import Derived.RowKit
import Derived.Sort.Grow
import Derived.Sort.Defs
import Derived.Shelf.SlSortCmp.InsertionK
import Derived.Ground.SlsfProg
import Derived.BigRegion
import Derived.Laws.StructEq
section
namespace Go.Proofs.Ytkkocmmilmbgpaa.S
open Go.Proofs.YtkkocmmilmbgpaaW.PrintWords Go.Proofs.YtkkocmmilmbgpaaW.PrintLast
theorem its {P : Prop} [Decidable P] {α : Type} {a : Option α} {r : α} (h : (if P then a else none) = some r) : P ∧ a = some r := by
  by_cases c : P
  · rw [if_pos c] at h; exact ⟨c, h⟩
  · rw [if_neg c] at h; exact absurd h (by simp)
theorem am {p : Prop} (h : p) : Aside0 p := ⟨h⟩
theorem sa {α : Type _} (l : List α) (i : Nat) (a : α) : l.toArray.setIfInBounds i a = (l.set i a).toArray := List.setIfInBounds_toArray l i a
theorem sb {α : Type _} (x : α) (l : List α) (a : α) : (x :: l).set 0 a = a :: l := List.set_cons_zero
theorem sc {α : Type _} (x : α) (l : List α) (n : Nat) (a : α) : (x :: l).set (n + 1) a = x :: l.set n a := List.set_cons_succ
section
variable {P : Program} {ops : Array Oper} {Q : Exit → Act → World → Prop} {S : World → Prop} {ds : List Nat} {md : Region.Mode} {T : Bool × List (List Nat × List Nat)}
theorem pu (HT : Aside0 (rtab md ops = T)) {v : Value} (i N : Nat) {oi : Oper} {fuel : Nat} {l : Array Bool} {a : Act} {w : World} (hi : ops[i]? = some oi) (hN : oi.dst = some N)
    (hc : anyT T l.toList (l.setIfInBounds i true).toList i = true) (hQ : ∀ c a w, Q (.panic c) (a.put oi.dst v) w → Q (.panic c) a w) (hy : Yields P ops oi v a) {a' : Act} (ha : a.put (some N) v = a')
    (h : wpAnyLast P md ops Q S ds fuel (l.setIfInBounds i true) a' w) : wpAnyLast P md ops Q S ds (fuel + 1) l a w :=
  pure_ _ hi hN (any_of HT.out hc) hQ hy ha h
end
end Go.Proofs.Ytkkocmmilmbgpaa.S
end
section
namespace Go.Proofs.Ytkkocmmilmbgpaa.S
open Go
theorem at_region {P : Program} {id : Nat} {ops : Array Oper} {Q : Exit → Act → World → Prop} {a : Act} {w : World}
    (h : (Code.region id ops true).wp P Q a w) : (Code.region id ops true).wp P Q a w := h
end Go.Proofs.Ytkkocmmilmbgpaa.S
end
section
namespace Go.Proofs.YtkkocmmilmbgpaaW.PrintWords
open Go Go.RowKit
set_option linter.unusedVariables false
namespace Kd
section
variable {P : Program} {ops : Array Oper} {rest : List Oper} {o : Oper} {a : Act} {Q : Exit → Act → World → Prop} {Kc : Act → World → Prop} {α : Type}
theorem make0_run {d : Kd α} {W : World} (base e : Nat) (t : TypeId) (x y : Operand) (ho : o.op = .makeSlice t x y) (n : Int) (hx : a.eval x = .int .i64 0) (hy : a.eval y = .int .i64 n)
    (ht : P.underlying t = some (.slice e)) (z : Value) (bytes : Nat) (hinfo : (P.info? e).map (fun i => (i.zero, i.size, i.bytes)) = some (some z, d.sz, bytes)) (hb0 : 0 < bytes)
    {ok : Nat → Prop} (hfresh : ok W.heap.size) (h0 : 0 ≤ n) (hl : n.toNat * bytes ≤ 281474976710656) (hbase : base ≤ W.heap.size) :
    ∃ v1 w1, (execOp a.eval o).run P W = .ok (.value v1) w1 ∧ d.R e w1 base ok v1 [] ∧ Below W.heap.size W w1 ∧ W.grownBy w1 none ∧ (∃ b, v1.ownBlock = some b ∧ W.heap.size ≤ b) := by
  obtain ⟨m, rfl⟩ := Int.eq_ofNat_of_zero_le h0
  simp only [Int.toNat_natCast] at hl
  obtain ⟨i0, hi, hzz⟩ := Option.map_eq_some_iff.1 hinfo
  simp only [Prod.mk.injEq] at hzz
  obtain ⟨hz0, hz1, hz2⟩ := hzz
  have hm : m ≤ 281474976710656 := Nat.le_trans (Nat.le_mul_of_pos_right _ hb0) hl
  have hr := run_make (P := P) W t e i0 z ht hi hz0 .i64 .i64 0 (m : Int) (Int.le_refl _) (by omega)
    (by
      have h3 : ((i0.bytes * m : Nat) : Int) ≤ 281474976710656 := by rw [hz2, Nat.mul_comm]; omega
      rwa [Int.natCast_mul] at h3) (by omega)
  simp only [Int.toNat_zero, Int.toNat_natCast] at hr
  rw [hz1] at hr
  refine ⟨.slice (some ⟨W.heap.size, 0, none⟩) 0 m, W.alloc (.cells (madeCells z.cells (m * d.sz)) e), ?_, ⟨fun k hk => ?_, [], World.ownsRow_made W _ m hbase (by simp only [maxLen]; omega) (size_madeCells _ _), Reps.none _ _⟩, (Below.refl W.heap.size W).alloc (Nat.le_refl _) _, World.grownBy_alloc W _ none, ⟨W.heap.size, by simp [Value.ownBlock], Nat.le_refl _⟩⟩
  · simp [execOp, ho, hx, hy, hr]
  · have : W.heap.size = k := by simpa [Value.ownBlock] using hk
    subst this
    exact hfresh
theorem R_make0 (d : Kd α) {w0 W : World} (base e : Nat) (hgd : o.guard = none) {N : Tmp} (hd : o.dst = some N) (t : TypeId) (x y : Operand) (ho : o.op = .makeSlice t x y) (n : Int) (hx : a.eval x = .int .i64 0) (hy : a.eval y = .int .i64 n)
    (ht : P.underlying t = some (.slice e)) (z : Value) (bytes : Nat) (hinfo : (P.info? e).map (fun i => (i.zero, i.size, i.bytes)) = some (some z, d.sz, bytes)) (hz : z.cells.size = d.sz) (hs0 : 0 < d.sz) (hb0 : 0 < bytes)
    (z0 : α) {ok okp : Nat → Prop} (hzero : d.M W base okp z0 z.cells.toList) (hok : ∀ k, okp k → ok k) (hfresh : ok W.heap.size) (h0 : 0 ≤ n) (hl : n.toNat * bytes ≤ 281474976710656) (HB : Below base w0 W) (hbase : base ≤ W.heap.size)
    (h : ∀ v1 w1, d.R e w1 base ok v1 [] → Below base w0 w1 → W.grownBy w1 none → (∃ b, v1.ownBlock = some b ∧ W.heap.size ≤ b) → wpList P ops Q rest (a.put o.dst v1) w1) : wpList P ops Q (o :: rest) a W := by
  obtain ⟨v1, w1, hrun, hR, hb, hg, hat⟩ := make0_run (d := d) (P := P) (a := a) base e t x y ho n hx hy ht z bytes hinfo hb0 hfresh h0 hl hbase
  exact event_run hgd hrun (h v1 w1 hR (HB.grown hg hbase (by intro k hk; cases hk)) hg hat)
end
end Kd
def ExtCalls (P : Program) (f : FuncId) (args : Array Value) (w : World) (R : Ending → World → Prop) : Prop := ∃ v w', (callFunc f args).run P w = .ok (.value v) w' ∧ R (.returned v) w'
theorem ExtCalls.mono {P : Program} {f : FuncId} {args : Array Value} {w : World} {R R' : Ending → World → Prop} (h : ExtCalls P f args w R) (hr : ∀ e w', R e w' → R' e w') : ExtCalls P f args w R' := by
  obtain ⟨v, w', h1, h2⟩ := h
  exact ⟨v, w', h1, hr _ _ h2⟩
section
variable {P : Program} {ops : Array Oper} {Q : Exit → Act → World → Prop}
theorem goesE_ {rest : List Oper} {oi : Oper} {a : Act} {w : World} (N : Option Tmp) (hd : oi.dst = N) (hg : oi.guard = none) {f : FuncId} {fn : Func} {ars : Array Operand} {ts : Array TypeId} (hf : P.funcs[f]? = some fn) (hname : (fn.name == "runtime.NumGoroutine") = false) (hb : fn.body.isSome = false) (args : Array Value)
    (hop : oi.op = .call { callee := .value (.func f), args := ars, argTypes := ts }) (hargs : ars.map a.eval = args)
    (h : ExtCalls P f args w fun e w' => ∃ v, e = .returned v ∧ wpList P ops Q rest (a.put N v) w') : wpList P ops Q (oi :: rest) a w := by
  obtain ⟨v, w', hrun, v', he, hk⟩ := h
  injection he with he
  subst he
  subst hd
  refine Kd.event_run hg (w1 := w') (v := v) ?_ hk
  unfold execOp
  simp [hop, resolve, Deferred.ofValue, invoke, Act.eval, hargs, hrun]
end
end Go.Proofs.YtkkocmmilmbgpaaW.PrintWords
end
section
namespace Go.Proofs.Ytkkocmmilmbgpaa.S
open Go.RowKit Go.Proofs.YtkkocmmilmbgpaaW.PrintWords Go.Proofs.YtkkocmmilmbgpaaW.PrintLast Go.Proofs.YtkkocmmilmbgpaaW.PrintMore
attribute [local go_sem] max2_int min2_int max_two min_two max_three min_three max_four min_four
set_option linter.unusedVariables false
set_option linter.unusedSimpArgs false
def errW : Option Int → Value
  | none => .nilIface
  | some c => .iface 0 (.int .i64 c)
theorem errW_none : errW none = .nilIface := rfl
theorem errW_some (c : Int) : errW (some c) = .iface 0 (.int .i64 c) := rfl
theorem info3 : (Try.prog.info? 3).map (fun i => (i.zero, i.size, i.bytes)) = some (some (.int .i64 0), 1, 8) := by kernel_rfl
theorem info24 : (Try.prog.info? 24).map (fun i => (i.zero, i.size, i.bytes)) = some (some (.int .u64 0), 1, 8) := by kernel_rfl
theorem info39 : (Try.prog.info? 39).map (fun i => (i.zero, i.size, i.bytes)) = some (some (.agg #[(.int .u64 0), (.slice none 0 0)]), 2, 32) := by kernel_rfl
structure S39 where
  f0 : Int
  f1 : (List Int)
def z39 : S39 := ⟨(0 : Int), ([] : List Int)⟩
def k39 : Kd S39 := Kd.iso (Kd.pair (Kd.int .u64) (Kd.slice 3 (Kd.int .i64))) (fun x : S39 => (x.f0, x.f1))
theorem k39_open {w : World} {x : S39} {cs : List Value} (h : k39.K w x cs) : ∃ A1 c1, cs = [.int .u64 x.f0, .slice A1 x.f1.length c1] ∧ x.f1.length ≤ c1 ∧ (Kd.int .i64).C w A1 x.f1.length x.f1 := by
  obtain ⟨_, _, rfl, rfl, ⟨A1, c1, rfl, l1, g1⟩⟩ := h
  exact ⟨A1, c1, rfl, l1, g1⟩
theorem k39_mk (w : World) (x : S39) {A1 : Option Addr} {c1 : Nat} (l1 : x.f1.length ≤ c1) (g1 : (Kd.int .i64).C w A1 x.f1.length x.f1) : k39.K w x [.int .u64 x.f0, .slice A1 x.f1.length c1] := ⟨[.int .u64 x.f0], [.slice A1 x.f1.length c1], rfl, rfl, ⟨A1, c1, rfl, l1, g1⟩⟩
theorem k39_mkM (w : World) (base : Nat) (ok : Nat → Prop) (x : S39) {v1 : Value} (g1 : (Kd.int .i64).R 3 w base ok v1 x.f1) : k39.M w base ok x [.int .u64 x.f0, v1] := ⟨[.int .u64 x.f0], [v1], rfl, rfl, ⟨v1, rfl, g1⟩⟩
theorem k39_openF {W : World} {ok : Nat → Prop} {x : S39} {cs : List Value} (h : Kd.FK k39 W ok x cs) : ∃ A1 c1, cs = [.int .u64 x.f0, .slice A1 x.f1.length c1] ∧ x.f1.length ≤ c1 ∧ Kd.F (Kd.int .i64) W ok A1 x.f1.length x.f1 := by
  obtain ⟨A1, c1, rfl, l1, _⟩ := k39_open (Kd.FK_now h)
  exact ⟨A1, c1, rfl, l1, (fun W' hW => by obtain ⟨A1_, c1_, he, l1_, g1_⟩ := k39_open (h W' hW); injection (Option.some.inj (show some (Value.slice A1 x.f1.length c1) = some (Value.slice A1_ x.f1.length c1_) from congrArg (fun l => l[1]?) he)) with ha_ _ _; rw [ha_]; exact g1_)⟩
theorem k39_mkF (W : World) (ok : Nat → Prop) (x : S39) {A1 : Option Addr} {c1 : Nat} (l1 : x.f1.length ≤ c1) (g1 : Kd.F (Kd.int .i64) W ok A1 x.f1.length x.f1) : Kd.FK k39 W ok x [.int .u64 x.f0, .slice A1 x.f1.length c1] := fun W2 hW => k39_mk W2 x l1 (g1 W2 hW)
def rd_T39 (xs : List S39) (i : Int) : S39 := xs.getD i.toNat z39
theorem at_T39 {w : World} {A : Option Addr} {n : Nat} {xs : List S39} (h : Kd.C k39 w A n xs) (i : Int) (h0 : 0 ≤ i) (h1 : i < n) : ∃ ad A1 c1, A = some ad ∧ w.cell? (ad.add (i.toNat * 2)) = some (.int .u64 (rd_T39 xs i).f0) ∧ w.cell? ⟨(ad.add (i.toNat * 2)).block, (ad.add (i.toNat * 2)).off + 1, none⟩ = some (.slice A1 (rd_T39 xs i).f1.length c1) ∧ (rd_T39 xs i).f1.length ≤ c1 ∧ (Kd.int .i64).C w A1 (rd_T39 xs i).f1.length (rd_T39 xs i).f1 := by
  obtain ⟨ad, c, e, _, hK, hc0⟩ := Kd.C_get h z39 i h0 h1
  have hc : ∀ j u, c[j]? = some u → w.cell? (ad.add (i.toNat * 2 + j)) = some u := hc0
  obtain ⟨A1, c1, rfl, l1, g1⟩ := k39_open hK
  exact ⟨ad, A1, c1, e, hc 0 _ rfl, by rw [← add_field _ _ 1 (by omega)]; exact hc 1 _ rfl, l1, g1⟩
def rd_L4 (xs : List (List S39)) (i : Int) : (List S39) := xs.getD i.toNat ([] : List S39)
theorem at_L4 {w : World} {A : Option Addr} {n : Nat} {xs : List (List S39)} (h : Kd.C (Kd.slice 39 k39) w A n xs) (i : Int) (h0 : 0 ≤ i) (h1 : i < n) : ∃ ad A0 c0, A = some ad ∧ w.cell? (ad.add i.toNat) = some (.slice A0 (rd_L4 xs i).length c0) ∧ (rd_L4 xs i).length ≤ c0 ∧ k39.C w A0 (rd_L4 xs i).length (rd_L4 xs i) := by
  obtain ⟨ad, c, e, _, hK, hc0⟩ := Kd.C_get h ([] : List S39) i h0 h1
  have hc : ∀ j u, c[j]? = some u → w.cell? (ad.add (i.toNat * 1 + j)) = some u := hc0
  obtain ⟨A0, c0, rfl, l0, g0⟩ := hK
  exact ⟨ad, A0, c0, e, by have hq := hc 0 _ rfl; rwa [Nat.mul_one, Nat.add_zero] at hq, l0, g0⟩
end Go.Proofs.Ytkkocmmilmbgpaa.S
end
section
namespace Go.Proofs.Ytkkocmmilmbgpaa.S
open Go.RowKit Go.Proofs.YtkkocmmilmbgpaaW.PrintWords Go.Proofs.YtkkocmmilmbgpaaW.PrintLast Go.Proofs.YtkkocmmilmbgpaaW.PrintMore
set_option linter.unusedVariables false
def Keeps (W0 w : World) (ok : Nat → Prop) : Prop := ∀ k, ok k → k < W0.heap.size → w.heap[k]? = W0.heap[k]?
theorem Keeps.trans {W0 w w1 : World} {ok S : Nat → Prop} (h : Keeps W0 w ok) (hs : W0.heap.size ≤ w.heap.size) (hk : Kept w w1 S) (hd : ∀ k, ok k → k < W0.heap.size → ¬ S k) : Keeps W0 w1 ok := fun k ho hl => (hk.2 k (Nat.lt_of_lt_of_le hl hs) (hd k ho hl)).trans (h k ho hl)
def kG (W0 : World) (ok : Nat → Prop) : Kd S39 where
  sz := 2
  E := []
  K := fun _ x cs => Kd.FK k39 W0 ok x cs ∧ x.f1.length < 4611686018427387904
  M := fun _ _ _ x cs => Kd.FK k39 W0 ok x cs ∧ x.f1.length < 4611686018427387904
  K_len := fun h => k39.K_len (Kd.FK_now h.1)
  K_one := fun h => k39.K_one (Kd.FK_now h.1)
  K_below := fun _ h => h
  K_of_M := fun h => h
  M_mono := fun _ h => h
  M_bound := fun h => h
  M_move := fun _ h => h
  M_lower := fun _ h => h
theorem at_G {W0 w : World} {ok : Nat → Prop} (hk : Keeps W0 w ok) {A : Option Addr} {n : Nat} {xs : List S39} (h : Kd.C (kG W0 ok) w A n xs) (i : Int) (h0 : 0 ≤ i) (h1 : i < n) : ∃ ad A1 c1, A = some ad ∧ w.cell? (ad.add (i.toNat * 2)) = some (.int .u64 (rd_T39 xs i).f0) ∧ w.cell? ⟨(ad.add (i.toNat * 2)).block, (ad.add (i.toNat * 2)).off + 1, none⟩ = some (.slice A1 (rd_T39 xs i).f1.length c1) ∧ (rd_T39 xs i).f1.length ≤ c1 ∧ (Kd.int .i64).C w A1 (rd_T39 xs i).f1.length (rd_T39 xs i).f1 := by
  obtain ⟨ad, c, e, _, hK, hc0⟩ := Kd.C_get h z39 i h0 h1
  have hc : ∀ j u, c[j]? = some u → w.cell? (ad.add (i.toNat * 2 + j)) = some u := hc0
  have hK' : k39.K w (rd_T39 xs i) c := (show Kd.FK k39 W0 ok (rd_T39 xs i) c from hK.1) w hk
  obtain ⟨A1, c1, rfl, l1, g1⟩ := k39_open hK'
  exact ⟨ad, A1, c1, e, hc 0 _ rfl, by rw [← add_field _ _ 1 (by omega)]; exact hc 1 _ rfl, l1, g1⟩
theorem kG_of_N {w : World} {base : Nat} {ok : Nat → Prop} {v : Value} {xs : List S39} (h : Kd.N k39 39 w base ok v xs) (hlx : ∀ x ∈ xs, x.f1.length < 4611686018427387904) : Kd.R (kG w (fun k => ok k ∧ some k ≠ v.ownBlock)) 39 w base (fun k => some k = v.ownBlock) v xs := by
  obtain ⟨h0, rows, hlen, ⟨hr0, inner, ho, hreps⟩, hFK⟩ := h
  have hz : (Kd.raw k39.sz).sz = 2 := rfl
  rw [hz, hlen] at ho
  rw [hz] at hreps
  refine ⟨fun k hk => hk.symm, inner, ho, ?_, ?_⟩
  · have := hreps.1; rw [hlen] at this; exact this
  · intro j p hp
    have hj : j < rows.length := by rw [hlen]; exact (List.getElem?_eq_some_iff.1 hp).1
    have hq := hreps.2 j _ (List.getElem?_eq_getElem hj)
    have hf := hFK j p _ hp (List.getElem?_eq_getElem hj)
    rw [← hq.1] at hf
    exact ⟨hf, hlx p (List.mem_of_getElem? hp)⟩
theorem N_of_kG {W0 w : World} {base : Nat} {ok okb : Nat → Prop} {v : Value} {xs : List S39} (hR : Kd.R (kG W0 (fun k => ok k ∧ some k ≠ v.ownBlock)) 39 w base okb v xs) (hk : Keeps W0 w (fun k => ok k ∧ some k ≠ v.ownBlock)) (h0 : ∀ k, v.ownBlock = some k → ok k) :
    Kd.N k39 39 w base ok v xs := by
  obtain ⟨_, inner, ho, hr⟩ := hR
  refine ⟨h0, Kd.chunks 2 xs.length inner, Kd.chunks_length _ _ _, ⟨fun k hk => hk.symm, inner, by rw [Kd.chunks_length]; exact ho, Kd.reps_raw hr (fun x c hp => ⟨k39.K_len (Kd.FK_now hp.1), k39.K_one (Kd.FK_now hp.1)⟩)⟩, fun j x c hx hc => ?_⟩
  rw [Kd.chunks_get hc]
  exact Kd.FK_step (hr.2 j x hx).1 hk
theorem nilLike {W0 w : World} {okE ok : Nat → Prop} {base e : Nat} {v : Value} {xs : List S39} (h : Kd.R (kG W0 okE) e w base ok v xs) : Kd.R (Kd.int .i64) 3 w base ok (.slice none 0 0) [] := Kd.R_nil _ _ _ _ _
end Go.Proofs.Ytkkocmmilmbgpaa.S
end
section
namespace Go.Proofs.Ytkkocmmilmbgpaa.S
open Go.RowKit Go.Proofs.YtkkocmmilmbgpaaW.PrintWords Go.Proofs.YtkkocmmilmbgpaaW.PrintLast Go.Proofs.YtkkocmmilmbgpaaW.PrintMore
attribute [local go_sem] max2_int min2_int max_two min_two max_three min_three max_four min_four
set_option linter.unusedVariables false
set_option linter.unusedSimpArgs false
mutual
def cost_order.l0 : Nat → List Int → List Int → Int → Int → List Int → Int → Int → Option (Int)
  | 0, _, _, _, _, _, _, _ => none
  | k + 1, x0, x1, x5, x6, x14, x15, x16 => if x16 < x15 then (if 0 ≤ x16 then (if x16 < (x14.length : Int) then (cost_order.l0 k x0 x1 (wrap64 (x5 + (rd x14 x16))) x6 x14 x15 (wrap64 (x16 + 1))) else (none)) else (none)) else (cost_order.l1 k x0 x1 x5 x6 x1 (x1.length : Int) 0)
def cost_order.l1 : Nat → List Int → List Int → Int → Int → List Int → Int → Int → Option (Int)
  | 0, _, _, _, _, _, _, _ => none
  | k + 1, x0, x1, x5, x6, x24, x25, x26 => if x26 < x25 then (if 0 ≤ x26 then (if x26 < (x24.length : Int) then (cost_order.l1 k x0 x1 x5 (wrap64 (x6 + (rd x24 x26))) x24 x25 (wrap64 (x26 + 1))) else (none)) else (none)) else (if x5 = x6 then (cost_order.l2 k x0 x1 (mx (x0.length : Int) (x1.length : Int)) 0) else (some (wrap64 (x6 - x5))))
def cost_order.l2 : Nat → List Int → List Int → Int → Int → Option (Int)
  | 0, _, _, _, _ => none
  | k + 1, x0, x1, x44, x45 => if x45 < x44 then (if x45 < (x0.length : Int) then (if 0 ≤ x45 then (cost_order.j3 k x0 x1 x45 (rd x0 x45) 0 x44 x45) else (none)) else (cost_order.j3 k x0 x1 x45 0 0 x44 x45)) else (some 0)
def cost_order.j3 : Nat → List Int → List Int → Int → Int → Int → Int → Int → Option (Int)
  | 0, _, _, _, _, _, _, _ => none
  | k + 1, x0, x1, x11, x12, x13, x44, x45 => if x11 < (x1.length : Int) then (if 0 ≤ x11 then (if x12 = (rd x1 x11) then (cost_order.l2 k x0 x1 x44 (wrap64 (x45 + 1))) else (some (wrap64 ((rd x1 x11) - x12)))) else (none)) else (if x12 = x13 then (cost_order.l2 k x0 x1 x44 (wrap64 (x45 + 1))) else (some (wrap64 (x13 - x12))))
end
def cost_order.f (k : Nat) (l0 : List Int) (l1 : List Int) : Option (Int) := cost_order.l0 k l0 l1 0 0 l0 (l0.length : Int) 0
theorem cost_order.mono_l : ∀ k, (∀ y0 y1 y2 y3 y4 y5 y6, LeO (cost_order.l0 k y0 y1 y2 y3 y4 y5 y6) (cost_order.l0 (k + 1) y0 y1 y2 y3 y4 y5 y6)) ∧ (∀ y0 y1 y2 y3 y4 y5 y6, LeO (cost_order.l1 k y0 y1 y2 y3 y4 y5 y6) (cost_order.l1 (k + 1) y0 y1 y2 y3 y4 y5 y6)) ∧ (∀ y0 y1 y2 y3, LeO (cost_order.l2 k y0 y1 y2 y3) (cost_order.l2 (k + 1) y0 y1 y2 y3)) ∧ (∀ y0 y1 y2 y3 y4 y5 y6, LeO (cost_order.j3 k y0 y1 y2 y3 y4 y5 y6) (cost_order.j3 (k + 1) y0 y1 y2 y3 y4 y5 y6))
  | 0 => ⟨fun _ _ _ _ _ _ _ r h => by simp [cost_order.l0] at h, fun _ _ _ _ _ _ _ r h => by simp [cost_order.l1] at h, fun _ _ _ _ r h => by simp [cost_order.l2] at h, fun _ _ _ _ _ _ _ r h => by simp [cost_order.j3] at h⟩
  | k + 1 => by
    obtain ⟨ih0, ih1, ih2, ih3⟩ := cost_order.mono_l k
    refine ⟨?_, ?_, ?_, ?_⟩
    · intro y0 y1 y2 y3 y4 y5 y6
      unfold cost_order.l0
      repeat' first
      | (with_reducible exact ih0 _ _ _ _ _ _ _)
      | (with_reducible exact ih1 _ _ _ _ _ _ _)
      | (with_reducible exact ih2 _ _ _ _)
      | (with_reducible exact ih3 _ _ _ _ _ _ _)
      | (with_reducible exact LeO.refl _)
      | (with_reducible exact LeO.none _)
      | (with_reducible refine LeO.ite ?_ ?_)
      | (with_reducible refine LeO.bind ?_ (fun _ => ?_))
      | exact ih0 _ _ _ _ _ _ _
      | exact ih1 _ _ _ _ _ _ _
      | exact ih2 _ _ _ _
      | exact ih3 _ _ _ _ _ _ _
      | exact LeO.none _
      | refine LeO.ite ?_ ?_
      | refine LeO.bind ?_ (fun _ => ?_)
    · intro y0 y1 y2 y3 y4 y5 y6
      unfold cost_order.l1
      repeat' first
      | (with_reducible exact ih0 _ _ _ _ _ _ _)
      | (with_reducible exact ih1 _ _ _ _ _ _ _)
      | (with_reducible exact ih2 _ _ _ _)
      | (with_reducible exact ih3 _ _ _ _ _ _ _)
      | (with_reducible exact LeO.refl _)
      | (with_reducible exact LeO.none _)
      | (with_reducible refine LeO.ite ?_ ?_)
      | (with_reducible refine LeO.bind ?_ (fun _ => ?_))
      | exact ih0 _ _ _ _ _ _ _
      | exact ih1 _ _ _ _ _ _ _
      | exact ih2 _ _ _ _
      | exact ih3 _ _ _ _ _ _ _
      | exact LeO.none _
      | refine LeO.ite ?_ ?_
      | refine LeO.bind ?_ (fun _ => ?_)
    · intro y0 y1 y2 y3
      unfold cost_order.l2
      repeat' first
      | (with_reducible exact ih0 _ _ _ _ _ _ _)
      | (with_reducible exact ih1 _ _ _ _ _ _ _)
      | (with_reducible exact ih2 _ _ _ _)
      | (with_reducible exact ih3 _ _ _ _ _ _ _)
      | (with_reducible exact LeO.refl _)
      | (with_reducible exact LeO.none _)
      | (with_reducible refine LeO.ite ?_ ?_)
      | (with_reducible refine LeO.bind ?_ (fun _ => ?_))
      | exact ih0 _ _ _ _ _ _ _
      | exact ih1 _ _ _ _ _ _ _
      | exact ih2 _ _ _ _
      | exact ih3 _ _ _ _ _ _ _
      | exact LeO.none _
      | refine LeO.ite ?_ ?_
      | refine LeO.bind ?_ (fun _ => ?_)
    · intro y0 y1 y2 y3 y4 y5 y6
      unfold cost_order.j3
      repeat' first
      | (with_reducible exact ih0 _ _ _ _ _ _ _)
      | (with_reducible exact ih1 _ _ _ _ _ _ _)
      | (with_reducible exact ih2 _ _ _ _)
      | (with_reducible exact ih3 _ _ _ _ _ _ _)
      | (with_reducible exact LeO.refl _)
      | (with_reducible exact LeO.none _)
      | (with_reducible refine LeO.ite ?_ ?_)
      | (with_reducible refine LeO.bind ?_ (fun _ => ?_))
      | exact ih0 _ _ _ _ _ _ _
      | exact ih1 _ _ _ _ _ _ _
      | exact ih2 _ _ _ _
      | exact ih3 _ _ _ _ _ _ _
      | exact LeO.none _
      | refine LeO.ite ?_ ?_
      | refine LeO.bind ?_ (fun _ => ?_)
theorem cost_order.mono : ∀ a0 a1 k, LeO (cost_order.f k a0 a1) (cost_order.f (k + 1) a0 a1) := by
  intro a0 a1 k
  obtain ⟨ih0, ih1, ih2, ih3⟩ := cost_order.mono_l k
  unfold cost_order.f
  repeat' first
      | (with_reducible exact ih0 _ _ _ _ _ _ _)
      | (with_reducible exact ih1 _ _ _ _ _ _ _)
      | (with_reducible exact ih2 _ _ _ _)
      | (with_reducible exact ih3 _ _ _ _ _ _ _)
      | (with_reducible exact LeO.refl _)
      | (with_reducible exact LeO.none _)
      | (with_reducible refine LeO.ite ?_ ?_)
      | (with_reducible refine LeO.bind ?_ (fun _ => ?_))
      | exact ih0 _ _ _ _ _ _ _
      | exact ih1 _ _ _ _ _ _ _
      | exact ih2 _ _ _ _
      | exact ih3 _ _ _ _ _ _ _
      | exact LeO.none _
      | refine LeO.ite ?_ ?_
      | refine LeO.bind ?_ (fun _ => ?_)
set_option maxHeartbeats 8000000 in
set_option maxRecDepth 100000 in
theorem cost_order.calls (k : Nat) (A0 : Option Addr) (c0 : Nat) (l0 : List Int) (A1 : Option Addr) (c1 : Nat) (l1 : List Int) (r : Int) (w : World) (hr0 : Kd.C (Kd.int .i64) w A0 l0.length l0) (hc0 : l0.length ≤ c0) (hr1 : Kd.C (Kd.int .i64) w A1 l1.length l1) (hc1 : l1.length ≤ c1) (h : cost_order.f k l0 l1 = some r) :
    Calls Try.prog 42 #[.slice A0 l0.length c0, .slice A1 l1.length c1] w fun e w' => e = .returned (.int .i64 r) ∧ Below w.heap.size w w' := by
  have HR0 := am hr0
  have HC0 := am hc0
  clear hr0 hc0
  have HR1 := am hr1
  have HC1 := am hc1
  clear hr1 hc1
  have HB := am (Below.refl w.heap.size w)
  have H : (cost_order.l0 k l0 l1 0 0 l0 (l0.length : Int) 0) = some r := h
  clear h
  have H' := am H
  clear H
  go_enter Try.func42, Try.ntmps42
  go_wp2
  go_loopg [5, 16] k (fun kq v5 v16 w' => ∃ (x5_1 : Int) (x16_1 : Int), v5 = .int .i64 x5_1 ∧ v16 = .int .i64 x16_1 ∧ Aside0 (cost_order.l0 kq l0 l1 x5_1 0 l0 (l0.length : Int) x16_1 = some r) ∧ Aside0 (kq ≤ k) ∧ Aside0 (Below w.heap.size w w'))
  case atStart => exact ⟨(0), (0), (by rfl), (by rfl), H', ⟨Nat.le_refl _⟩, ⟨by exact HB.out⟩⟩
  case round =>
    clear H'
    obtain ⟨x5_1, x16_1, rfl, rfl, HA, HK1, HB⟩ := hrel
    cases gk with
    | zero => exact absurd HA.out (by simp [cost_order.l0])
    | succ k1 =>
      have H := HA.out
      clear HA
      simp only [cost_order.l0] at H
      by_cases c3 : x16_1 < (l0.length : Int)
      · rw [if_pos c3] at H
        have c3b0 : decide (x16_1 < (l0.length : Int)) = true := decide_eq_true c3
        clear c3
        replace H := its H
        obtain ⟨c4, H⟩ := H
        have c4b0 : decide (0 ≤ x16_1) = true := decide_eq_true c4
        clear c4
        replace H := its H
        obtain ⟨c5, H⟩ := H
        have c5b0 : decide (x16_1 < (l0.length : Int)) = true := decide_eq_true c5
        clear c5
        have H' := am H
        clear H
        have p118 : 0 ≤ (x16_1 : Int) := of_decide_eq_true (by (with_reducible assumption))
        have q118 : x16_1 < (l0.length : Int) := of_decide_eq_true (by (with_reducible assumption))
        obtain ⟨ad118, e118, hx118_0⟩ := Kd.at_int HR0.out x16_1 p118 q118
        cases e118
        replace hx118_0 := (HB.out.cell (World.block_lt_of_cell? w _ hx118_0)).trans hx118_0
        replace p118 := eq_true p118
        replace q118 := eq_true q118
        go_wp2
        go_roundg k1
        case measure => have := HK1.out; omega
        case rel => exact ⟨(wrap64 (x5_1 + (rd l0 x16_1))), (wrap64 (x16_1 + 1)), (by rfl), (by rfl), H', ⟨by have := HK1.out; omega⟩, ⟨by exact HB.out⟩⟩
      · rw [if_neg c3] at H
        have c3b0 : decide (x16_1 < (l0.length : Int)) = false := decide_eq_false c3
        clear c3
        have H' := am H
        clear H
        go_wp2
        go_loopg [6, 26] k1 (fun kq v6 v26 w' => ∃ (x6_2 : Int) (x26_2 : Int), v6 = .int .i64 x6_2 ∧ v26 = .int .i64 x26_2 ∧ Aside0 (cost_order.l1 kq l0 l1 x5_1 x6_2 l1 (l1.length : Int) x26_2 = some r) ∧ Aside0 (kq ≤ k1) ∧ Aside0 (Below w.heap.size w w'))
        case atStart => exact ⟨(0), (0), (by rfl), (by rfl), H', ⟨Nat.le_refl _⟩, ⟨by exact HB.out⟩⟩
        case round =>
          clear H'
          try clear c3b0
          obtain ⟨x6_2, x26_2, rfl, rfl, HA, HK2, HB⟩ := hrel
          cases gk with
          | zero => exact absurd HA.out (by simp [cost_order.l1])
          | succ k2 =>
            have H := HA.out
            clear HA
            simp only [cost_order.l1] at H
            by_cases c6 : x26_2 < (l1.length : Int)
            · rw [if_pos c6] at H
              have c6b0 : decide (x26_2 < (l1.length : Int)) = true := decide_eq_true c6
              clear c6
              replace H := its H
              obtain ⟨c7, H⟩ := H
              have c7b0 : decide (0 ≤ x26_2) = true := decide_eq_true c7
              clear c7
              replace H := its H
              obtain ⟨c8, H⟩ := H
              have c8b0 : decide (x26_2 < (l1.length : Int)) = true := decide_eq_true c8
              clear c8
              have H' := am H
              clear H
              have p119 : 0 ≤ (x26_2 : Int) := of_decide_eq_true (by (with_reducible assumption))
              have q119 : x26_2 < (l1.length : Int) := of_decide_eq_true (by (with_reducible assumption))
              obtain ⟨ad119, e119, hx119_0⟩ := Kd.at_int HR1.out x26_2 p119 q119
              cases e119
              replace hx119_0 := (HB.out.cell (World.block_lt_of_cell? w _ hx119_0)).trans hx119_0
              replace p119 := eq_true p119
              replace q119 := eq_true q119
              go_wp2
              go_roundg k2
              case measure => have := HK1.out; have := HK2.out; omega
              case rel => exact ⟨(wrap64 (x6_2 + (rd l1 x26_2))), (wrap64 (x26_2 + 1)), (by rfl), (by rfl), H', ⟨by have := HK1.out; have := HK2.out; omega⟩, ⟨by exact HB.out⟩⟩
            · rw [if_neg c6] at H
              have c6b0 : decide (x26_2 < (l1.length : Int)) = false := decide_eq_false c6
              clear c6
              by_cases c9 : x5_1 = x6_2
              · rw [if_pos c9] at H
                have c9b0 : (x5_1 == x6_2) = true := beq_iff_eq.mpr c9
                have c9b1 : (x5_1 != x6_2) = false := bne_eq_false_iff_eq.mpr c9
                clear c9
                obtain ⟨ji10, hji10⟩ : ∃ j_ : Int, (mx (l0.length : Int) (l1.length : Int)) = j_ := ⟨_, rfl⟩
                replace H : (cost_order.l2 k2 l0 l1 ji10 0) = some r := by (rw [hji10] at H; exact H)
                have hji10_ : (if (l0.length : Int) < (l1.length : Int) then (l1.length : Int) else (l0.length : Int)) = ji10 := hji10
                have hji10n : (if l0.length < l1.length then (l1.length : Int) else (l0.length : Int)) = ji10 := by rw [← hji10_]; simp only [Int.ofNat_lt]
                have H' := am H
                clear H
                go_wp2
                go_loopg [45] k2 (fun kq v45 w' => ∃ (x45_3 : Int), v45 = .int .i64 x45_3 ∧ Aside0 (cost_order.l2 kq l0 l1 ji10 x45_3 = some r) ∧ Aside0 (kq ≤ k2) ∧ Aside0 (Below w.heap.size w w'))
                case atStart => exact ⟨(0), (by rfl), H', ⟨Nat.le_refl _⟩, ⟨by exact HB.out⟩⟩
                case round =>
                  clear H'
                  try clear c6b0
                  try clear c9b0
                  try clear c9b1
                  obtain ⟨x45_3, rfl, HA, HK3, HB⟩ := hrel
                  cases gk with
                  | zero => exact absurd HA.out (by simp [cost_order.l2])
                  | succ k3 =>
                    have H := HA.out
                    clear HA
                    simp only [cost_order.l2] at H
                    by_cases c11 : x45_3 < ji10
                    · rw [if_pos c11] at H
                      have c11b0 : decide (x45_3 < ji10) = true := decide_eq_true c11
                      clear c11
                      have HC12 := am H
                      clear H
                      go_upto_if 51 with (fail)
                      go_cut [12] (fun v12 wc => ∃ (kq : Nat) (x12_11 : Int), v12 = .int .i64 x12_11 ∧ Aside0 (cost_order.j3 kq l0 l1 x45_3 x12_11 0 ji10 x45_3 = some r) ∧ Aside0 (kq ≤ k3) ∧ Aside0 (Below w.heap.size w wc))
                      case first =>
                        have H := HC12.out
                        clear HC12
                        by_cases c13 : x45_3 < (l0.length : Int)
                        · rw [if_pos c13] at H
                          have c13b0 : decide (x45_3 < (l0.length : Int)) = true := decide_eq_true c13
                          clear c13
                          (rw [c13b0])
                          replace H := its H
                          obtain ⟨c14, H⟩ := H
                          have c14b0 : decide (0 ≤ x45_3) = true := decide_eq_true c14
                          clear c14
                          have H' := am H
                          clear H
                          have p120 : 0 ≤ (x45_3 : Int) := of_decide_eq_true (by (with_reducible assumption))
                          have q120 : x45_3 < (l0.length : Int) := of_decide_eq_true (by (with_reducible assumption))
                          obtain ⟨ad120, e120, hx120_0⟩ := Kd.at_int HR0.out x45_3 p120 q120
                          cases e120
                          replace hx120_0 := (HB.out.cell (World.block_lt_of_cell? w _ hx120_0)).trans hx120_0
                          replace p120 := eq_true p120
                          replace q120 := eq_true q120
                          go_wp2
                          go_meet
                          case rel => exact ⟨_, (rd l0 x45_3), (by rfl), H', ⟨by have := HK1.out; have := HK2.out; have := HK3.out; omega⟩, ⟨by exact HB.out⟩⟩
                        · rw [if_neg c13] at H
                          have c13b0 : decide (x45_3 < (l0.length : Int)) = false := decide_eq_false c13
                          clear c13
                          (rw [c13b0])
                          have H' := am H
                          clear H
                          go_wp2
                          go_meet
                          case rel => exact ⟨_, (0), (by rfl), H', ⟨by have := HK1.out; have := HK2.out; have := HK3.out; omega⟩, ⟨by exact HB.out⟩⟩
                      case rest =>
                        clear HC12
                        try clear c11b0
                        obtain ⟨kq, x12_11, rfl, HA, HJ11, HB⟩ := hcut
                        cases kq with
                        | zero => exact absurd HA.out (by simp [cost_order.j3])
                        | succ kj11 =>
                          have H := HA.out
                          clear HA
                          simp only [cost_order.j3] at H
                          by_cases c15 : x45_3 < (l1.length : Int)
                          · rw [if_pos c15] at H
                            have c15b0 : decide (x45_3 < (l1.length : Int)) = true := decide_eq_true c15
                            clear c15
                            replace H := its H
                            obtain ⟨c16, H⟩ := H
                            have c16b0 : decide (0 ≤ x45_3) = true := decide_eq_true c16
                            clear c16
                            by_cases c17 : x12_11 = (rd l1 x45_3)
                            · rw [if_pos c17] at H
                              have c17b0 : (x12_11 == (rd l1 x45_3)) = true := beq_iff_eq.mpr c17
                              have c17b1 : (x12_11 != (rd l1 x45_3)) = false := bne_eq_false_iff_eq.mpr c17
                              clear c17
                              have H' := am H
                              clear H
                              have p121 : 0 ≤ (x45_3 : Int) := of_decide_eq_true (by (with_reducible assumption))
                              have q121 : x45_3 < (l1.length : Int) := of_decide_eq_true (by (with_reducible assumption))
                              obtain ⟨ad121, e121, hx121_0⟩ := Kd.at_int HR1.out x45_3 p121 q121
                              cases e121
                              replace hx121_0 := (HB.out.cell (World.block_lt_of_cell? w _ hx121_0)).trans hx121_0
                              replace p121 := eq_true p121
                              replace q121 := eq_true q121
                              go_wp2
                              go_roundg kj11
                              case measure => have := HK1.out; have := HK2.out; have := HK3.out; have := HJ11.out; omega
                              case rel => exact ⟨(wrap64 (x45_3 + 1)), (by rfl), H', ⟨by have := HK1.out; have := HK2.out; have := HK3.out; have := HJ11.out; omega⟩, ⟨by exact HB.out⟩⟩
                            · rw [if_neg c17] at H
                              have c17b0 : (x12_11 == (rd l1 x45_3)) = false := beq_eq_false_iff_ne.mpr c17
                              have c17b1 : (x12_11 != (rd l1 x45_3)) = true := bne_iff_ne.mpr c17
                              obtain rfl := Option.some.inj H
                              have p121 : 0 ≤ (x45_3 : Int) := of_decide_eq_true (by (with_reducible assumption))
                              have q121 : x45_3 < (l1.length : Int) := of_decide_eq_true (by (with_reducible assumption))
                              obtain ⟨ad121, e121, hx121_0⟩ := Kd.at_int HR1.out x45_3 p121 q121
                              cases e121
                              replace hx121_0 := (HB.out.cell (World.block_lt_of_cell? w _ hx121_0)).trans hx121_0
                              replace p121 := eq_true p121
                              replace q121 := eq_true q121
                              go_wp2
                              go_ret
                              exact ⟨by rfl, by exact HB.out⟩
                          · rw [if_neg c15] at H
                            have c15b0 : decide (x45_3 < (l1.length : Int)) = false := decide_eq_false c15
                            clear c15
                            by_cases c18 : x12_11 = 0
                            · rw [if_pos c18] at H
                              have c18b0 : (x12_11 == 0) = true := beq_iff_eq.mpr c18
                              have c18b1 : (x12_11 != 0) = false := bne_eq_false_iff_eq.mpr c18
                              clear c18
                              have H' := am H
                              clear H
                              go_wp2
                              go_roundg kj11
                              case measure => have := HK1.out; have := HK2.out; have := HK3.out; have := HJ11.out; omega
                              case rel => exact ⟨(wrap64 (x45_3 + 1)), (by rfl), H', ⟨by have := HK1.out; have := HK2.out; have := HK3.out; have := HJ11.out; omega⟩, ⟨by exact HB.out⟩⟩
                            · rw [if_neg c18] at H
                              have c18b0 : (x12_11 == 0) = false := beq_eq_false_iff_ne.mpr c18
                              have c18b1 : (x12_11 != 0) = true := bne_iff_ne.mpr c18
                              obtain rfl := Option.some.inj H
                              go_wp2
                              go_ret
                              exact ⟨by rfl, by exact HB.out⟩
                    · rw [if_neg c11] at H
                      have c11b0 : decide (x45_3 < ji10) = false := decide_eq_false c11
                      clear c11
                      obtain rfl := Option.some.inj H
                      go_wp2
                      go_ret
                      exact ⟨by rfl, by exact HB.out⟩
              · rw [if_neg c9] at H
                have c9b0 : (x5_1 == x6_2) = false := beq_eq_false_iff_ne.mpr c9
                have c9b1 : (x5_1 != x6_2) = true := bne_iff_ne.mpr c9
                obtain rfl := Option.some.inj H
                go_wp2
                go_ret
                exact ⟨by rfl, by exact HB.out⟩
end Go.Proofs.Ytkkocmmilmbgpaa.S
end
section
namespace Go.Proofs.Ytkkocmmilmbgpaa.S
open Go.RowKit Go.Proofs.YtkkocmmilmbgpaaW.PrintWords Go.Proofs.YtkkocmmilmbgpaaW.PrintLast Go.Proofs.YtkkocmmilmbgpaaW.PrintMore
attribute [local go_sem] max2_int min2_int max_two min_two max_three min_three max_four min_four
set_option linter.unusedVariables false
set_option linter.unusedSimpArgs false
def Grows (w w' : World) : Prop := Below w.heap.size w w' ∧ w.drawn ≤ w'.drawn
theorem Grows.refl (w : World) : Grows w w := ⟨Below.refl _ _, Nat.le_refl _⟩
theorem Grows.alloc {w W : World} (h : Grows w W) (o : Obj) : Grows w (W.alloc o) := ⟨below_alloc h.1 o, h.2⟩
theorem Grows.drewN {w W : World} (h : Grows w W) (n : Nat) : Grows w (W.drewN n) := ⟨pw_below_drewN h.1 n, Nat.le_trans h.2 (Nat.le_add_right _ _)⟩
theorem Grows.drew {w W : World} (h : Grows w W) : Grows w W.drew := ⟨below_drew h.1, Nat.le_trans h.2 (Nat.le_succ _)⟩
theorem Grows.trans {w W w2 : World} (h : Grows w W) (k : Grows W w2) : Grows w w2 := ⟨below_step h.1 k.1, Nat.le_trans h.2 k.2⟩
theorem Grows.grow {w w' : World} (h : Grows w w') : ∃ q os, w' = Sort.grow (w.drewN q) os := by
  obtain ⟨hb, hd⟩ := h
  refine ⟨w'.drawn - w.drawn, w'.heap.extract w.heap.size w'.heap.size, ?_⟩
  have hheap : w'.heap = w.heap ++ w'.heap.extract w.heap.size w'.heap.size := by
    apply Array.ext_getElem?
    intro i
    by_cases hi : i < w.heap.size
    · rw [Array.getElem?_append_left hi]
      exact hb.block i hi
    · rw [Array.getElem?_append_right (by omega), Array.getElem?_extract]
      have := hb.size
      split
      · congr 1; omega
      · rename_i h2
        rw [Array.getElem?_eq_none (by omega)]
  have hdr : w'.drawn = w.drawn + (w'.drawn - w.drawn) := by omega
  cases w' with
  | mk heap tape drawn os output =>
    simp only [Sort.grow, World.drewN] at *
    have h1 := hb.os
    have h2 := hb.tape
    have h3 := hb.output
    simp only at h1 h2 h3
    rw [h1, h2, h3, ← hheap, ← hdr]
set_option maxHeartbeats 8000000 in
set_option maxRecDepth 100000 in
theorem cost_order.grows (k : Nat) (A0 : Option Addr) (c0 : Nat) (l0 : List Int) (A1 : Option Addr) (c1 : Nat) (l1 : List Int) (r : Int) (w : World) (hr0 : Kd.C (Kd.int .i64) w A0 l0.length l0) (hc0 : l0.length ≤ c0) (hr1 : Kd.C (Kd.int .i64) w A1 l1.length l1) (hc1 : l1.length ≤ c1) (h : cost_order.f k l0 l1 = some r) :
    Calls Try.prog 42 #[.slice A0 l0.length c0, .slice A1 l1.length c1] w fun e w' => e = .returned (.int .i64 r) ∧ Grows w w' := by
  have HR0 := Aside0.mk hr0
  have HC0 := Aside0.mk hc0
  clear hr0 hc0
  have HR1 := Aside0.mk hr1
  have HC1 := Aside0.mk hc1
  clear hr1 hc1
  have HB := Aside0.mk (Grows.refl w)
  have H : (cost_order.l0 k l0 l1 0 0 l0 (l0.length : Int) 0) = some r := h
  clear h
  have H' := Aside0.mk H
  clear H
  go_enter Try.func42, Try.ntmps42
  go_wp2
  go_loopg [5, 16] k (fun kq v5 v16 w' => ∃ (x5_1 : Int) (x16_1 : Int), v5 = .int .i64 x5_1 ∧ v16 = .int .i64 x16_1 ∧ Aside0 (cost_order.l0 kq l0 l1 x5_1 0 l0 (l0.length : Int) x16_1 = some r) ∧ Aside0 (kq ≤ k) ∧ Aside0 (Grows w w'))
  case atStart => exact ⟨(0), (0), (by first | rfl | (simp; done) | (simp [*]; done)), (by first | rfl | (simp; done) | (simp [*]; done)), H', ⟨Nat.le_refl _⟩, ⟨by repeat (first | (with_reducible first | exact HB.out | apply Grows.alloc | apply Grows.drewN | apply Grows.drew) | exact HB.out)⟩⟩
  case round =>
    clear H'
    try clear c1
    try clear p2
    obtain ⟨x5_1, x16_1, rfl, rfl, HA, HK1, HB⟩ := hrel
    cases gk with
    | zero => exact absurd HA.out (by simp [cost_order.l0])
    | succ k1 =>
      have H := HA.out
      clear HA
      simp only [cost_order.l0] at H
      by_cases c3 : x16_1 < (l0.length : Int)
      · rw [if_pos c3] at H
        have c3b0 : decide (x16_1 < (l0.length : Int)) = true := decide_eq_true c3
        clear c3
        by_cases c4 : 0 ≤ x16_1
        · rw [if_pos c4] at H
          have c4b0 : decide (0 ≤ x16_1) = true := decide_eq_true c4
          clear c4
          by_cases c5 : x16_1 < (l0.length : Int)
          · rw [if_pos c5] at H
            have c5b0 : decide (x16_1 < (l0.length : Int)) = true := decide_eq_true c5
            clear c5
            have H' := Aside0.mk H
            clear H
            have p118 : 0 ≤ (x16_1 : Int) := of_decide_eq_true (by first | (with_reducible assumption) | assumption)
            have q118 : x16_1 < (l0.length : Int) := of_decide_eq_true (by first | (with_reducible assumption) | assumption)
            obtain ⟨ad118, e118, hx118_0⟩ := Kd.at_int HR0.out x16_1 p118 q118
            cases e118
            replace hx118_0 := (HB.out.1.cell (World.block_lt_of_cell? w _ hx118_0)).trans hx118_0
            replace p118 := eq_true p118
            replace q118 := eq_true q118
            go_wp2
            go_roundg k1
            case measure => have := HK1.out; omega
            case rel => exact ⟨(wrap64 (x5_1 + (rd l0 x16_1))), (wrap64 (x16_1 + 1)), (by first | rfl | (simp; done) | (simp [*]; done)), (by first | rfl | (simp; done) | (simp [*]; done)), H', ⟨by have := HK1.out; omega⟩, ⟨by repeat (first | (with_reducible first | exact HB.out | apply Grows.alloc | apply Grows.drewN | apply Grows.drew) | exact HB.out)⟩⟩
          · rw [if_neg c5] at H
            exact absurd H (by simp)
        · rw [if_neg c4] at H
          exact absurd H (by simp)
      · rw [if_neg c3] at H
        have c3b0 : decide (x16_1 < (l0.length : Int)) = false := decide_eq_false c3
        clear c3
        have H' := Aside0.mk H
        clear H
        go_wp2
        go_loopg [6, 26] k1 (fun kq v6 v26 w' => ∃ (x6_2 : Int) (x26_2 : Int), v6 = .int .i64 x6_2 ∧ v26 = .int .i64 x26_2 ∧ Aside0 (cost_order.l1 kq l0 l1 x5_1 x6_2 l1 (l1.length : Int) x26_2 = some r) ∧ Aside0 (kq ≤ k1) ∧ Aside0 (Grows w w'))
        case atStart => exact ⟨(0), (0), (by first | rfl | (simp; done) | (simp [*]; done)), (by first | rfl | (simp; done) | (simp [*]; done)), H', ⟨Nat.le_refl _⟩, ⟨by repeat (first | (with_reducible first | exact HB.out | apply Grows.alloc | apply Grows.drewN | apply Grows.drew) | exact HB.out)⟩⟩
        case round =>
          clear H'
          try clear c1
          try clear p1
          try clear q1
          try clear hx1
          try clear p2
          try clear c3
          try clear c3b0
          try clear c4
          try clear c4b0
          try clear c5
          try clear c5b0
          try clear hx118_0
          try clear p118
          try clear p2
          try clear q118
          obtain ⟨x6_2, x26_2, rfl, rfl, HA, HK2, HB⟩ := hrel
          cases gk with
          | zero => exact absurd HA.out (by simp [cost_order.l1])
          | succ k2 =>
            have H := HA.out
            clear HA
            simp only [cost_order.l1] at H
            by_cases c6 : x26_2 < (l1.length : Int)
            · rw [if_pos c6] at H
              have c6b0 : decide (x26_2 < (l1.length : Int)) = true := decide_eq_true c6
              clear c6
              by_cases c7 : 0 ≤ x26_2
              · rw [if_pos c7] at H
                have c7b0 : decide (0 ≤ x26_2) = true := decide_eq_true c7
                clear c7
                by_cases c8 : x26_2 < (l1.length : Int)
                · rw [if_pos c8] at H
                  have c8b0 : decide (x26_2 < (l1.length : Int)) = true := decide_eq_true c8
                  clear c8
                  have H' := Aside0.mk H
                  clear H
                  have p119 : 0 ≤ (x26_2 : Int) := of_decide_eq_true (by first | (with_reducible assumption) | assumption)
                  have q119 : x26_2 < (l1.length : Int) := of_decide_eq_true (by first | (with_reducible assumption) | assumption)
                  obtain ⟨ad119, e119, hx119_0⟩ := Kd.at_int HR1.out x26_2 p119 q119
                  cases e119
                  replace hx119_0 := (HB.out.1.cell (World.block_lt_of_cell? w _ hx119_0)).trans hx119_0
                  replace p119 := eq_true p119
                  replace q119 := eq_true q119
                  go_wp2
                  go_roundg k2
                  case measure => have := HK1.out; have := HK2.out; omega
                  case rel => exact ⟨(wrap64 (x6_2 + (rd l1 x26_2))), (wrap64 (x26_2 + 1)), (by first | rfl | (simp; done) | (simp [*]; done)), (by first | rfl | (simp; done) | (simp [*]; done)), H', ⟨by have := HK1.out; have := HK2.out; omega⟩, ⟨by repeat (first | (with_reducible first | exact HB.out | apply Grows.alloc | apply Grows.drewN | apply Grows.drew) | exact HB.out)⟩⟩
                · rw [if_neg c8] at H
                  exact absurd H (by simp)
              · rw [if_neg c7] at H
                exact absurd H (by simp)
            · rw [if_neg c6] at H
              have c6b0 : decide (x26_2 < (l1.length : Int)) = false := decide_eq_false c6
              clear c6
              by_cases c9 : x5_1 = x6_2
              · rw [if_pos c9] at H
                have c9b0 : (x5_1 == x6_2) = true := beq_iff_eq.mpr c9
                have c9b1 : (x5_1 != x6_2) = false := bne_eq_false_iff_eq.mpr c9
                clear c9
                obtain ⟨ji10, hji10⟩ : ∃ j_ : Int, (mx (l0.length : Int) (l1.length : Int)) = j_ := ⟨_, rfl⟩
                replace H : (cost_order.l2 k2 l0 l1 ji10 0) = some r := by first | (rw [hji10] at H; exact H) | (simp only [hji10] at H ⊢; exact H)
                have hji10_ : (if (l0.length : Int) < (l1.length : Int) then (l1.length : Int) else (l0.length : Int)) = ji10 := hji10
                have hji10n : (if l0.length < l1.length then (l1.length : Int) else (l0.length : Int)) = ji10 := by rw [← hji10_]; simp only [Int.ofNat_lt]
                have H' := Aside0.mk H
                clear H
                go_wp2
                go_loopg [45] k2 (fun kq v45 w' => ∃ (x45_3 : Int), v45 = .int .i64 x45_3 ∧ Aside0 (cost_order.l2 kq l0 l1 ji10 x45_3 = some r) ∧ Aside0 (kq ≤ k2) ∧ Aside0 (Grows w w'))
                case atStart => exact ⟨(0), (by first | rfl | (simp; done) | (simp [*]; done)), H', ⟨Nat.le_refl _⟩, ⟨by repeat (first | (with_reducible first | exact HB.out | apply Grows.alloc | apply Grows.drewN | apply Grows.drew) | exact HB.out)⟩⟩
                case round =>
                  clear H'
                  try clear c1
                  try clear p1
                  try clear q1
                  try clear hx1
                  try clear p2
                  try clear c3
                  try clear c3b0
                  try clear c4
                  try clear c4b0
                  try clear c5
                  try clear c5b0
                  try clear c6
                  try clear c6b0
                  try clear p6
                  try clear c7
                  try clear c7b0
                  try clear c8
                  try clear c8b0
                  try clear c9
                  try clear c9b0
                  try clear c9b1
                  try clear hx118_0
                  try clear hx119_0
                  try clear p1
                  try clear p118
                  try clear p119
                  try clear p2
                  try clear q1
                  try clear q118
                  try clear q119
                  obtain ⟨x45_3, rfl, HA, HK3, HB⟩ := hrel
                  cases gk with
                  | zero => exact absurd HA.out (by simp [cost_order.l2])
                  | succ k3 =>
                    have H := HA.out
                    clear HA
                    simp only [cost_order.l2] at H
                    by_cases c11 : x45_3 < ji10
                    · rw [if_pos c11] at H
                      have c11b0 : decide (x45_3 < ji10) = true := decide_eq_true c11
                      clear c11
                      have HC12 := Aside0.mk H
                      clear H
                      go_upto_if 51 with (fail)
                      go_cut [12] (fun v12 wc => ∃ (kq : Nat) (x12_11 : Int), v12 = .int .i64 x12_11 ∧ Aside0 (cost_order.j3 kq l0 l1 x45_3 x12_11 0 ji10 x45_3 = some r) ∧ Aside0 (kq ≤ k3) ∧ Aside0 (Grows w wc))
                      case first =>
                        have H := HC12.out
                        clear HC12
                        by_cases c13 : x45_3 < (l0.length : Int)
                        · rw [if_pos c13] at H
                          have c13b0 : decide (x45_3 < (l0.length : Int)) = true := decide_eq_true c13
                          clear c13
                          (first | rw [c13b0] | (simp only [i64_w, i32_w]; rw [c13b0]) | skip)
                          by_cases c14 : 0 ≤ x45_3
                          · rw [if_pos c14] at H
                            have c14b0 : decide (0 ≤ x45_3) = true := decide_eq_true c14
                            clear c14
                            have H' := Aside0.mk H
                            clear H
                            have p120 : 0 ≤ (x45_3 : Int) := of_decide_eq_true (by first | (with_reducible assumption) | assumption)
                            have q120 : x45_3 < (l0.length : Int) := of_decide_eq_true (by first | (with_reducible assumption) | assumption)
                            obtain ⟨ad120, e120, hx120_0⟩ := Kd.at_int HR0.out x45_3 p120 q120
                            cases e120
                            replace hx120_0 := (HB.out.1.cell (World.block_lt_of_cell? w _ hx120_0)).trans hx120_0
                            replace p120 := eq_true p120
                            replace q120 := eq_true q120
                            go_wp2
                            go_meet
                            case rel => exact ⟨_, (rd l0 x45_3), (by first | rfl | (simp; done) | (simp [*]; done)), H', ⟨by have := HK1.out; have := HK2.out; have := HK3.out; first | omega | exact Nat.le_refl _⟩, ⟨by repeat (first | (with_reducible first | exact HB.out | apply Grows.alloc | apply Grows.drewN | apply Grows.drew) | exact HB.out)⟩⟩
                          · rw [if_neg c14] at H
                            exact absurd H (by simp)
                        · rw [if_neg c13] at H
                          have c13b0 : decide (x45_3 < (l0.length : Int)) = false := decide_eq_false c13
                          clear c13
                          (first | rw [c13b0] | (simp only [i64_w, i32_w]; rw [c13b0]) | skip)
                          have H' := Aside0.mk H
                          clear H
                          go_wp2
                          go_meet
                          case rel => exact ⟨_, (0), (by first | rfl | (simp; done) | (simp [*]; done)), H', ⟨by have := HK1.out; have := HK2.out; have := HK3.out; first | omega | exact Nat.le_refl _⟩, ⟨by repeat (first | (with_reducible first | exact HB.out | apply Grows.alloc | apply Grows.drewN | apply Grows.drew) | exact HB.out)⟩⟩
                      case rest =>
                        clear HC12
                        try clear c1
                        try clear p1
                        try clear q1
                        try clear hx1
                        try clear p2
                        try clear c3
                        try clear c3b0
                        try clear c4
                        try clear c4b0
                        try clear c5
                        try clear c5b0
                        try clear c6
                        try clear c6b0
                        try clear p6
                        try clear c7
                        try clear c7b0
                        try clear c8
                        try clear c8b0
                        try clear c9
                        try clear c9b0
                        try clear c9b1
                        try clear c11
                        try clear c11b0
                        try clear p11
                        try clear q11
                        try clear hx11
                        try clear p12
                        try clear q12
                        try clear hx12
                        try clear c13
                        try clear c13b0
                        try clear c14
                        try clear c14b0
                        try clear hx118_0
                        try clear hx119_0
                        try clear hx120_0
                        try clear p1
                        try clear p118
                        try clear p119
                        try clear p120
                        try clear p2
                        try clear p6
                        try clear q1
                        try clear q118
                        try clear q119
                        try clear q120
                        obtain ⟨kq, x12_11, rfl, HA, HJ11, HB⟩ := hcut
                        cases kq with
                        | zero => exact absurd HA.out (by simp [cost_order.j3])
                        | succ kj11 =>
                          have H := HA.out
                          clear HA
                          simp only [cost_order.j3] at H
                          by_cases c15 : x45_3 < (l1.length : Int)
                          · rw [if_pos c15] at H
                            have c15b0 : decide (x45_3 < (l1.length : Int)) = true := decide_eq_true c15
                            clear c15
                            by_cases c16 : 0 ≤ x45_3
                            · rw [if_pos c16] at H
                              have c16b0 : decide (0 ≤ x45_3) = true := decide_eq_true c16
                              clear c16
                              by_cases c17 : x12_11 = (rd l1 x45_3)
                              · rw [if_pos c17] at H
                                have c17b0 : (x12_11 == (rd l1 x45_3)) = true := beq_iff_eq.mpr c17
                                have c17b1 : (x12_11 != (rd l1 x45_3)) = false := bne_eq_false_iff_eq.mpr c17
                                clear c17
                                have H' := Aside0.mk H
                                clear H
                                have p121 : 0 ≤ (x45_3 : Int) := of_decide_eq_true (by first | (with_reducible assumption) | assumption)
                                have q121 : x45_3 < (l1.length : Int) := of_decide_eq_true (by first | (with_reducible assumption) | assumption)
                                obtain ⟨ad121, e121, hx121_0⟩ := Kd.at_int HR1.out x45_3 p121 q121
                                cases e121
                                replace hx121_0 := (HB.out.1.cell (World.block_lt_of_cell? w _ hx121_0)).trans hx121_0
                                replace p121 := eq_true p121
                                replace q121 := eq_true q121
                                go_wp2
                                go_roundg kj11
                                case measure => have := HK1.out; have := HK2.out; have := HK3.out; have := HJ11.out; omega
                                case rel => exact ⟨(wrap64 (x45_3 + 1)), (by first | rfl | (simp; done) | (simp [*]; done)), H', ⟨by have := HK1.out; have := HK2.out; have := HK3.out; have := HJ11.out; omega⟩, ⟨by repeat (first | (with_reducible first | exact HB.out | apply Grows.alloc | apply Grows.drewN | apply Grows.drew) | exact HB.out)⟩⟩
                              · rw [if_neg c17] at H
                                have c17b0 : (x12_11 == (rd l1 x45_3)) = false := beq_eq_false_iff_ne.mpr c17
                                have c17b1 : (x12_11 != (rd l1 x45_3)) = true := bne_iff_ne.mpr c17
                                obtain rfl := Option.some.inj H
                                have p121 : 0 ≤ (x45_3 : Int) := of_decide_eq_true (by first | (with_reducible assumption) | assumption)
                                have q121 : x45_3 < (l1.length : Int) := of_decide_eq_true (by first | (with_reducible assumption) | assumption)
                                obtain ⟨ad121, e121, hx121_0⟩ := Kd.at_int HR1.out x45_3 p121 q121
                                cases e121
                                replace hx121_0 := (HB.out.1.cell (World.block_lt_of_cell? w _ hx121_0)).trans hx121_0
                                replace p121 := eq_true p121
                                replace q121 := eq_true q121
                                go_wp2
                                go_ret
                                exact ⟨by first | rfl | (simp [errW_none, errW_some] <;> rfl) | (simp only [← hji10]; first | rfl | (simp [errW_none, errW_some] <;> rfl)) | (simp [*, errW_none, errW_some] <;> rfl), by repeat (first | (with_reducible first | exact HB.out | apply Grows.alloc | apply Grows.drewN | apply Grows.drew) | exact HB.out)⟩
                            · rw [if_neg c16] at H
                              exact absurd H (by simp)
                          · rw [if_neg c15] at H
                            have c15b0 : decide (x45_3 < (l1.length : Int)) = false := decide_eq_false c15
                            clear c15
                            by_cases c18 : x12_11 = 0
                            · rw [if_pos c18] at H
                              have c18b0 : (x12_11 == 0) = true := beq_iff_eq.mpr c18
                              have c18b1 : (x12_11 != 0) = false := bne_eq_false_iff_eq.mpr c18
                              clear c18
                              have H' := Aside0.mk H
                              clear H
                              go_wp2
                              go_roundg kj11
                              case measure => have := HK1.out; have := HK2.out; have := HK3.out; have := HJ11.out; omega
                              case rel => exact ⟨(wrap64 (x45_3 + 1)), (by first | rfl | (simp; done) | (simp [*]; done)), H', ⟨by have := HK1.out; have := HK2.out; have := HK3.out; have := HJ11.out; omega⟩, ⟨by repeat (first | (with_reducible first | exact HB.out | apply Grows.alloc | apply Grows.drewN | apply Grows.drew) | exact HB.out)⟩⟩
                            · rw [if_neg c18] at H
                              have c18b0 : (x12_11 == 0) = false := beq_eq_false_iff_ne.mpr c18
                              have c18b1 : (x12_11 != 0) = true := bne_iff_ne.mpr c18
                              obtain rfl := Option.some.inj H
                              go_wp2
                              go_ret
                              exact ⟨by first | rfl | (simp [errW_none, errW_some] <;> rfl) | (simp only [← hji10]; first | rfl | (simp [errW_none, errW_some] <;> rfl)) | (simp [*, errW_none, errW_some] <;> rfl), by repeat (first | (with_reducible first | exact HB.out | apply Grows.alloc | apply Grows.drewN | apply Grows.drew) | exact HB.out)⟩
                    · rw [if_neg c11] at H
                      have c11b0 : decide (x45_3 < ji10) = false := decide_eq_false c11
                      clear c11
                      obtain rfl := Option.some.inj H
                      go_wp2
                      go_ret
                      exact ⟨by first | rfl | (simp [errW_none, errW_some] <;> rfl) | (simp only [← hji10]; first | rfl | (simp [errW_none, errW_some] <;> rfl)) | (simp [*, errW_none, errW_some] <;> rfl), by repeat (first | (with_reducible first | exact HB.out | apply Grows.alloc | apply Grows.drewN | apply Grows.drew) | exact HB.out)⟩
              · rw [if_neg c9] at H
                have c9b0 : (x5_1 == x6_2) = false := beq_eq_false_iff_ne.mpr c9
                have c9b1 : (x5_1 != x6_2) = true := bne_iff_ne.mpr c9
                obtain rfl := Option.some.inj H
                go_wp2
                go_ret
                exact ⟨by first | rfl | (simp [errW_none, errW_some] <;> rfl) | (simp [*, errW_none, errW_some] <;> rfl), by repeat (first | (with_reducible first | exact HB.out | apply Grows.alloc | apply Grows.drewN | apply Grows.drew) | exact HB.out)⟩
end Go.Proofs.Ytkkocmmilmbgpaa.S
end
section
namespace Go.Proofs.Ytkkocmmilmbgpaa.S
open Go.RowKit Go.Proofs.YtkkocmmilmbgpaaW.PrintWords Go.Proofs.YtkkocmmilmbgpaaW.PrintLast Go.Proofs.YtkkocmmilmbgpaaW.PrintMore
attribute [local go_sem] max2_int min2_int max_two min_two max_three min_three max_four min_four
set_option linter.unusedVariables false
set_option linter.unusedSimpArgs false
def cost_normal_1.f (k : Nat) (a0_0 : Int) (l0_1 : List Int) (a1_0 : Int) (l1_1 : List Int) : Option (Int) := (cost_order.f k l0_1 l1_1).bind fun t124 => (some t124)
theorem cost_normal_1.mono : ∀ a0 a1 a2 a3 k, LeO (cost_normal_1.f k a0 a1 a2 a3) (cost_normal_1.f (k + 1) a0 a1 a2 a3) := by
  intro a0 a1 a2 a3 k
  unfold cost_normal_1.f
  repeat' first
      | (with_reducible exact cost_order.mono _ _ _)
      | (with_reducible exact LeO.refl _)
      | (with_reducible exact LeO.none _)
      | (with_reducible refine LeO.ite ?_ ?_)
      | (with_reducible refine LeO.bind ?_ (fun _ => ?_))
      | exact cost_order.mono _ _ _
      | exact LeO.none _
      | refine LeO.ite ?_ ?_
      | refine LeO.bind ?_ (fun _ => ?_)
set_option maxHeartbeats 8000000 in
set_option maxRecDepth 100000 in
theorem cost_normal_1.calls (k : Nat) (a0_0 : Int) (A0_1 : Option Addr) (c0_1 : Nat) (l0_1 : List Int) (a1_0 : Int) (A1_1 : Option Addr) (c1_1 : Nat) (l1_1 : List Int) (r : Int) (w : World) (hr0_1 : Kd.C (Kd.int .i64) w A0_1 l0_1.length l0_1) (hc0_1 : l0_1.length ≤ c0_1) (hr1_1 : Kd.C (Kd.int .i64) w A1_1 l1_1.length l1_1) (hc1_1 : l1_1.length ≤ c1_1) (h : cost_normal_1.f k a0_0 l0_1 a1_0 l1_1 = some r) :
    Calls Try.prog 41 #[.agg #[.int .u64 a0_0, .slice A0_1 l0_1.length c0_1], .agg #[.int .u64 a1_0, .slice A1_1 l1_1.length c1_1]] w fun e w' => e = .returned (.int .i64 r) ∧ Below w.heap.size w w' := by
  have hu39 := Try.underlying39
  have HR0_1 := Aside0.mk hr0_1
  have HC0_1 := Aside0.mk hc0_1
  clear hr0_1 hc0_1
  have HR1_1 := Aside0.mk hr1_1
  have HC1_1 := Aside0.mk hc1_1
  clear hr1_1 hc1_1
  have HB := Aside0.mk (Below.refl w.heap.size w)
  have H : ((cost_order.f k l0_1 l1_1).bind fun t124 => (some t124)) = some r := h
  clear h
  replace H := Option.bind_eq_some_iff.mp H
  obtain ⟨t124, A30, H⟩ := H
  replace H : (some t124) = some r := H
  have A3 := Aside0.mk A30
  clear A30
  obtain rfl := Option.some.inj H
  go_enter Try.func41, Try.ntmps41
  go_wp2_with (first | ((with_reducible refine gate_dst (N := 2) rfl ?_); refine box_event ?hg (N := 2) ?hd (cs := #[.int .u64 a0_0, .slice A0_1 l0_1.length c0_1]) (t := 39) ?hr ?_; (case hd => rfl); (case hg => rfl); (case hr => first | (go_simp; done) | (go_simp; rfl)); intro gb122 hg w4 hbox hb; have n0_ := Aside0.mk (below_step (by repeat (first | (with_reducible first | exact HB.out | apply below_alloc | apply pw_below_drewN | apply below_drew1) | exact HB.out)) hb); have n1_ := Aside0.mk (hbox); have n2_ := Aside0.mk ((by rw [hg]; exact (below_size (by repeat (first | (with_reducible first | exact HB.out | apply below_alloc | apply pw_below_drewN | apply below_drew1) | exact HB.out))) : w.heap.size ≤ gb122)); have n3_ := Aside0.mk ((by rw [hg]; exact (below_size (by repeat (first | (with_reducible first | exact HB.out | apply below_alloc | apply pw_below_drewN | apply below_drew1) | exact HB.out))) : w.heap.size ≤ gb122)); clear HB; have HB := n0_; have BK122 := n1_; have GW122 := n2_; have GE122 := n3_; clear n0_ n1_ n2_ n3_; clear hb hbox hg) | ((with_reducible refine gate_dst (N := 3) rfl ?_); refine box_event ?hg (N := 3) ?hd (cs := #[.int .u64 a1_0, .slice A1_1 l1_1.length c1_1]) (t := 39) ?hr ?_; (case hd => rfl); (case hg => rfl); (case hr => first | (go_simp; done) | (go_simp; rfl)); intro gb123 hg w5 hbox hb; have n0_ := Aside0.mk (blk_below (g := gb122) (o := .cells #[.int .u64 a0_0, .slice A0_1 l0_1.length c0_1] 39 (0, 0)) (by (with_reducible repeat (first | refine blk_drewN ?_ _ | refine blk_drew ?_ | refine blk_alloc ?_ _)); exact BK122.out) hb); have n1_ := Aside0.mk (below_step (by repeat (first | (with_reducible first | exact HB.out | apply below_alloc | apply pw_below_drewN | apply below_drew1 | refine below_set ?_ GE122.out) | exact HB.out)) hb); have n2_ := Aside0.mk (hbox); have n3_ := Aside0.mk ((by rw [hg]; exact (below_size (by repeat (first | (with_reducible first | exact HB.out | apply below_alloc | apply pw_below_drewN | apply below_drew1 | refine below_set ?_ GE122.out) | exact HB.out))) : w.heap.size ≤ gb123)); have n4_ := Aside0.mk ((by rw [hg]; exact (below_size (by repeat (first | (with_reducible first | exact HB.out | apply below_alloc | apply pw_below_drewN | apply below_drew1 | refine below_set ?_ GE122.out) | exact HB.out))) : w.heap.size ≤ gb123)); have n5_ := Aside0.mk ((by rw [hg]; exact Nat.ne_of_lt (blk_lt (g := gb122) (o := .cells #[.int .u64 a0_0, .slice A0_1 l0_1.length c0_1] 39 (0, 0)) (by (with_reducible repeat (first | refine blk_drewN ?_ _ | refine blk_drew ?_ | refine blk_alloc ?_ _)); exact BK122.out)) : gb122 ≠ gb123)); have n6_ := Aside0.mk ((by rw [hg]; exact Nat.ne_of_gt (blk_lt (g := gb122) (o := .cells #[.int .u64 a0_0, .slice A0_1 l0_1.length c0_1] 39 (0, 0)) (by (with_reducible repeat (first | refine blk_drewN ?_ _ | refine blk_drew ?_ | refine blk_alloc ?_ _)); exact BK122.out)) : gb123 ≠ gb122)); clear BK122; clear HB; have BK122 := n0_; have HB := n1_; have BK123 := n2_; have GW123 := n3_; have GE123 := n4_; have NB122_123 := n5_; have NB123_122 := n6_; clear n0_ n1_ n2_ n3_ n4_ n5_ n6_; clear hb hbox hg; have hnb6 := eq_false NB122_123.out; have hnc6 := eq_false NB123_122.out; have hcz7_0 : w5.cell? ⟨gb122, 0, none⟩ = some (.int .u64 a0_0) := (blk_cell BK122.out 0).trans rfl; have hcz7_1 : w5.cell? ⟨gb122, 1, none⟩ = some (.slice A0_1 l0_1.length c0_1) := (blk_cell BK122.out 1).trans rfl; have hfz7_0 := blk_frozen BK122.out 0; have hfz7_1 := blk_frozen BK122.out 1; have hcz8_0 : w5.cell? ⟨gb123, 0, none⟩ = some (.int .u64 a1_0) := (blk_cell BK123.out 0).trans rfl; have hcz8_1 : w5.cell? ⟨gb123, 1, none⟩ = some (.slice A1_1 l1_1.length c1_1) := (blk_cell BK123.out 1).trans rfl; have hfz8_0 := blk_frozen BK123.out 0; have hfz8_1 := blk_frozen BK123.out 1) | ((with_reducible refine gate_callee (f := 42) rfl ?_); refine goesL_ (some 9) rfl rfl Try.func42 (by kernel_rfl) rfl #[.slice A0_1 l0_1.length c0_1, .slice A1_1 l1_1.length c1_1] rfl (by (try simp only [List.map_toArray, List.map_cons, List.map_nil]); first | done | rfl | (simp only [List.length_drop, List.length_take]; rfl)) ?_; (with_reducible refine (cost_order.calls k _ _ l0_1 _ _ l1_1 t124 _ ?side1 ?side2 ?side3 ?side4 A3.out).mono ?_); (case side1 => repeat (first | exact (Kd.C_below HR0_1.out HB.out) | (with_reducible refine Kd.C_alloc ?_ _) | (with_reducible refine Kd.C_drewN ?_ _) | (with_reducible refine Kd.C_drew ?_))); (case side2 => exact HC0_1.out); (case side3 => repeat (first | exact (Kd.C_below HR1_1.out HB.out) | (with_reducible refine Kd.C_alloc ?_ _) | (with_reducible refine Kd.C_drewN ?_ _) | (with_reducible refine Kd.C_drew ?_))); (case side4 => exact HC1_1.out); rintro e w9 ⟨rfl, hb⟩; refine ⟨_, rfl, ?_⟩; have n0_ := Aside0.mk (blk_below (g := gb122) (o := .cells #[.int .u64 a0_0, .slice A0_1 l0_1.length c0_1] 39 (0, 0)) (by (with_reducible repeat (first | refine blk_drewN ?_ _ | refine blk_drew ?_ | refine blk_alloc ?_ _)); exact BK122.out) hb); have n1_ := Aside0.mk (blk_below (g := gb123) (o := .cells #[.int .u64 a1_0, .slice A1_1 l1_1.length c1_1] 39 (0, 0)) (by (with_reducible repeat (first | refine blk_drewN ?_ _ | refine blk_drew ?_ | refine blk_alloc ?_ _)); exact BK123.out) hb); have n2_ := Aside0.mk (below_step (by repeat (first | (with_reducible first | exact HB.out | apply below_alloc | apply pw_below_drewN | apply below_drew1 | refine below_set ?_ GE122.out | refine below_set ?_ GE123.out) | exact HB.out)) hb); clear BK122; clear BK123; clear HB; have BK122 := n0_; have BK123 := n1_; have HB := n2_; clear n0_ n1_ n2_; (try clear hb); (try clear hb2); (try clear hk); (try clear hi)))
  go_ret
  exact ⟨by first | rfl | (simp [errW_none, errW_some] <;> rfl) | (simp [*, errW_none, errW_some] <;> rfl), by repeat (first | (with_reducible first | exact HB.out | apply below_alloc | apply pw_below_drewN | apply below_drew1 | refine below_set ?_ GE122.out | refine below_set ?_ GE123.out) | exact HB.out)⟩
end Go.Proofs.Ytkkocmmilmbgpaa.S
end
section
namespace Go.Proofs.Ytkkocmmilmbgpaa.S
open Go.RowKit Go.Proofs.YtkkocmmilmbgpaaW.PrintWords
set_option linter.unusedVariables false
def sumW : Int → List Int → Int
  | a, [] => a
  | a, x :: l => sumW (wrap64 (a + x)) l
def cmpN : List Int → Int
  | [] => 0
  | y :: b => if 0 = y then cmpN b else wrap64 (y - 0)
def cmpT : List Int → List Int → Int
  | [], b => cmpN b
  | x :: a, [] => if x = 0 then cmpT a [] else wrap64 (0 - x)
  | x :: a, y :: b => if x = y then cmpT a b else wrap64 (y - x)
def ordT (a b : List Int) : Int := if sumW 0 a = sumW 0 b then cmpT a b else wrap64 (sumW 0 b - sumW 0 a)
theorem drop_rd {l : List Int} {i : Nat} (hi : i < l.length) : l.drop i = rd l (i : Int) :: l.drop (i + 1) := by
  unfold rd
  rw [Int.toNat_natCast, List.drop_eq_getElem_cons hi, List.getD_eq_getElem?_getD, List.getElem?_eq_getElem hi]
  rfl
theorem w1 (i : Nat) (h : i < 9223372036854775807) : wrap64 ((i : Int) + 1) = ((i + 1 : Nat) : Int) := by unfold wrap64; omega
theorem ord_l2 (a b : List Int) (ha : a.length < 4611686018427387904) (hb : b.length < 4611686018427387904) (m : Int) (hm : m = mx (a.length : Int) (b.length : Int)) : ∀ (d i : Nat), (i + d : Int) = m → ∀ k, 2 * d + 2 ≤ k → cost_order.l2 k a b m (i : Int) = some (cmpT (a.drop i) (b.drop i))
  | 0, i, h, k, hk => by
    obtain ⟨k, rfl⟩ : ∃ j, k = j + 1 := ⟨k - 1, by omega⟩
    have hge : (a.length : Int) ≤ m ∧ (b.length : Int) ≤ m := by rw [hm]; unfold mx; split <;> omega
    rw [cost_order.l2, if_neg (by omega), List.drop_eq_nil_of_le (by omega), List.drop_eq_nil_of_le (by omega)]
    rfl
  | d + 1, i, h, k, hk => by
    obtain ⟨k, rfl⟩ : ∃ j, k = j + 1 + 1 := ⟨k - 2, by omega⟩
    have hge : (m = (a.length : Int) ∨ m = (b.length : Int)) := by rw [hm]; unfold mx; split <;> simp
    have ih := ord_l2 a b ha hb m hm d (i + 1) (by omega) k (by omega)
    have hw : wrap64 ((i : Int) + 1) = ((i + 1 : Nat) : Int) := w1 i (by omega)
    rw [cost_order.l2, if_pos (by omega)]
    by_cases h1 : i < a.length
    · rw [if_pos (by omega), if_pos (by omega), cost_order.j3, drop_rd h1]
      by_cases h2 : i < b.length
      · rw [if_pos (by omega), if_pos (by omega), drop_rd h2]
        unfold cmpT
        by_cases h3 : rd a (i : Int) = rd b (i : Int)
        · rw [if_pos h3, if_pos h3, hw, ih]
        · rw [if_neg h3, if_neg h3]
      · have e : b.drop i = [] := List.drop_eq_nil_of_le (by omega)
        have e2 : b.drop (i + 1) = [] := List.drop_eq_nil_of_le (by omega)
        rw [if_neg (by omega), e]
        rw [e2] at ih
        unfold cmpT
        by_cases h3 : rd a (i : Int) = 0
        · rw [if_pos h3, if_pos h3, hw, ih]
        · rw [if_neg h3, if_neg h3]
    · have e : a.drop i = [] := List.drop_eq_nil_of_le (by omega)
      have e2 : a.drop (i + 1) = [] := List.drop_eq_nil_of_le (by omega)
      have h2 : i < b.length := by omega
      rw [if_neg (by omega), cost_order.j3, if_pos (by omega), if_pos (by omega), e, drop_rd h2]
      rw [e2] at ih
      show _ = some (cmpN (rd b (i : Int) :: b.drop (i + 1)))
      unfold cmpN
      by_cases h3 : 0 = rd b (i : Int)
      · rw [if_pos h3, if_pos h3, hw, ih]
        rfl
      · rw [if_neg h3, if_neg h3]
theorem ord_l1 (a b : List Int) (ha : a.length < 4611686018427387904) (hb : b.length < 4611686018427387904) (x : Int) : ∀ (d i : Nat), i + d = b.length → ∀ (y : Int) k, d + 2 * (a.length + b.length) + 5 ≤ k →
    cost_order.l1 k a b x y b (b.length : Int) (i : Int) = some (if x = sumW y (b.drop i) then cmpT a b else wrap64 (sumW y (b.drop i) - x))
  | 0, i, h, y, k, hk => by
    obtain ⟨k, rfl⟩ : ∃ j, k = j + 1 := ⟨k - 1, by omega⟩
    rw [cost_order.l1, if_neg (by omega), List.drop_eq_nil_of_le (by omega)]
    unfold sumW
    by_cases hx : x = y
    · rw [if_pos hx, if_pos hx]
      have hmx : ∃ M : Nat, mx (a.length : Int) (b.length : Int) = (M : Int) ∧ M ≤ a.length + b.length := by
        unfold mx; split
        · exact ⟨b.length, rfl, by omega⟩
        · exact ⟨a.length, rfl, by omega⟩
      obtain ⟨M, hM, hM2⟩ := hmx
      have := ord_l2 a b ha hb (mx (a.length : Int) (b.length : Int)) rfl M 0 (by rw [hM]; simp) k (by omega)
      rw [List.drop_zero, List.drop_zero] at this
      exact this
    · rw [if_neg hx, if_neg hx]
  | d + 1, i, h, y, k, hk => by
    obtain ⟨k, rfl⟩ : ∃ j, k = j + 1 := ⟨k - 1, by omega⟩
    have hi : i < b.length := by omega
    rw [cost_order.l1, if_pos (by omega), if_pos (by omega), if_pos (by omega), w1 i (by omega), ord_l1 a b ha hb x d (i + 1) (by omega) _ k (by omega), drop_rd hi]
    rfl
theorem ord_l0 (a b : List Int) (ha : a.length < 4611686018427387904) (hb : b.length < 4611686018427387904) : ∀ (d i : Nat), i + d = a.length → ∀ (x : Int) k, d + 3 * (a.length + b.length) + 7 ≤ k →
    cost_order.l0 k a b x 0 a (a.length : Int) (i : Int) = some (if sumW x (a.drop i) = sumW 0 b then cmpT a b else wrap64 (sumW 0 b - sumW x (a.drop i)))
  | 0, i, h, x, k, hk => by
    obtain ⟨k, rfl⟩ : ∃ j, k = j + 1 := ⟨k - 1, by omega⟩
    rw [cost_order.l0, if_neg (by omega), List.drop_eq_nil_of_le (by omega)]
    have := ord_l1 a b ha hb x b.length 0 (by omega) 0 k (by omega)
    rw [List.drop_zero] at this
    exact this
  | d + 1, i, h, x, k, hk => by
    obtain ⟨k, rfl⟩ : ∃ j, k = j + 1 := ⟨k - 1, by omega⟩
    have hi : i < a.length := by omega
    rw [cost_order.l0, if_pos (by omega), if_pos (by omega), if_pos (by omega), w1 i (by omega), ord_l0 a b ha hb d (i + 1) (by omega) _ k (by omega), drop_rd hi]
    rfl
theorem order_eq (a b : List Int) (ha : a.length < 4611686018427387904) (hb : b.length < 4611686018427387904) (k : Nat) (hk : 4 * (a.length + b.length) + 10 ≤ k) : cost_order.f k a b = some (ordT a b) := by
  have := ord_l0 a b ha hb a.length 0 (by omega) 0 k (by omega)
  rw [List.drop_zero] at this
  exact this
instance : Inhabited S39 := ⟨z39⟩
section
variable {α β : Type} [Inhabited α] [Inhabited β]
theorem get_map (f : α → β) (hf : f default = default) (d : Array α) (i : Nat) : (d.map f)[i]! = f d[i]! := by
  by_cases h : i < d.size
  · rw [getElem!_pos (d.map f) i (by simpa using h), getElem!_pos d i h, Array.getElem_map]
  · rw [getElem!_neg (d.map f) i (by simpa using h), getElem!_neg d i h, hf]
theorem swp_map (f : α → β) (hf : f default = default) (d : Array α) (i j : Nat) : (Sort.swp d i j).map f = Sort.swp (d.map f) i j := by
  unfold Sort.swp
  rw [get_map f hf, get_map f hf, Array.map_setIfInBounds, Array.map_setIfInBounds]
theorem insInner_map (f : α → β) (hf : f default = default) (lt : α → α → Bool) (lt' : β → β → Bool) (hl : ∀ x y, lt x y = lt' (f x) (f y)) (a : Nat) : ∀ (j : Nat) (d : Array α), (Sort.insInner lt a j d).map f = Sort.insInner lt' a j (d.map f)
  | 0, d => rfl
  | j + 1, d => by
    unfold Sort.insInner
    rw [get_map f hf, get_map f hf, ← hl]
    split
    · rw [insInner_map f hf lt lt' hl a j, swp_map f hf]
    · rfl
def insF (lt : α → α → Bool) (a b : Nat) : Nat → Nat → Array α → Array α
  | 0, _, d => d
  | n + 1, i, d => if i < b then insF lt a b n (i + 1) (Sort.insInner lt a i d) else d
theorem insF_eq (lt : α → α → Bool) (a b : Nat) : ∀ (n i : Nat) (d : Array α), b - i ≤ n → Sort.insOuter lt a b i d = insF lt a b n i d
  | 0, i, d, h => by
    rw [Sort.insOuter, if_neg (by omega)]
    rfl
  | n + 1, i, d, h => by
    rw [Sort.insOuter]
    unfold insF
    split
    · exact insF_eq lt a b n (i + 1) _ (by omega)
    · rfl
theorem insF_map (f : α → β) (hf : f default = default) (lt : α → α → Bool) (lt' : β → β → Bool) (hl : ∀ x y, lt x y = lt' (f x) (f y)) (a b : Nat) : ∀ (n i : Nat) (d : Array α), (insF lt a b n i d).map f = insF lt' a b n i (d.map f)
  | 0, i, d => rfl
  | n + 1, i, d => by
    unfold insF
    split
    · rw [insF_map f hf lt lt' hl a b n, insInner_map f hf lt lt' hl]
    · rfl
end
end Go.Proofs.Ytkkocmmilmbgpaa.S
end
section
namespace Mg
section
variable {α : Type} (lt : α → α → Bool)
def mg : List α → List α → List α
  | [], R => R
  | l :: L, [] => l :: L
  | l :: L, r :: R => if lt r l then r :: mg (l :: L) R else l :: mg L (r :: R)
termination_by L R => L.length + R.length
theorem mg_nil (R : List α) : mg lt [] R = R := by rw [mg]
theorem mg_nil2 : ∀ L : List α, mg lt L [] = L
  | [] => by rw [mg]
  | l :: L => by rw [mg]
theorem mg_cons (l r : α) (L R : List α) : mg lt (l :: L) (r :: R) = if lt r l then r :: mg lt (l :: L) R else l :: mg lt L (r :: R) := by rw [mg]
theorem mg_split (L2 R2 : List α) : ∀ (n : Nat) (L1 R1 : List α), L1.length + R1.length ≤ n → (∀ l ∈ L1, ∀ r ∈ R2, lt r l = false) → (∀ r ∈ R1, ∀ l ∈ L2, lt r l = true) →
    mg lt (L1 ++ L2) (R1 ++ R2) = mg lt L1 R1 ++ mg lt L2 R2 := by
  intro n
  induction n with
  | zero =>
    intro L1 R1 hn _ _
    have h1 : L1 = [] := List.length_eq_zero_iff.1 (by omega)
    have h2 : R1 = [] := List.length_eq_zero_iff.1 (by omega)
    subst h1; subst h2
    rw [List.nil_append, List.nil_append, mg_nil, List.nil_append]
  | succ n ih =>
    intro L1 R1 hn h1 h2
    match L1, R1 with
    | [], [] => rw [List.nil_append, List.nil_append, mg_nil, List.nil_append]
    | [], r :: R1 =>
      have e := ih [] R1 (by simp at hn ⊢; omega) (fun l hl => by cases hl) (fun r hr => h2 r (List.mem_cons_of_mem _ hr))
      rw [List.nil_append, mg_nil] at e
      rw [List.nil_append, mg_nil, List.cons_append, List.cons_append]
      match L2 with
      | [] => rw [mg_nil, mg_nil]
      | l :: L2 => rw [mg_cons, if_pos (h2 r List.mem_cons_self l List.mem_cons_self), e]
    | l :: L1, [] =>
      have e := ih L1 [] (by simp at hn ⊢; omega) (fun l hl => h1 l (List.mem_cons_of_mem _ hl)) (fun r hr => by cases hr)
      rw [List.nil_append, mg_nil2] at e
      rw [List.nil_append, mg_nil2, List.cons_append, List.cons_append]
      match R2 with
      | [] => rw [mg_nil2, mg_nil2]
      | r :: R2 => rw [mg_cons, if_neg (by rw [h1 l List.mem_cons_self r List.mem_cons_self]; decide), e]
    | l :: L1, r :: R1 =>
      rw [List.cons_append, List.cons_append, mg_cons, mg_cons]
      by_cases hc : lt r l = true
      · rw [if_pos hc, if_pos hc, List.cons_append]
        have e := ih (l :: L1) R1 (by simp at hn ⊢; omega) h1 (fun r hr => h2 r (List.mem_cons_of_mem _ hr))
        rw [List.cons_append] at e
        rw [e]
      · rw [if_neg hc, if_neg hc, List.cons_append]
        have e := ih L1 (r :: R1) (by simp at hn ⊢; omega) (fun l hl => h1 l (List.mem_cons_of_mem _ hl)) h2
        rw [List.cons_append] at e
        rw [e]
theorem mg_len : ∀ (n : Nat) (L R : List α), L.length + R.length ≤ n → (mg lt L R).length = L.length + R.length := by
  intro n
  induction n with
  | zero =>
    intro L R hn
    have h1 : L = [] := List.length_eq_zero_iff.1 (by omega)
    have h2 : R = [] := List.length_eq_zero_iff.1 (by omega)
    subst h1; subst h2
    rw [mg_nil]; rfl
  | succ n ih =>
    intro L R hn
    match L, R with
    | [], R => rw [mg_nil]; simp
    | l :: L, [] => rw [mg_nil2]; simp
    | l :: L, r :: R =>
      rw [mg_cons]
      split
      · rw [List.length_cons, ih (l :: L) R (by simp at hn ⊢; omega)]; simp; omega
      · rw [List.length_cons, ih L (r :: R) (by simp at hn ⊢; omega)]; simp; omega
theorem length_mg (L R : List α) : (mg lt L R).length = L.length + R.length := mg_len lt _ L R (Nat.le_refl _)
theorem mem_mg_aux : ∀ (n : Nat) (L R : List α), L.length + R.length ≤ n → ∀ x, x ∈ mg lt L R ↔ x ∈ L ∨ x ∈ R := by
  intro n
  induction n with
  | zero =>
    intro L R hn x
    have h1 : L = [] := List.length_eq_zero_iff.1 (by omega)
    have h2 : R = [] := List.length_eq_zero_iff.1 (by omega)
    subst h1; subst h2
    rw [mg_nil]; simp
  | succ n ih =>
    intro L R hn x
    match L, R with
    | [], R => rw [mg_nil]; simp
    | l :: L, [] => rw [mg_nil2]; simp
    | l :: L, r :: R =>
      rw [mg_cons]
      split
      · rw [List.mem_cons, ih (l :: L) R (by simp at hn ⊢; omega), List.mem_cons, List.mem_cons]
        constructor
        · rintro (h | (h | h) | h)
          · exact .inr (.inl h)
          · exact .inl (.inl h)
          · exact .inl (.inr h)
          · exact .inr (.inr h)
        · rintro ((h | h) | (h | h))
          · exact .inr (.inl (.inl h))
          · exact .inr (.inl (.inr h))
          · exact .inl h
          · exact .inr (.inr h)
      · rw [List.mem_cons, ih L (r :: R) (by simp at hn ⊢; omega), List.mem_cons, List.mem_cons]
        constructor
        · rintro (h | h | (h | h))
          · exact .inl (.inl h)
          · exact .inl (.inr h)
          · exact .inr (.inl h)
          · exact .inr (.inr h)
        · rintro ((h | h) | (h | h))
          · exact .inl h
          · exact .inr (.inl h)
          · exact .inr (.inr (.inl h))
          · exact .inr (.inr (.inr h))
theorem mem_mg {L R : List α} {x : α} : x ∈ mg lt L R ↔ x ∈ L ∨ x ∈ R := mem_mg_aux lt _ L R (Nat.le_refl _) x
structure Ord (s : α → Prop) : Prop where
  tot : ∀ x y, s x → s y → lt x y = true → lt y x = false
  tr : ∀ x y z, s x → s y → s z → lt y x = false → lt z y = false → lt z x = false
def Sorted (l : List α) : Prop := l.Pairwise fun x y => lt y x = false
variable {s : α → Prop} (ho : Ord lt s)
include ho
theorem Ord.refl (x : α) (hx : s x) : lt x x = false := by
  cases h : lt x x with
  | false => rfl
  | true => exact absurd (ho.tot x x hx hx h) (by rw [h]; decide)
theorem Ord.lt_le {x y z : α} (hx : s x) (hy : s y) (hz : s z) (h1 : lt x y = true) (h2 : lt z y = false) : lt x z = true := by
  cases h : lt x z with
  | true => rfl
  | false =>
    have := ho.tr y z x hy hz hx h2 h
    rw [h1] at this; cases this
theorem Ord.le_lt {x y z : α} (hx : s x) (hy : s y) (hz : s z) (h1 : lt y x = false) (h2 : lt y z = true) : lt x z = true := by
  cases h : lt x z with
  | true => rfl
  | false =>
    have := ho.tr z x y hz hx hy h h1
    rw [h2] at this; cases this
theorem sorted_mg : ∀ (n : Nat) (L R : List α), L.length + R.length ≤ n → (∀ x ∈ L, s x) → (∀ x ∈ R, s x) → Sorted lt L → Sorted lt R → Sorted lt (mg lt L R) := by
  intro n
  induction n with
  | zero =>
    intro L R hn _ _ _ _
    have h1 : L = [] := List.length_eq_zero_iff.1 (by omega)
    have h2 : R = [] := List.length_eq_zero_iff.1 (by omega)
    subst h1; subst h2
    rw [mg_nil]; exact List.Pairwise.nil
  | succ n ih =>
    intro L R hn hL hR h1 h2
    match L, R with
    | [], R => rw [mg_nil]; exact h2
    | l :: L, [] => rw [mg_nil2]; exact h1
    | l :: L, r :: R =>
      have hl := hL l List.mem_cons_self
      have hr := hR r List.mem_cons_self
      obtain ⟨a1, a2⟩ := List.pairwise_cons.1 h1
      obtain ⟨b1, b2⟩ := List.pairwise_cons.1 h2
      rw [mg_cons]
      split
      · rename_i hc
        refine List.pairwise_cons.2 ⟨fun x hx => ?_, ih (l :: L) R (by simp at hn ⊢; omega) hL (fun x hx => hR x (List.mem_cons_of_mem _ hx)) h1 b2⟩
        rcases (mem_mg lt).1 hx with hx | hx
        · have hrl : lt l r = false := ho.tot r l hr hl hc
          rcases List.mem_cons.1 hx with rfl | hx
          · exact hrl
          · exact ho.tr r l x hr hl (hL x (List.mem_cons_of_mem _ hx)) hrl (a1 x hx)
        · exact b1 x hx
      · rename_i hc
        have hc' : lt r l = false := by simpa using hc
        refine List.pairwise_cons.2 ⟨fun x hx => ?_, ih L (r :: R) (by simp at hn ⊢; omega) (fun x hx => hL x (List.mem_cons_of_mem _ hx)) hR a2 h2⟩
        rcases (mem_mg lt).1 hx with hx | hx
        · exact a1 x hx
        · rcases List.mem_cons.1 hx with rfl | hx
          · exact hc'
          · exact ho.tr l r x hl hr (hR x (List.mem_cons_of_mem _ hx)) hc' (b1 x hx)
theorem mg_assoc : ∀ (n : Nat) (A B C : List α), A.length + B.length + C.length ≤ n → (∀ x ∈ A, s x) → (∀ x ∈ B, s x) → (∀ x ∈ C, s x) → mg lt A (mg lt B C) = mg lt (mg lt A B) C := by
  intro n
  induction n with
  | zero =>
    intro A B C hn _ _ _
    have h1 : A = [] := List.length_eq_zero_iff.1 (by omega)
    subst h1
    rw [mg_nil, mg_nil]
  | succ n ih =>
    intro A B C hn hA hB hC
    match A, B, C with
    | [], B, C => rw [mg_nil, mg_nil]
    | a :: A, [], C => rw [mg_nil, mg_nil2]
    | a :: A, b :: B, [] => rw [mg_nil2, mg_nil2]
    | a :: A, b :: B, c :: C =>
      have ha := hA a List.mem_cons_self
      have hb := hB b List.mem_cons_self
      have hc := hC c List.mem_cons_self
      have tA : ∀ x ∈ A, s x := fun x hx => hA x (List.mem_cons_of_mem _ hx)
      have tB : ∀ x ∈ B, s x := fun x hx => hB x (List.mem_cons_of_mem _ hx)
      have tC : ∀ x ∈ C, s x := fun x hx => hC x (List.mem_cons_of_mem _ hx)
      simp only [List.length_cons] at hn
      by_cases h1 : lt c b = true
      ·
        rw [mg_cons lt b c B C, if_pos h1]
        by_cases h2 : lt b a = true
        ·
          have h3 : lt c a = true := by
            cases h : lt c a with
            | true => rfl
            | false =>
              have e1 := ho.tot b a hb ha h2
              exact absurd (ho.tr b a c hb ha hc e1 h) (by rw [h1]; decide)
          rw [mg_cons lt a c, if_pos h3, mg_cons lt a b, if_pos h2, mg_cons lt b c, if_pos h1]
          have e := ih (a :: A) (b :: B) C (by simp; omega) hA hB tC
          rw [mg_cons lt a b, if_pos h2] at e
          rw [e]
        · by_cases h3 : lt c a = true
          · rw [mg_cons lt a c, if_pos h3, mg_cons lt a b, if_neg h2, mg_cons lt a c, if_pos h3]
            have e := ih (a :: A) (b :: B) C (by simp; omega) hA hB tC
            rw [mg_cons lt a b, if_neg h2] at e
            rw [e]
          · rw [mg_cons lt a c, if_neg h3, mg_cons lt a b, if_neg h2, mg_cons lt a c, if_neg h3]
            have e := ih A (b :: B) (c :: C) (by simp; omega) tA hB hC
            rw [mg_cons lt b c, if_pos h1] at e
            rw [e]
      · rw [mg_cons lt b c B C, if_neg h1]
        by_cases h2 : lt b a = true
        · rw [mg_cons lt a b, if_pos h2, mg_cons lt a b, if_pos h2, mg_cons lt b c, if_neg h1]
          have e := ih (a :: A) B (c :: C) (by simp; omega) hA tB hC
          rw [e]
        · have h3 : lt c a = false := by
            have e1 : lt b a = false := by simpa using h2
            have e2 : lt c b = false := by simpa using h1
            exact ho.tr a b c ha hb hc e1 e2
          rw [mg_cons lt a b, if_neg h2, mg_cons lt a b, if_neg h2, mg_cons lt a c, if_neg (by rw [h3]; decide)]
          have e := ih A (b :: B) (c :: C) (by simp; omega) tA hB hC
          rw [mg_cons lt b c, if_neg h1] at e
          rw [e]
omit ho
def st : List α → List α
  | [] => []
  | x :: l => mg lt [x] (st l)
theorem st_mem : ∀ {l : List α} {x : α}, x ∈ st lt l ↔ x ∈ l
  | [], x => by simp [st]
  | y :: l, x => by rw [st, mem_mg, st_mem, List.mem_singleton, List.mem_cons]
theorem st_len : ∀ l : List α, (st lt l).length = l.length
  | [] => rfl
  | x :: l => by rw [st, length_mg, st_len l, List.length_singleton, List.length_cons]; omega
include ho
theorem st_sorted : ∀ l : List α, (∀ x ∈ l, s x) → Sorted lt (st lt l)
  | [], _ => List.Pairwise.nil
  | x :: l, h => by
    rw [st]
    exact sorted_mg lt ho _ _ _ (Nat.le_refl _) (fun y hy => by rw [List.mem_singleton.1 hy]; exact h x List.mem_cons_self) (fun y hy => h y (List.mem_cons_of_mem _ ((st_mem lt).1 hy))) (List.pairwise_singleton _ _) (st_sorted l (fun y hy => h y (List.mem_cons_of_mem _ hy)))
theorem st_append : ∀ (a b : List α), (∀ x ∈ a, s x) → (∀ x ∈ b, s x) → st lt (a ++ b) = mg lt (st lt a) (st lt b)
  | [], b, _, _ => by rw [List.nil_append, st, mg_nil]
  | x :: a, b, ha, hb => by
    rw [List.cons_append, st, st_append a b (fun y hy => ha y (List.mem_cons_of_mem _ hy)) hb, st]
    exact mg_assoc lt ho _ _ _ _ (Nat.le_refl _) (fun y hy => by rw [List.mem_singleton.1 hy]; exact ha x List.mem_cons_self) (fun y hy => ha y (List.mem_cons_of_mem _ ((st_mem lt).1 hy))) (fun y hy => hb y ((st_mem lt).1 hy))
end
end Mg
namespace Mg
section
variable {α : Type} (z : α)
def sw (xs : List α) (i j : Nat) : List α := (xs.set i (xs.getD j z)).set j (xs.getD i z)
def swl (xs : List α) (a b : Nat) : Nat → List α
  | 0 => xs
  | n + 1 => swl (sw z xs a b) (a + 1) (b + 1) n
theorem sw_eq (P Q S : List α) (x y : α) : sw z (P ++ x :: (Q ++ y :: S)) P.length (P.length + 1 + Q.length) = P ++ y :: (Q ++ x :: S) := by
  have e1 : (P ++ x :: (Q ++ y :: S)).getD P.length z = x := by
    rw [List.getD_eq_getElem?_getD, List.getElem?_append_right (Nat.le_refl _), Nat.sub_self]; rfl
  have e2 : (P ++ x :: (Q ++ y :: S)).getD (P.length + 1 + Q.length) z = y := by
    rw [List.getD_eq_getElem?_getD, List.getElem?_append_right (by omega), show P.length + 1 + Q.length - P.length = Q.length + 1 by omega, List.getElem?_cons_succ, List.getElem?_append_right (Nat.le_refl _), Nat.sub_self]; rfl
  unfold sw
  rw [e1, e2, List.set_append_right _ _ (Nat.le_refl _), Nat.sub_self, List.set_cons_zero, List.set_append_right _ _ (by omega), show P.length + 1 + Q.length - P.length = Q.length + 1 by omega, List.set_cons_succ, List.set_append_right _ _ (Nat.le_refl _), Nat.sub_self, List.set_cons_zero]
theorem swl_eq : ∀ (n : Nat) (P X M Y S : List α), X.length = n → Y.length = n → swl z (P ++ (X ++ (M ++ (Y ++ S)))) P.length (P.length + n + M.length) n = P ++ (Y ++ (M ++ (X ++ S)))
  | 0, P, X, M, Y, S, hx, hy => by
    have h1 : X = [] := List.length_eq_zero_iff.1 hx
    have h2 : Y = [] := List.length_eq_zero_iff.1 hy
    subst h1; subst h2; rfl
  | n + 1, P, x :: X, M, y :: Y, S, hx, hy => by
    have hX : X.length = n := by simpa using hx
    have hY : Y.length = n := by simpa using hy
    have e := sw_eq z P (X ++ M) (Y ++ S) x y
    rw [List.length_append, hX] at e
    rw [swl, List.cons_append, List.cons_append, ← List.append_assoc X M, show P.length + (n + 1) + M.length = P.length + 1 + (n + M.length) by omega, e]
    have ih := swl_eq n (P ++ [y]) X (M ++ [x]) Y S hX hY
    rw [List.length_append, List.length_append, List.length_singleton, List.length_singleton] at ih
    rw [show P.length + 1 + (n + M.length) + 1 = P.length + 1 + n + (M.length + 1) by omega]
    simp only [List.append_assoc, List.cons_append, List.nil_append] at ih ⊢
    exact ih
  | n + 1, P, [], M, Y, S, hx, hy => by simp at hx
  | n + 1, P, x :: X, M, [], S, hx, hy => by simp at hy
def ex (xs : List α) (a b n : Int) : Option (List α) := if 0 ≤ a ∧ 0 ≤ b ∧ 0 ≤ n ∧ a + n ≤ xs.length ∧ b + n ≤ xs.length then some (swl z xs a.toNat b.toNat n.toNat) else none
theorem ex_eq (P X M Y S : List α) (h : X.length = Y.length) (a b n : Int) (ha : a = P.length) (hb : b = ((P.length + X.length + M.length : Nat) : Int)) (hn : n = X.length) :
    ex z (P ++ (X ++ (M ++ (Y ++ S)))) a b n = some (P ++ (Y ++ (M ++ (X ++ S)))) := by
  unfold ex
  rw [if_pos (by simp only [List.length_append]; omega), ha, hb, hn, Int.toNat_natCast, Int.toNat_natCast, Int.toNat_natCast, swl_eq z X.length P X M Y S rfl h.symm]
end
end Mg
end
section
namespace Go.Proofs.Ytkkocmmilmbgpaa.S
open Go.RowKit Go.Proofs.YtkkocmmilmbgpaaW.PrintWords
def api_Term_of_cost_normal_1_54.f (xs : List S39) (a b n : Int) : Option (List S39) := Mg.ex z39 xs a b n
def ltT (x y : S39) : Bool := decide (ordT x.f1 y.f1 < 0)
def api_Term_of_cost_normal_1_51.f (xs : List S39) (a b : Int) : Option (List S39) := if 0 ≤ a ∧ a ≤ b ∧ b ≤ xs.length ∧ xs.length < 4611686018427387904 then some (Sort.insertionSort ltT xs.toArray a.toNat b.toNat).toList else none
end Go.Proofs.Ytkkocmmilmbgpaa.S
end
section
namespace Go.Proofs
open Go.Shelf
def Try.insT_ren : Go.Shelf.Ren := ⟨fun | 20 => 51 | n => n, fun | 24 => 39 | 22 => 22 | 3 => 3 | 25 => 61 | 4 => 4 | 0 => 0 | n => n, fun | n => n⟩
theorem Try.insT : Go.Proofs.SlLaysF0.n20 Try.prog Try.insT_ren := {
  mixed := by kernel_rfl
  f20 := ⟨Try.f51.name, by decide, Try.func51.trans (congrArg some (by kernel_rfl))⟩
  t0 := Try.underlying0
  a0 := Try.isAgg0
  z0 := Try.sizeOf0
  v0 := Try.zeroValue0
  t3 := Try.underlying3
  a3 := Try.isAgg3
  z3 := Try.sizeOf3
  v3 := Try.zeroValue3
  t4 := Try.underlying4
  a4 := Try.isAgg4
  z4 := Try.sizeOf4
  v4 := Try.zeroValue4
  t22 := Try.underlying22
  a22 := Try.isAgg22
  z22 := Try.sizeOf22
  v22 := Try.zeroValue22
  t25 := Try.underlying61
  a25 := Try.isAgg61
  z25 := Try.sizeOf61
  v25 := Try.zeroValue61 }
end Go.Proofs
end
section
namespace Go.Proofs.Ytkkocmmilmbgpaa.S
open Go.RowKit Go.Proofs.YtkkocmmilmbgpaaW.PrintWords Go.Proofs.YtkkocmmilmbgpaaW.PrintLast Go.Proofs.YtkkocmmilmbgpaaW.PrintMore
set_option linter.unusedVariables false
set_option linter.unusedSimpArgs false
theorem closure_calls (W : World) (x y : S39) (cx cy : List Value) (hx : k39.K W x cx) (hy : k39.K W y cy) (lx : x.f1.length < 4611686018427387904) (ly : y.f1.length < 4611686018427387904) :
    Calls Try.prog 41 #[.agg cx.toArray, .agg cy.toArray] W fun e w' => e = .returned (.int .i64 (ordT x.f1 y.f1)) ∧ Grows W w' := by
  obtain ⟨A1, c1, rfl, l1, g1⟩ := k39_open hx
  obtain ⟨A2, c2, rfl, l2, g2⟩ := k39_open hy
  have hord := fun w' (hg : Grows W w') => cost_order.grows (4 * (x.f1.length + y.f1.length) + 10) A1 c1 x.f1 A2 c2 y.f1 _ w' (Kd.C_below g1 hg.1) l1 (Kd.C_below g2 hg.1) l2 (order_eq x.f1 y.f1 lx ly _ (Nat.le_refl _))
  generalize ordT x.f1 y.f1 = r at hord ⊢
  have hg0 := Grows.refl W
  go_enter Try.func41, Try.ntmps41
  go_wp2_with (go_at_call 42; refine (hord _ (by repeat (first | exact hg0 | apply Grows.alloc | apply Grows.drewN | apply Grows.drew))).mono ?_; rintro e w' ⟨rfl, hg⟩)
  go_ret
  exact ⟨rfl, Grows.trans (by repeat (first | exact hg0 | apply Grows.alloc | apply Grows.drewN | apply Grows.drew)) hg⟩
theorem ins_none (p : Option Addr) (cap : Nat) (fv : Value) (w : World) : Calls Try.prog 51 #[.slice p 0 cap, .int .i64 0, .int .i64 0, fv] w fun e w' => e = .returned (.tuple #[]) ∧ w' = w := by
  go_enter Try.func51, Try.ntmps51
  go_wp2
  refine wp_loop_rounds 1 ?_
  rw [rounds_succ]
  go_wp2
  go_end0
  exact ⟨rfl, rfl⟩
abbrev ElG (W0 : World) (ok : Nat → Prop) : Type := { p : List Value × S39 // Kd.FK k39 W0 ok p.2 p.1 ∧ p.2.f1.length < 4611686018427387904 }
theorem heap_mapBlock (w : World) (blk : Nat) (f : Array Value → Array Value) (k : Nat) (h : k ≠ blk) : (Sort.mapBlock w blk f).heap[k]? = w.heap[k]? := by
  simp [Sort.mapBlock, Array.getElem?_modify, Ne.symm h]
theorem heap_mapBlock_self (w : World) (blk : Nat) (f : Array Value → Array Value) {c : Array Value} {e : TypeId} {fr : Nat × Nat} (hb : w.heap[blk]? = some (.cells c e fr)) :
    (Sort.mapBlock w blk f).heap[blk]? = some (.cells (f c) e fr) := by
  simp [Sort.mapBlock, Array.getElem?_modify, hb, Sort.onCells]
theorem heap_sortWorldK {β : Type} [Inhabited β] (enc : β → List Value) (k : Nat) (w : World) (blk m : Nat) (dk : Array β) (os : Array Obj) (i : Nat) (hi : i < w.heap.size) (h : i ≠ blk) :
    (sortWorldK enc k w blk 0 m dk os).heap[i]? = w.heap[i]? := by
  unfold sortWorldK
  show (_ ++ os)[i]? = _
  rw [Array.getElem?_append_left (by show i < (Sort.putRow id (Sort.ahead w m) blk 0 (Sort.flatK enc k dk)).heap.size; rw [Sort.size_putRow]; exact hi)]
  exact heap_mapBlock _ _ _ _ h
theorem heap_sortWorldK_self {β : Type} [Inhabited β] (enc : β → List Value) (k : Nat) (w : World) (blk m : Nat) (dk : Array β) (os : Array Obj) (hk : blk < w.heap.size) {c : Array Value} {e : TypeId} {fr : Nat × Nat} (hb : w.heap[blk]? = some (.cells c e fr)) :
    (sortWorldK enc k w blk 0 m dk os).heap[blk]? = some (.cells (Sort.putCells id 0 (Sort.flatK enc k dk) c) e fr) := by
  unfold sortWorldK
  show (_ ++ os)[blk]? = _
  rw [Array.getElem?_append_left (by show blk < (Sort.putRow id (Sort.ahead w m) blk 0 (Sort.flatK enc k dk)).heap.size; rw [Sort.size_putRow]; exact hk)]
  exact heap_mapBlock_self _ _ _ hb
theorem putCells_take (d : Array Value) (c : Array Value) (h : d.size ≤ c.size) : (Sort.putCells id 0 d c).toList.take d.size = d.toList := by
  apply List.ext_getElem
  · simp [Sort.putCells]; omega
  · intro i h1 h2
    have hi : i < d.size := by simpa using h2
    simp [Sort.putCells, hi, getElem!_pos d i hi]
theorem elsG_of (W0 : World) (ok : Nat → Prop) (inner : List Value) (xs : List S39) (h : Reps (fun x c => Kd.FK k39 W0 ok x c ∧ x.f1.length < 4611686018427387904) 2 xs inner) :
    ∃ els : List (ElG W0 ok), els.map (fun x => x.1.2) = xs ∧ ∀ j, ∀ hj : j < els.length, (inner.drop (j * 2)).take 2 = els[j].1.1 := by
  refine ⟨List.ofFn (fun j : Fin xs.length => ⟨((inner.drop (j.1 * 2)).take 2, xs[j.1]), h.2 j.1 _ (by simp)⟩), ?_, ?_⟩
  · apply List.ext_getElem
    · simp
    · intro i h1 h2; simp
  · intro j hj; simp
theorem insF_size {β : Type} [Inhabited β] (lt : β → β → Bool) (a b : Nat) : ∀ (n i : Nat) (d : Array β), (insF lt a b n i d).size = d.size
  | 0, i, d => rfl
  | n + 1, i, d => by
    have hin : ∀ (j : Nat) (d : Array β), (Sort.insInner lt a j d).size = d.size := by
      intro j
      induction j with
      | zero => intro d; rfl
      | succ j ih =>
        intro d
        unfold Sort.insInner
        split
        · rw [ih]; simp [Sort.swp]
        · rfl
    unfold insF
    split
    · rw [insF_size lt a b n, hin]
    · rfl
theorem api_Term_of_cost_normal_1_51.calls (W0_ : World) (okE_ : Nat → Prop) (P0_ : Nat → Prop) (u : Value) (l0 : List (S39)) (a1 : Int) (a2 : Int) (r : List (S39)) (w0 w : World) (hB : Below w0.heap.size w0 w) (ho0 : Kd.R (kG W0_ okE_) 39 w w0.heap.size P0_ u l0) (hW_ : Keeps W0_ w okE_) (hZ_ : W0_.heap.size ≤ w.heap.size) (hD_ : ∀ k_, okE_ k_ → k_ < W0_.heap.size → ¬ P0_ k_) (h : api_Term_of_cost_normal_1_51.f l0 a1 a2 = some r) :
    Calls Try.prog 51 #[u, .int .i64 a1, .int .i64 a2, .func (.func 41) #[] #[]] w fun e w' => e = .returned (.tuple #[]) ∧ Kd.R (kG W0_ okE_) 39 w' w0.heap.size (fun k_ => (P0_ k_ ∨ w.heap.size ≤ k_)) u r ∧ Below w0.heap.size w0 w' ∧ Kept w w' (fun k_ => P0_ k_) := by
  unfold api_Term_of_cost_normal_1_51.f at h
  by_cases hb_ : 0 ≤ a1 ∧ a1 ≤ a2 ∧ a2 ≤ l0.length ∧ l0.length < 4611686018427387904
  rotate_left
  · rw [if_neg hb_] at h; cases h
  rw [if_pos hb_] at h
  obtain ⟨b1, b2, b3, b4⟩ := hb_
  have hr := Option.some.inj h
  clear h
  obtain ⟨a, rfl⟩ := Int.eq_ofNat_of_zero_le b1
  obtain ⟨b, rfl⟩ := Int.eq_ofNat_of_zero_le (Int.le_trans b1 b2)
  rw [Int.toNat_natCast, Int.toNat_natCast] at hr
  have HR0 := ho0
  obtain ⟨hv0, inner, ⟨hil, hown⟩, hreps⟩ := ho0
  rcases hown with ⟨hv, hx⟩ | ⟨g, cap, cur, hv, hbg, hh, h1, h2, h3, h4⟩
  · have hx0 : l0 = [] := by
      have := hreps.1
      rw [hx] at this
      exact List.length_eq_zero_iff.1 (by have h2 : (kG W0_ okE_).sz = 2 := rfl; rw [h2] at this; simp at this; omega)
    subst hx0
    have ea : a = 0 := by simp at b3; omega
    have eb : b = 0 := by simp at b3; omega
    subst ea eb hv
    refine (ins_none none 0 _ w).mono ?_
    rintro e w' ⟨rfl, rfl⟩
    refine ⟨rfl, ?_, hB, Kept.refl _ _⟩
    rw [← hr]
    have e0 : Sort.insertionSort ltT ([] : List S39).toArray 0 0 = #[] := by
      unfold Sort.insertionSort
      rw [insF_eq _ _ _ 0 _ _ (by omega)]
      rfl
    rw [e0]
    exact Kd.R_mono HR0 (fun k hk => .inl hk)
  · subst hv
    have hgl : g < w.heap.size := (Array.getElem?_eq_some_iff.1 hh).1
    have hPg : P0_ g := hv0 g (by simp [Value.ownBlock])
    obtain ⟨els, he2, he1⟩ := elsG_of W0_ okE_ inner l0 hreps
    have hel : els.length = l0.length := by rw [← List.length_map (f := fun x : ElG W0_ okE_ => x.1.2), he2]
    have hdf : Kd.FK k39 W0_ okE_ z39 [.int .u64 0, .slice none 0 0] := fun W' _ => ⟨[.int .u64 0], [.slice none 0 0], rfl, rfl, ⟨none, 0, rfl, Nat.le_refl _, ⟨rfl, by simp [z39], fun h => absurd h (by simp [z39])⟩⟩⟩
    letI : Inhabited (ElG W0_ okE_) := ⟨⟨([.int .u64 0, .slice none 0 0], z39), hdf, by decide⟩⟩
    let enc : ElG W0_ okE_ → List Value := fun x => x.1.1
    have hk2 : ∀ x, (enc x).length = 2 := fun x => k39.K_len (Kd.FK_now x.2.1)
    have h1c : ∀ x, ∀ v ∈ enc x, v.oneCell' = true := fun x => k39.K_one (Kd.FK_now x.2.1)
    have hsz2 : (kG W0_ okE_).sz = 2 := rfl
    rw [hsz2] at hil h3 h4
    have hlen : l0.length * 2 = inner.length := by have := hreps.1; rw [hsz2] at this; omega
    have hrow : ∀ j, j < l0.length → (inner.drop (j * 2)).take 2 = enc (els.toArray[j]!) := by
      intro j hj
      rw [he1 j (by omega), getElem!_pos els.toArray j (by simpa [hel] using hj)]
      simp [enc]
    have hcell : ∀ j, j < l0.length * 2 → cur[j]? = some ((enc (els.toArray[j / 2]!))[j % 2]!) := by
      intro j hj
      have e1 := hrow (j / 2) (by omega)
      have e2 := congrArg (fun l : List Value => l[j % 2]?) e1
      simp only [List.getElem?_take, List.getElem?_drop] at e2
      rw [if_pos (by omega), show j / 2 * 2 + j % 2 = j by omega, ← h4, List.getElem?_take, if_pos (by omega)] at e2
      rw [Array.getElem?_toList] at e2
      rw [e2, List.getElem?_eq_getElem (show j % 2 < (enc (els.toArray[j / 2]!)).length by rw [hk2]; omega), getElem!_pos (enc (els.toArray[j / 2]!)) (j % 2) (by rw [hk2]; omega)]
    have hH : Sort.HoldsK enc 2 w g 0 els.toArray := by
      intro j hj
      have hj' : j < l0.length * 2 := by simpa [hel] using hj
      constructor
      · have : w.cell? ⟨g, 0 + j, none⟩ = cur[j]? := by simp [World.cell?, hh]
        rw [this, hcell j hj', Sort.get_flatK enc 2 els.toArray j (by simpa [hel] using hj')]
        rfl
      · simp [World.frozen?, hh]
    have hcmp : CmpLays Try.prog 41 #[] enc 2 (fun x y => ordT x.1.2.f1 y.1.2.f1) g 0 els.toArray.size w := by
      intro m os dk hs x y
      have hkk : ∀ k, okE_ k → k < W0_.heap.size → (sortWorldK enc 2 w g 0 m dk os).heap[k]? = W0_.heap[k]? := fun k ho hl =>
        (heap_sortWorldK enc 2 w g m dk os k (Nat.lt_of_lt_of_le hl hZ_) (fun e => hD_ k ho hl (by rw [e]; exact hPg))).trans (hW_ k ho hl)
      have hc := closure_calls (sortWorldK enc 2 w g 0 m dk os) x.1.2 y.1.2 (enc x) (enc y) (x.2.1 _ hkk) (y.2.1 _ hkk) x.2.2 y.2.2
      refine hc.mono ?_
      rintro _ _ ⟨rfl, hg⟩
      exact ⟨rfl, hg.grow⟩
    have eg : ∀ args w, (callFunc 41 args).run Try.prog w = .ok (.enter 41 args) w := enters_of Try.func41 (by kernel_rfl) rfl
    have hsz : els.toArray.size = l0.length := by simpa using hel
    have hcon := AnyQ.insertionSortCmpFunc Try.insT 2 Try.isAgg39 Try.sizeOf39 enc hk2 h1c (fun x y => ordT x.1.2.f1 y.1.2.f1) 41 #[] g 0 cap a b els.toArray w eg hcmp hH hgl (by omega) (by omega) (by omega)
    rw [hsz] at hcon
    refine hcon.mono ?_
    rintro _ _ ⟨rfl, m, os, rfl⟩
    generalize hd' : Sort.insertionSort (ltOf fun x y : ElG W0_ okE_ => ordT x.1.2.f1 y.1.2.f1) els.toArray a b = d'
    have hmap : (d'.map (fun x : ElG W0_ okE_ => x.1.2)).toList = r := by
      rw [← hr, ← hd']
      unfold Sort.insertionSort
      rw [insF_eq _ _ _ b _ _ (by omega), insF_eq _ _ _ b _ _ (by omega), insF_map (fun x : ElG W0_ okE_ => x.1.2) rfl (ltOf fun x y : ElG W0_ okE_ => ordT x.1.2.f1 y.1.2.f1) ltT (fun x y => rfl)]
      congr 2
      rw [← he2]
      simp
    have hds : d'.size = l0.length := by
      rw [← hd']
      unfold Sort.insertionSort
      rw [insF_eq _ _ _ b _ _ (by omega), insF_size, hsz]
    have hrl : r.length = l0.length := by
      have := congrArg List.length hmap
      simp only [Array.toList_map, List.length_map, Array.length_toList] at this
      omega
    have hfs : (Sort.flatK enc 2 d').size = l0.length * 2 := by rw [Sort.size_flatK, hds]
    have hfcell : ∀ j i, j < l0.length → i < 2 → (Sort.flatK enc 2 d').toList[j * 2 + i]? = (enc d'[j]!)[i]? := by
      intro j i hj hi
      have hlt : j * 2 + i < (Sort.flatK enc 2 d').size := by omega
      rw [Array.getElem?_toList, Array.getElem?_eq_getElem hlt, ← getElem!_pos (Sort.flatK enc 2 d') (j * 2 + i) hlt, Sort.get_flatK enc 2 d' _ (by omega), show (j * 2 + i) / 2 = j by omega, show (j * 2 + i) % 2 = i by omega,
        List.getElem?_eq_getElem (show i < (enc d'[j]!).length by rw [hk2]; exact hi), getElem!_pos (enc d'[j]!) i (by rw [hk2]; exact hi)]
    have hg : w.grownBy (sortWorldK enc 2 w g 0 m d' os) (some g) := ⟨rfl, rfl, rfl, by unfold sortWorldK; show w.heap.size ≤ ((Sort.putRow id (Sort.ahead w m) g 0 (Sort.flatK enc 2 d')).heap ++ os).size; rw [Array.size_append, Sort.size_putRow]; exact Nat.le_add_right _ _, fun i hi hne => heap_sortWorldK enc 2 w g m d' os i hi (fun e => hne (by rw [e]))⟩
    refine ⟨rfl, ⟨fun k hk => .inl (hv0 k hk), (Sort.flatK enc 2 d').toList, ⟨?_, .inr ⟨g, cap, Sort.putCells id 0 (Sort.flatK enc 2 d') cur, ?_, hbg, heap_sortWorldK_self enc 2 w g m d' os hgl hh, ?_, h2, ?_, ?_⟩⟩, ?_⟩, hB.grown hg hB.size (fun k hk => by injection hk with hk; omega), Kept.of_grown hg (Kept.refl _ _) (fun k hk => by injection hk with hk; subst hk; exact .inl hPg)⟩
    · rw [Array.length_toList, hfs, hrl, hsz2]
    · rw [hrl]
    · rw [hrl]; exact h1
    · rw [hsz2]; simp only [Sort.putCells, Array.size_mapIdx]; exact h3
    · rw [hrl, hsz2, ← hfs]
      exact putCells_take _ cur (by rw [hfs, h3]; omega)
    · refine ⟨by rw [Array.length_toList, hfs, hrl, hsz2], fun j p hp => ?_⟩
      rw [← hmap] at hp
      simp only [Array.toList_map, List.getElem?_map, Option.map_eq_some_iff] at hp
      obtain ⟨x, hx, rfl⟩ := hp
      have hj : j < d'.size := by have := (List.getElem?_eq_some_iff.1 hx).1; simpa using this
      have hxe : d'[j]! = x := by
        rw [getElem!_pos d' j hj]
        have := (List.getElem?_eq_some_iff.1 hx).2
        simpa using this
      have ec : ((Sort.flatK enc 2 d').toList.drop (j * 2)).take 2 = enc x := by
        apply List.ext_getElem?
        intro i
        by_cases hi : i < 2
        · rw [List.getElem?_take, if_pos hi, List.getElem?_drop, hfcell j i (by omega) hi, hxe]
        · rw [List.getElem?_eq_none (by rw [List.length_take]; omega), List.getElem?_eq_none (by have := hk2 x; show (enc x).length ≤ i; omega)]
      rw [hsz2, ec]
      exact x.2
end Go.Proofs.Ytkkocmmilmbgpaa.S
end
section
namespace Go.Proofs.YtkkocmmilmbgpaaW.PrintLast
open Go
set_option linter.unusedVariables false
section
variable {P : Program} {ops : Array Oper} {Q : Exit → Act → World → Prop}
theorem goesT_ {oi : Oper} {N : Option Tmp} {a : Act} {w : World} {K : Act → World → Prop} {f : FuncId} {fn : Func} {ars : Array Operand} {ts : Array TypeId} {n : Tmp} (hf : P.funcs[f]? = some fn) (hname : (fn.name == "runtime.NumGoroutine") = false) (hb : fn.body.isSome = true) (args : Array Value)
    (hw : Region.wanted oi (yielded ops a.tmps) = true) (hN : oi.dst = N) (hop : oi.op = .call { callee := .value (.tmp n), args := ars, argTypes := ts }) (hv : a.eval (.tmp n) = .func (.func f) #[] #[]) (hargs : ars.map a.eval = args)
    (h : Calls P f args w fun e w' => ∃ v, e = .returned v ∧ K (a.put N v) w') : if Region.wanted oi (yielded ops a.tmps) = true then Oper.wp P oi a w K Q else K (a.put N undef) w := by
  refine call_ f args hw hN ?_ h
  have he := enters_ hf hname hb args w
  unfold execOp
  simp [hop, resolve, Deferred.ofValue, invoke, hv, hargs, he]
end
end Go.Proofs.YtkkocmmilmbgpaaW.PrintLast
end
section
namespace Go.Proofs.Ytkkocmmilmbgpaa.S
open Go.RowKit Go.Proofs.YtkkocmmilmbgpaaW.PrintWords Go.Proofs.YtkkocmmilmbgpaaW.PrintLast Go.Proofs.YtkkocmmilmbgpaaW.PrintMore
set_option linter.unusedVariables false
theorem G_cells {W0 : World} {okE : Nat → Prop} {w : World} {A : Option Addr} {n : Nat} {xs : List S39} (h : Kd.C (kG W0 okE) w A n xs) (i : Int) (h0 : 0 ≤ i) (h1 : i < n) :
    ∃ ad A1 c1, A = some ad ∧ (Kd.FK k39 W0 okE (rd_T39 xs i) [.int .u64 (rd_T39 xs i).f0, .slice A1 (rd_T39 xs i).f1.length c1] ∧ (rd_T39 xs i).f1.length < 4611686018427387904) ∧ w.cell? (ad.add (i.toNat * 2)) = some (.int .u64 (rd_T39 xs i).f0) ∧ w.cell? (ad.add (i.toNat * 2 + 1)) = some (.slice A1 (rd_T39 xs i).f1.length c1) := by
  obtain ⟨ad, c, e, _, hK, hc0⟩ := Kd.C_get h z39 i h0 h1
  have hc : ∀ j u, c[j]? = some u → w.cell? (ad.add (i.toNat * 2 + j)) = some u := hc0
  have hF : Kd.FK k39 W0 okE (rd_T39 xs i) c ∧ (rd_T39 xs i).f1.length < 4611686018427387904 := hK
  obtain ⟨A1, c1, rfl, l1, g1⟩ := k39_open (Kd.FK_now hF.1)
  exact ⟨ad, A1, c1, e, hF, hc 0 _ rfl, hc 1 _ rfl⟩
theorem G_put {W0 : World} {okE ok : Nat → Prop} {W : World} {base g n cap : Nat} {xs : List S39} (h : Kd.R (kG W0 okE) 39 W base ok (.slice (some ⟨g, 0, none⟩) n cap) xs) (i : Int) (h0 : 0 ≤ i) (h1 : i < n) {x' : S39} {v0 v1 : Value} (hx : Kd.FK k39 W0 okE x' [v0, v1] ∧ x'.f1.length < 4611686018427387904) :
    Kd.R (kG W0 okE) 39 ((W.setCell ⟨g, i.toNat * 2, none⟩ v0).setCell ⟨g, i.toNat * 2 + 1, none⟩ v1) base ok (.slice (some ⟨g, 0, none⟩) n cap) (xs.set i.toNat x') ∧ W.grownBy ((W.setCell ⟨g, i.toNat * 2, none⟩ v0).setCell ⟨g, i.toNat * 2 + 1, none⟩ v1) (some g) := by
  have hn := (Kd.R_reads' h).1
  obtain ⟨ad, c, e, hcl, hK, hc0⟩ := Kd.C_get (Kd.R_reads' h).2.2 z39 i h0 (by omega)
  cases e
  exact Kd.R_seg h i h0 h1 (c := c) (seg := [v0, v1]) (j := 0) hcl (fun j u hu => by rw [← add_plain]; exact hc0 j u hu) (Nat.le_refl 2) (x' := x') (okp := fun _ => False)
    (show Kd.FK k39 W0 okE x' (c.take 0 ++ [v0, v1] ++ c.drop (0 + 2)) ∧ x'.f1.length < 4611686018427387904 by rw [List.drop_eq_nil_of_le (by rw [hcl]; exact Nat.le_refl 2)]; exact hx) (fun _ hk => hk.elim)
theorem G_swap {W0 : World} {okE ok : Nat → Prop} {W : World} {base g n cap : Nat} {xs : List S39} (h : Kd.R (kG W0 okE) 39 W base ok (.slice (some ⟨g, 0, none⟩) n cap) xs) (a b : Int) (a0 : 0 ≤ a) (a1 : a < n) (b0 : 0 ≤ b) (b1 : b < n) :
    ∃ A1 c1 A2 c2, W.cell? ⟨g, a.toNat * 2, none⟩ = some (.int .u64 (rd_T39 xs a).f0) ∧ W.cell? ⟨g, a.toNat * 2 + 1, none⟩ = some (.slice A1 (rd_T39 xs a).f1.length c1)
      ∧ W.cell? ⟨g, b.toNat * 2, none⟩ = some (.int .u64 (rd_T39 xs b).f0) ∧ W.cell? ⟨g, b.toNat * 2 + 1, none⟩ = some (.slice A2 (rd_T39 xs b).f1.length c2)
      ∧ ∃ W1, Aside0 (((((W.setCell ⟨g, a.toNat * 2, none⟩ (.int .u64 (rd_T39 xs b).f0)).setCell ⟨g, a.toNat * 2 + 1, none⟩ (.slice A2 (rd_T39 xs b).f1.length c2)).setCell ⟨g, b.toNat * 2, none⟩ (.int .u64 (rd_T39 xs a).f0)).setCell ⟨g, b.toNat * 2 + 1, none⟩ (.slice A1 (rd_T39 xs a).f1.length c1)) = W1) ∧
        Kd.R (kG W0 okE) 39 W1 base ok (.slice (some ⟨g, 0, none⟩) n cap) (Mg.sw z39 xs a.toNat b.toNat) ∧ W.grownBy W1 (some g) := by
  have hn := (Kd.R_reads' h).1
  obtain ⟨ad, A1, c1, e, hF1, p0, p1⟩ := G_cells (Kd.R_reads' h).2.2 a a0 (by omega)
  cases e
  obtain ⟨ad, A2, c2, e, hF2, q0, q1⟩ := G_cells (Kd.R_reads' h).2.2 b b0 (by omega)
  cases e
  rw [add_plain] at p0 p1 q0 q1
  refine ⟨A1, c1, A2, c2, p0, p1, q0, q1, _, ⟨rfl⟩, ?_⟩
  obtain ⟨r1, g1⟩ := G_put h a a0 a1 hF2
  obtain ⟨r2, g2⟩ := G_put r1 b b0 b1 hF1
  obtain ⟨x1, x2, x3, x4, x5⟩ := g1
  obtain ⟨y1, y2, y3, y4, y5⟩ := g2
  exact ⟨r2, ⟨y1.trans x1, y2.trans x2, y3.trans x3, Nat.le_trans x4 y4, fun k hk hne => (y5 k (Nat.lt_of_lt_of_le hk x4) hne).trans (x5 k hk hne)⟩⟩
theorem sw_length (xs : List S39) (i j : Nat) : (Mg.sw z39 xs i j).length = xs.length := by simp [Mg.sw]
theorem ex_one (xs : List S39) (a b : Int) (a0 : 0 ≤ a) (a1 : a < xs.length) (b0 : 0 ≤ b) (b1 : b < xs.length) : Mg.ex z39 xs a b 1 = some (Mg.sw z39 xs a.toNat b.toNat) := by
  unfold Mg.ex
  rw [if_pos ⟨a0, b0, by omega, by omega, by omega⟩]
  rfl
end Go.Proofs.Ytkkocmmilmbgpaa.S
end
section
namespace Go.Proofs.Ytkkocmmilmbgpaa.S
open Go.RowKit Go.Proofs.YtkkocmmilmbgpaaW.PrintWords Go.Proofs.YtkkocmmilmbgpaaW.PrintLast Go.Proofs.YtkkocmmilmbgpaaW.PrintMore
attribute [local go_sem] max2_int min2_int max_two min_two max_three min_three max_four min_four
set_option linter.unusedVariables false
set_option linter.unusedSimpArgs false
set_option maxHeartbeats 8000000 in
set_option maxRecDepth 100000 in
theorem api_Term_of_cost_normal_1_54.calls (W0_ : World) (okE_ : Nat → Prop) (P0_ : Nat → Prop) (u9000_ : Value) (l0 : List (S39)) (a1 : Int) (a2 : Int) (a3 : Int) (r : List (S39)) (w0 w : World) (hB : Below w0.heap.size w0 w) (ho0 : Kd.R (kG W0_ okE_) 39 w w0.heap.size P0_ u9000_ l0) (h : api_Term_of_cost_normal_1_54.f l0 a1 a2 a3 = some r) :
    Calls Try.prog 54 #[u9000_, .int .i64 a1, .int .i64 a2, .int .i64 a3, .func (.func 41) #[] #[]] w fun e w' => e = .returned (.tuple #[]) ∧ Kd.R (kG W0_ okE_) 39 w' w0.heap.size (fun k_ => (P0_ k_ ∨ w.heap.size ≤ k_)) u9000_ r ∧ Below w0.heap.size w0 w' ∧ Kept w w' (fun k_ => P0_ k_) := by
  have hP0 := ho0.1
  have HO0 := Aside0.mk (show Kd.R (kG W0_ okE_) 39 w w0.heap.size (fun k_ => (P0_ k_ ∨ w.heap.size ≤ k_)) u9000_ l0 from Kd.R_mono ho0 (fun k_ hk => (.inl hk)))
  have HK := Aside0.mk (Kept.refl w (fun k_ => P0_ k_))
  have HW0 := Aside0.mk hB.size
  have HB := Aside0.mk hB
  clear hB
  unfold api_Term_of_cost_normal_1_54.f Mg.ex at h
  by_cases hb_ : 0 ≤ a1 ∧ 0 ≤ a2 ∧ 0 ≤ a3 ∧ a1 + a3 ≤ l0.length ∧ a2 + a3 ≤ l0.length
  rotate_left
  · rw [if_neg hb_] at h; cases h
  rw [if_pos hb_] at h
  obtain ⟨b1, b2, b3, b4, b5⟩ := hb_
  have hmx : l0.length ≤ 9223372036854775807 := by
    obtain ⟨A_, c_, e_, hl_, hc_⟩ := Kd.R_reads ho0
    exact hc_.2.1
  have h1 : Mg.swl z39 l0 a1.toNat a2.toNat a3.toNat = r := Option.some.inj h
  clear h ho0
  have H' := Aside0.mk h1
  have hP0' := Aside0.mk hP0
  clear h1 hP0
  go_enter Try.func54, Try.ntmps54
  go_wp2
  go_loopg [10] (a3.toNat + 1) (fun kq v10 w' => ∃ (x0_1 : List (S39)) (x10_1 : Int), v10 = .int .i64 x10_1 ∧ (0 ≤ x10_1 ∧ x10_1 ≤ a3 ∧ x10_1 + kq = a3 + 1 ∧ x0_1.length = l0.length) ∧ Aside0 (Mg.swl z39 x0_1 (a1 + x10_1).toNat (a2 + x10_1).toNat (a3 - x10_1).toNat = r) ∧ Aside0 (Kd.R (kG W0_ okE_) 39 w' w0.heap.size (fun k_ => (P0_ k_ ∨ w.heap.size ≤ k_)) u9000_ x0_1) ∧ Aside0 (Kept w w' (fun k_ => P0_ k_)) ∧ Aside0 (Below w0.heap.size w0 w'))
  case atStart => exact ⟨l0, 0, rfl, ⟨by omega, b3, by omega, rfl⟩, ⟨by simpa using H'.out⟩, ⟨by exact HO0.out⟩, ⟨by exact HK.out⟩, ⟨by exact HB.out⟩⟩
  case round =>
    clear H'
    obtain ⟨x0_1, x10_1, rfl, ⟨i0, i1, i2, hlen⟩, HA, HO_0, HK, HB⟩ := hrel
    by_cases c6 : x10_1 < a3
    · have c6b0 : decide (x10_1 < a3) = true := decide_eq_true c6
      cases gk with
      | zero => exact absurd i2 (by omega)
      | succ k1 =>
        obtain ⟨go1, co1, eo1, gb1, gl1, cl1, HG1⟩ := Kd.R_form HO_0.out (by omega)
        cases eo1
        obtain ⟨A1_, c1_, A2_, c2_, hx10, hx11, hx20, hx21, W1_, hW1_, hr2, hg2⟩ := G_swap HO_0.out (a1 + x10_1) (a2 + x10_1) (by omega) (by omega) (by omega) (by omega)
        replace hr2 := Aside0.mk hr2
        replace hg2 := Aside0.mk hg2
        have hK2 := Aside0.mk (Kept.of_grown hg2.out HK.out (fun k hk => .inl (hP0'.out k (by rw [← hk]; rfl))))
        have hB2 := Aside0.mk (HB.out.grown hg2.out HB.out.size (fun k hk => by injection hk with hk; omega))
        have e1 : wrap64 (a1 + x10_1) = a1 + x10_1 := by unfold wrap64; omega
        have e2 : wrap64 (a2 + x10_1) = a2 + x10_1 := by unfold wrap64; omega
        have e3 : wrap64 (x10_1 + 1) = x10_1 + 1 := by unfold wrap64; omega
        have ew1 : IntKind.i64.wrap (a1 + x10_1) = a1 + x10_1 := by rw [IntWalk.i64_left]; exact e1
        have ew2 : IntKind.i64.wrap (a2 + x10_1) = a2 + x10_1 := by rw [IntWalk.i64_left]; exact e2
        have ew3 : IntKind.i64.wrap (x10_1 + 1) = x10_1 + 1 := by rw [IntWalk.i64_left]; exact e3
        have cc1_ : (0 ≤ a1 + x10_1) = True := eq_true (by omega)
        have cc2_ : (a1 + x10_1 < (x0_1.length : Int)) = True := eq_true (by omega)
        have cc3_ : (0 ≤ a2 + x10_1) = True := eq_true (by omega)
        have cc4_ : (a2 + x10_1 < (x0_1.length : Int)) = True := eq_true (by omega)
        go_wp2
        have f0 := blk_frozen HG1 ((a1 + x10_1).toNat * 2)
        have f1 := blk_frozen HG1 ((a1 + x10_1).toNat * 2 + 1)
        have f2 := blk_frozen HG1 ((a2 + x10_1).toNat * 2)
        have f3 := blk_frozen HG1 ((a2 + x10_1).toNat * 2 + 1)
        have hy10 : wr.drew.cell? ⟨go1, (a1 + x10_1).toNat * 2, none⟩ = some (.int .u64 ((rd_T39 x0_1 (a1 + x10_1)).f0)) := hx10
        have hy11 : wr.drew.cell? ⟨go1, (a1 + x10_1).toNat * 2 + 1, none⟩ = some (.slice A1_ ((rd_T39 x0_1 (a1 + x10_1)).f1).length c1_) := hx11
        have hy20 : wr.drew.cell? ⟨go1, (a2 + x10_1).toNat * 2, none⟩ = some (.int .u64 ((rd_T39 x0_1 (a2 + x10_1)).f0)) := hx20
        have hy21 : wr.drew.cell? ⟨go1, (a2 + x10_1).toNat * 2 + 1, none⟩ = some (.slice A2_ ((rd_T39 x0_1 (a2 + x10_1)).f1).length c2_) := hx21
        have g0 : wr.drew.frozen? ⟨go1, (a1 + x10_1).toNat * 2, none⟩ = false := f0
        have g1 : wr.drew.frozen? ⟨go1, (a1 + x10_1).toNat * 2 + 1, none⟩ = false := f1
        have g2 : wr.drew.frozen? ⟨go1, (a2 + x10_1).toNat * 2, none⟩ = false := f2
        have g3 : wr.drew.frozen? ⟨go1, (a2 + x10_1).toNat * 2 + 1, none⟩ = false := f3
        by_cases hd : a1 = a2
        · subst hd
          obtain ⟨rfl, rfl⟩ : A1_ = A2_ ∧ c1_ = c2_ := by
            have hh := Option.some.inj (hx11.symm.trans hx21)
            injection hh with h1 h2 h3
            exact ⟨h1, h3⟩
          go_region
          rw [hW1_.out]
          clear f0 f1 f2 f3 hy10 hy11 hy20 hy21 g0 g1 g2 g3 hx10 hx11 hx20 hx21 hW1_ HO_0 HK HB HG1
          go_wp2
          go_roundg k1
          case measure => omega
          case rel => exact ⟨Mg.sw z39 x0_1 (a1 + x10_1).toNat (a1 + x10_1).toNat, x10_1 + 1, (by rfl), ⟨by omega, by omega, by omega, (sw_length _ _ _).trans hlen⟩, ⟨by
            have hA := HA.out
            rw [show (a3 - x10_1).toNat = (a3 - (x10_1 + 1)).toNat + 1 by omega] at hA
            unfold Mg.swl at hA
            rw [show (a1 + (x10_1 + 1)).toNat = (a1 + x10_1).toNat + 1 by omega]
            exact hA⟩, ⟨by (with_reducible repeat (apply Kd.R_drew)); exact hr2.out⟩, ⟨by repeat ((with_reducible first | exact hK2.out | apply Kept.drew))⟩, ⟨by repeat ((with_reducible first | exact hB2.out | apply below_drew1))⟩⟩
        have n1 : (a1 + x10_1).toNat * 2 ≠ (a2 + x10_1).toNat * 2 := by omega
        have n2 : (a1 + x10_1).toNat * 2 + 1 ≠ (a2 + x10_1).toNat * 2 := by omega
        have n3 : (a1 + x10_1).toNat * 2 ≠ (a2 + x10_1).toNat * 2 + 1 := by omega
        have n4 : (a2 + x10_1).toNat * 2 ≠ (a1 + x10_1).toNat * 2 := by omega
        have n5 : (a2 + x10_1).toNat * 2 ≠ (a1 + x10_1).toNat * 2 + 1 := by omega
        have n6 : (a2 + x10_1).toNat * 2 + 1 ≠ (a1 + x10_1).toNat * 2 := by omega
        have n7 : (a1 + x10_1).toNat ≠ (a2 + x10_1).toNat := by omega
        have n8 : (a2 + x10_1).toNat ≠ (a1 + x10_1).toNat := by omega
        go_region
        rw [hW1_.out]
        clear f0 f1 f2 f3 hy10 hy11 hy20 hy21 g0 g1 g2 g3 hx10 hx11 hx20 hx21 hW1_ HO_0 HK HB HG1
        go_wp2
        go_roundg k1
        case measure => omega
        case rel => exact ⟨Mg.sw z39 x0_1 (a1 + x10_1).toNat (a2 + x10_1).toNat, x10_1 + 1, (by rfl), ⟨by omega, by omega, by omega, (sw_length _ _ _).trans hlen⟩, ⟨by
          have hA := HA.out
          rw [show (a3 - x10_1).toNat = (a3 - (x10_1 + 1)).toNat + 1 by omega] at hA
          unfold Mg.swl at hA
          rw [show (a1 + (x10_1 + 1)).toNat = (a1 + x10_1).toNat + 1 by omega, show (a2 + (x10_1 + 1)).toNat = (a2 + x10_1).toNat + 1 by omega]
          exact hA⟩, ⟨by (with_reducible repeat (apply Kd.R_drew)); exact hr2.out⟩, ⟨by repeat ((with_reducible first | exact hK2.out | apply Kept.drew))⟩, ⟨by repeat ((with_reducible first | exact hB2.out | apply below_drew1))⟩⟩
    · have c6b0 : decide (x10_1 < a3) = false := decide_eq_false c6
      have hi : x10_1 = a3 := by omega
      subst hi
      have hA := HA.out
      rw [show (x10_1 - x10_1).toNat = 0 by omega] at hA
      obtain rfl : x0_1 = r := hA
      go_wp2
      go_end0
      exact ⟨by rfl, by exact HO_0.out, by exact HB.out, by exact HK.out⟩
end Go.Proofs.Ytkkocmmilmbgpaa.S
end
section
namespace Go.Proofs.Ytkkocmmilmbgpaa.S
open Go.RowKit Go.Proofs.YtkkocmmilmbgpaaW.PrintWords Go.Proofs.YtkkocmmilmbgpaaW.PrintLast Go.Proofs.YtkkocmmilmbgpaaW.PrintMore
attribute [local go_sem] max2_int min2_int max_two min_two max_three min_three max_four min_four
set_option linter.unusedVariables false
set_option linter.unusedSimpArgs false
def api_Term_of_cost_normal_1_53.l0 : Nat → List (S39) → Int → Int → Int → Option ((List (S39)))
  | 0, _, _, _, _ => none
  | k + 1, x0, x2, x10, x11 => if x10 = x11 then ((api_Term_of_cost_normal_1_54.f x0 (wrap64 (x2 - x10)) x2 x10).bind fun t125 => (some t125)) else (if x10 > x11 then ((api_Term_of_cost_normal_1_54.f x0 (wrap64 (x2 - x10)) x2 x11).bind fun t126 => (api_Term_of_cost_normal_1_53.l0 k t126 x2 (wrap64 (x10 - x11)) x11)) else ((api_Term_of_cost_normal_1_54.f x0 (wrap64 (x2 - x10)) (wrap64 ((wrap64 (x2 + x11)) - x10)) x10).bind fun t127 => (api_Term_of_cost_normal_1_53.l0 k t127 x2 x10 (wrap64 (x11 - x10)))))
def api_Term_of_cost_normal_1_53.f (k : Nat) (l0 : List (S39)) (a1 : Int) (a2 : Int) (a3 : Int)  : Option ((List (S39))) := api_Term_of_cost_normal_1_53.l0 k l0 a2 (wrap64 (a2 - a1)) (wrap64 (a3 - a2))
theorem api_Term_of_cost_normal_1_53.mono_l : ∀ k, (∀ y0 y1 y2 y3, LeO (api_Term_of_cost_normal_1_53.l0 k y0 y1 y2 y3) (api_Term_of_cost_normal_1_53.l0 (k + 1) y0 y1 y2 y3))
  | 0 => fun _ _ _ _ r h => by simp [api_Term_of_cost_normal_1_53.l0] at h
  | k + 1 => by
    have ih0 := api_Term_of_cost_normal_1_53.mono_l k
    · intro y0 y1 y2 y3
      unfold api_Term_of_cost_normal_1_53.l0
      repeat' first
      | (with_reducible exact ih0 _ _ _ _)
      | (with_reducible exact LeO.refl _)
      | (with_reducible exact LeO.none _)
      | (with_reducible refine LeO.ite ?_ ?_)
      | (with_reducible refine LeO.bind ?_ (fun _ => ?_))
      | exact ih0 _ _ _ _
      | exact LeO.none _
      | refine LeO.ite ?_ ?_
      | refine LeO.bind ?_ (fun _ => ?_)
theorem api_Term_of_cost_normal_1_53.mono : ∀ a0 a1 a2 a3 k, LeO (api_Term_of_cost_normal_1_53.f k a0 a1 a2 a3) (api_Term_of_cost_normal_1_53.f (k + 1) a0 a1 a2 a3) := by
  intro a0 a1 a2 a3 k
  have ih0 := api_Term_of_cost_normal_1_53.mono_l k
  unfold api_Term_of_cost_normal_1_53.f
  repeat' first
      | (with_reducible exact ih0 _ _ _ _)
      | (with_reducible exact LeO.refl _)
      | (with_reducible exact LeO.none _)
      | (with_reducible refine LeO.ite ?_ ?_)
      | (with_reducible refine LeO.bind ?_ (fun _ => ?_))
      | exact ih0 _ _ _ _
      | exact LeO.none _
      | refine LeO.ite ?_ ?_
      | refine LeO.bind ?_ (fun _ => ?_)
set_option maxHeartbeats 8000000 in
set_option maxRecDepth 100000 in
theorem api_Term_of_cost_normal_1_53.calls (W0_ : World) (okE_ : Nat → Prop) (k : Nat) (P0_ : Nat → Prop) (u9000_ : Value) (l0 : List (S39)) (a1 : Int) (a2 : Int) (a3 : Int)  (r : List (S39)) (w0 w : World) (hB : Below w0.heap.size w0 w) (ho0 : Kd.R (kG W0_ okE_) 39 w w0.heap.size P0_ u9000_ l0) (h : api_Term_of_cost_normal_1_53.f k l0 a1 a2 a3 = some r) :
    Calls Try.prog 53 #[u9000_, .int .i64 a1, .int .i64 a2, .int .i64 a3, .func (.func 41) #[] #[]] w fun e w' => e = .returned (.tuple #[]) ∧ Kd.R (kG W0_ okE_) 39 w' w0.heap.size (fun k_ => (P0_ k_ ∨ w.heap.size ≤ k_)) u9000_ r ∧ Below w0.heap.size w0 w' ∧ Kept w w' (fun k_ => P0_ k_) := by
  have HO0 := am (show Kd.R (kG W0_ okE_) 39 w w0.heap.size (fun k_ => (P0_ k_ ∨ w.heap.size ≤ k_)) u9000_ l0 from Kd.R_mono ho0 (fun k_ hk => (.inl hk)))
  have HK := am (Kept.refl w (fun k_ => P0_ k_))
  have HW0 := am hB.size
  have HB := am hB
  clear hB
  have H : (api_Term_of_cost_normal_1_53.l0 k l0 a2 (wrap64 (a2 - a1)) (wrap64 (a3 - a2))) = some r := h
  clear h
  have H' := am H
  clear H
  go_enter Try.func53, Try.ntmps53
  go_wp2
  go_loopg [10, 11] k (fun kq v10 v11 w' => ∃ (x0_1 : List (S39)) (x10_1 : Int) (x11_1 : Int), v10 = .int .i64 x10_1 ∧ v11 = .int .i64 x11_1 ∧ Aside0 (api_Term_of_cost_normal_1_53.l0 kq x0_1 a2 x10_1 x11_1 = some r) ∧ Aside0 (kq ≤ k) ∧ Aside0 (Kd.R (kG W0_ okE_) 39 w' w0.heap.size (fun k_ => (P0_ k_ ∨ w.heap.size ≤ k_)) u9000_ x0_1) ∧ Aside0 (Kept w w' (fun k_ => P0_ k_)) ∧ Aside0 (Below w0.heap.size w0 w'))
  case atStart => exact ⟨(l0), (wrap64 (a2 - a1)), (wrap64 (a3 - a2)), (by rfl), (by rfl), H', ⟨Nat.le_refl _⟩, ⟨by exact HO0.out⟩, ⟨by exact HK.out⟩, ⟨by exact HB.out⟩⟩
  case round =>
    clear H'
    obtain ⟨x0_1, x10_1, x11_1, rfl, rfl, HA, HK1, HO_0, HK, HB⟩ := hrel
    cases gk with
    | zero => exact absurd HA.out (by simp [api_Term_of_cost_normal_1_53.l0])
    | succ k1 =>
      have H := HA.out
      clear HA
      simp only [api_Term_of_cost_normal_1_53.l0] at H
      by_cases c6 : x10_1 = x11_1
      · rw [if_pos c6] at H
        have c6b0 : (x10_1 == x11_1) = true := beq_iff_eq.mpr c6
        have c6b1 : (x10_1 != x11_1) = false := bne_eq_false_iff_eq.mpr c6
        clear c6
        replace H := Option.bind_eq_some_iff.mp H
        obtain ⟨t125, A70, H⟩ := H
        replace H : (some t125) = some r := H
        have A7 := am A70
        clear A70
        obtain rfl := Option.some.inj H
        obtain ⟨Ao8, co8, eo8⟩ := Kd.R_slice HO_0.out
        subst eo8
        go_wp2_with (((with_reducible refine gate_callee (f := 54) rfl ?_); refine goesL_ (some 57) rfl rfl Try.func54 (by kernel_rfl) rfl #[.slice Ao8 x0_1.length co8, .int .i64 (wrap64 (a2 - x10_1)), .int .i64 a2, .int .i64 x10_1, .func (.func 41) #[] #[]] rfl (by (try simp only [List.map_toArray, List.map_cons, List.map_nil]); rfl) ?_; (with_reducible refine (api_Term_of_cost_normal_1_54.calls W0_ okE_ (fun k_ => some k_ = (.slice Ao8 x0_1.length co8 : Value).ownBlock) (.slice Ao8 x0_1.length co8) x0_1 (wrap64 (a2 - x10_1)) a2 x10_1  t125 w0 _ ?side1 ?side2 A7.out).mono ?_); (case side1 => exact HB.out); (case side2 => exact Kd.R_tight rfl HO_0.out); rintro e w9 ⟨rfl, hy0, hb, hkp⟩; refine ⟨_, rfl, ?_⟩; replace HK := am (Kept.then_ (S := (fun k_ => P0_ k_)) HK.out hkp (fun k_ hs_ => (fun e_ => (HO_0.out.1 k_ e_.symm)) hs_)); replace HO_0 := am (Kd.R_reok rfl hy0 (fun k_ e_ => HO_0.out.1 k_ e_)); replace HB := am (hb); (try clear hb); (try clear hkp); (try clear hy0)))
        go_end0
        exact ⟨by rfl, by exact HO_0.out, by exact HB.out, by exact HK.out⟩
      · rw [if_neg c6] at H
        have c6b0 : (x10_1 == x11_1) = false := beq_eq_false_iff_ne.mpr c6
        have c6b1 : (x10_1 != x11_1) = true := bne_iff_ne.mpr c6
        by_cases c10 : x10_1 > x11_1
        · rw [if_pos c10] at H
          have c10b0 : decide (x11_1 < x10_1) = true := decide_eq_true c10
          clear c10
          replace H := Option.bind_eq_some_iff.mp H
          obtain ⟨t126, A110, H⟩ := H
          replace H : (api_Term_of_cost_normal_1_53.l0 k1 t126 a2 (wrap64 (x10_1 - x11_1)) x11_1) = some r := H
          have A11 := am A110
          clear A110
          have H' := am H
          clear H
          obtain ⟨Ao12, co12, eo12⟩ := Kd.R_slice HO_0.out
          subst eo12
          go_wp2_with (((with_reducible refine gate_callee (f := 54) rfl ?_); refine goesL_ (some 31) rfl rfl Try.func54 (by kernel_rfl) rfl #[.slice Ao12 x0_1.length co12, .int .i64 (wrap64 (a2 - x10_1)), .int .i64 a2, .int .i64 x11_1, .func (.func 41) #[] #[]] rfl (by (try simp only [List.map_toArray, List.map_cons, List.map_nil]); rfl) ?_; (with_reducible refine (api_Term_of_cost_normal_1_54.calls W0_ okE_ (fun k_ => some k_ = (.slice Ao12 x0_1.length co12 : Value).ownBlock) (.slice Ao12 x0_1.length co12) x0_1 (wrap64 (a2 - x10_1)) a2 x11_1  t126 w0 _ ?side1 ?side2 A11.out).mono ?_); (case side1 => exact HB.out); (case side2 => exact Kd.R_tight rfl HO_0.out); rintro e w13 ⟨rfl, hy0, hb, hkp⟩; refine ⟨_, rfl, ?_⟩; replace HK := am (Kept.then_ (S := (fun k_ => P0_ k_)) HK.out hkp (fun k_ hs_ => (fun e_ => (HO_0.out.1 k_ e_.symm)) hs_)); replace HO_0 := am (Kd.R_reok rfl hy0 (fun k_ e_ => HO_0.out.1 k_ e_)); replace HB := am (hb); (try clear hb); (try clear hkp); (try clear hy0)))
          go_roundg k1
          case measure => have := HK1.out; omega
          case rel => exact ⟨(t126), (wrap64 (x10_1 - x11_1)), (x11_1), (by rfl), (by rfl), H', ⟨by have := HK1.out; omega⟩, ⟨by exact HO_0.out⟩, ⟨by exact HK.out⟩, ⟨by exact HB.out⟩⟩
        · rw [if_neg c10] at H
          have c10b0 : decide (x11_1 < x10_1) = false := decide_eq_false c10
          clear c10
          replace H := Option.bind_eq_some_iff.mp H
          obtain ⟨t127, A140, H⟩ := H
          replace H : (api_Term_of_cost_normal_1_53.l0 k1 t127 a2 x10_1 (wrap64 (x11_1 - x10_1))) = some r := H
          have A14 := am A140
          clear A140
          have H' := am H
          clear H
          obtain ⟨Ao15, co15, eo15⟩ := Kd.R_slice HO_0.out
          subst eo15
          go_wp2_with (((with_reducible refine gate_callee (f := 54) rfl ?_); refine goesL_ (some 46) rfl rfl Try.func54 (by kernel_rfl) rfl #[.slice Ao15 x0_1.length co15, .int .i64 (wrap64 (a2 - x10_1)), .int .i64 (wrap64 ((wrap64 (a2 + x11_1)) - x10_1)), .int .i64 x10_1, .func (.func 41) #[] #[]] rfl (by (try simp only [List.map_toArray, List.map_cons, List.map_nil]); rfl) ?_; (with_reducible refine (api_Term_of_cost_normal_1_54.calls W0_ okE_ (fun k_ => some k_ = (.slice Ao15 x0_1.length co15 : Value).ownBlock) (.slice Ao15 x0_1.length co15) x0_1 (wrap64 (a2 - x10_1)) (wrap64 ((wrap64 (a2 + x11_1)) - x10_1)) x10_1  t127 w0 _ ?side1 ?side2 A14.out).mono ?_); (case side1 => exact HB.out); (case side2 => exact Kd.R_tight rfl HO_0.out); rintro e w16 ⟨rfl, hy0, hb, hkp⟩; refine ⟨_, rfl, ?_⟩; replace HK := am (Kept.then_ (S := (fun k_ => P0_ k_)) HK.out hkp (fun k_ hs_ => (fun e_ => (HO_0.out.1 k_ e_.symm)) hs_)); replace HO_0 := am (Kd.R_reok rfl hy0 (fun k_ e_ => HO_0.out.1 k_ e_)); replace HB := am (hb); (try clear hb); (try clear hkp); (try clear hy0)))
          go_roundg k1
          case measure => have := HK1.out; omega
          case rel => exact ⟨(t127), (x10_1), (wrap64 (x11_1 - x10_1)), (by rfl), (by rfl), H', ⟨by have := HK1.out; omega⟩, ⟨by exact HO_0.out⟩, ⟨by exact HK.out⟩, ⟨by exact HB.out⟩⟩
end Go.Proofs.Ytkkocmmilmbgpaa.S
end

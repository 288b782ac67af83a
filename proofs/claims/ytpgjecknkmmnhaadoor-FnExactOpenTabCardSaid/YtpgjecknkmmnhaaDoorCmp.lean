/- Short names for rows of marks and for a few steps that printed proofs repeat. No condition. -/
import Derived.Test.YtpgjecknkmmnhaaDoorWMore
import Derived.Test.YtpgjecknkmmnhaaDoorWApart
import Derived.Test.YtpgjecknkmmnhaaDoorWN
import Derived.Test.YtpgjecknkmmnhaaDoorWTab
import Derived.WalkKit
import Derived.KernelRfl
namespace Go.Proofs.YtpgjecknkmmnhaaDoor.Cmp
open Go.RowKit Go.Proofs.YtpgjecknkmmnhaaDoorW.PrintWords Go.Proofs.YtpgjecknkmmnhaaDoorW.PrintLast Go.Proofs.YtpgjecknkmmnhaaDoorW.PrintMore
@[reducible] def bm (a b : Nat) : Array Bool := (List.replicate a true ++ List.replicate b false).toArray
@[reducible] def bb (n m : Nat) : Array Bool := ((List.range n).map fun i => m.testBit i).toArray
theorem A {p : Prop} (h : p) : Aside0 p := ⟨h⟩
theorem s {α : Type} {l : List α} {i : Nat} {a : α} : l.toArray.setIfInBounds i a = (l.set i a).toArray := List.setIfInBounds_toArray ..
theorem z {α : Type} {x b : α} {xs : List α} : (x :: xs).set 0 b = b :: xs := List.set_cons_zero
theorem c {α : Type} {x b : α} {xs : List α} {n : Nat} : (x :: xs).set (n + 1) b = x :: xs.set n b := List.set_cons_succ
theorem m {α β : Type} {f : α → β} {l : List α} : l.toArray.map f = (l.map f).toArray := List.map_toArray ..
theorem k {α β : Type} {f : α → β} {a : α} {l : List α} : (a :: l).map f = f a :: l.map f := List.map_cons ..
theorem n {α β : Type} {f : α → β} : ([] : List α).map f = [] := List.map_nil ..
/-- A block's content, carried over draws and allocations. -/
theorem b {p q : Prop} (hq : q) (h : q → p := by (intro hq; (with_reducible repeat (first | refine blk_drewN ?_ _ | refine blk_drew ?_ | refine blk_alloc ?_ _)); exact hq)) : p := h hq
/-- .. and over stores: to other blocks, to itself. -/
theorem bw {p q : Prop} (hq : q) (h : q → p := by (intro hq; (with_reducible repeat (first | refine blk_drewN ?_ _ | refine blk_drew ?_ | refine blk_alloc ?_ _ | apply blk_far (hp := Aside0.out (by with_reducible assumption)) | apply blk_put)); exact hq; all_goals rfl)) : p := h hq
/-- Nothing of the elder world has changed, carried over draws, allocations and stores. -/
theorem g {n : Nat} {w W1 W2 : World} (hq : Below n w W1) (h : Below n w W1 → Below n w W2 := by (intro hq; repeat (first | (with_reducible first | exact hq | apply below_alloc | apply pw_below_drewN | apply below_drew1 | refine below_set ?_ (Aside0.out (by with_reducible assumption))) | exact hq))) : Below n w W2 := h hq
theorem rr {p q : Prop} (hq : q) (h : q → p := by (intro hq; (with_reducible repeat (first | apply Kd.R_alloc | apply Kd.R_drewN | apply Kd.R_drew)); exact hq)) : p := h hq
theorem rm {α : Type} {dd : Kd α} {e : Nat} {w1 w2 : World} {base : Nat} {ok ok' : Nat → Prop} {v : Value} {l : List α} (h : dd.R e w1 base ok v l) (f : ∀ k, ok k → ok' k) (c : dd.R e w1 base ok' v l → dd.R e w2 base ok' v l := by (intro hq; (with_reducible repeat (first | apply Kd.R_alloc | apply Kd.R_drewN | apply Kd.R_drew)); exact hq)) : dd.R e w2 base ok' v l := c (Kd.R_mono h f)
theorem rs {p q : Prop} (hq : q) (h : q → p := by (intro hq; (with_reducible repeat (first | apply Kd.S_alloc | apply Kd.S_drewN | apply Kd.S_drew)); exact hq)) : p := h hq
theorem rn {p q : Prop} (hq : q) (h : q → p := by (intro hq; (with_reducible repeat (first | apply Kd.N_alloc | apply Kd.N_drewN | apply Kd.N_drew)); exact hq)) : p := h hq
theorem rv {p q : Prop} (hq : q) (h : q → p := by (intro hq; (with_reducible repeat (first | apply Kd.V_alloc | apply Kd.V_drewN | apply Kd.V_drew)); exact hq)) : p := h hq
theorem rc {p q : Prop} (hq : q) (h : q → p := by (intro hq; repeat (first | exact hq | (with_reducible refine Kd.C_alloc ?_ _) | (with_reducible refine Kd.C_drewN ?_ _) | (with_reducible refine Kd.C_drew ?_)))) : p := h hq
/-- Nothing elder has turned but one block, carried over draws, allocations and stores. -/
theorem kk {w W1 W2 : World} {g : Nat} {row : Option Nat} (hq : KeepBut w W1 g row) (h : KeepBut w W1 g row → KeepBut w W2 g row := by (intro hq; repeat (first | (with_reducible first | exact hq | apply KeepBut.set_ | apply keep_drewN | apply keep_drew | apply keep_alloc | refine keep_far ?_ (Aside0.out (by with_reducible assumption)) _) | exact hq))) : KeepBut w W2 g row := h hq
theorem q {p : Prop} (h : p := by ((try simp only [List.map_toArray, List.map_cons, List.map_nil]); first | done | rfl | (simp only [List.length_drop, List.length_take]; rfl))) : p := h
theorem na {p : Prop} (h : p := by first | (simp only [putAll, Act.put, List.setIfInBounds_toArray, List.set_cons_zero, List.set_cons_succ]; done) | (simp only [putAll, Act.put, List.setIfInBounds_toArray, List.set_cons_zero, List.set_cons_succ]; rfl)) : p := h
theorem hy {α : Type} {a b : α} {p q : Prop} (e : a = b) (H : q) (h : a = b → q → p := by (intro e_ H; first | (rw [e_]; with_reducible exact H) | (have H2_ := (Option.bind_some _ _).symm.trans H; rw [e_]; with_reducible exact H2_) | (have H2_ := (Option.bind_some _ _).symm.trans H; with_reducible exact H2_) | with_reducible exact H | (rw [e_]; exact H) | exact H)) : p := h e H
theorem mi {w : World} {b : Nat} {ok : Nat → Prop} (x : Int) : Kd.M (Kd.int .i64) w b ok x [.int .i64 x] := rfl
theorem d {p : Prop} (h : p := by first | (with_reducible assumption) | assumption) : p := h
section
variable {P : Program} {ops : Array Oper} {Q : Exit → Act → World → Prop} {md : Region.Mode} {S : World → Prop} {ds : List Nat} {oi : Oper} {v : Value} {fuel : Nat} {l : Array Bool} {a a' : Act} {w : World} {T : Bool × List (List Nat × List Nat)} {B : List Nat}
/-- The frame, written out. -/
theorem no (h : wpAnyLast P md ops Q S ds fuel l a' w) (ha : a = a' := by (show Act.put _ (some _) _ = _; simp only [Act.put, List.setIfInBounds_toArray, List.set_cons_zero, List.set_cons_succ, i64_w, i32_w]; rfl)) : wpAnyLast P md ops Q S ds fuel l a w := norm_ ha h
/-- An operation of a region that draws its order, taken first: it yields in every world. -/
theorem pu (HT : Aside0 (rtab md ops = T)) (i n : Nat) (l' : Array Bool) (h : wpAnyLast P md ops Q S ds fuel l' a' w)
    (hi : ops[i]? = some oi := by exact rfl) (hN : oi.dst = some n := by exact rfl) (hc : anyT T l.toList l'.toList i = true := by kernel_rfl) (hQ : ∀ c a w, Q (.panic c) (a.put oi.dst v) w → Q (.panic c) a w := by exact fun _ _ _ h => h)
    (hw : Region.wanted oi (yielded ops a.tmps) = true := by rfl) (hy : ∀ w', (execOp a.eval oi).run P w' = .ok (.value v) w' := by (intro w'; go_simp; with_reducible rfl))
    (ha : a.put (some n) v = a' := by (simp only [Act.put, List.setIfInBounds_toArray, List.set_cons_zero, List.set_cons_succ, i64_w, i32_w]; rfl)) : wpAnyLast P md ops Q S ds (fuel + 1) l a w :=
  pure_ l' hi hN (any_of HT.out hc) hQ (Or.inl ⟨hw, hy⟩) ha h
/-- .. it isn't wanted. -/
theorem pv (HT : Aside0 (rtab md ops = T)) (i n : Nat) (l' : Array Bool) (h : wpAnyLast P md ops Q S ds fuel l' a' w)
    (hi : ops[i]? = some oi := by exact rfl) (hN : oi.dst = some n := by exact rfl) (hc : anyT T l.toList l'.toList i = true := by kernel_rfl) (hQ : ∀ c a w, Q (.panic c) (a.put oi.dst undef) w → Q (.panic c) a w := by exact fun _ _ _ h => h)
    (hw : Region.wanted oi (yielded ops a.tmps) = false := by rfl)
    (ha : a.put (some n) undef = a' := by (simp only [Act.put, List.setIfInBounds_toArray, List.set_cons_zero, List.set_cons_succ, i64_w, i32_w]; rfl)) : wpAnyLast P md ops Q S ds (fuel + 1) l a w :=
  pure_ l' hi hN (any_of HT.out hc) hQ (Or.inr ⟨hw, rfl⟩) ha h
/-- .. it yields in every world that meets S. -/
theorem tk (HT : Aside0 (rtab md ops = T)) (HW : Aside0 (waitsOk T.2 B = true)) (hS : S w) (i n : Nat) (l' : Array Bool) (h : wpAnyLast P md ops Q S ds fuel l' a' w)
    (hi : ops[i]? = some oi := by exact rfl) (hN : oi.dst = some n := by exact rfl) (hc : takeW T B ds l.toList l'.toList i = true := by kernel_rfl) (hQ : ∀ c a w, Q (.panic c) (a.put oi.dst v) w → Q (.panic c) a w := by exact fun _ _ _ h => h)
    (hw : Region.wanted oi (yielded ops a.tmps) = true := by rfl) (hy : ∀ w', S w' → (execOp a.eval oi).run P w' = .ok (.value v) w' := by (intro w' hs; (repeat (obtain ⟨s_, hs⟩ := hs)); go_simp; with_reducible rfl))
    (ha : a.put (some n) v = a' := by (simp only [Act.put, List.setIfInBounds_toArray, List.set_cons_zero, List.set_cons_succ, i64_w, i32_w]; rfl)) : wpAnyLast P md ops Q S ds (fuel + 1) l a w :=
  take_ l' hi hN (take_ofW HT.out HW.out hc) hQ (Or.inl ⟨hw, hy⟩) hS ha h
end
section
variable {w w0 w1 w2 W : World} {g g' : Nat} {o : Obj}
/-- A block of the call's own, behind an event. -/
theorem be (hq : Aside0 (w0.heap[g]? = some o)) (hb : Below w.heap.size w w1) (h : w0.heap[g]? = some o → w.heap[g]? = some o := by (intro hq; (with_reducible repeat (first | refine blk_drewN ?_ _ | refine blk_drew ?_ | refine blk_alloc ?_ _)); exact hq)) : Aside0 (w1.heap[g]? = some o) := ⟨blk_below (h hq.out) hb⟩
theorem bg {row : Option Nat} (hq : Aside0 (w0.heap[g]? = some o)) (hg : w.grownBy w1 row) (hne : some g ≠ row) (h : w0.heap[g]? = some o → w.heap[g]? = some o := by (intro hq; (with_reducible repeat (first | refine blk_drewN ?_ _ | refine blk_drew ?_ | refine blk_alloc ?_ _)); exact hq)) : Aside0 (w1.heap[g]? = some o) := ⟨blk_grown (h hq.out) hg hne⟩
/-- .. where nothing has turned. -/
theorem bq (hq : Aside0 (w0.heap[g]? = some o)) (h : w0.heap[g]? = some o → w.heap[g]? = some o := by (intro hq; (with_reducible repeat (first | refine blk_drewN ?_ _ | refine blk_drew ?_ | refine blk_alloc ?_ _)); exact hq)) : Aside0 (w.heap[g]? = some o) := ⟨h hq.out⟩
/-- A new block is none of the elder ones. -/
theorem nl (hg : g' = w.heap.size) (hq : Aside0 (w0.heap[g]? = some o)) (h : w0.heap[g]? = some o → w.heap[g]? = some o := by (intro hq; (with_reducible repeat (first | refine blk_drewN ?_ _ | refine blk_drew ?_ | refine blk_alloc ?_ _)); exact hq)) : Aside0 (g ≠ g') := ⟨by rw [hg]; exact Nat.ne_of_lt (blk_lt (h hq.out))⟩
theorem ng (hg : g' = w.heap.size) (hq : Aside0 (w0.heap[g]? = some o)) (h : w0.heap[g]? = some o → w.heap[g]? = some o := by (intro hq; (with_reducible repeat (first | refine blk_drewN ?_ _ | refine blk_drew ?_ | refine blk_alloc ?_ _)); exact hq)) : Aside0 (g' ≠ g) := ⟨by rw [hg]; exact Nat.ne_of_gt (blk_lt (h hq.out))⟩
/-- A new block is one of the call's own. -/
theorem gw (hg : g = w1.heap.size) (hq : Aside0 (Below w.heap.size w w0)) (h : Below w.heap.size w w0 → Below w.heap.size w w1 := by (intro hq; repeat (first | (with_reducible first | exact hq | apply below_alloc | apply pw_below_drewN | apply below_drew1 | refine below_set ?_ (Aside0.out (by with_reducible assumption))) | exact hq))) : Aside0 (w.heap.size ≤ g) := ⟨by rw [hg]; exact below_size (h hq.out)⟩
theorem bs (hq : Aside0 (Below w.heap.size w w0)) (hb : Below w1.heap.size w1 w2) (h : Below w.heap.size w w0 → Below w.heap.size w w1 := by (intro hq; repeat (first | (with_reducible first | exact hq | apply below_alloc | apply pw_below_drewN | apply below_drew1 | refine below_set ?_ (Aside0.out (by with_reducible assumption))) | exact hq))) : Aside0 (Below w.heap.size w w2) := ⟨below_step (h hq.out) hb⟩
variable {t : TypeId} {a0 a1 a2 a3 a4 a5 : Value} {l : List Value}
theorem c0 (h : Aside0 (w.heap[g]? = some (.cells (a0 :: l).toArray t (0, 0)))) : w.cell? ⟨g, 0, none⟩ = some a0 := (blk_cell h.out 0).trans rfl
theorem c1 (h : Aside0 (w.heap[g]? = some (.cells (a0 :: a1 :: l).toArray t (0, 0)))) : w.cell? ⟨g, 1, none⟩ = some a1 := (blk_cell h.out 1).trans rfl
theorem c2 (h : Aside0 (w.heap[g]? = some (.cells (a0 :: a1 :: a2 :: l).toArray t (0, 0)))) : w.cell? ⟨g, 2, none⟩ = some a2 := (blk_cell h.out 2).trans rfl
theorem c3 (h : Aside0 (w.heap[g]? = some (.cells (a0 :: a1 :: a2 :: a3 :: l).toArray t (0, 0)))) : w.cell? ⟨g, 3, none⟩ = some a3 := (blk_cell h.out 3).trans rfl
theorem c4 (h : Aside0 (w.heap[g]? = some (.cells (a0 :: a1 :: a2 :: a3 :: a4 :: l).toArray t (0, 0)))) : w.cell? ⟨g, 4, none⟩ = some a4 := (blk_cell h.out 4).trans rfl
theorem c5 (h : Aside0 (w.heap[g]? = some (.cells (a0 :: a1 :: a2 :: a3 :: a4 :: a5 :: l).toArray t (0, 0)))) : w.cell? ⟨g, 5, none⟩ = some a5 := (blk_cell h.out 5).trans rfl
theorem q2 (h : Aside0 (w.heap[g]? = some (.cells (a0 :: a1 :: l).toArray t (0, 0)))) : w.cell? ⟨g, 0, none⟩ = some a0 ∧ w.cell? ⟨g, 1, none⟩ = some a1 := ⟨c0 h, c1 h⟩
theorem q3 (h : Aside0 (w.heap[g]? = some (.cells (a0 :: a1 :: a2 :: l).toArray t (0, 0)))) : w.cell? ⟨g, 0, none⟩ = some a0 ∧ w.cell? ⟨g, 1, none⟩ = some a1 ∧ w.cell? ⟨g, 2, none⟩ = some a2 := ⟨c0 h, c1 h, c2 h⟩
theorem q4 (h : Aside0 (w.heap[g]? = some (.cells (a0 :: a1 :: a2 :: a3 :: l).toArray t (0, 0)))) : w.cell? ⟨g, 0, none⟩ = some a0 ∧ w.cell? ⟨g, 1, none⟩ = some a1 ∧ w.cell? ⟨g, 2, none⟩ = some a2 ∧ w.cell? ⟨g, 3, none⟩ = some a3 := ⟨c0 h, c1 h, c2 h, c3 h⟩
theorem q5 (h : Aside0 (w.heap[g]? = some (.cells (a0 :: a1 :: a2 :: a3 :: a4 :: l).toArray t (0, 0)))) : w.cell? ⟨g, 0, none⟩ = some a0 ∧ w.cell? ⟨g, 1, none⟩ = some a1 ∧ w.cell? ⟨g, 2, none⟩ = some a2 ∧ w.cell? ⟨g, 3, none⟩ = some a3 ∧ w.cell? ⟨g, 4, none⟩ = some a4 := ⟨c0 h, c1 h, c2 h, c3 h, c4 h⟩
theorem q6 (h : Aside0 (w.heap[g]? = some (.cells (a0 :: a1 :: a2 :: a3 :: a4 :: a5 :: l).toArray t (0, 0)))) : w.cell? ⟨g, 0, none⟩ = some a0 ∧ w.cell? ⟨g, 1, none⟩ = some a1 ∧ w.cell? ⟨g, 2, none⟩ = some a2 ∧ w.cell? ⟨g, 3, none⟩ = some a3 ∧ w.cell? ⟨g, 4, none⟩ = some a4 ∧ w.cell? ⟨g, 5, none⟩ = some a5 := ⟨c0 h, c1 h, c2 h, c3 h, c4 h, c5 h⟩
theorem f2 {cs : Array Value} (h : Aside0 (w.heap[g]? = some (.cells cs t (0, 0)))) : w.frozen? ⟨g, 0, none⟩ = false ∧ w.frozen? ⟨g, 1, none⟩ = false := ⟨blk_frozen h.out 0, blk_frozen h.out 1⟩
theorem f3 {cs : Array Value} (h : Aside0 (w.heap[g]? = some (.cells cs t (0, 0)))) : w.frozen? ⟨g, 0, none⟩ = false ∧ w.frozen? ⟨g, 1, none⟩ = false ∧ w.frozen? ⟨g, 2, none⟩ = false := ⟨blk_frozen h.out 0, blk_frozen h.out 1, blk_frozen h.out 2⟩
theorem f4 {cs : Array Value} (h : Aside0 (w.heap[g]? = some (.cells cs t (0, 0)))) : w.frozen? ⟨g, 0, none⟩ = false ∧ w.frozen? ⟨g, 1, none⟩ = false ∧ w.frozen? ⟨g, 2, none⟩ = false ∧ w.frozen? ⟨g, 3, none⟩ = false := ⟨blk_frozen h.out 0, blk_frozen h.out 1, blk_frozen h.out 2, blk_frozen h.out 3⟩
theorem f5 {cs : Array Value} (h : Aside0 (w.heap[g]? = some (.cells cs t (0, 0)))) : w.frozen? ⟨g, 0, none⟩ = false ∧ w.frozen? ⟨g, 1, none⟩ = false ∧ w.frozen? ⟨g, 2, none⟩ = false ∧ w.frozen? ⟨g, 3, none⟩ = false ∧ w.frozen? ⟨g, 4, none⟩ = false := ⟨blk_frozen h.out 0, blk_frozen h.out 1, blk_frozen h.out 2, blk_frozen h.out 3, blk_frozen h.out 4⟩
theorem f6 {cs : Array Value} (h : Aside0 (w.heap[g]? = some (.cells cs t (0, 0)))) : w.frozen? ⟨g, 0, none⟩ = false ∧ w.frozen? ⟨g, 1, none⟩ = false ∧ w.frozen? ⟨g, 2, none⟩ = false ∧ w.frozen? ⟨g, 3, none⟩ = false ∧ w.frozen? ⟨g, 4, none⟩ = false ∧ w.frozen? ⟨g, 5, none⟩ = false := ⟨blk_frozen h.out 0, blk_frozen h.out 1, blk_frozen h.out 2, blk_frozen h.out 3, blk_frozen h.out 4, blk_frozen h.out 5⟩
/-- A cell of another block, behind a store. -/
theorem cf {p q : Addr} {r : Prop} {x : Option Value} (hn : r) (u : Value) (hx : W.cell? q = x) (h : r → q.block ≠ p.block := by (intro hn; first | (rw [add_block]; exact hn) | (show (Addr.add _ _).block ≠ _; rw [add_block]; exact hn) | exact hn)) : (W.setCell p u).cell? q = x := (cell_far (h hn) u).trans hx
theorem hc {q : Addr} {x : Value} (HB : Aside0 (Below w.heap.size w w1)) (hx : w.cell? q = some x) : w1.cell? q = some x := (HB.out.cell (World.block_lt_of_cell? w _ hx)).trans hx
theorem bn {q a : Addr} {x : Value} (hx : w.cell? q = some x) (GW : Aside0 (w.heap.size ≤ g)) (h : q.block < w.heap.size → a.block < w.heap.size := by (intro this; first | rwa [add_block] at this | exact this)) : a.block ≠ g := Nat.ne_of_lt (Nat.lt_of_lt_of_le (h (World.block_lt_of_cell? _ _ hx)) GW.out)
end
end Go.Proofs.YtpgjecknkmmnhaaDoor.Cmp

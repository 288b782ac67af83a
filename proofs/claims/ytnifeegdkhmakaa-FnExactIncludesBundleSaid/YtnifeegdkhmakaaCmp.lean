/- Short names for rows of marks and for a few steps that printed proofs repeat. No condition. -/
import Derived.Test.YtnifeegdkhmakaaWMore
import Derived.Test.YtnifeegdkhmakaaWApart
import Derived.Test.YtnifeegdkhmakaaWN
import Derived.Test.YtnifeegdkhmakaaWTab
import Derived.WalkKit
import Derived.KernelRfl
namespace Go.Proofs.Ytnifeegdkhmakaa.Cmp
open Go.RowKit Go.Proofs.YtnifeegdkhmakaaW.PrintWords Go.Proofs.YtnifeegdkhmakaaW.PrintLast Go.Proofs.YtnifeegdkhmakaaW.PrintMore
@[reducible] def bm (a b : Nat) : Array Bool := (List.replicate a true ++ List.replicate b false).toArray
@[reducible] def bb (n m : Nat) : Array Bool := ((List.range n).map fun i => m.testBit i).toArray
theorem s {α : Type} {l : List α} {i : Nat} {a : α} : l.toArray.setIfInBounds i a = (l.set i a).toArray := List.setIfInBounds_toArray ..
theorem z {α : Type} {x b : α} {xs : List α} : (x :: xs).set 0 b = b :: xs := List.set_cons_zero
theorem c {α : Type} {x b : α} {xs : List α} {n : Nat} : (x :: xs).set (n + 1) b = x :: xs.set n b := List.set_cons_succ
theorem m {α β : Type} {f : α → β} {l : List α} : l.toArray.map f = (l.map f).toArray := List.map_toArray ..
theorem k {α β : Type} {f : α → β} {a : α} {l : List α} : (a :: l).map f = f a :: l.map f := List.map_cons ..
theorem n {α β : Type} {f : α → β} : ([] : List α).map f = [] := List.map_nil ..
/-- A block's content, carried over draws and allocations. -/
theorem b {p q : Prop} (hq : q) (h : q → p := by (intro hq; (with_reducible repeat (first | refine blk_drewN ?_ _ | refine blk_drew ?_ | refine blk_alloc ?_ _)); exact hq)) : p := h hq
/-- Nothing of the elder world has changed, carried over draws, allocations and stores. -/
theorem g {p q : Prop} (hq : q) (h : q → p := by (intro hq; repeat (first | (with_reducible first | exact hq | apply below_alloc | apply pw_below_drewN | apply below_drew1 | refine below_set ?_ (Aside0.out (by with_reducible assumption))) | exact hq))) : p := h hq
theorem rr {p q : Prop} (hq : q) (h : q → p := by (intro hq; (with_reducible repeat (first | apply Kd.R_alloc | apply Kd.R_drewN | apply Kd.R_drew)); exact hq)) : p := h hq
theorem rs {p q : Prop} (hq : q) (h : q → p := by (intro hq; (with_reducible repeat (first | apply Kd.S_alloc | apply Kd.S_drewN | apply Kd.S_drew)); exact hq)) : p := h hq
theorem rn {p q : Prop} (hq : q) (h : q → p := by (intro hq; (with_reducible repeat (first | apply Kd.N_alloc | apply Kd.N_drewN | apply Kd.N_drew)); exact hq)) : p := h hq
theorem rv {p q : Prop} (hq : q) (h : q → p := by (intro hq; (with_reducible repeat (first | apply Kd.V_alloc | apply Kd.V_drewN | apply Kd.V_drew)); exact hq)) : p := h hq
theorem rc {p q : Prop} (hq : q) (h : q → p := by (intro hq; repeat (first | exact hq | (with_reducible refine Kd.C_alloc ?_ _) | (with_reducible refine Kd.C_drewN ?_ _) | (with_reducible refine Kd.C_drew ?_)))) : p := h hq
theorem q {p : Prop} (h : p := by ((try simp only [List.map_toArray, List.map_cons, List.map_nil]); first | done | rfl | (simp only [List.length_drop, List.length_take]; rfl))) : p := h
theorem d {p : Prop} (h : p := by first | (with_reducible assumption) | assumption) : p := h
section
variable {P : Program} {ops : Array Oper} {Q : Exit → Act → World → Prop} {md : Region.Mode} {S : World → Prop} {ds : List Nat} {oi : Oper} {v : Value} {fuel : Nat} {l : Array Bool} {a a' : Act} {w : World} {T : Bool × List (List Nat × List Nat)} {B : List Nat}
/-- An operation of a region that draws its order, taken first: it yields in every world. -/
theorem pu (HT : Aside0 (rtab md ops = T)) (i n : Nat) (l' : Array Bool) (h : wpAnyLast P md ops Q S ds fuel l' a' w)
    (hi : ops[i]? = some oi := by exact rfl) (hN : oi.dst = some n := by exact rfl) (hc : anyT T l.toList l'.toList i = true := by kernel_rfl) (hQ : ∀ c a w, Q (.panic c) (a.put oi.dst v) w → Q (.panic c) a w := by exact fun _ _ _ h => h)
    (hw : Region.wanted oi (yielded ops a.tmps) = true := by rfl) (hy : ∀ w', (execOp a.eval oi).run P w' = .ok (.value v) w' := by (intro w'; go_simp; with_reducible rfl))
    (ha : a.put (some n) v = a' := by (simp only [Act.put, List.setIfInBounds_toArray, List.set_cons_zero, List.set_cons_succ, i64_w, i32_w]; rfl)) : wpAnyLast P md ops Q S ds (fuel + 1) l a w :=
  pure_ l' hi hN (any_of HT.out hc) hQ (Or.inl ⟨hw, hy⟩) ha h
/-- .. it isn't wanted. -/
theorem pv (HT : Aside0 (rtab md ops = T)) (i n : Nat) (l' : Array Bool) (h : wpAnyLast P md ops Q S ds fuel l' a' w)
    (hi : ops[i]? = some oi := by exact rfl) (hN : oi.dst = some n := by exact rfl) (hc : anyT T l.toList l'.toList i = true := by kernel_rfl) (hQ : ∀ c a w, Q (.panic c) (a.put oi.dst undef) w → Q (.panic c) a w := by exact fun _ _ _ h => h)
    (hw : Region.wanted oi (yielded ops a.tmps) = false := by rfl)
    (ha : a.put (some n) undef = a' := by (simp only [Act.put, List.setIfInBounds_toArray, List.set_cons_zero, List.set_cons_succ, i64_w, i32_w]; rfl)) : wpAnyLast P md ops Q S ds (fuel + 1) l a w :=
  pure_ l' hi hN (any_of HT.out hc) hQ (Or.inr ⟨hw, rfl⟩) ha h
/-- .. it yields in every world that meets S. -/
theorem tk (HT : Aside0 (rtab md ops = T)) (HW : Aside0 (waitsOk T.2 B = true)) (hS : S w) (i n : Nat) (l' : Array Bool) (h : wpAnyLast P md ops Q S ds fuel l' a' w)
    (hi : ops[i]? = some oi := by exact rfl) (hN : oi.dst = some n := by exact rfl) (hc : takeW T B ds l.toList l'.toList i = true := by kernel_rfl) (hQ : ∀ c a w, Q (.panic c) (a.put oi.dst v) w → Q (.panic c) a w := by exact fun _ _ _ h => h)
    (hw : Region.wanted oi (yielded ops a.tmps) = true := by rfl) (hy : ∀ w', S w' → (execOp a.eval oi).run P w' = .ok (.value v) w' := by (intro w' hs; (repeat (obtain ⟨s_, hs⟩ := hs)); go_simp; with_reducible rfl))
    (ha : a.put (some n) v = a' := by (simp only [Act.put, List.setIfInBounds_toArray, List.set_cons_zero, List.set_cons_succ, i64_w, i32_w]; rfl)) : wpAnyLast P md ops Q S ds (fuel + 1) l a w :=
  take_ l' hi hN (take_ofW HT.out HW.out hc) hQ (Or.inl ⟨hw, hy⟩) hS ha h
end
end Go.Proofs.Ytnifeegdkhmakaa.Cmp

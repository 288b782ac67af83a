/- Printed functions of the program, out of print.sh, told more shortly. No condition. -/
import Derived.Test.YtgcipecdaimjfaaCmp
import Derived.Test.YtgcipecdaimjfaaPFnExactVerifyLogx0
namespace Go.Proofs.Ytgcipecdaimjfaa.PFnExactVerifyLog
open Go.Proofs.Ytgcipecdaimjfaa
open Go.RowKit Go.Proofs.YtgcipecdaimjfaaW.PrintWords Go.Proofs.YtgcipecdaimjfaaW.PrintLast Go.Proofs.YtgcipecdaimjfaaW.PrintMore
attribute [local go_sem] max2_int min2_int max_two min_two max_three min_three max_four min_four   -- for this text's walks alone
set_option linter.unusedVariables false
set_option linter.unusedSimpArgs false

/-! ### impl_has: function 64 -/
def impl_has.l0 : Nat → Int → List Int → Int → Int → Option (Bool)
  | 0, _, _, _, _ => none
  | k + 1, x1, x7, x8, x9 => if x9 < x8 then (if 0 ≤ x9 then (if x9 < (x7.length : Int) then (if (rd x7 x9) = x1 then (some true) else (impl_has.l0 k x1 x7 x8 (wrap64 (x9 + 1)))) else (none)) else (none)) else (some false)
def impl_has.f (k : Nat) (l0 : List Int) (a1 : Int) : Option (Bool) := impl_has.l0 k a1 l0 (l0.length : Int) 0
theorem impl_has.mono_l : ∀ k, (∀ y0 y1 y2 y3, LeO (impl_has.l0 k y0 y1 y2 y3) (impl_has.l0 (k + 1) y0 y1 y2 y3))
  | 0 => fun _ _ _ _ r h => by simp [impl_has.l0] at h
  | k + 1 => by
    have ih0 := impl_has.mono_l k
    · intro y0 y1 y2 y3
      unfold impl_has.l0
      repeat' first
      | (with_reducible exact ih0 _ _ _ _)
      | (with_reducible exact LeO.refl _)
      | (with_reducible exact LeO.none _)
      | (with_reducible refine LeO.ite ?_ ?_)
      | (with_reducible refine LeO.bind ?_ (fun _ => ?_))
      | exact ih0 _ _ _ _
      | exact LeO.none _
      | refine LeO.ite ?_ ?_
      | refine LeO.bind ?_ (fun _ => ?_)
theorem impl_has.mono : ∀ a0 a1 k, LeO (impl_has.f k a0 a1) (impl_has.f (k + 1) a0 a1) := by
  intro a0 a1 k
  have ih0 := impl_has.mono_l k
  unfold impl_has.f
  repeat' first
      | (with_reducible exact ih0 _ _ _ _)
      | (with_reducible exact LeO.refl _)
      | (with_reducible exact LeO.none _)
      | (with_reducible refine LeO.ite ?_ ?_)
      | (with_reducible refine LeO.bind ?_ (fun _ => ?_))
      | exact ih0 _ _ _ _
      | exact LeO.none _
      | refine LeO.ite ?_ ?_
      | refine LeO.bind ?_ (fun _ => ?_)
set_option maxHeartbeats 8000000 in
set_option maxRecDepth 100000 in
theorem impl_has.calls (k : Nat) (A0 : Option Addr) (c0 : Nat) (l0 : List Int) (a1 : Int) (r : Bool) (w : World) (hr0 : Kd.C (Kd.int .i64) w A0 l0.length l0) (hc0 : l0.length ≤ c0) (h : impl_has.f k l0 a1 = some r) :
    Calls Try.prog 64 #[.slice A0 l0.length c0, .int .i64 a1] w fun e w' => e = .returned (.bool r) ∧ Drawn0 w w' := by
 have HR0 := Aside0.mk hr0; have HC0 := Aside0.mk hc0; clear hr0 hc0
 have H : (impl_has.l0 k a1 l0 (l0.length : Int) 0) = some r := h
 clear h
 have H' := Aside0.mk H
 clear H
 go_enter Try.func64, Try.ntmps64
 go_wp2
 go_loopg [9] k (fun kq v9 w' => ∃ (x9_1 : Int), v9 = .int .i64 x9_1 ∧ Aside0 (impl_has.l0 kq a1 l0 (l0.length : Int) x9_1 = some r) ∧ Aside0 (kq ≤ k) ∧ Drawn0 w w')
 case atStart => exact ⟨(0), (by first | rfl | simp | simp [*]), H', ⟨Nat.le_refl _⟩, by repeat (first | exact Drawn0.refl _ | apply Drawn0.step)⟩
 case round =>
  clear H'
  (try clear p2)
  obtain ⟨x9_1, rfl, HA, HK1, ⟨m1, rfl⟩⟩ := hrel
  cases gk with
  | zero => exact absurd HA.out (by simp [impl_has.l0])
  | succ k1 =>
   have H := HA.out; clear HA
   simp only [impl_has.l0] at H
   by_cases c3 : x9_1 < (l0.length : Int)
   ·rw [if_pos c3] at H
    have c3b0 : decide (x9_1 < (l0.length : Int)) = true := decide_eq_true c3
    clear c3
    by_cases c4 : 0 ≤ x9_1
    ·rw [if_pos c4] at H; have c4b0 : decide (0 ≤ x9_1) = true := decide_eq_true c4; clear c4
     by_cases c5 : x9_1 < (l0.length : Int)
     ·rw [if_pos c5] at H
      have c5b0 : decide (x9_1 < (l0.length : Int)) = true := decide_eq_true c5
      clear c5
      by_cases c6 : (rd l0 x9_1) = a1
      ·rw [if_pos c6] at H; have c6b0 : ((rd l0 x9_1) == a1) = true := beq_iff_eq.mpr c6; have c6b1 : ((rd l0 x9_1) != a1) = false := bne_eq_false_iff_eq.mpr c6; clear c6
       obtain rfl := Option.some.inj H
       have p200 : 0 ≤ (x9_1 : Int) := of_decide_eq_true Cmp.d
       have q200 : x9_1 < (l0.length : Int) := of_decide_eq_true Cmp.d
       obtain ⟨ad200, e200, hx200_0⟩ := Kd.at_int HR0.out x9_1 p200 q200
       cases e200; replace p200 := eq_true p200; replace q200 := eq_true q200
       go_wp2
       go_ret
       exact ⟨by first | rfl | (simp; done) | (simp [*]; done), by repeat (first | exact Drawn0.refl _ | apply Drawn0.step)⟩
      ·rw [if_neg c6] at H; have c6b0 : ((rd l0 x9_1) == a1) = false := beq_eq_false_iff_ne.mpr c6; have c6b1 : ((rd l0 x9_1) != a1) = true := bne_iff_ne.mpr c6
       have H' := Aside0.mk H
       clear H
       have p200 : 0 ≤ (x9_1 : Int) := of_decide_eq_true Cmp.d
       have q200 : x9_1 < (l0.length : Int) := of_decide_eq_true Cmp.d
       obtain ⟨ad200, e200, hx200_0⟩ := Kd.at_int HR0.out x9_1 p200 q200
       cases e200; replace p200 := eq_true p200; replace q200 := eq_true q200
       go_wp2
       go_roundg k1
       case measure => have := HK1.out; omega
       case rel => exact ⟨(wrap64 (x9_1 + 1)), (by first | rfl | simp | simp [*]), H', ⟨by have := HK1.out; omega⟩, by repeat (first | exact Drawn0.refl _ | apply Drawn0.step)⟩
     ·rw [if_neg c5] at H; exact absurd H (by simp)
    ·rw [if_neg c4] at H; exact absurd H (by simp)
   ·rw [if_neg c3] at H
    have c3b0 : decide (x9_1 < (l0.length : Int)) = false := decide_eq_false c3
    clear c3
    obtain rfl := Option.some.inj H
    go_wp2
    go_ret
    exact ⟨by first | rfl | (simp; done) | (simp [*]; done), by repeat (first | exact Drawn0.refl _ | apply Drawn0.step)⟩

/-! ### impl_DevicesOf: function 38 -/
mutual
def impl_DevicesOf.l0 : Nat → List Int → List (S86) → Int → Int → Option (List Int)
  | 0, _, _, _, _ => none
  | k + 1, x3, x10, x11, x12 => if x12 < x11 then (if 0 ≤ x12 then (if x12 < (x10.length : Int) then (if ((rd_T86 x10 x12).f1) = 1 then ((impl_has.f k x3 ((rd_T86 x10 x12).f2)).bind fun t206 => (if t206 = true then (impl_DevicesOf.l0 k x3 x10 x11 (wrap64 (x12 + 1))) else (if x3.length < 17592186044416 then (impl_DevicesOf.l0 k (x3 ++ [(rd_T86 x10 x12).f2]) x10 x11 (wrap64 (x12 + 1))) else (none)))) else (if ((rd_T86 x10 x12).f1) = 2 then (impl_DevicesOf.l1 k (([] : List Int)) x10 x11 x12 x3 (x3.length : Int) 0 ((rd_T86 x10 x12).f0) ((rd_T86 x10 x12).f1) ((rd_T86 x10 x12).f2) ((rd_T86 x10 x12).f3) ((rd_T86 x10 x12).f4) ((rd_T86 x10 x12).f5)) else (impl_DevicesOf.l0 k x3 x10 x11 (wrap64 (x12 + 1))))) else (none)) else (none)) else (some x3)
def impl_DevicesOf.l1 : Nat → List Int → List (S86) → Int → Int → List Int → Int → Int → Int → Int → Int → Int → Int → Int → Option (List Int)
  | 0, _, _, _, _, _, _, _, _, _, _, _, _, _ => none
  | k + 1, x6, x10, x11, x12, x33, x34, x35, x206000, x206001, x206002, x206003, x206004, x206005 => if x35 < x34 then (if 0 ≤ x35 then (if x35 < (x33.length : Int) then (if (rd x33 x35) = x206002 then (impl_DevicesOf.l1 k x6 x10 x11 x12 x33 x34 (wrap64 (x35 + 1)) x206000 x206001 x206002 x206003 x206004 x206005) else (if x6.length < 17592186044416 then (impl_DevicesOf.l1 k (x6 ++ [rd x33 x35]) x10 x11 x12 x33 x34 (wrap64 (x35 + 1)) x206000 x206001 x206002 x206003 x206004 x206005) else (none))) else (none)) else (none)) else (impl_DevicesOf.l0 k x6 x10 x11 (wrap64 (x12 + 1)))
end
def impl_DevicesOf.f (k : Nat) (l0 : List (S86)) : Option (List Int) := impl_DevicesOf.l0 k (([] : List Int)) l0 (l0.length : Int) 0
theorem impl_DevicesOf.mono_l : ∀ k, (∀ y0 y1 y2 y3, LeO (impl_DevicesOf.l0 k y0 y1 y2 y3) (impl_DevicesOf.l0 (k + 1) y0 y1 y2 y3)) ∧ (∀ y0 y1 y2 y3 y4 y5 y6 y7 y8 y9 y10 y11 y12, LeO (impl_DevicesOf.l1 k y0 y1 y2 y3 y4 y5 y6 y7 y8 y9 y10 y11 y12) (impl_DevicesOf.l1 (k + 1) y0 y1 y2 y3 y4 y5 y6 y7 y8 y9 y10 y11 y12))
  | 0 => ⟨fun _ _ _ _ r h => by simp [impl_DevicesOf.l0] at h, fun _ _ _ _ _ _ _ _ _ _ _ _ _ r h => by simp [impl_DevicesOf.l1] at h⟩
  | k + 1 => by
    obtain ⟨ih0, ih1⟩ := impl_DevicesOf.mono_l k
    refine ⟨?_, ?_⟩
    · intro y0 y1 y2 y3
      unfold impl_DevicesOf.l0
      repeat' first
      | (with_reducible exact ih0 _ _ _ _)
      | (with_reducible exact ih1 _ _ _ _ _ _ _ _ _ _ _ _ _)
      | (with_reducible exact impl_has.mono _ _ _)
      | (with_reducible exact LeO.refl _)
      | (with_reducible exact LeO.none _)
      | (with_reducible refine LeO.ite ?_ ?_)
      | (with_reducible refine LeO.bind ?_ (fun _ => ?_))
      | exact ih0 _ _ _ _
      | exact ih1 _ _ _ _ _ _ _ _ _ _ _ _ _
      | exact impl_has.mono _ _ _
      | exact LeO.none _
      | refine LeO.ite ?_ ?_
      | refine LeO.bind ?_ (fun _ => ?_)
    · intro y0 y1 y2 y3 y4 y5 y6 y7 y8 y9 y10 y11 y12
      unfold impl_DevicesOf.l1
      repeat' first
      | (with_reducible exact ih0 _ _ _ _)
      | (with_reducible exact ih1 _ _ _ _ _ _ _ _ _ _ _ _ _)
      | (with_reducible exact impl_has.mono _ _ _)
      | (with_reducible exact LeO.refl _)
      | (with_reducible exact LeO.none _)
      | (with_reducible refine LeO.ite ?_ ?_)
      | (with_reducible refine LeO.bind ?_ (fun _ => ?_))
      | exact ih0 _ _ _ _
      | exact ih1 _ _ _ _ _ _ _ _ _ _ _ _ _
      | exact impl_has.mono _ _ _
      | exact LeO.none _
      | refine LeO.ite ?_ ?_
      | refine LeO.bind ?_ (fun _ => ?_)
theorem impl_DevicesOf.mono : ∀ a0 k, LeO (impl_DevicesOf.f k a0) (impl_DevicesOf.f (k + 1) a0) := by
  intro a0 k
  obtain ⟨ih0, ih1⟩ := impl_DevicesOf.mono_l k
  unfold impl_DevicesOf.f
  repeat' first
      | (with_reducible exact ih0 _ _ _ _)
      | (with_reducible exact ih1 _ _ _ _ _ _ _ _ _ _ _ _ _)
      | (with_reducible exact impl_has.mono _ _ _)
      | (with_reducible exact LeO.refl _)
      | (with_reducible exact LeO.none _)
      | (with_reducible refine LeO.ite ?_ ?_)
      | (with_reducible refine LeO.bind ?_ (fun _ => ?_))
      | exact ih0 _ _ _ _
      | exact ih1 _ _ _ _ _ _ _ _ _ _ _ _ _
      | exact impl_has.mono _ _ _
      | exact LeO.none _
      | refine LeO.ite ?_ ?_
      | refine LeO.bind ?_ (fun _ => ?_)
set_option maxHeartbeats 8000000 in
set_option maxRecDepth 100000 in
theorem impl_DevicesOf.calls (k : Nat) (A0 : Option Addr) (c0 : Nat) (l0 : List (S86)) (r : List Int) (w : World) (hr0 : Kd.C k86 w A0 l0.length l0) (hc0 : l0.length ≤ c0) (h : impl_DevicesOf.f k l0 = some r) :
    Calls Try.prog 38 #[.slice A0 l0.length c0] w fun e w' => ∃ v0_ : Value, e = .returned (v0_) ∧ Kd.R (Kd.int .i64) 3 w' w.heap.size (fun _ => True) v0_ r ∧ Below w.heap.size w w' := by
 have hu86 := Try.underlying86; have HR0 := Aside0.mk hr0; have HC0 := Aside0.mk hc0; clear hr0 hc0
 have HB := Aside0.mk (Below.refl w.heap.size w)
 have H : (impl_DevicesOf.l0 k (([] : List Int)) l0 (l0.length : Int) 0) = some r := h
 clear h
 obtain ⟨y201, hy201⟩ : ∃ y_ : List Int, y_ = (([] : List Int)) := ⟨_, rfl⟩
 replace H : (impl_DevicesOf.l0 k y201 l0 (l0.length : Int) 0) = some r := by first | (rw [hy201]; with_reducible exact H) | (have H2_ := (Option.bind_some _ _).symm.trans H; rw [hy201]; with_reducible exact H2_) | (have H2_ := (Option.bind_some _ _).symm.trans H; with_reducible exact H2_) | with_reducible exact H | (rw [hy201]; exact H) | exact H
 have Ny201 := Aside0.mk hy201; clear hy201
 have H' := Aside0.mk H
 clear H
 go_enter Try.func38, Try.ntmps38
 go_wp2_with (first | ((with_reducible refine gate_dst (N := 9) rfl ?_); refine Kd.R_lit (Kd.int .i64) _ 3 ?hg (N := 9) ?hd (xs := ([] : List Int)) (inner := []) (ok := fun _ => True) (okp := fun _ => True) ?hr ?hp (fun _ hk => hk) trivial (Below.refl _ _) (Nat.le_refl _) (by simp) ?_; (case hd => rfl); (case hg => rfl); (case hr => first | (go_simp; done) | (go_simp; rfl)); (case hp => exact (Reps.none _ _)); intro v202 w2 ho3 hb hg_ hnew_; clear hg_ hnew_; (first | rw [← Ny201.out] at ho3 | (simp only [Int.reduceToNat] at ho3; rw [← Ny201.out] at ho3)); have n0_ := Aside0.mk (Kd.R_lower ho3 (below_size (Cmp.g HB.out))); have n1_ := Aside0.mk (below_step (Cmp.g HB.out) hb); clear HB; have HO203 := n0_; have HB := n1_; clear n0_ n1_; clear hb ho3))
 go_loopg [3, 12] k (fun kq v3 v12 w' => ∃ (x3_1 : List Int) (x12_1 : Int), v12 = .int .i64 x12_1 ∧ Aside0 (impl_DevicesOf.l0 kq x3_1 l0 (l0.length : Int) x12_1 = some r) ∧ Aside0 (kq ≤ k) ∧ Aside0 (Kd.R (Kd.int .i64) 3 w' w.heap.size (fun _ => True) v3 x3_1) ∧ Aside0 (Below w.heap.size w w'))
 case atStart => exact ⟨(y201), (0), (by first | rfl | simp | simp [*]), H', ⟨Nat.le_refl _⟩, ⟨by refine Cmp.rr ?_; exact HO203.out⟩, ⟨Cmp.g HB.out⟩⟩
 case round =>
  clear H'
  (try clear p2); (try clear c3)
  obtain ⟨x3_1, x12_1, rfl, HA, HK1, HO_3, HB⟩ := hrel
  cases gk with
  | zero => exact absurd HA.out (by simp [impl_DevicesOf.l0])
  | succ k1 =>
   have H := HA.out; clear HA
   simp only [impl_DevicesOf.l0] at H
   by_cases c4 : x12_1 < (l0.length : Int)
   ·rw [if_pos c4] at H
    have c4b0 : decide (x12_1 < (l0.length : Int)) = true := decide_eq_true c4
    clear c4
    by_cases c5 : 0 ≤ x12_1
    ·rw [if_pos c5] at H; have c5b0 : decide (0 ≤ x12_1) = true := decide_eq_true c5; clear c5
     by_cases c6 : x12_1 < (l0.length : Int)
     ·rw [if_pos c6] at H
      have c6b0 : decide (x12_1 < (l0.length : Int)) = true := decide_eq_true c6
      clear c6
      by_cases c7 : ((rd_T86 l0 x12_1).f1) = 1
      ·rw [if_pos c7] at H; have c7b0 : (((rd_T86 l0 x12_1).f1) == 1) = true := beq_iff_eq.mpr c7; have c7b1 : (((rd_T86 l0 x12_1).f1) != 1) = false := bne_eq_false_iff_eq.mpr c7; clear c7; replace H := Option.bind_eq_some_iff.mp H; obtain ⟨t206, A80, H⟩ := H; (try dsimp only at H); have A8 := Aside0.mk A80; clear A80
       by_cases c9 : t206 = true
       ·subst c9; rw [if_pos rfl] at H
        have H' := Aside0.mk H
        clear H
        have p204 : 0 ≤ (x12_1 : Int) := of_decide_eq_true Cmp.d
        have q204 : x12_1 < (l0.length : Int) := of_decide_eq_true Cmp.d
        obtain ⟨ad204, e204, hx204_0, hx204_1, hx204_2, hx204_3, hx204_4, hx204_5⟩ := at_T86 HR0.out x12_1 p204 q204
        cases e204
        replace hx204_0 := (HB.out.cell (World.block_lt_of_cell? w _ hx204_0)).trans hx204_0
        replace hx204_1 := (HB.out.cell (World.block_lt_of_cell? w _ hx204_1)).trans hx204_1
        replace hx204_2 := (HB.out.cell (World.block_lt_of_cell? w _ hx204_2)).trans hx204_2
        replace hx204_3 := (HB.out.cell (World.block_lt_of_cell? w _ hx204_3)).trans hx204_3
        replace hx204_4 := (HB.out.cell (World.block_lt_of_cell? w _ hx204_4)).trans hx204_4
        replace hx204_5 := (HB.out.cell (World.block_lt_of_cell? w _ hx204_5)).trans hx204_5
        replace p204 := eq_true p204; replace q204 := eq_true q204
        go_wp2_with (first | ((with_reducible refine gate_dst (N := 5) rfl ?_); refine box_event (by rfl) (N := 5) (by rfl) (cs := #[.int .i64 0, .int .i64 0, .int .i64 0, .int .i64 0, .int .i64 0, .int .i64 0]) (t := 86) (by first | (go_simp; done) | (go_simp; rfl)) ?_; intro gb205 hg w10 hbox hb; have n0_ := Aside0.mk (Kd.R_below (Cmp.rr HO_3.out) hb); have n1_ := Aside0.mk (below_step (Cmp.g HB.out) hb); have n2_ := Aside0.mk (hbox); have n3_ := Aside0.mk ((by rw [hg]; exact (below_size (Cmp.g HB.out)) : w.heap.size ≤ gb205)); have n4_ := Aside0.mk ((by rw [hg]; exact (below_size (Cmp.g HB.out)) : w.heap.size ≤ gb205)); clear HO_3; clear HB; have HO_3 := n0_; have HB := n1_; have BK205 := n2_; have GW205 := n3_; have GE205 := n4_; clear n0_ n1_ n2_ n3_ n4_; clear hb hbox hg; have hcz11_0 : w10.cell? ⟨gb205, 0, none⟩ = some (.int .i64 0) := (blk_cell BK205.out 0).trans rfl; have hcz11_1 : w10.cell? ⟨gb205, 1, none⟩ = some (.int .i64 0) := (blk_cell BK205.out 1).trans rfl; have hcz11_2 : w10.cell? ⟨gb205, 2, none⟩ = some (.int .i64 0) := (blk_cell BK205.out 2).trans rfl; have hcz11_3 : w10.cell? ⟨gb205, 3, none⟩ = some (.int .i64 0) := (blk_cell BK205.out 3).trans rfl; have hcz11_4 : w10.cell? ⟨gb205, 4, none⟩ = some (.int .i64 0) := (blk_cell BK205.out 4).trans rfl; have hcz11_5 : w10.cell? ⟨gb205, 5, none⟩ = some (.int .i64 0) := (blk_cell BK205.out 5).trans rfl; have hfz11_0 := blk_frozen BK205.out 0; have hfz11_1 := blk_frozen BK205.out 1; have hfz11_2 := blk_frozen BK205.out 2; have hfz11_3 := blk_frozen BK205.out 3; have hfz11_4 := blk_frozen BK205.out 4; have hfz11_5 := blk_frozen BK205.out 5; obtain ⟨Ao12, co12, eo12⟩ := Kd.R_slice HO_3.out; subst eo12) | ((with_reducible refine gate_callee (f := 64) rfl ?_); refine goesL_ (some 23) rfl rfl Try.func64 (by kernel_rfl) rfl #[.slice Ao12 x3_1.length co12, .int .i64 ((rd_T86 l0 x12_1).f2)] rfl Cmp.q ?_; (with_reducible refine (impl_has.calls k1 _ _ x3_1 ((rd_T86 l0 x12_1).f2) true _ ?side1 ?side2 A8.out).mono ?_); (case side1 => refine (Kd.R_reads' (e := 3) (base := w.heap.size) (ok := fun k_ => True) (n := x3_1.length) (c := co12) ?_).2.2; exact (by refine Cmp.rr ?_; exact (Kd.R_mono (Kd.R_far (p := ⟨gb205, 5, none⟩) (Kd.R_far (p := ⟨gb205, 4, none⟩) (Kd.R_far (p := ⟨gb205, 3, none⟩) (Kd.R_far (p := ⟨gb205, 2, none⟩) (Kd.R_far (p := ⟨gb205, 1, none⟩) (Kd.R_far (p := ⟨gb205, 0, none⟩) (Kd.R_types HO_3.out BK205.out (by decide)) (fun _ hk => hk.2) (.int .i64 ((rd_T86 l0 x12_1).f0))) (fun _ hk => hk.2) (.int .i64 ((rd_T86 l0 x12_1).f1))) (fun _ hk => hk.2) (.int .i64 ((rd_T86 l0 x12_1).f2))) (fun _ hk => hk.2) (.int .i64 ((rd_T86 l0 x12_1).f3))) (fun _ hk => hk.2) (.int .i64 ((rd_T86 l0 x12_1).f4))) (fun _ hk => hk.2) (.int .i64 ((rd_T86 l0 x12_1).f5))) (fun _ h_ => h_.1)))); (case side2 => exact (Kd.R_reads' HO_3.out).2.1); rintro e w' ⟨rfl, ⟨nd, rfl⟩⟩; refine ⟨_, rfl, ?_⟩))
        go_roundg k1
        case measure => have := HK1.out; omega
        case rel => exact ⟨(x3_1), (wrap64 (x12_1 + 1)), (by first | rfl | simp | simp [*]), H', ⟨by have := HK1.out; omega⟩, ⟨by refine Cmp.rr ?_; exact Kd.R_mono (Kd.R_far (p := ⟨gb205, 5, none⟩) (Kd.R_far (p := ⟨gb205, 4, none⟩) (Kd.R_far (p := ⟨gb205, 3, none⟩) (Kd.R_far (p := ⟨gb205, 2, none⟩) (Kd.R_far (p := ⟨gb205, 1, none⟩) (Kd.R_far (p := ⟨gb205, 0, none⟩) (Kd.R_types HO_3.out BK205.out (by decide)) (fun _ hk => hk.2) (.int .i64 ((rd_T86 l0 x12_1).f0))) (fun _ hk => hk.2) (.int .i64 ((rd_T86 l0 x12_1).f1))) (fun _ hk => hk.2) (.int .i64 ((rd_T86 l0 x12_1).f2))) (fun _ hk => hk.2) (.int .i64 ((rd_T86 l0 x12_1).f3))) (fun _ hk => hk.2) (.int .i64 ((rd_T86 l0 x12_1).f4))) (fun _ hk => hk.2) (.int .i64 ((rd_T86 l0 x12_1).f5))) (fun _ hk => trivial)⟩, ⟨Cmp.g HB.out⟩⟩
       ·replace c9 := Bool.eq_false_iff.mpr c9
        subst c9
        have H1 : (if x3_1.length < 17592186044416 then (impl_DevicesOf.l0 k1 (x3_1 ++ [(rd_T86 l0 x12_1).f2]) l0 (l0.length : Int) (wrap64 (x12_1 + 1))) else (none)) = some r := by rw [if_neg (show ¬ (false = true) by decide)] at H; exact H
        clear H; have H := H1; clear H1
        by_cases c13 : x3_1.length < 17592186044416
        ·rw [if_pos c13] at H; have LMc13 := Aside0.mk c13; clear c13
         obtain ⟨y207, hy207⟩ : ∃ y_ : List Int, y_ = (x3_1 ++ [(rd_T86 l0 x12_1).f2]) := ⟨_, rfl⟩
         replace H : (impl_DevicesOf.l0 k1 y207 l0 (l0.length : Int) (wrap64 (x12_1 + 1))) = some r := by first | (rw [hy207]; with_reducible exact H) | (have H2_ := (Option.bind_some _ _).symm.trans H; rw [hy207]; with_reducible exact H2_) | (have H2_ := (Option.bind_some _ _).symm.trans H; with_reducible exact H2_) | with_reducible exact H | (rw [hy207]; exact H) | exact H
         have Ny207 := Aside0.mk hy207; clear hy207
         have H' := Aside0.mk H
         clear H
         have p204 : 0 ≤ (x12_1 : Int) := of_decide_eq_true Cmp.d
         have q204 : x12_1 < (l0.length : Int) := of_decide_eq_true Cmp.d
         obtain ⟨ad204, e204, hx204_0, hx204_1, hx204_2, hx204_3, hx204_4, hx204_5⟩ := at_T86 HR0.out x12_1 p204 q204
         cases e204
         replace hx204_0 := (HB.out.cell (World.block_lt_of_cell? w _ hx204_0)).trans hx204_0
         replace hx204_1 := (HB.out.cell (World.block_lt_of_cell? w _ hx204_1)).trans hx204_1
         replace hx204_2 := (HB.out.cell (World.block_lt_of_cell? w _ hx204_2)).trans hx204_2
         replace hx204_3 := (HB.out.cell (World.block_lt_of_cell? w _ hx204_3)).trans hx204_3
         replace hx204_4 := (HB.out.cell (World.block_lt_of_cell? w _ hx204_4)).trans hx204_4
         replace hx204_5 := (HB.out.cell (World.block_lt_of_cell? w _ hx204_5)).trans hx204_5
         replace p204 := eq_true p204; replace q204 := eq_true q204
         go_wp2_with (first | ((with_reducible refine gate_dst (N := 5) rfl ?_); refine box_event (by rfl) (N := 5) (by rfl) (cs := #[.int .i64 0, .int .i64 0, .int .i64 0, .int .i64 0, .int .i64 0, .int .i64 0]) (t := 86) (by first | (go_simp; done) | (go_simp; rfl)) ?_; intro gb205 hg w14 hbox hb; have n0_ := Aside0.mk (Kd.R_below (Cmp.rr HO_3.out) hb); have n1_ := Aside0.mk (below_step (Cmp.g HB.out) hb); have n2_ := Aside0.mk (hbox); have n3_ := Aside0.mk ((by rw [hg]; exact (below_size (Cmp.g HB.out)) : w.heap.size ≤ gb205)); have n4_ := Aside0.mk ((by rw [hg]; exact (below_size (Cmp.g HB.out)) : w.heap.size ≤ gb205)); clear HO_3; clear HB; have HO_3 := n0_; have HB := n1_; have BK205 := n2_; have GW205 := n3_; have GE205 := n4_; clear n0_ n1_ n2_ n3_ n4_; clear hb hbox hg; have hcz15_0 : w14.cell? ⟨gb205, 0, none⟩ = some (.int .i64 0) := (blk_cell BK205.out 0).trans rfl; have hcz15_1 : w14.cell? ⟨gb205, 1, none⟩ = some (.int .i64 0) := (blk_cell BK205.out 1).trans rfl; have hcz15_2 : w14.cell? ⟨gb205, 2, none⟩ = some (.int .i64 0) := (blk_cell BK205.out 2).trans rfl; have hcz15_3 : w14.cell? ⟨gb205, 3, none⟩ = some (.int .i64 0) := (blk_cell BK205.out 3).trans rfl; have hcz15_4 : w14.cell? ⟨gb205, 4, none⟩ = some (.int .i64 0) := (blk_cell BK205.out 4).trans rfl; have hcz15_5 : w14.cell? ⟨gb205, 5, none⟩ = some (.int .i64 0) := (blk_cell BK205.out 5).trans rfl; have hfz15_0 := blk_frozen BK205.out 0; have hfz15_1 := blk_frozen BK205.out 1; have hfz15_2 := blk_frozen BK205.out 2; have hfz15_3 := blk_frozen BK205.out 3; have hfz15_4 := blk_frozen BK205.out 4; have hfz15_5 := blk_frozen BK205.out 5; obtain ⟨Ao16, co16, eo16⟩ := Kd.R_slice HO_3.out; subst eo16) | ((with_reducible refine gate_callee (f := 64) rfl ?_); refine goesL_ (some 23) rfl rfl Try.func64 (by kernel_rfl) rfl #[.slice Ao16 x3_1.length co16, .int .i64 ((rd_T86 l0 x12_1).f2)] rfl Cmp.q ?_; (with_reducible refine (impl_has.calls k1 _ _ x3_1 ((rd_T86 l0 x12_1).f2) false _ ?side1 ?side2 A8.out).mono ?_); (case side1 => refine (Kd.R_reads' (e := 3) (base := w.heap.size) (ok := fun k_ => True) (n := x3_1.length) (c := co16) ?_).2.2; exact (by refine Cmp.rr ?_; exact (Kd.R_mono (Kd.R_far (p := ⟨gb205, 5, none⟩) (Kd.R_far (p := ⟨gb205, 4, none⟩) (Kd.R_far (p := ⟨gb205, 3, none⟩) (Kd.R_far (p := ⟨gb205, 2, none⟩) (Kd.R_far (p := ⟨gb205, 1, none⟩) (Kd.R_far (p := ⟨gb205, 0, none⟩) (Kd.R_types HO_3.out BK205.out (by decide)) (fun _ hk => hk.2) (.int .i64 ((rd_T86 l0 x12_1).f0))) (fun _ hk => hk.2) (.int .i64 ((rd_T86 l0 x12_1).f1))) (fun _ hk => hk.2) (.int .i64 ((rd_T86 l0 x12_1).f2))) (fun _ hk => hk.2) (.int .i64 ((rd_T86 l0 x12_1).f3))) (fun _ hk => hk.2) (.int .i64 ((rd_T86 l0 x12_1).f4))) (fun _ hk => hk.2) (.int .i64 ((rd_T86 l0 x12_1).f5))) (fun _ h_ => h_.1)))); (case side2 => exact (Kd.R_reads' HO_3.out).2.1); rintro e w' ⟨rfl, ⟨nd, rfl⟩⟩; refine ⟨_, rfl, ?_⟩) | ((with_reducible refine gate_builtin (b := .append) (xs := #[.tmp 25, .tmp 28]) rfl ?_); at_builtin; refine Kd.R_append (Kd.int .i64) (w0 := w) w.heap.size rfl (.tmp 25) (.tmp 28) 48 3 (.int .i64 0) 8 rfl Try.underlying48 info3 rfl (by decide) (by omega) (.slice Ao16 x3_1.length co16) x3_1 ((rd_T86 l0 x12_1).f2) [.int .i64 ((rd_T86 l0 x12_1).f2)] (fun _ => True) (fun _ => False) rfl (by first | (go_simp; done) | (go_simp; rfl)) ?aP (fun _ hk => hk.elim) ?aF ?aO ?aB ?aS ?aL ?_; (case aP => exact rfl); (case aB => exact (Cmp.g HB.out)); (case aF => exact (fun _ _ => trivial)); (case aO => exact (by refine Cmp.rr ?_; exact Kd.R_mono (Kd.R_far (p := ⟨gb205, 5, none⟩) (Kd.R_far (p := ⟨gb205, 4, none⟩) (Kd.R_far (p := ⟨gb205, 3, none⟩) (Kd.R_far (p := ⟨gb205, 2, none⟩) (Kd.R_far (p := ⟨gb205, 1, none⟩) (Kd.R_far (p := ⟨gb205, 0, none⟩) (Kd.R_types HO_3.out BK205.out (by decide)) (fun _ hk => hk.2) (.int .i64 ((rd_T86 l0 x12_1).f0))) (fun _ hk => hk.2) (.int .i64 ((rd_T86 l0 x12_1).f1))) (fun _ hk => hk.2) (.int .i64 ((rd_T86 l0 x12_1).f2))) (fun _ hk => hk.2) (.int .i64 ((rd_T86 l0 x12_1).f3))) (fun _ hk => hk.2) (.int .i64 ((rd_T86 l0 x12_1).f4))) (fun _ hk => hk.2) (.int .i64 ((rd_T86 l0 x12_1).f5))) (fun _ hk => trivial))); (case aS => exact (below_size (Cmp.g HB.out))); (case aL => have := LMc13.out; omega); intro v208 w17 ho hb hg hat; rw [← Ny207.out] at ho; have n0_ := Aside0.mk (blk_grown (g := gb205) (o := .cells #[.int .i64 ((rd_T86 l0 x12_1).f0), .int .i64 ((rd_T86 l0 x12_1).f1), .int .i64 ((rd_T86 l0 x12_1).f2), .int .i64 ((rd_T86 l0 x12_1).f3), .int .i64 ((rd_T86 l0 x12_1).f4), .int .i64 ((rd_T86 l0 x12_1).f5)] 86 (0, 0)) (by refine Cmp.b ?_; refine blk_put (cs := #[.int .i64 ((rd_T86 l0 x12_1).f0), .int .i64 ((rd_T86 l0 x12_1).f1), .int .i64 ((rd_T86 l0 x12_1).f2), .int .i64 ((rd_T86 l0 x12_1).f3), .int .i64 ((rd_T86 l0 x12_1).f4), .int .i64 0]) ?_ 5 _ rfl; refine Cmp.b ?_; refine blk_put (cs := #[.int .i64 ((rd_T86 l0 x12_1).f0), .int .i64 ((rd_T86 l0 x12_1).f1), .int .i64 ((rd_T86 l0 x12_1).f2), .int .i64 ((rd_T86 l0 x12_1).f3), .int .i64 0, .int .i64 0]) ?_ 4 _ rfl; refine Cmp.b ?_; refine blk_put (cs := #[.int .i64 ((rd_T86 l0 x12_1).f0), .int .i64 ((rd_T86 l0 x12_1).f1), .int .i64 ((rd_T86 l0 x12_1).f2), .int .i64 0, .int .i64 0, .int .i64 0]) ?_ 3 _ rfl; refine Cmp.b ?_; refine blk_put (cs := #[.int .i64 ((rd_T86 l0 x12_1).f0), .int .i64 ((rd_T86 l0 x12_1).f1), .int .i64 0, .int .i64 0, .int .i64 0, .int .i64 0]) ?_ 2 _ rfl; refine Cmp.b ?_; refine blk_put (cs := #[.int .i64 ((rd_T86 l0 x12_1).f0), .int .i64 0, .int .i64 0, .int .i64 0, .int .i64 0, .int .i64 0]) ?_ 1 _ rfl; refine Cmp.b ?_; refine blk_put (cs := #[.int .i64 0, .int .i64 0, .int .i64 0, .int .i64 0, .int .i64 0, .int .i64 0]) ?_ 0 _ rfl; refine Cmp.b ?_; exact BK205.out) hg (Kd.R_ne HO_3.out BK205.out (by decide))); have n1_ := Aside0.mk (hb); have n2_ := Aside0.mk (ho); clear BK205; clear HB; clear HO_3; have BK205 := n0_; have HB := n1_; have HO209 := n2_; clear n0_ n1_ n2_; clear ho hb hg hat))
         go_roundg k1
         case measure => have := HK1.out; omega
         case rel => exact ⟨(y207), (wrap64 (x12_1 + 1)), (by first | rfl | simp | simp [*]), H', ⟨by have := HK1.out; omega⟩, ⟨by refine Cmp.rr ?_; exact HO209.out⟩, ⟨Cmp.g HB.out⟩⟩
        ·rw [if_neg c13] at H; exact absurd H (by simp)
      ·rw [if_neg c7] at H; have c7b0 : (((rd_T86 l0 x12_1).f1) == 1) = false := beq_eq_false_iff_ne.mpr c7; have c7b1 : (((rd_T86 l0 x12_1).f1) != 1) = true := bne_iff_ne.mpr c7
       by_cases c18 : ((rd_T86 l0 x12_1).f1) = 2
       ·rw [if_pos c18] at H; have c18b0 : (((rd_T86 l0 x12_1).f1) == 2) = true := beq_iff_eq.mpr c18; have c18b1 : (((rd_T86 l0 x12_1).f1) != 2) = false := bne_eq_false_iff_eq.mpr c18; clear c18
        obtain ⟨y210, hy210⟩ : ∃ y_ : List Int, y_ = (([] : List Int)) := ⟨_, rfl⟩
        replace H : (impl_DevicesOf.l1 k1 y210 l0 (l0.length : Int) x12_1 x3_1 (x3_1.length : Int) 0 ((rd_T86 l0 x12_1).f0) ((rd_T86 l0 x12_1).f1) ((rd_T86 l0 x12_1).f2) ((rd_T86 l0 x12_1).f3) ((rd_T86 l0 x12_1).f4) ((rd_T86 l0 x12_1).f5)) = some r := by first | (rw [hy210]; with_reducible exact H) | (have H2_ := (Option.bind_some _ _).symm.trans H; rw [hy210]; with_reducible exact H2_) | (have H2_ := (Option.bind_some _ _).symm.trans H; with_reducible exact H2_) | with_reducible exact H | (rw [hy210]; exact H) | exact H
        have Ny210 := Aside0.mk hy210; clear hy210
        have H' := Aside0.mk H
        clear H
        have p204 : 0 ≤ (x12_1 : Int) := of_decide_eq_true Cmp.d
        have q204 : x12_1 < (l0.length : Int) := of_decide_eq_true Cmp.d
        obtain ⟨ad204, e204, hx204_0, hx204_1, hx204_2, hx204_3, hx204_4, hx204_5⟩ := at_T86 HR0.out x12_1 p204 q204
        cases e204
        replace hx204_0 := (HB.out.cell (World.block_lt_of_cell? w _ hx204_0)).trans hx204_0
        replace hx204_1 := (HB.out.cell (World.block_lt_of_cell? w _ hx204_1)).trans hx204_1
        replace hx204_2 := (HB.out.cell (World.block_lt_of_cell? w _ hx204_2)).trans hx204_2
        replace hx204_3 := (HB.out.cell (World.block_lt_of_cell? w _ hx204_3)).trans hx204_3
        replace hx204_4 := (HB.out.cell (World.block_lt_of_cell? w _ hx204_4)).trans hx204_4
        replace hx204_5 := (HB.out.cell (World.block_lt_of_cell? w _ hx204_5)).trans hx204_5
        replace p204 := eq_true p204; replace q204 := eq_true q204
        go_wp2_with (first | ((with_reducible refine gate_dst (N := 5) rfl ?_); refine box_event (by rfl) (N := 5) (by rfl) (cs := #[.int .i64 0, .int .i64 0, .int .i64 0, .int .i64 0, .int .i64 0, .int .i64 0]) (t := 86) (by first | (go_simp; done) | (go_simp; rfl)) ?_; intro gb205 hg w19 hbox hb; have n0_ := Aside0.mk (Kd.R_below (Cmp.rr HO_3.out) hb); have n1_ := Aside0.mk (below_step (Cmp.g HB.out) hb); have n2_ := Aside0.mk (hbox); have n3_ := Aside0.mk ((by rw [hg]; exact (below_size (Cmp.g HB.out)) : w.heap.size ≤ gb205)); have n4_ := Aside0.mk ((by rw [hg]; exact (below_size (Cmp.g HB.out)) : w.heap.size ≤ gb205)); clear HO_3; clear HB; have HO_3 := n0_; have HB := n1_; have BK205 := n2_; have GW205 := n3_; have GE205 := n4_; clear n0_ n1_ n2_ n3_ n4_; clear hb hbox hg; have hcz20_0 : w19.cell? ⟨gb205, 0, none⟩ = some (.int .i64 0) := (blk_cell BK205.out 0).trans rfl; have hcz20_1 : w19.cell? ⟨gb205, 1, none⟩ = some (.int .i64 0) := (blk_cell BK205.out 1).trans rfl; have hcz20_2 : w19.cell? ⟨gb205, 2, none⟩ = some (.int .i64 0) := (blk_cell BK205.out 2).trans rfl; have hcz20_3 : w19.cell? ⟨gb205, 3, none⟩ = some (.int .i64 0) := (blk_cell BK205.out 3).trans rfl; have hcz20_4 : w19.cell? ⟨gb205, 4, none⟩ = some (.int .i64 0) := (blk_cell BK205.out 4).trans rfl; have hcz20_5 : w19.cell? ⟨gb205, 5, none⟩ = some (.int .i64 0) := (blk_cell BK205.out 5).trans rfl; have hfz20_0 := blk_frozen BK205.out 0; have hfz20_1 := blk_frozen BK205.out 1; have hfz20_2 := blk_frozen BK205.out 2; have hfz20_3 := blk_frozen BK205.out 3; have hfz20_4 := blk_frozen BK205.out 4; have hfz20_5 := blk_frozen BK205.out 5) | ((with_reducible refine gate_dst (N := 32) rfl ?_); refine Kd.R_lit (Kd.int .i64) _ 3 ?hg (N := 32) ?hd (xs := ([] : List Int)) (inner := []) (ok := fun _ => True) (okp := fun _ => True) ?hr ?hp (fun _ hk => hk) trivial (Below.refl _ _) (Nat.le_refl _) (by simp) ?_; (case hd => rfl); (case hg => rfl); (case hr => first | (go_simp; done) | (go_simp; rfl)); (case hp => exact (Reps.none _ _)); intro v211 w21 ho22 hb hg_ hnew_; clear hg_ hnew_; (first | rw [← Ny210.out] at ho22 | (simp only [Int.reduceToNat] at ho22; rw [← Ny210.out] at ho22)); have n0_ := Aside0.mk (Kd.R_elder' (by refine Cmp.rr ?_; exact (Kd.R_mono (Kd.R_far (p := ⟨gb205, 5, none⟩) (Kd.R_far (p := ⟨gb205, 4, none⟩) (Kd.R_far (p := ⟨gb205, 3, none⟩) (Kd.R_far (p := ⟨gb205, 2, none⟩) (Kd.R_far (p := ⟨gb205, 1, none⟩) (Kd.R_far (p := ⟨gb205, 0, none⟩) (Kd.R_types HO_3.out BK205.out (by decide)) (fun _ hk => hk.2) (.int .i64 ((rd_T86 l0 x12_1).f0))) (fun _ hk => hk.2) (.int .i64 ((rd_T86 l0 x12_1).f1))) (fun _ hk => hk.2) (.int .i64 ((rd_T86 l0 x12_1).f2))) (fun _ hk => hk.2) (.int .i64 ((rd_T86 l0 x12_1).f3))) (fun _ hk => hk.2) (.int .i64 ((rd_T86 l0 x12_1).f4))) (fun _ hk => hk.2) (.int .i64 ((rd_T86 l0 x12_1).f5))) (fun _ h_ => h_.1))) (Kd.R_base ho22) hb); have n1_ := Aside0.mk (Kd.R_lower (Kd.R_new' ho22 (Kd.R_lt (by refine Cmp.rr ?_; exact (Kd.R_mono (Kd.R_far (p := ⟨gb205, 5, none⟩) (Kd.R_far (p := ⟨gb205, 4, none⟩) (Kd.R_far (p := ⟨gb205, 3, none⟩) (Kd.R_far (p := ⟨gb205, 2, none⟩) (Kd.R_far (p := ⟨gb205, 1, none⟩) (Kd.R_far (p := ⟨gb205, 0, none⟩) (Kd.R_types HO_3.out BK205.out (by decide)) (fun _ hk => hk.2) (.int .i64 ((rd_T86 l0 x12_1).f0))) (fun _ hk => hk.2) (.int .i64 ((rd_T86 l0 x12_1).f1))) (fun _ hk => hk.2) (.int .i64 ((rd_T86 l0 x12_1).f2))) (fun _ hk => hk.2) (.int .i64 ((rd_T86 l0 x12_1).f3))) (fun _ hk => hk.2) (.int .i64 ((rd_T86 l0 x12_1).f4))) (fun _ hk => hk.2) (.int .i64 ((rd_T86 l0 x12_1).f5))) (fun _ h_ => h_.1))))) (below_size (Cmp.g HB.out))); have n2_ := Aside0.mk (blk_below (g := gb205) (o := .cells #[.int .i64 ((rd_T86 l0 x12_1).f0), .int .i64 ((rd_T86 l0 x12_1).f1), .int .i64 ((rd_T86 l0 x12_1).f2), .int .i64 ((rd_T86 l0 x12_1).f3), .int .i64 ((rd_T86 l0 x12_1).f4), .int .i64 ((rd_T86 l0 x12_1).f5)] 86 (0, 0)) (by refine Cmp.b ?_; refine blk_put (cs := #[.int .i64 ((rd_T86 l0 x12_1).f0), .int .i64 ((rd_T86 l0 x12_1).f1), .int .i64 ((rd_T86 l0 x12_1).f2), .int .i64 ((rd_T86 l0 x12_1).f3), .int .i64 ((rd_T86 l0 x12_1).f4), .int .i64 0]) ?_ 5 _ rfl; refine Cmp.b ?_; refine blk_put (cs := #[.int .i64 ((rd_T86 l0 x12_1).f0), .int .i64 ((rd_T86 l0 x12_1).f1), .int .i64 ((rd_T86 l0 x12_1).f2), .int .i64 ((rd_T86 l0 x12_1).f3), .int .i64 0, .int .i64 0]) ?_ 4 _ rfl; refine Cmp.b ?_; refine blk_put (cs := #[.int .i64 ((rd_T86 l0 x12_1).f0), .int .i64 ((rd_T86 l0 x12_1).f1), .int .i64 ((rd_T86 l0 x12_1).f2), .int .i64 0, .int .i64 0, .int .i64 0]) ?_ 3 _ rfl; refine Cmp.b ?_; refine blk_put (cs := #[.int .i64 ((rd_T86 l0 x12_1).f0), .int .i64 ((rd_T86 l0 x12_1).f1), .int .i64 0, .int .i64 0, .int .i64 0, .int .i64 0]) ?_ 2 _ rfl; refine Cmp.b ?_; refine blk_put (cs := #[.int .i64 ((rd_T86 l0 x12_1).f0), .int .i64 0, .int .i64 0, .int .i64 0, .int .i64 0, .int .i64 0]) ?_ 1 _ rfl; refine Cmp.b ?_; refine blk_put (cs := #[.int .i64 0, .int .i64 0, .int .i64 0, .int .i64 0, .int .i64 0, .int .i64 0]) ?_ 0 _ rfl; refine Cmp.b ?_; exact BK205.out) hb); have n3_ := Aside0.mk (below_step (Cmp.g HB.out) hb); clear HO_3; clear BK205; clear HB; have HO_3 := n0_; have HO212 := n1_; have BK205 := n2_; have HB := n3_; clear n0_ n1_ n2_ n3_; clear hb ho22; obtain ⟨Ao23, co23, eo23⟩ := Kd.R_slice HO_3.out; subst eo23))
        go_loopg [6, 35] k1 (fun kq v6 v35 w' => ∃ (x6_2 : List Int) (x35_2 : Int), v35 = .int .i64 x35_2 ∧ Aside0 (impl_DevicesOf.l1 kq x6_2 l0 (l0.length : Int) x12_1 x3_1 (x3_1.length : Int) x35_2 ((rd_T86 l0 x12_1).f0) ((rd_T86 l0 x12_1).f1) ((rd_T86 l0 x12_1).f2) ((rd_T86 l0 x12_1).f3) ((rd_T86 l0 x12_1).f4) ((rd_T86 l0 x12_1).f5) = some r) ∧ Aside0 (kq ≤ k1) ∧ Aside0 (Kd.R (Kd.int .i64) 3 w' w.heap.size (fun k_ => some k_ ≠ ((.slice Ao23 x3_1.length co23) : Value).ownBlock) v6 x6_2) ∧ Aside0 (Kd.R (Kd.int .i64) 3 w' w.heap.size (fun k_ => some k_ ≠ (v6 : Value).ownBlock) (.slice Ao23 x3_1.length co23) x3_1) ∧ Aside0 (w'.heap[gb205]? = some (.cells #[.int .i64 ((rd_T86 l0 x12_1).f0), .int .i64 ((rd_T86 l0 x12_1).f1), .int .i64 ((rd_T86 l0 x12_1).f2), .int .i64 ((rd_T86 l0 x12_1).f3), .int .i64 ((rd_T86 l0 x12_1).f4), .int .i64 ((rd_T86 l0 x12_1).f5)] 86 (0, 0))) ∧ Aside0 (Below w.heap.size w w'))
        case atStart => exact ⟨(y210), (0), (by first | rfl | simp | simp [*]), H', ⟨Nat.le_refl _⟩, ⟨by refine Cmp.rr ?_; exact Kd.R_mono HO212.out (fun _ hk => hk.2)⟩, ⟨by refine Cmp.rr ?_; exact Kd.R_mono HO_3.out (fun _ hk => hk.2)⟩, ⟨by refine Cmp.b ?_; exact BK205.out⟩, ⟨Cmp.g HB.out⟩⟩
        case round =>
         clear H'
         (try clear c1); (try clear p2); (try clear q2); (try clear hx2); (try clear c3); (try clear c4); (try clear c4b0); (try clear c5); (try clear c5b0); (try clear c6); (try clear c6b0); (try clear p6); (try clear c7); (try clear c7b0); (try clear c7b1); (try clear c9); (try clear c13); (try clear c18); (try clear c18b0); (try clear c18b1); (try clear p20); (try clear q20); (try clear hx20); (try clear hcz11_0); (try clear hcz11_1); (try clear hcz11_2); (try clear hcz11_3); (try clear hcz11_4); (try clear hcz11_5); (try clear hcz15_0); (try clear hcz15_1); (try clear hcz15_2); (try clear hcz15_3); (try clear hcz15_4); (try clear hcz15_5); (try clear hcz20_0); (try clear hcz20_1); (try clear hcz20_2); (try clear hcz20_3); (try clear hcz20_4); (try clear hcz20_5); (try clear hfz11_0); (try clear hfz11_1); (try clear hfz11_2); (try clear hfz11_3); (try clear hfz11_4); (try clear hfz11_5); (try clear hfz15_0); (try clear hfz15_1); (try clear hfz15_2); (try clear hfz15_3); (try clear hfz15_4); (try clear hfz15_5); (try clear hfz20_0); (try clear hfz20_1); (try clear hfz20_2); (try clear hfz20_3); (try clear hfz20_4); (try clear hfz20_5); (try clear hx204_0); (try clear hx204_1); (try clear hx204_2); (try clear hx204_3); (try clear hx204_4); (try clear hx204_5); (try clear p2); (try clear p204); (try clear q204)
         obtain ⟨x6_2, x35_2, rfl, HA, HK2, HO_6, HO_33, BK205, HB⟩ := hrel
         cases gk with
         | zero => exact absurd HA.out (by simp [impl_DevicesOf.l1])
         | succ k2 =>
          have H := HA.out; clear HA
          simp only [impl_DevicesOf.l1] at H
          by_cases c24 : x35_2 < (x3_1.length : Int)
          ·rw [if_pos c24] at H
           have c24b0 : decide (x35_2 < (x3_1.length : Int)) = true := decide_eq_true c24
           clear c24
           by_cases c25 : 0 ≤ x35_2
           ·rw [if_pos c25] at H; have c25b0 : decide (0 ≤ x35_2) = true := decide_eq_true c25; clear c25
            by_cases c26 : x35_2 < (x3_1.length : Int)
            ·rw [if_pos c26] at H
             have c26b0 : decide (x35_2 < (x3_1.length : Int)) = true := decide_eq_true c26
             clear c26
             by_cases c27 : (rd x3_1 x35_2) = ((rd_T86 l0 x12_1).f2)
             ·rw [if_pos c27] at H; have c27b0 : ((rd x3_1 x35_2) == ((rd_T86 l0 x12_1).f2)) = true := beq_iff_eq.mpr c27; have c27b1 : ((rd x3_1 x35_2) != ((rd_T86 l0 x12_1).f2)) = false := bne_eq_false_iff_eq.mpr c27; clear c27
              have H' := Aside0.mk H
              clear H
              have p213 : 0 ≤ (x35_2 : Int) := of_decide_eq_true Cmp.d
              have q213 : x35_2 < (x3_1.length : Int) := of_decide_eq_true Cmp.d
              obtain ⟨ad213, e213, hx213_0⟩ := Kd.at_int (Kd.R_reads' HO_33.out).2.2 x35_2 p213 q213
              cases e213; replace p213 := eq_true p213; replace q213 := eq_true q213
              have hcz28_0 : wr.cell? ⟨gb205, 0, none⟩ = some (.int .i64 ((rd_T86 l0 x12_1).f0)) := (blk_cell BK205.out 0).trans rfl
              have hcz28_1 : wr.cell? ⟨gb205, 1, none⟩ = some (.int .i64 ((rd_T86 l0 x12_1).f1)) := (blk_cell BK205.out 1).trans rfl
              have hcz28_2 : wr.cell? ⟨gb205, 2, none⟩ = some (.int .i64 ((rd_T86 l0 x12_1).f2)) := (blk_cell BK205.out 2).trans rfl
              have hcz28_3 : wr.cell? ⟨gb205, 3, none⟩ = some (.int .i64 ((rd_T86 l0 x12_1).f3)) := (blk_cell BK205.out 3).trans rfl
              have hcz28_4 : wr.cell? ⟨gb205, 4, none⟩ = some (.int .i64 ((rd_T86 l0 x12_1).f4)) := (blk_cell BK205.out 4).trans rfl
              have hcz28_5 : wr.cell? ⟨gb205, 5, none⟩ = some (.int .i64 ((rd_T86 l0 x12_1).f5)) := (blk_cell BK205.out 5).trans rfl
              have hfz28_0 := blk_frozen BK205.out 0; have hfz28_1 := blk_frozen BK205.out 1; have hfz28_2 := blk_frozen BK205.out 2; have hfz28_3 := blk_frozen BK205.out 3; have hfz28_4 := blk_frozen BK205.out 4; have hfz28_5 := blk_frozen BK205.out 5
              go_wp2
              go_roundg k2
              case measure => have := HK1.out; have := HK2.out; omega
              case rel => exact ⟨(x6_2), (wrap64 (x35_2 + 1)), (by first | rfl | simp | simp [*]), H', ⟨by have := HK1.out; have := HK2.out; omega⟩, ⟨by refine Cmp.rr ?_; exact HO_6.out⟩, ⟨by refine Cmp.rr ?_; exact HO_33.out⟩, ⟨by refine Cmp.b ?_; exact BK205.out⟩, ⟨Cmp.g HB.out⟩⟩
             ·rw [if_neg c27] at H; have c27b0 : ((rd x3_1 x35_2) == ((rd_T86 l0 x12_1).f2)) = false := beq_eq_false_iff_ne.mpr c27; have c27b1 : ((rd x3_1 x35_2) != ((rd_T86 l0 x12_1).f2)) = true := bne_iff_ne.mpr c27
              by_cases c29 : x6_2.length < 17592186044416
              ·rw [if_pos c29] at H; have LMc29 := Aside0.mk c29; clear c29
               obtain ⟨y214, hy214⟩ : ∃ y_ : List Int, y_ = (x6_2 ++ [rd x3_1 x35_2]) := ⟨_, rfl⟩
               replace H : (impl_DevicesOf.l1 k2 y214 l0 (l0.length : Int) x12_1 x3_1 (x3_1.length : Int) (wrap64 (x35_2 + 1)) ((rd_T86 l0 x12_1).f0) ((rd_T86 l0 x12_1).f1) ((rd_T86 l0 x12_1).f2) ((rd_T86 l0 x12_1).f3) ((rd_T86 l0 x12_1).f4) ((rd_T86 l0 x12_1).f5)) = some r := by first | (rw [hy214]; with_reducible exact H) | (have H2_ := (Option.bind_some _ _).symm.trans H; rw [hy214]; with_reducible exact H2_) | (have H2_ := (Option.bind_some _ _).symm.trans H; with_reducible exact H2_) | with_reducible exact H | (rw [hy214]; exact H) | exact H
               have Ny214 := Aside0.mk hy214; clear hy214
               have H' := Aside0.mk H
               clear H
               have p213 : 0 ≤ (x35_2 : Int) := of_decide_eq_true Cmp.d
               have q213 : x35_2 < (x3_1.length : Int) := of_decide_eq_true Cmp.d
               obtain ⟨ad213, e213, hx213_0⟩ := Kd.at_int (Kd.R_reads' HO_33.out).2.2 x35_2 p213 q213
               cases e213; replace p213 := eq_true p213; replace q213 := eq_true q213
               have hcz30_0 : wr.cell? ⟨gb205, 0, none⟩ = some (.int .i64 ((rd_T86 l0 x12_1).f0)) := (blk_cell BK205.out 0).trans rfl
               have hcz30_1 : wr.cell? ⟨gb205, 1, none⟩ = some (.int .i64 ((rd_T86 l0 x12_1).f1)) := (blk_cell BK205.out 1).trans rfl
               have hcz30_2 : wr.cell? ⟨gb205, 2, none⟩ = some (.int .i64 ((rd_T86 l0 x12_1).f2)) := (blk_cell BK205.out 2).trans rfl
               have hcz30_3 : wr.cell? ⟨gb205, 3, none⟩ = some (.int .i64 ((rd_T86 l0 x12_1).f3)) := (blk_cell BK205.out 3).trans rfl
               have hcz30_4 : wr.cell? ⟨gb205, 4, none⟩ = some (.int .i64 ((rd_T86 l0 x12_1).f4)) := (blk_cell BK205.out 4).trans rfl
               have hcz30_5 : wr.cell? ⟨gb205, 5, none⟩ = some (.int .i64 ((rd_T86 l0 x12_1).f5)) := (blk_cell BK205.out 5).trans rfl
               have hfz30_0 := blk_frozen BK205.out 0; have hfz30_1 := blk_frozen BK205.out 1; have hfz30_2 := blk_frozen BK205.out 2; have hfz30_3 := blk_frozen BK205.out 3; have hfz30_4 := blk_frozen BK205.out 4; have hfz30_5 := blk_frozen BK205.out 5
               go_wp2_with (first | ((with_reducible refine gate_builtin (b := .append) (xs := #[.tmp 43, .tmp 45]) rfl ?_); at_builtin; refine Kd.R_append (Kd.int .i64) (w0 := w) w.heap.size rfl (.tmp 43) (.tmp 45) 48 3 (.int .i64 0) 8 rfl Try.underlying48 info3 rfl (by decide) (by omega) u6 x6_2 (rd x3_1 x35_2) [.int .i64 (rd x3_1 x35_2)] (fun k_ => some k_ ≠ (.slice (some ad213) x3_1.length co23 : Value).ownBlock) (fun _ => False) rfl rfl ?aP (fun _ hk => hk.elim) ?aF ?aO ?aB ?aS ?aL ?_; (case aP => exact rfl); (case aB => exact (Cmp.g HB.out)); (case aF => exact (fun k_ hk => Kd.fresh' (Kd.R_lt (Cmp.rr HO_33.out)) k_ hk)); (case aO => exact (Cmp.rr HO_6.out)); (case aS => exact (below_size (Cmp.g HB.out))); (case aL => have := LMc29.out; omega); intro v215 w31 ho hb hg hat; rw [← Ny214.out] at ho; have n0_ := Aside0.mk (Kd.R_after (ok := (fun _ => True)) (by refine Cmp.rr ?_; exact Kd.R_mono HO_33.out (fun _ hk => ⟨trivial, hk⟩)) hg hat); have n1_ := Aside0.mk (blk_grown (g := gb205) (o := .cells #[.int .i64 ((rd_T86 l0 x12_1).f0), .int .i64 ((rd_T86 l0 x12_1).f1), .int .i64 ((rd_T86 l0 x12_1).f2), .int .i64 ((rd_T86 l0 x12_1).f3), .int .i64 ((rd_T86 l0 x12_1).f4), .int .i64 ((rd_T86 l0 x12_1).f5)] 86 (0, 0)) (Cmp.b BK205.out) hg (Kd.R_ne HO_6.out BK205.out (by decide))); have n2_ := Aside0.mk (hb); have n3_ := Aside0.mk (ho); clear HO_33; clear BK205; clear HB; clear HO_6; have HO_33 := n0_; have BK205 := n1_; have HB := n2_; have HO216 := n3_; clear n0_ n1_ n2_ n3_; clear ho hb hg hat))
               go_roundg k2
               case measure => have := HK1.out; have := HK2.out; omega
               case rel => exact ⟨(y214), (wrap64 (x35_2 + 1)), (by first | rfl | simp | simp [*]), H', ⟨by have := HK1.out; have := HK2.out; omega⟩, ⟨by refine Cmp.rr ?_; exact HO216.out⟩, ⟨by refine Cmp.rr ?_; exact Kd.R_mono HO_33.out (fun _ hk => hk.2)⟩, ⟨by refine Cmp.b ?_; exact BK205.out⟩, ⟨Cmp.g HB.out⟩⟩
              ·rw [if_neg c29] at H; exact absurd H (by simp)
            ·rw [if_neg c26] at H; exact absurd H (by simp)
           ·rw [if_neg c25] at H; exact absurd H (by simp)
          ·rw [if_neg c24] at H
           have c24b0 : decide (x35_2 < (x3_1.length : Int)) = false := decide_eq_false c24
           clear c24
           have H' := Aside0.mk H
           clear H
           go_wp2
           go_roundg k2
           case measure => have := HK1.out; have := HK2.out; omega
           case rel => exact ⟨(x6_2), (wrap64 (x12_1 + 1)), (by first | rfl | simp | simp [*]), H', ⟨by have := HK1.out; have := HK2.out; omega⟩, ⟨by refine Cmp.rr ?_; exact Kd.R_mono HO_6.out (fun _ hk => trivial)⟩, ⟨Cmp.g HB.out⟩⟩
       ·rw [if_neg c18] at H; have c18b0 : (((rd_T86 l0 x12_1).f1) == 2) = false := beq_eq_false_iff_ne.mpr c18; have c18b1 : (((rd_T86 l0 x12_1).f1) != 2) = true := bne_iff_ne.mpr c18
        have H' := Aside0.mk H
        clear H
        have p204 : 0 ≤ (x12_1 : Int) := of_decide_eq_true Cmp.d
        have q204 : x12_1 < (l0.length : Int) := of_decide_eq_true Cmp.d
        obtain ⟨ad204, e204, hx204_0, hx204_1, hx204_2, hx204_3, hx204_4, hx204_5⟩ := at_T86 HR0.out x12_1 p204 q204
        cases e204
        replace hx204_0 := (HB.out.cell (World.block_lt_of_cell? w _ hx204_0)).trans hx204_0
        replace hx204_1 := (HB.out.cell (World.block_lt_of_cell? w _ hx204_1)).trans hx204_1
        replace hx204_2 := (HB.out.cell (World.block_lt_of_cell? w _ hx204_2)).trans hx204_2
        replace hx204_3 := (HB.out.cell (World.block_lt_of_cell? w _ hx204_3)).trans hx204_3
        replace hx204_4 := (HB.out.cell (World.block_lt_of_cell? w _ hx204_4)).trans hx204_4
        replace hx204_5 := (HB.out.cell (World.block_lt_of_cell? w _ hx204_5)).trans hx204_5
        replace p204 := eq_true p204; replace q204 := eq_true q204
        go_wp2_with (first | ((with_reducible refine gate_dst (N := 5) rfl ?_); refine box_event (by rfl) (N := 5) (by rfl) (cs := #[.int .i64 0, .int .i64 0, .int .i64 0, .int .i64 0, .int .i64 0, .int .i64 0]) (t := 86) (by first | (go_simp; done) | (go_simp; rfl)) ?_; intro gb205 hg w32 hbox hb; have n0_ := Aside0.mk (Kd.R_below (Cmp.rr HO_3.out) hb); have n1_ := Aside0.mk (below_step (Cmp.g HB.out) hb); have n2_ := Aside0.mk (hbox); have n3_ := Aside0.mk ((by rw [hg]; exact (below_size (Cmp.g HB.out)) : w.heap.size ≤ gb205)); have n4_ := Aside0.mk ((by rw [hg]; exact (below_size (Cmp.g HB.out)) : w.heap.size ≤ gb205)); clear HO_3; clear HB; have HO_3 := n0_; have HB := n1_; have BK205 := n2_; have GW205 := n3_; have GE205 := n4_; clear n0_ n1_ n2_ n3_ n4_; clear hb hbox hg; have hcz33_0 : w32.cell? ⟨gb205, 0, none⟩ = some (.int .i64 0) := (blk_cell BK205.out 0).trans rfl; have hcz33_1 : w32.cell? ⟨gb205, 1, none⟩ = some (.int .i64 0) := (blk_cell BK205.out 1).trans rfl; have hcz33_2 : w32.cell? ⟨gb205, 2, none⟩ = some (.int .i64 0) := (blk_cell BK205.out 2).trans rfl; have hcz33_3 : w32.cell? ⟨gb205, 3, none⟩ = some (.int .i64 0) := (blk_cell BK205.out 3).trans rfl; have hcz33_4 : w32.cell? ⟨gb205, 4, none⟩ = some (.int .i64 0) := (blk_cell BK205.out 4).trans rfl; have hcz33_5 : w32.cell? ⟨gb205, 5, none⟩ = some (.int .i64 0) := (blk_cell BK205.out 5).trans rfl; have hfz33_0 := blk_frozen BK205.out 0; have hfz33_1 := blk_frozen BK205.out 1; have hfz33_2 := blk_frozen BK205.out 2; have hfz33_3 := blk_frozen BK205.out 3; have hfz33_4 := blk_frozen BK205.out 4; have hfz33_5 := blk_frozen BK205.out 5))
        go_roundg k1
        case measure => have := HK1.out; omega
        case rel => exact ⟨(x3_1), (wrap64 (x12_1 + 1)), (by first | rfl | simp | simp [*]), H', ⟨by have := HK1.out; omega⟩, ⟨by refine Cmp.rr ?_; exact Kd.R_mono (Kd.R_far (p := ⟨gb205, 5, none⟩) (Kd.R_far (p := ⟨gb205, 4, none⟩) (Kd.R_far (p := ⟨gb205, 3, none⟩) (Kd.R_far (p := ⟨gb205, 2, none⟩) (Kd.R_far (p := ⟨gb205, 1, none⟩) (Kd.R_far (p := ⟨gb205, 0, none⟩) (Kd.R_types HO_3.out BK205.out (by decide)) (fun _ hk => hk.2) (.int .i64 ((rd_T86 l0 x12_1).f0))) (fun _ hk => hk.2) (.int .i64 ((rd_T86 l0 x12_1).f1))) (fun _ hk => hk.2) (.int .i64 ((rd_T86 l0 x12_1).f2))) (fun _ hk => hk.2) (.int .i64 ((rd_T86 l0 x12_1).f3))) (fun _ hk => hk.2) (.int .i64 ((rd_T86 l0 x12_1).f4))) (fun _ hk => hk.2) (.int .i64 ((rd_T86 l0 x12_1).f5))) (fun _ hk => trivial)⟩, ⟨Cmp.g HB.out⟩⟩
     ·rw [if_neg c6] at H; exact absurd H (by simp)
    ·rw [if_neg c5] at H; exact absurd H (by simp)
   ·rw [if_neg c4] at H
    have c4b0 : decide (x12_1 < (l0.length : Int)) = false := decide_eq_false c4
    clear c4
    obtain rfl := Option.some.inj H
    go_wp2
    go_ret
    exact ⟨_, by first | rfl | (simp [errW_none, errW_some] <;> rfl) | (simp [*, errW_none, errW_some] <;> rfl), by refine Cmp.rr ?_; exact HO_3.out, Cmp.g HB.out⟩

/-! ### impl_wasRemoved: function 65 -/
def impl_wasRemoved.l0 : Nat → Int → List (S86) → Int → Int → Option (Bool)
  | 0, _, _, _, _ => none
  | k + 1, x1, x7, x8, x9 => if x9 < x8 then (if 0 ≤ x9 then (if x9 < (x7.length : Int) then (if ((rd_T86 x7 x9).f1) = 2 then (if ((rd_T86 x7 x9).f2) = x1 then (some true) else (impl_wasRemoved.l0 k x1 x7 x8 (wrap64 (x9 + 1)))) else (impl_wasRemoved.l0 k x1 x7 x8 (wrap64 (x9 + 1)))) else (none)) else (none)) else (some false)
def impl_wasRemoved.f (k : Nat) (l0 : List (S86)) (a1 : Int) : Option (Bool) := impl_wasRemoved.l0 k a1 l0 (l0.length : Int) 0
theorem impl_wasRemoved.mono_l : ∀ k, (∀ y0 y1 y2 y3, LeO (impl_wasRemoved.l0 k y0 y1 y2 y3) (impl_wasRemoved.l0 (k + 1) y0 y1 y2 y3))
  | 0 => fun _ _ _ _ r h => by simp [impl_wasRemoved.l0] at h
  | k + 1 => by
    have ih0 := impl_wasRemoved.mono_l k
    · intro y0 y1 y2 y3
      unfold impl_wasRemoved.l0
      repeat' first
      | (with_reducible exact ih0 _ _ _ _)
      | (with_reducible exact LeO.refl _)
      | (with_reducible exact LeO.none _)
      | (with_reducible refine LeO.ite ?_ ?_)
      | (with_reducible refine LeO.bind ?_ (fun _ => ?_))
      | exact ih0 _ _ _ _
      | exact LeO.none _
      | refine LeO.ite ?_ ?_
      | refine LeO.bind ?_ (fun _ => ?_)
theorem impl_wasRemoved.mono : ∀ a0 a1 k, LeO (impl_wasRemoved.f k a0 a1) (impl_wasRemoved.f (k + 1) a0 a1) := by
  intro a0 a1 k
  have ih0 := impl_wasRemoved.mono_l k
  unfold impl_wasRemoved.f
  repeat' first
      | (with_reducible exact ih0 _ _ _ _)
      | (with_reducible exact LeO.refl _)
      | (with_reducible exact LeO.none _)
      | (with_reducible refine LeO.ite ?_ ?_)
      | (with_reducible refine LeO.bind ?_ (fun _ => ?_))
      | exact ih0 _ _ _ _
      | exact LeO.none _
      | refine LeO.ite ?_ ?_
      | refine LeO.bind ?_ (fun _ => ?_)
set_option maxHeartbeats 8000000 in
set_option maxRecDepth 100000 in
theorem impl_wasRemoved.calls (k : Nat) (A0 : Option Addr) (c0 : Nat) (l0 : List (S86)) (a1 : Int) (r : Bool) (w : World) (hr0 : Kd.C k86 w A0 l0.length l0) (hc0 : l0.length ≤ c0) (h : impl_wasRemoved.f k l0 a1 = some r) :
    Calls Try.prog 65 #[.slice A0 l0.length c0, .int .i64 a1] w fun e w' => e = .returned (.bool r) ∧ Below w.heap.size w w' := by
 have hu86 := Try.underlying86; have HR0 := Aside0.mk hr0; have HC0 := Aside0.mk hc0; clear hr0 hc0
 have HB := Aside0.mk (Below.refl w.heap.size w)
 have H : (impl_wasRemoved.l0 k a1 l0 (l0.length : Int) 0) = some r := h
 clear h
 have H' := Aside0.mk H
 clear H
 go_enter Try.func65, Try.ntmps65
 go_wp2
 go_loopg [9] k (fun kq v9 w' => ∃ (x9_1 : Int), v9 = .int .i64 x9_1 ∧ Aside0 (impl_wasRemoved.l0 kq a1 l0 (l0.length : Int) x9_1 = some r) ∧ Aside0 (kq ≤ k) ∧ Aside0 (Below w.heap.size w w'))
 case atStart => exact ⟨(0), (by first | rfl | simp | simp [*]), H', ⟨Nat.le_refl _⟩, ⟨Cmp.g HB.out⟩⟩
 case round =>
  clear H'
  (try clear p2)
  obtain ⟨x9_1, rfl, HA, HK1, HB⟩ := hrel
  cases gk with
  | zero => exact absurd HA.out (by simp [impl_wasRemoved.l0])
  | succ k1 =>
   have H := HA.out; clear HA
   simp only [impl_wasRemoved.l0] at H
   by_cases c3 : x9_1 < (l0.length : Int)
   ·rw [if_pos c3] at H
    have c3b0 : decide (x9_1 < (l0.length : Int)) = true := decide_eq_true c3
    clear c3
    by_cases c4 : 0 ≤ x9_1
    ·rw [if_pos c4] at H; have c4b0 : decide (0 ≤ x9_1) = true := decide_eq_true c4; clear c4
     by_cases c5 : x9_1 < (l0.length : Int)
     ·rw [if_pos c5] at H
      have c5b0 : decide (x9_1 < (l0.length : Int)) = true := decide_eq_true c5
      clear c5
      by_cases c6 : ((rd_T86 l0 x9_1).f1) = 2
      ·rw [if_pos c6] at H; have c6b0 : (((rd_T86 l0 x9_1).f1) == 2) = true := beq_iff_eq.mpr c6; have c6b1 : (((rd_T86 l0 x9_1).f1) != 2) = false := bne_eq_false_iff_eq.mpr c6; clear c6
       by_cases c7 : ((rd_T86 l0 x9_1).f2) = a1
       ·rw [if_pos c7] at H; have c7b0 : (((rd_T86 l0 x9_1).f2) == a1) = true := beq_iff_eq.mpr c7; have c7b1 : (((rd_T86 l0 x9_1).f2) != a1) = false := bne_eq_false_iff_eq.mpr c7; clear c7
        obtain rfl := Option.some.inj H
        have p217 : 0 ≤ (x9_1 : Int) := of_decide_eq_true Cmp.d
        have q217 : x9_1 < (l0.length : Int) := of_decide_eq_true Cmp.d
        obtain ⟨ad217, e217, hx217_0, hx217_1, hx217_2, hx217_3, hx217_4, hx217_5⟩ := at_T86 HR0.out x9_1 p217 q217
        cases e217
        replace hx217_0 := (HB.out.cell (World.block_lt_of_cell? w _ hx217_0)).trans hx217_0
        replace hx217_1 := (HB.out.cell (World.block_lt_of_cell? w _ hx217_1)).trans hx217_1
        replace hx217_2 := (HB.out.cell (World.block_lt_of_cell? w _ hx217_2)).trans hx217_2
        replace hx217_3 := (HB.out.cell (World.block_lt_of_cell? w _ hx217_3)).trans hx217_3
        replace hx217_4 := (HB.out.cell (World.block_lt_of_cell? w _ hx217_4)).trans hx217_4
        replace hx217_5 := (HB.out.cell (World.block_lt_of_cell? w _ hx217_5)).trans hx217_5
        replace p217 := eq_true p217; replace q217 := eq_true q217
        go_wp2_with (first | ((with_reducible refine gate_dst (N := 6) rfl ?_); refine box_event (by rfl) (N := 6) (by rfl) (cs := #[.int .i64 0, .int .i64 0, .int .i64 0, .int .i64 0, .int .i64 0, .int .i64 0]) (t := 86) (by first | (go_simp; done) | (go_simp; rfl)) ?_; intro gb218 hg w8 hbox hb; have n0_ := Aside0.mk (below_step (Cmp.g HB.out) hb); have n1_ := Aside0.mk (hbox); have n2_ := Aside0.mk ((by rw [hg]; exact (below_size (Cmp.g HB.out)) : w.heap.size ≤ gb218)); have n3_ := Aside0.mk ((by rw [hg]; exact (below_size (Cmp.g HB.out)) : w.heap.size ≤ gb218)); clear HB; have HB := n0_; have BK218 := n1_; have GW218 := n2_; have GE218 := n3_; clear n0_ n1_ n2_ n3_; clear hb hbox hg; have hcz9_0 : w8.cell? ⟨gb218, 0, none⟩ = some (.int .i64 0) := (blk_cell BK218.out 0).trans rfl; have hcz9_1 : w8.cell? ⟨gb218, 1, none⟩ = some (.int .i64 0) := (blk_cell BK218.out 1).trans rfl; have hcz9_2 : w8.cell? ⟨gb218, 2, none⟩ = some (.int .i64 0) := (blk_cell BK218.out 2).trans rfl; have hcz9_3 : w8.cell? ⟨gb218, 3, none⟩ = some (.int .i64 0) := (blk_cell BK218.out 3).trans rfl; have hcz9_4 : w8.cell? ⟨gb218, 4, none⟩ = some (.int .i64 0) := (blk_cell BK218.out 4).trans rfl; have hcz9_5 : w8.cell? ⟨gb218, 5, none⟩ = some (.int .i64 0) := (blk_cell BK218.out 5).trans rfl; have hfz9_0 := blk_frozen BK218.out 0; have hfz9_1 := blk_frozen BK218.out 1; have hfz9_2 := blk_frozen BK218.out 2; have hfz9_3 := blk_frozen BK218.out 3; have hfz9_4 := blk_frozen BK218.out 4; have hfz9_5 := blk_frozen BK218.out 5))
        go_ret
        exact ⟨by first | rfl | (simp [errW_none, errW_some] <;> rfl) | (simp [*, errW_none, errW_some] <;> rfl), Cmp.g HB.out⟩
       ·rw [if_neg c7] at H; have c7b0 : (((rd_T86 l0 x9_1).f2) == a1) = false := beq_eq_false_iff_ne.mpr c7; have c7b1 : (((rd_T86 l0 x9_1).f2) != a1) = true := bne_iff_ne.mpr c7
        have H' := Aside0.mk H
        clear H
        have p217 : 0 ≤ (x9_1 : Int) := of_decide_eq_true Cmp.d
        have q217 : x9_1 < (l0.length : Int) := of_decide_eq_true Cmp.d
        obtain ⟨ad217, e217, hx217_0, hx217_1, hx217_2, hx217_3, hx217_4, hx217_5⟩ := at_T86 HR0.out x9_1 p217 q217
        cases e217
        replace hx217_0 := (HB.out.cell (World.block_lt_of_cell? w _ hx217_0)).trans hx217_0
        replace hx217_1 := (HB.out.cell (World.block_lt_of_cell? w _ hx217_1)).trans hx217_1
        replace hx217_2 := (HB.out.cell (World.block_lt_of_cell? w _ hx217_2)).trans hx217_2
        replace hx217_3 := (HB.out.cell (World.block_lt_of_cell? w _ hx217_3)).trans hx217_3
        replace hx217_4 := (HB.out.cell (World.block_lt_of_cell? w _ hx217_4)).trans hx217_4
        replace hx217_5 := (HB.out.cell (World.block_lt_of_cell? w _ hx217_5)).trans hx217_5
        replace p217 := eq_true p217; replace q217 := eq_true q217
        go_wp2_with (first | ((with_reducible refine gate_dst (N := 6) rfl ?_); refine box_event (by rfl) (N := 6) (by rfl) (cs := #[.int .i64 0, .int .i64 0, .int .i64 0, .int .i64 0, .int .i64 0, .int .i64 0]) (t := 86) (by first | (go_simp; done) | (go_simp; rfl)) ?_; intro gb218 hg w10 hbox hb; have n0_ := Aside0.mk (below_step (Cmp.g HB.out) hb); have n1_ := Aside0.mk (hbox); have n2_ := Aside0.mk ((by rw [hg]; exact (below_size (Cmp.g HB.out)) : w.heap.size ≤ gb218)); have n3_ := Aside0.mk ((by rw [hg]; exact (below_size (Cmp.g HB.out)) : w.heap.size ≤ gb218)); clear HB; have HB := n0_; have BK218 := n1_; have GW218 := n2_; have GE218 := n3_; clear n0_ n1_ n2_ n3_; clear hb hbox hg; have hcz11_0 : w10.cell? ⟨gb218, 0, none⟩ = some (.int .i64 0) := (blk_cell BK218.out 0).trans rfl; have hcz11_1 : w10.cell? ⟨gb218, 1, none⟩ = some (.int .i64 0) := (blk_cell BK218.out 1).trans rfl; have hcz11_2 : w10.cell? ⟨gb218, 2, none⟩ = some (.int .i64 0) := (blk_cell BK218.out 2).trans rfl; have hcz11_3 : w10.cell? ⟨gb218, 3, none⟩ = some (.int .i64 0) := (blk_cell BK218.out 3).trans rfl; have hcz11_4 : w10.cell? ⟨gb218, 4, none⟩ = some (.int .i64 0) := (blk_cell BK218.out 4).trans rfl; have hcz11_5 : w10.cell? ⟨gb218, 5, none⟩ = some (.int .i64 0) := (blk_cell BK218.out 5).trans rfl; have hfz11_0 := blk_frozen BK218.out 0; have hfz11_1 := blk_frozen BK218.out 1; have hfz11_2 := blk_frozen BK218.out 2; have hfz11_3 := blk_frozen BK218.out 3; have hfz11_4 := blk_frozen BK218.out 4; have hfz11_5 := blk_frozen BK218.out 5))
        go_roundg k1
        case measure => have := HK1.out; omega
        case rel => exact ⟨(wrap64 (x9_1 + 1)), (by first | rfl | simp | simp [*]), H', ⟨by have := HK1.out; omega⟩, ⟨Cmp.g HB.out⟩⟩
      ·rw [if_neg c6] at H; have c6b0 : (((rd_T86 l0 x9_1).f1) == 2) = false := beq_eq_false_iff_ne.mpr c6; have c6b1 : (((rd_T86 l0 x9_1).f1) != 2) = true := bne_iff_ne.mpr c6
       have H' := Aside0.mk H
       clear H
       have p217 : 0 ≤ (x9_1 : Int) := of_decide_eq_true Cmp.d
       have q217 : x9_1 < (l0.length : Int) := of_decide_eq_true Cmp.d
       obtain ⟨ad217, e217, hx217_0, hx217_1, hx217_2, hx217_3, hx217_4, hx217_5⟩ := at_T86 HR0.out x9_1 p217 q217
       cases e217
       replace hx217_0 := (HB.out.cell (World.block_lt_of_cell? w _ hx217_0)).trans hx217_0
       replace hx217_1 := (HB.out.cell (World.block_lt_of_cell? w _ hx217_1)).trans hx217_1
       replace hx217_2 := (HB.out.cell (World.block_lt_of_cell? w _ hx217_2)).trans hx217_2
       replace hx217_3 := (HB.out.cell (World.block_lt_of_cell? w _ hx217_3)).trans hx217_3
       replace hx217_4 := (HB.out.cell (World.block_lt_of_cell? w _ hx217_4)).trans hx217_4
       replace hx217_5 := (HB.out.cell (World.block_lt_of_cell? w _ hx217_5)).trans hx217_5
       replace p217 := eq_true p217; replace q217 := eq_true q217
       go_wp2_with (first | ((with_reducible refine gate_dst (N := 6) rfl ?_); refine box_event (by rfl) (N := 6) (by rfl) (cs := #[.int .i64 0, .int .i64 0, .int .i64 0, .int .i64 0, .int .i64 0, .int .i64 0]) (t := 86) (by first | (go_simp; done) | (go_simp; rfl)) ?_; intro gb218 hg w12 hbox hb; have n0_ := Aside0.mk (below_step (Cmp.g HB.out) hb); have n1_ := Aside0.mk (hbox); have n2_ := Aside0.mk ((by rw [hg]; exact (below_size (Cmp.g HB.out)) : w.heap.size ≤ gb218)); have n3_ := Aside0.mk ((by rw [hg]; exact (below_size (Cmp.g HB.out)) : w.heap.size ≤ gb218)); clear HB; have HB := n0_; have BK218 := n1_; have GW218 := n2_; have GE218 := n3_; clear n0_ n1_ n2_ n3_; clear hb hbox hg; have hcz13_0 : w12.cell? ⟨gb218, 0, none⟩ = some (.int .i64 0) := (blk_cell BK218.out 0).trans rfl; have hcz13_1 : w12.cell? ⟨gb218, 1, none⟩ = some (.int .i64 0) := (blk_cell BK218.out 1).trans rfl; have hcz13_2 : w12.cell? ⟨gb218, 2, none⟩ = some (.int .i64 0) := (blk_cell BK218.out 2).trans rfl; have hcz13_3 : w12.cell? ⟨gb218, 3, none⟩ = some (.int .i64 0) := (blk_cell BK218.out 3).trans rfl; have hcz13_4 : w12.cell? ⟨gb218, 4, none⟩ = some (.int .i64 0) := (blk_cell BK218.out 4).trans rfl; have hcz13_5 : w12.cell? ⟨gb218, 5, none⟩ = some (.int .i64 0) := (blk_cell BK218.out 5).trans rfl; have hfz13_0 := blk_frozen BK218.out 0; have hfz13_1 := blk_frozen BK218.out 1; have hfz13_2 := blk_frozen BK218.out 2; have hfz13_3 := blk_frozen BK218.out 3; have hfz13_4 := blk_frozen BK218.out 4; have hfz13_5 := blk_frozen BK218.out 5))
       go_roundg k1
       case measure => have := HK1.out; omega
       case rel => exact ⟨(wrap64 (x9_1 + 1)), (by first | rfl | simp | simp [*]), H', ⟨by have := HK1.out; omega⟩, ⟨Cmp.g HB.out⟩⟩
     ·rw [if_neg c5] at H; exact absurd H (by simp)
    ·rw [if_neg c4] at H; exact absurd H (by simp)
   ·rw [if_neg c3] at H
    have c3b0 : decide (x9_1 < (l0.length : Int)) = false := decide_eq_false c3
    clear c3
    obtain rfl := Option.some.inj H
    go_wp2
    go_ret
    exact ⟨by first | rfl | (simp [errW_none, errW_some] <;> rfl) | (simp [*, errW_none, errW_some] <;> rfl), Cmp.g HB.out⟩

/-! ### impl_InRange: function 59 -/
def impl_InRange.f (a0 : Int) (a1 : Int) (a2 : Int) : Option (Bool) := if a1 ≤ a0 then (some (decide (a0 ≤ a2))) else (some false)
set_option maxHeartbeats 8000000 in
set_option maxRecDepth 100000 in
theorem impl_InRange.calls (a0 : Int) (a1 : Int) (a2 : Int) (r : Bool) (w : World) (h : impl_InRange.f a0 a1 a2 = some r) :
    Calls Try.prog 59 #[.int .i64 a0, .int .i64 a1, .int .i64 a2] w fun e w' => e = .returned (.bool r) ∧ Drawn0 w w' := by
 have H : (if a1 ≤ a0 then (some (decide (a0 ≤ a2))) else (some false)) = some r := h
 clear h
 by_cases c4 : a1 ≤ a0
 ·rw [if_pos c4] at H; have c4b0 : decide (a1 ≤ a0) = true := decide_eq_true c4; clear c4
  obtain rfl := Option.some.inj H
  go_enter Try.func59, Try.ntmps59
  go_wp2
  go_ret
  exact ⟨by first | rfl | (simp; done) | (simp [*]; done), by repeat (first | exact Drawn0.refl _ | apply Drawn0.step)⟩
 ·rw [if_neg c4] at H; have c4b0 : decide (a1 ≤ a0) = false := decide_eq_false c4; clear c4
  obtain rfl := Option.some.inj H
  go_enter Try.func59, Try.ntmps59
  go_wp2
  go_ret
  exact ⟨by first | rfl | (simp; done) | (simp [*]; done), by repeat (first | exact Drawn0.refl _ | apply Drawn0.step)⟩

/-! ### impl_IsValidKey: function 90 -/
def impl_IsValidKey.f (a0 : Int) : Option (Bool) := (impl_InRange.f a0 1 2147483646).bind fun t219 => (some t219)
set_option maxHeartbeats 8000000 in
set_option maxRecDepth 100000 in
theorem impl_IsValidKey.calls (a0 : Int) (r : Bool) (w : World) (h : impl_IsValidKey.f a0 = some r) :
    Calls Try.prog 90 #[.int .i64 a0] w fun e w' => e = .returned (.bool r) ∧ Drawn0 w w' := by
 have H : ((impl_InRange.f a0 1 2147483646).bind fun t219 => (some t219)) = some r := h
 clear h; replace H := Option.bind_eq_some_iff.mp H; obtain ⟨t219, A20, H⟩ := H; (try dsimp only at H); have A2 := Aside0.mk A20; clear A20
 obtain rfl := Option.some.inj H
 go_enter Try.func90, Try.ntmps90
 go_wp2_with (first | ((with_reducible refine gate_callee (f := 59) rfl ?_); refine goesL_ (some 4) rfl rfl Try.func59 (by kernel_rfl) rfl #[.int .i64 a0, .int .i64 1, .int .i64 2147483646] rfl Cmp.q ?_; (with_reducible refine (impl_InRange.calls a0 1 2147483646 t219 _ A2.out).mono ?_); rintro e w' ⟨rfl, ⟨nd, rfl⟩⟩; refine ⟨_, rfl, ?_⟩))
 go_ret
 exact ⟨by first | rfl | (simp; done) | (simp [*]; done), by repeat (first | exact Drawn0.refl _ | apply Drawn0.step)⟩

/-! ### impl_power: function 116 -/
def impl_power.l0 : Nat → Int → Int → Int → Int → Option (Int)
  | 0, _, _, _, _ => none
  | k + 1, x0, x1, x2, x7 => if x1 > 0 then (if (Int.tmod x1 2) = 1 then (if x2 = 0 then (none) else (impl_power.l0 k (Int.tmod (wrap64 (x0 * x0)) x2) (wrap64 (Int.tdiv x1 2)) x2 (Int.tmod (wrap64 (x7 * x0)) x2))) else (if x2 = 0 then (none) else (impl_power.l0 k (Int.tmod (wrap64 (x0 * x0)) x2) (wrap64 (Int.tdiv x1 2)) x2 x7))) else (some x7)
def impl_power.f (k : Nat) (a0 : Int) (a1 : Int) (a2 : Int) : Option (Int) := if a2 = 0 then (none) else (impl_power.l0 k (Int.tmod a0 a2) a1 a2 ((1 : Int) % a2))
theorem impl_power.mono_l : ∀ k, (∀ y0 y1 y2 y3, LeO (impl_power.l0 k y0 y1 y2 y3) (impl_power.l0 (k + 1) y0 y1 y2 y3))
  | 0 => fun _ _ _ _ r h => by simp [impl_power.l0] at h
  | k + 1 => by
    have ih0 := impl_power.mono_l k
    · intro y0 y1 y2 y3
      unfold impl_power.l0
      repeat' first
      | (with_reducible exact ih0 _ _ _ _)
      | (with_reducible exact LeO.refl _)
      | (with_reducible exact LeO.none _)
      | (with_reducible refine LeO.ite ?_ ?_)
      | (with_reducible refine LeO.bind ?_ (fun _ => ?_))
      | exact ih0 _ _ _ _
      | exact LeO.none _
      | refine LeO.ite ?_ ?_
      | refine LeO.bind ?_ (fun _ => ?_)
theorem impl_power.mono : ∀ a0 a1 a2 k, LeO (impl_power.f k a0 a1 a2) (impl_power.f (k + 1) a0 a1 a2) := by
  intro a0 a1 a2 k
  have ih0 := impl_power.mono_l k
  unfold impl_power.f
  repeat' first
      | (with_reducible exact ih0 _ _ _ _)
      | (with_reducible exact LeO.refl _)
      | (with_reducible exact LeO.none _)
      | (with_reducible refine LeO.ite ?_ ?_)
      | (with_reducible refine LeO.bind ?_ (fun _ => ?_))
      | exact ih0 _ _ _ _
      | exact LeO.none _
      | refine LeO.ite ?_ ?_
      | refine LeO.bind ?_ (fun _ => ?_)
set_option maxHeartbeats 8000000 in
set_option maxRecDepth 100000 in
theorem impl_power.calls (k : Nat) (a0 : Int) (a1 : Int) (a2 : Int) (r : Int) (w : World) (h : impl_power.f k a0 a1 a2 = some r) :
    Calls Try.prog 116 #[.int .i64 a0, .int .i64 a1, .int .i64 a2] w fun e w' => e = .returned (.int .i64 r) ∧ Drawn0 w w' := by
 have H : (if a2 = 0 then (none) else (impl_power.l0 k (Int.tmod a0 a2) a1 a2 ((1 : Int) % a2))) = some r := h
 clear h
 by_cases c4 : a2 = 0
 ·rw [if_pos c4] at H; exact absurd H (by simp)
 ·rw [if_neg c4] at H; have c4b0 : (a2 == 0) = false := beq_eq_false_iff_ne.mpr c4; have c4b1 : (a2 != 0) = true := bne_iff_ne.mpr c4
  have H' := Aside0.mk H
  clear H
  go_enter Try.func116, Try.ntmps116
  go_wp2
  go_loopg [0, 1, 7] k (fun kq v0 v1 v7 w' => ∃ (x0_1 : Int) (x1_1 : Int) (x7_1 : Int), v0 = .int .i64 x0_1 ∧ v1 = .int .i64 x1_1 ∧ v7 = .int .i64 x7_1 ∧ Aside0 (impl_power.l0 kq x0_1 x1_1 a2 x7_1 = some r) ∧ Aside0 (kq ≤ k) ∧ Drawn0 w w')
  case atStart => exact ⟨(Int.tmod a0 a2), (a1), ((1 : Int) % a2), (by first | rfl | simp | simp [*]), (by first | rfl | simp | simp [*]), (by first | rfl | simp | simp [*]), H', ⟨Nat.le_refl _⟩, by repeat (first | exact Drawn0.refl _ | apply Drawn0.step)⟩
  case round =>
   clear H'
   (try clear c1); (try clear p2); (try clear c4); (try clear c4b0); (try clear c4b1)
   obtain ⟨x0_1, x1_1, x7_1, rfl, rfl, rfl, HA, HK1, ⟨m1, rfl⟩⟩ := hrel
   cases gk with
   | zero => exact absurd HA.out (by simp [impl_power.l0])
   | succ k1 =>
    have H := HA.out; clear HA
    simp only [impl_power.l0] at H
    by_cases c5 : x1_1 > 0
    ·rw [if_pos c5] at H; have c5b0 : decide (0 < x1_1) = true := decide_eq_true c5; clear c5
     by_cases c6 : (Int.tmod x1_1 2) = 1
     ·rw [if_pos c6] at H; have c6b0 : ((Int.tmod x1_1 2) == 1) = true := beq_iff_eq.mpr c6; have c6b1 : ((Int.tmod x1_1 2) != 1) = false := bne_eq_false_iff_eq.mpr c6; clear c6
      by_cases c7 : a2 = 0
      ·rw [if_pos c7] at H; exact absurd H (by simp)
      ·rw [if_neg c7] at H; have c7b0 : (a2 == 0) = false := beq_eq_false_iff_ne.mpr c7; have c7b1 : (a2 != 0) = true := bne_iff_ne.mpr c7
       have H' := Aside0.mk H
       clear H
       go_wp2
       go_roundg k1
       case measure => have := HK1.out; omega
       case rel => exact ⟨(Int.tmod (wrap64 (x0_1 * x0_1)) a2), (wrap64 (Int.tdiv x1_1 2)), (Int.tmod (wrap64 (x7_1 * x0_1)) a2), (by first | rfl | simp | simp [*]), (by first | rfl | simp | simp [*]), (by first | rfl | simp | simp [*]), H', ⟨by have := HK1.out; omega⟩, by repeat (first | exact Drawn0.refl _ | apply Drawn0.step)⟩
     ·rw [if_neg c6] at H; have c6b0 : ((Int.tmod x1_1 2) == 1) = false := beq_eq_false_iff_ne.mpr c6; have c6b1 : ((Int.tmod x1_1 2) != 1) = true := bne_iff_ne.mpr c6
      by_cases c8 : a2 = 0
      ·rw [if_pos c8] at H; exact absurd H (by simp)
      ·rw [if_neg c8] at H; have c8b0 : (a2 == 0) = false := beq_eq_false_iff_ne.mpr c8; have c8b1 : (a2 != 0) = true := bne_iff_ne.mpr c8
       have H' := Aside0.mk H
       clear H
       go_wp2
       go_roundg k1
       case measure => have := HK1.out; omega
       case rel => exact ⟨(Int.tmod (wrap64 (x0_1 * x0_1)) a2), (wrap64 (Int.tdiv x1_1 2)), (x7_1), (by first | rfl | simp | simp [*]), (by first | rfl | simp | simp [*]), (by first | rfl | simp | simp [*]), H', ⟨by have := HK1.out; omega⟩, by repeat (first | exact Drawn0.refl _ | apply Drawn0.step)⟩
    ·rw [if_neg c5] at H; have c5b0 : decide (0 < x1_1) = false := decide_eq_false c5; clear c5
     obtain rfl := Option.some.inj H
     go_wp2
     go_ret
     exact ⟨by first | rfl | (simp; done) | (simp [*]; done), by repeat (first | exact Drawn0.refl _ | apply Drawn0.step)⟩

/-! ### impl_PrivateKey: function 60 -/
def impl_PrivateKey.f (k : Nat) (a0 : Int) : Option (Int) := (impl_IsValidKey.f a0).bind fun t220 => (if t220 = true then ((impl_power.f k 48271 2147483645 2147483647).bind fun t221 => (some (Int.tmod (wrap64 (a0 * t221)) 2147483647))) else (some 0))
theorem impl_PrivateKey.mono : ∀ a0 k, LeO (impl_PrivateKey.f k a0) (impl_PrivateKey.f (k + 1) a0) := by
  intro a0 k
  unfold impl_PrivateKey.f
  repeat' first
      | (with_reducible exact impl_power.mono _ _ _ _)
      | (with_reducible exact LeO.refl _)
      | (with_reducible exact LeO.none _)
      | (with_reducible refine LeO.ite ?_ ?_)
      | (with_reducible refine LeO.bind ?_ (fun _ => ?_))
      | exact impl_power.mono _ _ _ _
      | exact LeO.none _
      | refine LeO.ite ?_ ?_
      | refine LeO.bind ?_ (fun _ => ?_)
set_option maxHeartbeats 8000000 in
set_option maxRecDepth 100000 in
theorem impl_PrivateKey.calls (k : Nat) (a0 : Int) (r : Int) (w : World) (h : impl_PrivateKey.f k a0 = some r) :
    Calls Try.prog 60 #[.int .i64 a0] w fun e w' => e = .returned (.int .i64 r) ∧ Drawn0 w w' := by
 have H : ((impl_IsValidKey.f a0).bind fun t220 => (if t220 = true then ((impl_power.f k 48271 2147483645 2147483647).bind fun t221 => (some (Int.tmod (wrap64 (a0 * t221)) 2147483647))) else (some 0))) = some r := h
 clear h; replace H := Option.bind_eq_some_iff.mp H; obtain ⟨t220, A20, H⟩ := H; (try dsimp only at H); have A2 := Aside0.mk A20; clear A20
 by_cases c3 : t220 = true
 ·subst c3; rw [if_pos rfl] at H; replace H := Option.bind_eq_some_iff.mp H; obtain ⟨t221, A40, H⟩ := H; (try dsimp only at H); have A4 := Aside0.mk A40; clear A40
  obtain rfl := Option.some.inj H
  go_enter Try.func60, Try.ntmps60
  go_wp2_with (first | ((with_reducible refine gate_callee (f := 90) rfl ?_); refine goesL_ (some 4) rfl rfl Try.func90 (by kernel_rfl) rfl #[.int .i64 a0] rfl Cmp.q ?_; (with_reducible refine (impl_IsValidKey.calls a0 true _ A2.out).mono ?_); rintro e w' ⟨rfl, ⟨nd, rfl⟩⟩; refine ⟨_, rfl, ?_⟩) | ((with_reducible refine gate_callee (f := 116) rfl ?_); refine goesL_ (some 7) rfl rfl Try.func116 (by kernel_rfl) rfl #[.int .i64 48271, .int .i64 2147483645, .int .i64 2147483647] rfl Cmp.q ?_; (with_reducible refine (impl_power.calls k 48271 2147483645 2147483647 t221 _ A4.out).mono ?_); rintro e w' ⟨rfl, ⟨nd, rfl⟩⟩; refine ⟨_, rfl, ?_⟩))
  go_ret
  exact ⟨by first | rfl | (simp; done) | (simp [*]; done), by repeat (first | exact Drawn0.refl _ | apply Drawn0.step)⟩
 ·replace c3 := Bool.eq_false_iff.mpr c3
  subst c3
  have H1 : (some 0) = some r := by rw [if_neg (show ¬ (false = true) by decide)] at H; exact H
  clear H; have H := H1; clear H1
  obtain rfl := Option.some.inj H
  go_enter Try.func60, Try.ntmps60
  go_wp2_with (first | ((with_reducible refine gate_callee (f := 90) rfl ?_); refine goesL_ (some 4) rfl rfl Try.func90 (by kernel_rfl) rfl #[.int .i64 a0] rfl Cmp.q ?_; (with_reducible refine (impl_IsValidKey.calls a0 false _ A2.out).mono ?_); rintro e w' ⟨rfl, ⟨nd, rfl⟩⟩; refine ⟨_, rfl, ?_⟩))
  go_ret
  exact ⟨by first | rfl | (simp; done) | (simp [*]; done), by repeat (first | exact Drawn0.refl _ | apply Drawn0.step)⟩

end Go.Proofs.Ytgcipecdaimjfaa.PFnExactVerifyLog

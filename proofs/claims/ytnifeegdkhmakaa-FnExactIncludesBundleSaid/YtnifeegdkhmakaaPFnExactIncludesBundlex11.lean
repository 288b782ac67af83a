/- Printed functions of the program, out of print.sh, told more shortly. No condition. -/
import Derived.Test.YtnifeegdkhmakaaCmp
import Derived.Test.YtnifeegdkhmakaaPFnExactIncludesBundlex0
import Derived.Test.YtnifeegdkhmakaaPFnExactIncludesBundlex1
import Derived.Test.YtnifeegdkhmakaaPFnExactIncludesBundlex10
namespace Go.Proofs.Ytnifeegdkhmakaa.PFnExactIncludesBundle
open Go.Proofs.Ytnifeegdkhmakaa
open Go.RowKit Go.Proofs.YtnifeegdkhmakaaW.PrintWords Go.Proofs.YtnifeegdkhmakaaW.PrintLast Go.Proofs.YtnifeegdkhmakaaW.PrintMore
attribute [local go_sem] max2_int min2_int max_two min_two max_three min_three max_four min_four   -- for this text's walks alone
set_option linter.unusedVariables false
set_option linter.unusedSimpArgs false

attribute [local go_sem high] eqA64
/-! ### impl_EqualBundles: function 52 -/
def impl_EqualBundles.l0 : Nat → Int → Int → List (S64) → List (S64) → Option (Bool)
  | 0, _, _, _, _ => none
  | k + 1, x15, x16, x310000, x311000 => if x16 < x15 then (if 0 ≤ x16 then (if x16 < (x310000.length : Int) then (if x16 < (x311000.length : Int) then (if (!(((rd_T64 x310000 x16).f0) == ((rd_T64 x311000 x16).f0)) || (!(((rd_T64 x310000 x16).f1) == ((rd_T64 x311000 x16).f1)) || (!(((rd_T64 x310000 x16).f2) == ((rd_T64 x311000 x16).f2)) || (!(((rd_T64 x310000 x16).f3) == ((rd_T64 x311000 x16).f3)))))) = true then (some false) else (impl_EqualBundles.l0 k x15 (wrap64 (x16 + 1)) x310000 x311000)) else (none)) else (none)) else (none)) else (some true)
def impl_EqualBundles.f (k : Nat) (l0_0 : List (S64)) (l1_0 : List (S64)) : Option (Bool) := if (l0_0.length : Int) = (l1_0.length : Int) then (impl_EqualBundles.l0 k (l0_0.length : Int) 0 l0_0 l1_0) else (some false)
theorem impl_EqualBundles.mono_l : ∀ k, (∀ y0 y1 y2 y3, LeO (impl_EqualBundles.l0 k y0 y1 y2 y3) (impl_EqualBundles.l0 (k + 1) y0 y1 y2 y3))
  | 0 => fun _ _ _ _ r h => by simp [impl_EqualBundles.l0] at h
  | k + 1 => by
    have ih0 := impl_EqualBundles.mono_l k
    · intro y0 y1 y2 y3
      unfold impl_EqualBundles.l0
      repeat' first
      | (with_reducible exact ih0 _ _ _ _)
      | (with_reducible exact LeO.refl _)
      | (with_reducible exact LeO.none _)
      | (with_reducible refine LeO.ite ?_ ?_)
      | (with_reducible refine LeO.bind ?_ (fun _ => ?_))
      | exact ih0 _ _ _ _
      | exact LeO.none _
      | refine LeO.ite ?_ ?_
      | refine LeO.bind ?_ (fun _ => ?_)
theorem impl_EqualBundles.mono : ∀ a0 a1 k, LeO (impl_EqualBundles.f k a0 a1) (impl_EqualBundles.f (k + 1) a0 a1) := by
  intro a0 a1 k
  have ih0 := impl_EqualBundles.mono_l k
  unfold impl_EqualBundles.f
  repeat' first
      | (with_reducible exact ih0 _ _ _ _)
      | (with_reducible exact LeO.refl _)
      | (with_reducible exact LeO.none _)
      | (with_reducible refine LeO.ite ?_ ?_)
      | (with_reducible refine LeO.bind ?_ (fun _ => ?_))
      | exact ih0 _ _ _ _
      | exact LeO.none _
      | refine LeO.ite ?_ ?_
      | refine LeO.bind ?_ (fun _ => ?_)
set_option maxHeartbeats 8000000 in
set_option maxRecDepth 100000 in
theorem impl_EqualBundles.calls (k : Nat) (A0_0 : Option Addr) (c0_0 : Nat) (l0_0 : List (S64)) (A1_0 : Option Addr) (c1_0 : Nat) (l1_0 : List (S64)) (r : Bool) (w : World) (hr0_0 : Kd.C k64 w A0_0 l0_0.length l0_0) (hc0_0 : l0_0.length ≤ c0_0) (hr1_0 : Kd.C k64 w A1_0 l1_0.length l1_0) (hc1_0 : l1_0.length ≤ c1_0) (h : impl_EqualBundles.f k l0_0 l1_0 = some r) :
    Calls Try.prog 52 #[.agg #[.slice A0_0 l0_0.length c0_0], .agg #[.slice A1_0 l1_0.length c1_0]] w fun e w' => e = .returned (.bool r) ∧ Below w.heap.size w w' := by
 have hu39 := Try.underlying39; have hu64 := Try.underlying64; have HR0_0 := Aside0.mk hr0_0; have HC0_0 := Aside0.mk hc0_0; clear hr0_0 hc0_0; have HR1_0 := Aside0.mk hr1_0; have HC1_0 := Aside0.mk hc1_0; clear hr1_0 hc1_0
 have HB := Aside0.mk (Below.refl w.heap.size w)
 have H : (if (l0_0.length : Int) = (l1_0.length : Int) then (impl_EqualBundles.l0 k (l0_0.length : Int) 0 l0_0 l1_0) else (some false)) = some r := h
 clear h
 by_cases c3 : (l0_0.length : Int) = (l1_0.length : Int)
 ·rw [if_pos c3] at H
  have c3b0 : ((l0_0.length : Int) == (l1_0.length : Int)) = true := beq_iff_eq.mpr c3
  have c3b1 : ((l0_0.length : Int) != (l1_0.length : Int)) = false := bne_eq_false_iff_eq.mpr c3
  have c3b2 : (l0_0.length == l1_0.length) = true := by first | simpa using c3 | (simp at c3 ⊢; omega)
  clear c3
  have H' := Aside0.mk H
  clear H
  go_enter Try.func52, Try.ntmps52
  go_wp2_with (first | ((with_reducible refine gate_dst (N := 2) rfl ?_); refine box_event ?hg (N := 2) ?hd (cs := #[.slice A0_0 l0_0.length c0_0]) (t := 39) ?hr ?_; (case hd => rfl); (case hg => rfl); (case hr => first | (go_simp; done) | (go_simp; rfl)); intro gb309 hg w4 hbox hb; have n0_ := Aside0.mk (below_step (Cmp.g HB.out) hb); have n1_ := Aside0.mk (hbox); have n2_ := Aside0.mk ((by rw [hg]; exact (below_size (Cmp.g HB.out)) : w.heap.size ≤ gb309)); have n3_ := Aside0.mk ((by rw [hg]; exact (below_size (Cmp.g HB.out)) : w.heap.size ≤ gb309)); clear HB; have HB := n0_; have BK309 := n1_; have GW309 := n2_; have GE309 := n3_; clear n0_ n1_ n2_ n3_; clear hb hbox hg) | ((with_reducible refine gate_dst (N := 3) rfl ?_); refine box_event ?hg (N := 3) ?hd (cs := #[.slice A1_0 l1_0.length c1_0]) (t := 39) ?hr ?_; (case hd => rfl); (case hg => rfl); (case hr => first | (go_simp; done) | (go_simp; rfl)); intro gb310 hg w5 hbox hb; have n0_ := Aside0.mk (blk_below (g := gb309) (o := .cells #[.slice A0_0 l0_0.length c0_0] 39 (0, 0)) (Cmp.b BK309.out) hb); have n1_ := Aside0.mk (below_step (Cmp.g HB.out) hb); have n2_ := Aside0.mk (hbox); have n3_ := Aside0.mk ((by rw [hg]; exact (below_size (Cmp.g HB.out)) : w.heap.size ≤ gb310)); have n4_ := Aside0.mk ((by rw [hg]; exact (below_size (Cmp.g HB.out)) : w.heap.size ≤ gb310)); have n5_ := Aside0.mk ((by rw [hg]; exact Nat.ne_of_lt (blk_lt (g := gb309) (o := .cells #[.slice A0_0 l0_0.length c0_0] 39 (0, 0)) (Cmp.b BK309.out)) : gb309 ≠ gb310)); have n6_ := Aside0.mk ((by rw [hg]; exact Nat.ne_of_gt (blk_lt (g := gb309) (o := .cells #[.slice A0_0 l0_0.length c0_0] 39 (0, 0)) (Cmp.b BK309.out)) : gb310 ≠ gb309)); clear BK309; clear HB; have BK309 := n0_; have HB := n1_; have BK310 := n2_; have GW310 := n3_; have GE310 := n4_; have NB309_310 := n5_; have NB310_309 := n6_; clear n0_ n1_ n2_ n3_ n4_ n5_ n6_; clear hb hbox hg; have hnb6 := NB309_310.out; have hnc6 := NB310_309.out; have hcz7_0 : w5.cell? ⟨gb309, 0, none⟩ = some (.slice A0_0 l0_0.length c0_0) := (blk_cell BK309.out 0).trans rfl; have hfz7_0 := blk_frozen BK309.out 0; have hcz8_0 : w5.cell? ⟨gb310, 0, none⟩ = some (.slice A1_0 l1_0.length c1_0) := (blk_cell BK310.out 0).trans rfl; have hfz8_0 := blk_frozen BK310.out 0))
  go_loopg [16] k (fun kq v16 w' => ∃ (x16_1 : Int), v16 = .int .i64 x16_1 ∧ Aside0 (impl_EqualBundles.l0 kq (l0_0.length : Int) x16_1 l0_0 l1_0 = some r) ∧ Aside0 (kq ≤ k) ∧ Aside0 (w'.heap[gb309]? = some (.cells #[(.slice A0_0 l0_0.length c0_0)] 39 (0, 0))) ∧ Aside0 (w'.heap[gb310]? = some (.cells #[(.slice A1_0 l1_0.length c1_0)] 39 (0, 0))) ∧ Aside0 (Below w.heap.size w w'))
  case atStart => exact ⟨(0), (by first | rfl | simp | simp [*]), H', ⟨Nat.le_refl _⟩, ⟨by (with_reducible repeat (first | refine blk_drewN ?_ _ | refine blk_drew ?_ | refine blk_alloc ?_ _)); exact BK309.out⟩, ⟨by (with_reducible repeat (first | refine blk_drewN ?_ _ | refine blk_drew ?_ | refine blk_alloc ?_ _)); exact BK310.out⟩, ⟨Cmp.g HB.out⟩⟩
  case round =>
   clear H'
   (try clear c1); (try clear p2); (try clear c3); (try clear c3b0); (try clear c3b1); (try clear c3b2); (try clear c5); (try clear c6); (try clear hcz7_0); (try clear hcz8_0); (try clear hfz7_0); (try clear hfz8_0)
   obtain ⟨x16_1, rfl, HA, HK1, BK309, BK310, HB⟩ := hrel
   cases gk with
   | zero => exact absurd HA.out (by simp [impl_EqualBundles.l0])
   | succ k1 =>
    have H := HA.out; clear HA
    simp only [impl_EqualBundles.l0] at H
    by_cases c9 : x16_1 < (l0_0.length : Int)
    ·rw [if_pos c9] at H
     have c9b0 : decide (x16_1 < (l0_0.length : Int)) = true := decide_eq_true c9
     clear c9
     by_cases c10 : 0 ≤ x16_1
     ·rw [if_pos c10] at H; have c10b0 : decide (0 ≤ x16_1) = true := decide_eq_true c10; clear c10
      by_cases c11 : x16_1 < (l0_0.length : Int)
      ·rw [if_pos c11] at H
       have c11b0 : decide (x16_1 < (l0_0.length : Int)) = true := decide_eq_true c11
       clear c11
       by_cases c12 : x16_1 < (l1_0.length : Int)
       ·rw [if_pos c12] at H
        have c12b0 : decide (x16_1 < (l1_0.length : Int)) = true := decide_eq_true c12
        clear c12
        by_cases c13 : (!(((rd_T64 l0_0 x16_1).f0) == ((rd_T64 l1_0 x16_1).f0)) || (!(((rd_T64 l0_0 x16_1).f1) == ((rd_T64 l1_0 x16_1).f1)) || (!(((rd_T64 l0_0 x16_1).f2) == ((rd_T64 l1_0 x16_1).f2)) || (!(((rd_T64 l0_0 x16_1).f3) == ((rd_T64 l1_0 x16_1).f3)))))) = true
        ·rw [if_pos c13] at H
         have c13b0 : (!(((rd_T64 l0_0 x16_1).f0) == ((rd_T64 l1_0 x16_1).f0)) || (!(((rd_T64 l0_0 x16_1).f1) == ((rd_T64 l1_0 x16_1).f1)) || (!(((rd_T64 l0_0 x16_1).f2) == ((rd_T64 l1_0 x16_1).f2)) || (!(((rd_T64 l0_0 x16_1).f3) == ((rd_T64 l1_0 x16_1).f3)))))) = true := c13
         clear c13
         obtain rfl := Option.some.inj H
         have hnb14 := NB309_310.out; have hnc14 := NB310_309.out
         have hcz15_0 : wr.cell? ⟨gb309, 0, none⟩ = some (.slice A0_0 l0_0.length c0_0) := (blk_cell BK309.out 0).trans rfl
         have hfz15_0 := blk_frozen BK309.out 0
         have p311 : 0 ≤ (x16_1 : Int) := of_decide_eq_true Cmp.d
         have q311 : x16_1 < (l0_0.length : Int) := of_decide_eq_true Cmp.d
         obtain ⟨ad311, e311, hx311_0, hx311_1, hx311_2, hx311_3⟩ := at_T64 HR0_0.out x16_1 p311 q311
         cases e311
         replace hx311_0 := (HB.out.cell (World.block_lt_of_cell? w _ hx311_0)).trans hx311_0
         replace hx311_1 := (HB.out.cell (World.block_lt_of_cell? w _ hx311_1)).trans hx311_1
         replace hx311_2 := (HB.out.cell (World.block_lt_of_cell? w _ hx311_2)).trans hx311_2
         replace hx311_3 := (HB.out.cell (World.block_lt_of_cell? w _ hx311_3)).trans hx311_3
         replace p311 := eq_true p311; replace q311 := eq_true q311
         have hcz16_0 : wr.cell? ⟨gb310, 0, none⟩ = some (.slice A1_0 l1_0.length c1_0) := (blk_cell BK310.out 0).trans rfl
         have hfz16_0 := blk_frozen BK310.out 0
         have p312 : 0 ≤ (x16_1 : Int) := of_decide_eq_true Cmp.d
         have q312 : x16_1 < (l1_0.length : Int) := of_decide_eq_true Cmp.d
         obtain ⟨ad312, e312, hx312_0, hx312_1, hx312_2, hx312_3⟩ := at_T64 HR1_0.out x16_1 p312 q312
         cases e312
         replace hx312_0 := (HB.out.cell (World.block_lt_of_cell? w _ hx312_0)).trans hx312_0
         replace hx312_1 := (HB.out.cell (World.block_lt_of_cell? w _ hx312_1)).trans hx312_1
         replace hx312_2 := (HB.out.cell (World.block_lt_of_cell? w _ hx312_2)).trans hx312_2
         replace hx312_3 := (HB.out.cell (World.block_lt_of_cell? w _ hx312_3)).trans hx312_3
         replace p312 := eq_true p312; replace q312 := eq_true q312
         go_wp2
         repeat (go_quiet (fail); try go_wp2)
         go_ret
         exact ⟨by first | rfl | (simp [errW_none, errW_some] <;> rfl) | (simp [*, errW_none, errW_some] <;> rfl), Cmp.g HB.out⟩
        ·rw [if_neg c13] at H
         have c13b0 : (!(((rd_T64 l0_0 x16_1).f0) == ((rd_T64 l1_0 x16_1).f0)) || (!(((rd_T64 l0_0 x16_1).f1) == ((rd_T64 l1_0 x16_1).f1)) || (!(((rd_T64 l0_0 x16_1).f2) == ((rd_T64 l1_0 x16_1).f2)) || (!(((rd_T64 l0_0 x16_1).f3) == ((rd_T64 l1_0 x16_1).f3)))))) = false := by simpa using c13
         clear c13
         have H' := Aside0.mk H
         clear H; have hnb17 := NB309_310.out; have hnc17 := NB310_309.out
         have hcz18_0 : wr.cell? ⟨gb309, 0, none⟩ = some (.slice A0_0 l0_0.length c0_0) := (blk_cell BK309.out 0).trans rfl
         have hfz18_0 := blk_frozen BK309.out 0
         have p311 : 0 ≤ (x16_1 : Int) := of_decide_eq_true Cmp.d
         have q311 : x16_1 < (l0_0.length : Int) := of_decide_eq_true Cmp.d
         obtain ⟨ad311, e311, hx311_0, hx311_1, hx311_2, hx311_3⟩ := at_T64 HR0_0.out x16_1 p311 q311
         cases e311
         replace hx311_0 := (HB.out.cell (World.block_lt_of_cell? w _ hx311_0)).trans hx311_0
         replace hx311_1 := (HB.out.cell (World.block_lt_of_cell? w _ hx311_1)).trans hx311_1
         replace hx311_2 := (HB.out.cell (World.block_lt_of_cell? w _ hx311_2)).trans hx311_2
         replace hx311_3 := (HB.out.cell (World.block_lt_of_cell? w _ hx311_3)).trans hx311_3
         replace p311 := eq_true p311; replace q311 := eq_true q311
         have hcz19_0 : wr.cell? ⟨gb310, 0, none⟩ = some (.slice A1_0 l1_0.length c1_0) := (blk_cell BK310.out 0).trans rfl
         have hfz19_0 := blk_frozen BK310.out 0
         have p312 : 0 ≤ (x16_1 : Int) := of_decide_eq_true Cmp.d
         have q312 : x16_1 < (l1_0.length : Int) := of_decide_eq_true Cmp.d
         obtain ⟨ad312, e312, hx312_0, hx312_1, hx312_2, hx312_3⟩ := at_T64 HR1_0.out x16_1 p312 q312
         cases e312
         replace hx312_0 := (HB.out.cell (World.block_lt_of_cell? w _ hx312_0)).trans hx312_0
         replace hx312_1 := (HB.out.cell (World.block_lt_of_cell? w _ hx312_1)).trans hx312_1
         replace hx312_2 := (HB.out.cell (World.block_lt_of_cell? w _ hx312_2)).trans hx312_2
         replace hx312_3 := (HB.out.cell (World.block_lt_of_cell? w _ hx312_3)).trans hx312_3
         replace p312 := eq_true p312; replace q312 := eq_true q312
         go_wp2
         repeat (go_quiet (fail); try go_wp2)
         go_roundg k1
         case measure => have := HK1.out; omega
         case rel => exact ⟨(wrap64 (x16_1 + 1)), (by first | rfl | simp | simp [*]), H', ⟨by have := HK1.out; omega⟩, ⟨by (with_reducible repeat (first | refine blk_drewN ?_ _ | refine blk_drew ?_ | refine blk_alloc ?_ _)); exact BK309.out⟩, ⟨by (with_reducible repeat (first | refine blk_drewN ?_ _ | refine blk_drew ?_ | refine blk_alloc ?_ _)); exact BK310.out⟩, ⟨Cmp.g HB.out⟩⟩
       ·rw [if_neg c12] at H; exact absurd H (by simp)
      ·rw [if_neg c11] at H; exact absurd H (by simp)
     ·rw [if_neg c10] at H; exact absurd H (by simp)
    ·rw [if_neg c9] at H
     have c9b0 : decide (x16_1 < (l0_0.length : Int)) = false := decide_eq_false c9
     clear c9
     obtain rfl := Option.some.inj H
     go_wp2
     go_ret
     exact ⟨by first | rfl | (simp [errW_none, errW_some] <;> rfl) | (simp [*, errW_none, errW_some] <;> rfl), Cmp.g HB.out⟩
 ·rw [if_neg c3] at H
  have c3b0 : ((l0_0.length : Int) == (l1_0.length : Int)) = false := beq_eq_false_iff_ne.mpr c3
  have c3b1 : ((l0_0.length : Int) != (l1_0.length : Int)) = true := bne_iff_ne.mpr c3
  have c3b2 : (l0_0.length == l1_0.length) = false := by first | simpa using c3 | (simp at c3 ⊢; omega)
  obtain rfl := Option.some.inj H
  go_enter Try.func52, Try.ntmps52
  go_wp2_with (first | ((with_reducible refine gate_dst (N := 2) rfl ?_); refine box_event ?hg (N := 2) ?hd (cs := #[.slice A0_0 l0_0.length c0_0]) (t := 39) ?hr ?_; (case hd => rfl); (case hg => rfl); (case hr => first | (go_simp; done) | (go_simp; rfl)); intro gb309 hg w20 hbox hb; have n0_ := Aside0.mk (below_step (Cmp.g HB.out) hb); have n1_ := Aside0.mk (hbox); have n2_ := Aside0.mk ((by rw [hg]; exact (below_size (Cmp.g HB.out)) : w.heap.size ≤ gb309)); have n3_ := Aside0.mk ((by rw [hg]; exact (below_size (Cmp.g HB.out)) : w.heap.size ≤ gb309)); clear HB; have HB := n0_; have BK309 := n1_; have GW309 := n2_; have GE309 := n3_; clear n0_ n1_ n2_ n3_; clear hb hbox hg) | ((with_reducible refine gate_dst (N := 3) rfl ?_); refine box_event ?hg (N := 3) ?hd (cs := #[.slice A1_0 l1_0.length c1_0]) (t := 39) ?hr ?_; (case hd => rfl); (case hg => rfl); (case hr => first | (go_simp; done) | (go_simp; rfl)); intro gb310 hg w21 hbox hb; have n0_ := Aside0.mk (blk_below (g := gb309) (o := .cells #[.slice A0_0 l0_0.length c0_0] 39 (0, 0)) (Cmp.b BK309.out) hb); have n1_ := Aside0.mk (below_step (Cmp.g HB.out) hb); have n2_ := Aside0.mk (hbox); have n3_ := Aside0.mk ((by rw [hg]; exact (below_size (Cmp.g HB.out)) : w.heap.size ≤ gb310)); have n4_ := Aside0.mk ((by rw [hg]; exact (below_size (Cmp.g HB.out)) : w.heap.size ≤ gb310)); have n5_ := Aside0.mk ((by rw [hg]; exact Nat.ne_of_lt (blk_lt (g := gb309) (o := .cells #[.slice A0_0 l0_0.length c0_0] 39 (0, 0)) (Cmp.b BK309.out)) : gb309 ≠ gb310)); have n6_ := Aside0.mk ((by rw [hg]; exact Nat.ne_of_gt (blk_lt (g := gb309) (o := .cells #[.slice A0_0 l0_0.length c0_0] 39 (0, 0)) (Cmp.b BK309.out)) : gb310 ≠ gb309)); clear BK309; clear HB; have BK309 := n0_; have HB := n1_; have BK310 := n2_; have GW310 := n3_; have GE310 := n4_; have NB309_310 := n5_; have NB310_309 := n6_; clear n0_ n1_ n2_ n3_ n4_ n5_ n6_; clear hb hbox hg; have hnb22 := NB309_310.out; have hnc22 := NB310_309.out; have hcz23_0 : w21.cell? ⟨gb309, 0, none⟩ = some (.slice A0_0 l0_0.length c0_0) := (blk_cell BK309.out 0).trans rfl; have hfz23_0 := blk_frozen BK309.out 0; have hcz24_0 : w21.cell? ⟨gb310, 0, none⟩ = some (.slice A1_0 l1_0.length c1_0) := (blk_cell BK310.out 0).trans rfl; have hfz24_0 := blk_frozen BK310.out 0))
  go_ret
  exact ⟨by first | rfl | (simp [errW_none, errW_some] <;> rfl) | (simp [*, errW_none, errW_some] <;> rfl), Cmp.g HB.out⟩

/-! ### impl_IncludesBundle: function 22 -/
def impl_IncludesBundle.f (k : Nat) (l0_0 : List (S64)) (l1_0 : List (S64)) : Option (Bool) := (impl_MergeBundles.f k l0_0 l1_0).bind fun bt315 => (if bt315.2 = true then ((impl_EqualBundles.f k bt315.1 l0_0).bind fun t320 => (some t320)) else (some false))
theorem impl_IncludesBundle.mono : ∀ a0 a1 k, LeO (impl_IncludesBundle.f k a0 a1) (impl_IncludesBundle.f (k + 1) a0 a1) := by
  intro a0 a1 k
  unfold impl_IncludesBundle.f
  repeat' first
      | (with_reducible exact impl_EqualBundles.mono _ _ _)
      | (with_reducible exact impl_MergeBundles.mono _ _ _)
      | (with_reducible exact LeO.refl _)
      | (with_reducible exact LeO.none _)
      | (with_reducible refine LeO.ite ?_ ?_)
      | (with_reducible refine LeO.bind ?_ (fun _ => ?_))
      | exact impl_EqualBundles.mono _ _ _
      | exact impl_MergeBundles.mono _ _ _
      | exact LeO.none _
      | refine LeO.ite ?_ ?_
      | refine LeO.bind ?_ (fun _ => ?_)
set_option maxHeartbeats 8000000 in
set_option maxRecDepth 100000 in
theorem impl_IncludesBundle.calls (k : Nat) (A0_0 : Option Addr) (c0_0 : Nat) (l0_0 : List (S64)) (A1_0 : Option Addr) (c1_0 : Nat) (l1_0 : List (S64)) (r : Bool) (w : World) (hr0_0 : Kd.C k64 w A0_0 l0_0.length l0_0) (hc0_0 : l0_0.length ≤ c0_0) (hr1_0 : Kd.C k64 w A1_0 l1_0.length l1_0) (hc1_0 : l1_0.length ≤ c1_0) (h : impl_IncludesBundle.f k l0_0 l1_0 = some r) :
    Calls Try.prog 22 #[.agg #[.slice A0_0 l0_0.length c0_0], .agg #[.slice A1_0 l1_0.length c1_0]] w fun e w' => e = .returned (.bool r) ∧ Below w.heap.size w w' := by
 have hu39 := Try.underlying39; have HR0_0 := Aside0.mk hr0_0; have HC0_0 := Aside0.mk hc0_0; clear hr0_0 hc0_0; have HR1_0 := Aside0.mk hr1_0; have HC1_0 := Aside0.mk hc1_0; clear hr1_0 hc1_0
 have HB := Aside0.mk (Below.refl w.heap.size w)
 have H : ((impl_MergeBundles.f k l0_0 l1_0).bind fun bt315 => (if bt315.2 = true then ((impl_EqualBundles.f k bt315.1 l0_0).bind fun t320 => (some t320)) else (some false))) = some r := h
 clear h; replace H := Option.bind_eq_some_iff.mp H; obtain ⟨⟨t315, t318⟩, A30, H⟩ := H; (try dsimp only at H); have A3 := Aside0.mk A30; clear A30
 by_cases c4 : t318 = true
 ·subst c4; rw [if_pos rfl] at H; replace H := Option.bind_eq_some_iff.mp H; obtain ⟨t320, A50, H⟩ := H; (try dsimp only at H); have A5 := Aside0.mk A50; clear A50
  obtain rfl := Option.some.inj H
  go_enter Try.func22, Try.ntmps22
  go_wp2_with (first | ((with_reducible refine gate_dst (N := 2) rfl ?_); refine box_event ?hg (N := 2) ?hd (cs := #[.slice A0_0 l0_0.length c0_0]) (t := 39) ?hr ?_; (case hd => rfl); (case hg => rfl); (case hr => first | (go_simp; done) | (go_simp; rfl)); intro gb313 hg w6 hbox hb; have n0_ := Aside0.mk (below_step (Cmp.g HB.out) hb); have n1_ := Aside0.mk (hbox); have n2_ := Aside0.mk ((by rw [hg]; exact (below_size (Cmp.g HB.out)) : w.heap.size ≤ gb313)); have n3_ := Aside0.mk ((by rw [hg]; exact (below_size (Cmp.g HB.out)) : w.heap.size ≤ gb313)); clear HB; have HB := n0_; have BK313 := n1_; have GW313 := n2_; have GE313 := n3_; clear n0_ n1_ n2_ n3_; clear hb hbox hg) | ((with_reducible refine gate_dst (N := 3) rfl ?_); refine box_event ?hg (N := 3) ?hd (cs := #[.slice A1_0 l1_0.length c1_0]) (t := 39) ?hr ?_; (case hd => rfl); (case hg => rfl); (case hr => first | (go_simp; done) | (go_simp; rfl)); intro gb314 hg w7 hbox hb; have n0_ := Aside0.mk (blk_below (g := gb313) (o := .cells #[.slice A0_0 l0_0.length c0_0] 39 (0, 0)) (Cmp.b BK313.out) hb); have n1_ := Aside0.mk (below_step (Cmp.g HB.out) hb); have n2_ := Aside0.mk (hbox); have n3_ := Aside0.mk ((by rw [hg]; exact (below_size (Cmp.g HB.out)) : w.heap.size ≤ gb314)); have n4_ := Aside0.mk ((by rw [hg]; exact (below_size (Cmp.g HB.out)) : w.heap.size ≤ gb314)); have n5_ := Aside0.mk ((by rw [hg]; exact Nat.ne_of_lt (blk_lt (g := gb313) (o := .cells #[.slice A0_0 l0_0.length c0_0] 39 (0, 0)) (Cmp.b BK313.out)) : gb313 ≠ gb314)); have n6_ := Aside0.mk ((by rw [hg]; exact Nat.ne_of_gt (blk_lt (g := gb313) (o := .cells #[.slice A0_0 l0_0.length c0_0] 39 (0, 0)) (Cmp.b BK313.out)) : gb314 ≠ gb313)); clear BK313; clear HB; have BK313 := n0_; have HB := n1_; have BK314 := n2_; have GW314 := n3_; have GE314 := n4_; have NB313_314 := n5_; have NB314_313 := n6_; clear n0_ n1_ n2_ n3_ n4_ n5_ n6_; clear hb hbox hg; have hnb8 := NB313_314.out; have hnc8 := NB314_313.out; have hcz9_0 : w7.cell? ⟨gb313, 0, none⟩ = some (.slice A0_0 l0_0.length c0_0) := (blk_cell BK313.out 0).trans rfl; have hfz9_0 := blk_frozen BK313.out 0; have hcz10_0 : w7.cell? ⟨gb314, 0, none⟩ = some (.slice A1_0 l1_0.length c1_0) := (blk_cell BK314.out 0).trans rfl; have hfz10_0 := blk_frozen BK314.out 0) | ((with_reducible refine gate_callee (f := 31) rfl ?_); refine goesL_ (some 10) rfl rfl Try.func31 (by kernel_rfl) rfl #[.agg #[.slice A0_0 l0_0.length c0_0], .agg #[.slice A1_0 l1_0.length c1_0]] rfl Cmp.q ?_; (with_reducible refine (impl_MergeBundles.calls k _ _ l0_0 _ _ l1_0 t315 true _ ?side1 ?side2 ?side3 ?side4 A3.out).mono ?_); (case side1 => exact Cmp.rc (Kd.C_below HR0_0.out HB.out)); (case side2 => exact HC0_0.out); (case side3 => exact Cmp.rc (Kd.C_below HR1_0.out HB.out)); (case side4 => exact HC1_0.out); rintro e w11 ⟨v316, rfl, ho0, hb⟩; refine ⟨_, rfl, ?_⟩; have n0_ := Aside0.mk (Kd.R_lower ho0 (below_size (Cmp.g HB.out))); have n1_ := Aside0.mk (blk_below (g := gb313) (o := .cells #[.slice A0_0 l0_0.length c0_0] 39 (0, 0)) (Cmp.b BK313.out) hb); have n2_ := Aside0.mk (blk_below (g := gb314) (o := .cells #[.slice A1_0 l1_0.length c1_0] 39 (0, 0)) (Cmp.b BK314.out) hb); have n3_ := Aside0.mk (below_step (Cmp.g HB.out) hb); clear BK313; clear BK314; clear HB; have HO317 := n0_; have BK313 := n1_; have BK314 := n2_; have HB := n3_; clear n0_ n1_ n2_ n3_; (try clear hb); (try clear hb2); (try clear hk); (try clear hi); (try clear ho0)) | ((with_reducible refine gate_dst (N := 5) rfl ?_); refine box_event ?hg (N := 5) ?hd (cs := #[.slice none 0 0]) (t := 39) ?hr ?_; (case hd => rfl); (case hg => rfl); (case hr => first | (go_simp; done) | (go_simp; rfl)); intro gb319 hg w12 hbox hb; have n0_ := Aside0.mk (Kd.R_below (Cmp.rr HO317.out) hb); have n1_ := Aside0.mk (blk_below (g := gb313) (o := .cells #[.slice A0_0 l0_0.length c0_0] 39 (0, 0)) (Cmp.b BK313.out) hb); have n2_ := Aside0.mk (blk_below (g := gb314) (o := .cells #[.slice A1_0 l1_0.length c1_0] 39 (0, 0)) (Cmp.b BK314.out) hb); have n3_ := Aside0.mk (below_step (Cmp.g HB.out) hb); have n4_ := Aside0.mk (hbox); have n5_ := Aside0.mk ((by rw [hg]; exact (below_size (Cmp.g HB.out)) : w.heap.size ≤ gb319)); have n6_ := Aside0.mk ((by rw [hg]; exact (below_size (Cmp.g HB.out)) : w.heap.size ≤ gb319)); have n7_ := Aside0.mk ((by rw [hg]; exact Nat.ne_of_lt (blk_lt (g := gb313) (o := .cells #[.slice A0_0 l0_0.length c0_0] 39 (0, 0)) (Cmp.b BK313.out)) : gb313 ≠ gb319)); have n8_ := Aside0.mk ((by rw [hg]; exact Nat.ne_of_gt (blk_lt (g := gb313) (o := .cells #[.slice A0_0 l0_0.length c0_0] 39 (0, 0)) (Cmp.b BK313.out)) : gb319 ≠ gb313)); have n9_ := Aside0.mk ((by rw [hg]; exact Nat.ne_of_lt (blk_lt (g := gb314) (o := .cells #[.slice A1_0 l1_0.length c1_0] 39 (0, 0)) (Cmp.b BK314.out)) : gb314 ≠ gb319)); have n10_ := Aside0.mk ((by rw [hg]; exact Nat.ne_of_gt (blk_lt (g := gb314) (o := .cells #[.slice A1_0 l1_0.length c1_0] 39 (0, 0)) (Cmp.b BK314.out)) : gb319 ≠ gb314)); clear HO317; clear BK313; clear BK314; clear HB; have HO317 := n0_; have BK313 := n1_; have BK314 := n2_; have HB := n3_; have BK319 := n4_; have GW319 := n5_; have GE319 := n6_; have NB313_319 := n7_; have NB319_313 := n8_; have NB314_319 := n9_; have NB319_314 := n10_; clear n0_ n1_ n2_ n3_ n4_ n5_ n6_ n7_ n8_ n9_ n10_; clear hb hbox hg; obtain ⟨Ao13, co13, eo13⟩ := Kd.R_slice HO317.out; subst eo13; have hnb14 := NB319_313.out; have hnc14 := NB313_319.out; have hnb15 := NB319_314.out; have hnc15 := NB314_319.out; have hcz16_0 : w12.cell? ⟨gb319, 0, none⟩ = some (.slice none 0 0) := (blk_cell BK319.out 0).trans rfl; have hfz16_0 := blk_frozen BK319.out 0; have hcz17_0 : w12.cell? ⟨gb313, 0, none⟩ = some (.slice A0_0 l0_0.length c0_0) := (blk_cell BK313.out 0).trans rfl; have hfz17_0 := blk_frozen BK313.out 0) | (go_at_call 52; (with_reducible refine (impl_EqualBundles.calls k _ _ t315 _ _ l0_0 t320 _ ?side1 ?side2 ?side3 ?side4 A5.out).mono ?_); (case side1 => refine (Kd.R_reads' (e := 64) (base := w.heap.size) (ok := fun k_ => True) (n := t315.length) (c := co13) ?_).2.2; exact (by (with_reducible repeat (first | apply Kd.R_alloc | apply Kd.R_drewN | apply Kd.R_drew)); exact (Kd.R_mono (Kd.R_far (p := ⟨gb319, 0, none⟩) (Kd.R_types HO317.out BK319.out (by decide)) (fun _ hk => hk.2) (.slice Ao13 t315.length co13)) (fun _ h_ => h_.1)))); (case side2 => exact (Kd.R_reads' HO317.out).2.1); (case side3 => exact Kd.C_below HR0_0.out (Cmp.g HB.out)); (case side4 => exact HC0_0.out); rintro e w18 ⟨rfl, hb⟩; have n0_ := Aside0.mk (Kd.R_below (by (with_reducible repeat (first | apply Kd.R_alloc | apply Kd.R_drewN | apply Kd.R_drew)); exact (Kd.R_mono (Kd.R_far (p := ⟨gb319, 0, none⟩) (Kd.R_types HO317.out BK319.out (by decide)) (fun _ hk => hk.2) (.slice Ao13 t315.length co13)) (fun _ h_ => h_.1))) hb); have n1_ := Aside0.mk (blk_below (g := gb313) (o := .cells #[.slice A0_0 l0_0.length c0_0] 39 (0, 0)) (by (with_reducible repeat (first | refine blk_drewN ?_ _ | refine blk_drew ?_ | refine blk_alloc ?_ _)); refine blk_far ?_ NB313_319.out _; (with_reducible repeat (first | refine blk_drewN ?_ _ | refine blk_drew ?_ | refine blk_alloc ?_ _)); exact BK313.out) hb); have n2_ := Aside0.mk (blk_below (g := gb314) (o := .cells #[.slice A1_0 l1_0.length c1_0] 39 (0, 0)) (by (with_reducible repeat (first | refine blk_drewN ?_ _ | refine blk_drew ?_ | refine blk_alloc ?_ _)); refine blk_far ?_ NB314_319.out _; (with_reducible repeat (first | refine blk_drewN ?_ _ | refine blk_drew ?_ | refine blk_alloc ?_ _)); exact BK314.out) hb); have n3_ := Aside0.mk (blk_below (g := gb319) (o := .cells #[.slice Ao13 t315.length co13] 39 (0, 0)) (by (with_reducible repeat (first | refine blk_drewN ?_ _ | refine blk_drew ?_ | refine blk_alloc ?_ _)); refine blk_put (cs := #[.slice none 0 0]) ?_ 0 _ rfl; (with_reducible repeat (first | refine blk_drewN ?_ _ | refine blk_drew ?_ | refine blk_alloc ?_ _)); exact BK319.out) hb); have n4_ := Aside0.mk (below_step (Cmp.g HB.out) hb); clear HO317; clear BK313; clear BK314; clear BK319; clear HB; have HO317 := n0_; have BK313 := n1_; have BK314 := n2_; have BK319 := n3_; have HB := n4_; clear n0_ n1_ n2_ n3_ n4_; (try clear hb); (try clear hb2); (try clear hk); (try clear hi)))
  go_ret
  exact ⟨by first | rfl | (simp [errW_none, errW_some] <;> rfl) | (simp [*, errW_none, errW_some] <;> rfl), Cmp.g HB.out⟩
 ·replace c4 := Bool.eq_false_iff.mpr c4
  subst c4
  have H1 : (some false) = some r := by rw [if_neg (show ¬ (false = true) by decide)] at H; exact H
  clear H; have H := H1; clear H1
  obtain rfl := Option.some.inj H
  go_enter Try.func22, Try.ntmps22
  go_wp2_with (first | ((with_reducible refine gate_dst (N := 2) rfl ?_); refine box_event ?hg (N := 2) ?hd (cs := #[.slice A0_0 l0_0.length c0_0]) (t := 39) ?hr ?_; (case hd => rfl); (case hg => rfl); (case hr => first | (go_simp; done) | (go_simp; rfl)); intro gb313 hg w19 hbox hb; have n0_ := Aside0.mk (below_step (Cmp.g HB.out) hb); have n1_ := Aside0.mk (hbox); have n2_ := Aside0.mk ((by rw [hg]; exact (below_size (Cmp.g HB.out)) : w.heap.size ≤ gb313)); have n3_ := Aside0.mk ((by rw [hg]; exact (below_size (Cmp.g HB.out)) : w.heap.size ≤ gb313)); clear HB; have HB := n0_; have BK313 := n1_; have GW313 := n2_; have GE313 := n3_; clear n0_ n1_ n2_ n3_; clear hb hbox hg) | ((with_reducible refine gate_dst (N := 3) rfl ?_); refine box_event ?hg (N := 3) ?hd (cs := #[.slice A1_0 l1_0.length c1_0]) (t := 39) ?hr ?_; (case hd => rfl); (case hg => rfl); (case hr => first | (go_simp; done) | (go_simp; rfl)); intro gb314 hg w20 hbox hb; have n0_ := Aside0.mk (blk_below (g := gb313) (o := .cells #[.slice A0_0 l0_0.length c0_0] 39 (0, 0)) (Cmp.b BK313.out) hb); have n1_ := Aside0.mk (below_step (Cmp.g HB.out) hb); have n2_ := Aside0.mk (hbox); have n3_ := Aside0.mk ((by rw [hg]; exact (below_size (Cmp.g HB.out)) : w.heap.size ≤ gb314)); have n4_ := Aside0.mk ((by rw [hg]; exact (below_size (Cmp.g HB.out)) : w.heap.size ≤ gb314)); have n5_ := Aside0.mk ((by rw [hg]; exact Nat.ne_of_lt (blk_lt (g := gb313) (o := .cells #[.slice A0_0 l0_0.length c0_0] 39 (0, 0)) (Cmp.b BK313.out)) : gb313 ≠ gb314)); have n6_ := Aside0.mk ((by rw [hg]; exact Nat.ne_of_gt (blk_lt (g := gb313) (o := .cells #[.slice A0_0 l0_0.length c0_0] 39 (0, 0)) (Cmp.b BK313.out)) : gb314 ≠ gb313)); clear BK313; clear HB; have BK313 := n0_; have HB := n1_; have BK314 := n2_; have GW314 := n3_; have GE314 := n4_; have NB313_314 := n5_; have NB314_313 := n6_; clear n0_ n1_ n2_ n3_ n4_ n5_ n6_; clear hb hbox hg; have hnb21 := NB313_314.out; have hnc21 := NB314_313.out; have hcz22_0 : w20.cell? ⟨gb313, 0, none⟩ = some (.slice A0_0 l0_0.length c0_0) := (blk_cell BK313.out 0).trans rfl; have hfz22_0 := blk_frozen BK313.out 0; have hcz23_0 : w20.cell? ⟨gb314, 0, none⟩ = some (.slice A1_0 l1_0.length c1_0) := (blk_cell BK314.out 0).trans rfl; have hfz23_0 := blk_frozen BK314.out 0) | ((with_reducible refine gate_callee (f := 31) rfl ?_); refine goesL_ (some 10) rfl rfl Try.func31 (by kernel_rfl) rfl #[.agg #[.slice A0_0 l0_0.length c0_0], .agg #[.slice A1_0 l1_0.length c1_0]] rfl Cmp.q ?_; (with_reducible refine (impl_MergeBundles.calls k _ _ l0_0 _ _ l1_0 t315 false _ ?side1 ?side2 ?side3 ?side4 A3.out).mono ?_); (case side1 => exact Cmp.rc (Kd.C_below HR0_0.out HB.out)); (case side2 => exact HC0_0.out); (case side3 => exact Cmp.rc (Kd.C_below HR1_0.out HB.out)); (case side4 => exact HC1_0.out); rintro e w24 ⟨v316, rfl, ho0, hb⟩; refine ⟨_, rfl, ?_⟩; have n0_ := Aside0.mk (Kd.R_lower ho0 (below_size (Cmp.g HB.out))); have n1_ := Aside0.mk (blk_below (g := gb313) (o := .cells #[.slice A0_0 l0_0.length c0_0] 39 (0, 0)) (Cmp.b BK313.out) hb); have n2_ := Aside0.mk (blk_below (g := gb314) (o := .cells #[.slice A1_0 l1_0.length c1_0] 39 (0, 0)) (Cmp.b BK314.out) hb); have n3_ := Aside0.mk (below_step (Cmp.g HB.out) hb); clear BK313; clear BK314; clear HB; have HO317 := n0_; have BK313 := n1_; have BK314 := n2_; have HB := n3_; clear n0_ n1_ n2_ n3_; (try clear hb); (try clear hb2); (try clear hk); (try clear hi); (try clear ho0)) | ((with_reducible refine gate_dst (N := 5) rfl ?_); refine box_event ?hg (N := 5) ?hd (cs := #[.slice none 0 0]) (t := 39) ?hr ?_; (case hd => rfl); (case hg => rfl); (case hr => first | (go_simp; done) | (go_simp; rfl)); intro gb319 hg w25 hbox hb; have n0_ := Aside0.mk (Kd.R_below (Cmp.rr HO317.out) hb); have n1_ := Aside0.mk (blk_below (g := gb313) (o := .cells #[.slice A0_0 l0_0.length c0_0] 39 (0, 0)) (Cmp.b BK313.out) hb); have n2_ := Aside0.mk (blk_below (g := gb314) (o := .cells #[.slice A1_0 l1_0.length c1_0] 39 (0, 0)) (Cmp.b BK314.out) hb); have n3_ := Aside0.mk (below_step (Cmp.g HB.out) hb); have n4_ := Aside0.mk (hbox); have n5_ := Aside0.mk ((by rw [hg]; exact (below_size (Cmp.g HB.out)) : w.heap.size ≤ gb319)); have n6_ := Aside0.mk ((by rw [hg]; exact (below_size (Cmp.g HB.out)) : w.heap.size ≤ gb319)); have n7_ := Aside0.mk ((by rw [hg]; exact Nat.ne_of_lt (blk_lt (g := gb313) (o := .cells #[.slice A0_0 l0_0.length c0_0] 39 (0, 0)) (Cmp.b BK313.out)) : gb313 ≠ gb319)); have n8_ := Aside0.mk ((by rw [hg]; exact Nat.ne_of_gt (blk_lt (g := gb313) (o := .cells #[.slice A0_0 l0_0.length c0_0] 39 (0, 0)) (Cmp.b BK313.out)) : gb319 ≠ gb313)); have n9_ := Aside0.mk ((by rw [hg]; exact Nat.ne_of_lt (blk_lt (g := gb314) (o := .cells #[.slice A1_0 l1_0.length c1_0] 39 (0, 0)) (Cmp.b BK314.out)) : gb314 ≠ gb319)); have n10_ := Aside0.mk ((by rw [hg]; exact Nat.ne_of_gt (blk_lt (g := gb314) (o := .cells #[.slice A1_0 l1_0.length c1_0] 39 (0, 0)) (Cmp.b BK314.out)) : gb319 ≠ gb314)); clear HO317; clear BK313; clear BK314; clear HB; have HO317 := n0_; have BK313 := n1_; have BK314 := n2_; have HB := n3_; have BK319 := n4_; have GW319 := n5_; have GE319 := n6_; have NB313_319 := n7_; have NB319_313 := n8_; have NB314_319 := n9_; have NB319_314 := n10_; clear n0_ n1_ n2_ n3_ n4_ n5_ n6_ n7_ n8_ n9_ n10_; clear hb hbox hg; obtain ⟨Ao26, co26, eo26⟩ := Kd.R_slice HO317.out; subst eo26; have hnb27 := NB319_313.out; have hnc27 := NB313_319.out; have hnb28 := NB319_314.out; have hnc28 := NB314_319.out; have hcz29_0 : w25.cell? ⟨gb319, 0, none⟩ = some (.slice none 0 0) := (blk_cell BK319.out 0).trans rfl; have hfz29_0 := blk_frozen BK319.out 0))
  go_ret
  exact ⟨by first | rfl | (simp [errW_none, errW_some] <;> rfl) | (simp [*, errW_none, errW_some] <;> rfl), Cmp.g HB.out⟩

end Go.Proofs.Ytnifeegdkhmakaa.PFnExactIncludesBundle

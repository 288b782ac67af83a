/- Printed functions of the program, out of print.sh, told more shortly. No condition. -/
import Derived.Test.YtnifeegdkhmakaaCmp
import Derived.Test.YtnifeegdkhmakaaPFnExactIncludesBundlex0
import Derived.Test.YtnifeegdkhmakaaPFnExactIncludesBundlex7
namespace Go.Proofs.Ytnifeegdkhmakaa.PFnExactIncludesBundle
open Go.Proofs.Ytnifeegdkhmakaa
open Go.RowKit Go.Proofs.YtnifeegdkhmakaaW.PrintWords Go.Proofs.YtnifeegdkhmakaaW.PrintLast Go.Proofs.YtnifeegdkhmakaaW.PrintMore
attribute [local go_sem] max2_int min2_int max_two min_two max_three min_three max_four min_four   -- for this text's walks alone
set_option linter.unusedVariables false
set_option linter.unusedSimpArgs false

/-! ### impl_IsBundle: function 46 -/
def impl_IsBundle.l0 : Nat → List (S64) → Int → Int → List (S64) → Option (Bool)
  | 0, _, _, _, _ => none
  | k + 1, x10, x11, x12, x251000 => if x12 < x11 then (if 0 ≤ x12 then (if x12 < (x10.length : Int) then ((impl_InRange.f ((rd_T64 x10 x12).f0) 0 2147483646).bind fun t253 => (if t253 = true then ((impl_InRange.f ((rd_T64 x10 x12).f1) 0 1000000).bind fun t254 => (if t254 = true then ((impl_InRange.f ((rd_T64 x10 x12).f2) 1 1000000).bind fun t255 => (if t255 = true then (if x12 > 0 then (if 0 ≤ (wrap64 (x12 - 1)) then (if (wrap64 (x12 - 1)) < (x251000.length : Int) then ((impl_entryBefore.f ((rd_T64 x251000 (wrap64 (x12 - 1))).f0) ((rd_T64 x251000 (wrap64 (x12 - 1))).f1) ((rd_T64 x251000 (wrap64 (x12 - 1))).f2) ((rd_T64 x251000 (wrap64 (x12 - 1))).f3) ((rd_T64 x10 x12).f0) ((rd_T64 x10 x12).f1) ((rd_T64 x10 x12).f2) ((rd_T64 x10 x12).f3)).bind fun t257 => (if t257 = true then (impl_IsBundle.l0 k x10 x11 (wrap64 (x12 + 1)) x251000) else (some false))) else (none)) else (none)) else (impl_IsBundle.l0 k x10 x11 (wrap64 (x12 + 1)) x251000)) else (some false))) else (some false))) else (some false))) else (none)) else (none)) else (some true)
def impl_IsBundle.f (k : Nat) (l0_0 : List (S64)) : Option (Bool) := if (l0_0.length : Int) > 20 then (some false) else (impl_IsBundle.l0 k l0_0 (l0_0.length : Int) 0 l0_0)
theorem impl_IsBundle.mono_l : ∀ k, (∀ y0 y1 y2 y3, LeO (impl_IsBundle.l0 k y0 y1 y2 y3) (impl_IsBundle.l0 (k + 1) y0 y1 y2 y3))
  | 0 => fun _ _ _ _ r h => by simp [impl_IsBundle.l0] at h
  | k + 1 => by
    have ih0 := impl_IsBundle.mono_l k
    · intro y0 y1 y2 y3
      unfold impl_IsBundle.l0
      repeat' first
      | (with_reducible exact ih0 _ _ _ _)
      | (with_reducible exact LeO.refl _)
      | (with_reducible exact LeO.none _)
      | (with_reducible refine LeO.ite ?_ ?_)
      | (with_reducible refine LeO.bind ?_ (fun _ => ?_))
      | exact ih0 _ _ _ _
      | exact LeO.none _
      | refine LeO.ite ?_ ?_
      | refine LeO.bind ?_ (fun _ => ?_)
theorem impl_IsBundle.mono : ∀ a0 k, LeO (impl_IsBundle.f k a0) (impl_IsBundle.f (k + 1) a0) := by
  intro a0 k
  have ih0 := impl_IsBundle.mono_l k
  unfold impl_IsBundle.f
  repeat' first
      | (with_reducible exact ih0 _ _ _ _)
      | (with_reducible exact LeO.refl _)
      | (with_reducible exact LeO.none _)
      | (with_reducible refine LeO.ite ?_ ?_)
      | (with_reducible refine LeO.bind ?_ (fun _ => ?_))
      | exact ih0 _ _ _ _
      | exact LeO.none _
      | refine LeO.ite ?_ ?_
      | refine LeO.bind ?_ (fun _ => ?_)
def impl_IsBundle.T6 : Bool × List (List Nat × List Nat) := (true, [([], []), ([0], [0]), ([1], [1]), ([2], [2]), ([3, 2], [3]), ([4], [4]), ([5, 4], [4, 5]), ([6, 4, 4], [4, 6]), ([7, 4], [4, 7]), ([4, 8], [4, 8]), ([9, 7], [9]), ([10], [10]), ([11, 10], [10, 11]), ([12, 10, 10], [10, 12]), ([13, 10], [10, 13]), ([10, 14], [10, 14]), ([15, 13], [15]), ([16], [16]), ([17, 16], [16, 17]), ([18, 16, 16], [16, 18]), ([19], [19]), ([20, 19], [19, 20]), ([19], [19]), ([22, 19], [19, 22]), ([21, 23, 19], [19, 21, 23]), ([24, 19], [19, 24]), ([19], [19]), ([25, 26, 19, 19], [19, 25, 26]), ([27, 19], [19, 27]), ([19, 28, 16], [16, 19, 28]), ([16, 29], [16, 29])])
def impl_IsBundle.B6 : List Nat := [0, 1, 3, 7, 15, 31, 63, 127, 255, 511, 1023, 2047, 4095, 8191, 16383, 32767, 65535, 131071, 262143, 524287, 1048575, 2097151, 1048575, 5242879, 16777215, 33554431, 1048575, 134217727, 268435455, 536870911, 1073741823]
theorem impl_IsBundle.tab6 : rtab .any (opsOf Try.f46 6) = impl_IsBundle.T6 := by kernel_rfl
theorem impl_IsBundle.bits6 : waitsOk impl_IsBundle.T6.2 impl_IsBundle.B6 = true := by kernel_rfl
set_option maxHeartbeats 8000000 in
set_option maxRecDepth 100000 in
theorem impl_IsBundle.calls (k : Nat) (A0_0 : Option Addr) (c0_0 : Nat) (l0_0 : List (S64)) (r : Bool) (w : World) (hr0_0 : Kd.C k64 w A0_0 l0_0.length l0_0) (hc0_0 : l0_0.length ≤ c0_0) (h : impl_IsBundle.f k l0_0 = some r) :
    Calls Try.prog 46 #[.agg #[.slice A0_0 l0_0.length c0_0]] w fun e w' => e = .returned (.bool r) ∧ Below w.heap.size w w' := by
 have hu39 := Try.underlying39; have hu64 := Try.underlying64; have HR0_0 := Aside0.mk hr0_0; have HC0_0 := Aside0.mk hc0_0; clear hr0_0 hc0_0
 have HB := Aside0.mk (Below.refl w.heap.size w)
 have H : (if (l0_0.length : Int) > 20 then (some false) else (impl_IsBundle.l0 k l0_0 (l0_0.length : Int) 0 l0_0)) = some r := h
 clear h
 by_cases c2 : (l0_0.length : Int) > 20
 ·rw [if_pos c2] at H
  have c2b0 : decide (20 < (l0_0.length : Int)) = true := decide_eq_true c2
  have c2b1 : decide (20 < l0_0.length) = true := decide_eq_true (by omega)
  clear c2
  obtain rfl := Option.some.inj H
  go_enter Try.func46, Try.ntmps46
  go_wp2_with (((with_reducible refine gate_dst (N := 1) rfl ?_); refine box_event ?hg (N := 1) ?hd (cs := #[.slice A0_0 l0_0.length c0_0]) (t := 39) ?hr ?_; (case hd => rfl); (case hg => rfl); (case hr => first | (go_simp; done) | (go_simp; rfl)); intro gb250 hg w3 hbox hb; have n0_ := Aside0.mk (below_step (Cmp.g HB.out) hb); have n1_ := Aside0.mk (hbox); have n2_ := Aside0.mk ((by rw [hg]; exact (below_size (Cmp.g HB.out)) : w.heap.size ≤ gb250)); have n3_ := Aside0.mk ((by rw [hg]; exact (below_size (Cmp.g HB.out)) : w.heap.size ≤ gb250)); clear HB; have HB := n0_; have BK250 := n1_; have GW250 := n2_; have GE250 := n3_; clear n0_ n1_ n2_ n3_; clear hb hbox hg; have hcz4_0 : w3.cell? ⟨gb250, 0, none⟩ = some (.slice A0_0 l0_0.length c0_0) := (blk_cell BK250.out 0).trans rfl; have hfz4_0 := blk_frozen BK250.out 0))
  go_ret
  exact ⟨by first | rfl | (simp [errW_none, errW_some] <;> rfl) | (simp [*, errW_none, errW_some] <;> rfl), Cmp.g HB.out⟩
 ·rw [if_neg c2] at H
  have c2b0 : decide (20 < (l0_0.length : Int)) = false := decide_eq_false c2
  have c2b1 : decide (20 < l0_0.length) = false := decide_eq_false (by omega)
  clear c2
  have H' := Aside0.mk H
  clear H
  go_enter Try.func46, Try.ntmps46
  go_wp2_with (((with_reducible refine gate_dst (N := 1) rfl ?_); refine box_event ?hg (N := 1) ?hd (cs := #[.slice A0_0 l0_0.length c0_0]) (t := 39) ?hr ?_; (case hd => rfl); (case hg => rfl); (case hr => first | (go_simp; done) | (go_simp; rfl)); intro gb250 hg w5 hbox hb; have n0_ := Aside0.mk (below_step (Cmp.g HB.out) hb); have n1_ := Aside0.mk (hbox); have n2_ := Aside0.mk ((by rw [hg]; exact (below_size (Cmp.g HB.out)) : w.heap.size ≤ gb250)); have n3_ := Aside0.mk ((by rw [hg]; exact (below_size (Cmp.g HB.out)) : w.heap.size ≤ gb250)); clear HB; have HB := n0_; have BK250 := n1_; have GW250 := n2_; have GE250 := n3_; clear n0_ n1_ n2_ n3_; clear hb hbox hg; have hcz6_0 : w5.cell? ⟨gb250, 0, none⟩ = some (.slice A0_0 l0_0.length c0_0) := (blk_cell BK250.out 0).trans rfl; have hfz6_0 := blk_frozen BK250.out 0))
  go_loopg [12] k (fun kq v12 w' => ∃ (x12_1 : Int), v12 = .int .i64 x12_1 ∧ Aside0 (impl_IsBundle.l0 kq l0_0 (l0_0.length : Int) x12_1 l0_0 = some r) ∧ Aside0 (kq ≤ k) ∧ Aside0 (w'.heap[gb250]? = some (.cells #[(.slice A0_0 l0_0.length c0_0)] 39 (0, 0))) ∧ Aside0 (Below w.heap.size w w'))
  case atStart => exact ⟨(0), (by first | rfl | simp | simp [*]), H', ⟨Nat.le_refl _⟩, ⟨by (with_reducible repeat (first | refine blk_drewN ?_ _ | refine blk_drew ?_ | refine blk_alloc ?_ _)); exact BK250.out⟩, ⟨Cmp.g HB.out⟩⟩
  case round =>
   clear H'
   (try clear c2); (try clear c2b0); (try clear c2b1); (try clear p2); (try clear c4); (try clear hcz4_0); (try clear hcz6_0); (try clear hfz4_0); (try clear hfz6_0)
   obtain ⟨x12_1, rfl, HA, HK1, BK250, HB⟩ := hrel
   cases gk with
   | zero => exact absurd HA.out (by simp [impl_IsBundle.l0])
   | succ k1 =>
    have H := HA.out; clear HA
    simp only [impl_IsBundle.l0] at H
    by_cases c7 : x12_1 < (l0_0.length : Int)
    ·rw [if_pos c7] at H
     have c7b0 : decide (x12_1 < (l0_0.length : Int)) = true := decide_eq_true c7
     clear c7
     by_cases c8 : 0 ≤ x12_1
     ·rw [if_pos c8] at H; have c8b0 : decide (0 ≤ x12_1) = true := decide_eq_true c8; clear c8
      by_cases c9 : x12_1 < (l0_0.length : Int)
      ·rw [if_pos c9] at H
       have c9b0 : decide (x12_1 < (l0_0.length : Int)) = true := decide_eq_true c9
       clear c9; replace H := Option.bind_eq_some_iff.mp H; obtain ⟨t253, A100, H⟩ := H; (try dsimp only at H); have A10 := Aside0.mk A100; clear A100
       by_cases c11 : t253 = true
       ·subst c11; rw [if_pos rfl] at H; replace H := Option.bind_eq_some_iff.mp H; obtain ⟨t254, A120, H⟩ := H; (try dsimp only at H); have A12 := Aside0.mk A120; clear A120
        by_cases c13 : t254 = true
        ·subst c13; rw [if_pos rfl] at H; replace H := Option.bind_eq_some_iff.mp H; obtain ⟨t255, A140, H⟩ := H; (try dsimp only at H); have A14 := Aside0.mk A140; clear A140
         by_cases c15 : t255 = true
         ·subst c15; rw [if_pos rfl] at H
          by_cases c16 : x12_1 > 0
          ·rw [if_pos c16] at H; have c16b0 : decide (0 < x12_1) = true := decide_eq_true c16; clear c16
           obtain ⟨ji17, hji17⟩ : ∃ j_ : Int, (wrap64 (x12_1 - 1)) = j_ := ⟨_, rfl⟩
           replace H : (if 0 ≤ (ji17) then (if (ji17) < (l0_0.length : Int) then ((impl_entryBefore.f ((rd_T64 l0_0 (ji17)).f0) ((rd_T64 l0_0 (ji17)).f1) ((rd_T64 l0_0 (ji17)).f2) ((rd_T64 l0_0 (ji17)).f3) ((rd_T64 l0_0 x12_1).f0) ((rd_T64 l0_0 x12_1).f1) ((rd_T64 l0_0 x12_1).f2) ((rd_T64 l0_0 x12_1).f3)).bind fun t257 => (if t257 = true then (impl_IsBundle.l0 k1 l0_0 (l0_0.length : Int) (wrap64 (x12_1 + 1)) l0_0) else (some false))) else (none)) else (none)) = some r := by first | (rw [hji17] at H; exact H) | (simp only [hji17] at H ⊢; exact H)
           (try rw [hji17] at A10)
           (try rw [hji17] at A12)
           (try rw [hji17] at A14)
           have hji17w : (IntKind.i64.wrap (x12_1 - 1)) = ji17 := (i64_w _).trans hji17
           by_cases c18 : 0 ≤ (ji17)
           ·rw [if_pos c18] at H; have c18b0 : decide (0 ≤ (ji17)) = true := decide_eq_true c18; clear c18
            by_cases c19 : (ji17) < (l0_0.length : Int)
            ·rw [if_pos c19] at H
             have c19b0 : decide ((ji17) < (l0_0.length : Int)) = true := decide_eq_true c19
             clear c19; replace H := Option.bind_eq_some_iff.mp H; obtain ⟨t257, A200, H⟩ := H; (try dsimp only at H); have A20 := Aside0.mk A200; clear A200
             by_cases c21 : t257 = true
             ·subst c21; rw [if_pos rfl] at H
              have H' := Aside0.mk H
              clear H
              have p251 : 0 ≤ (x12_1 : Int) := of_decide_eq_true Cmp.d
              have q251 : x12_1 < (l0_0.length : Int) := of_decide_eq_true Cmp.d
              obtain ⟨ad251, e251, hx251_0, hx251_1, hx251_2, hx251_3⟩ := at_T64 HR0_0.out x12_1 p251 q251
              cases e251
              replace hx251_0 := (HB.out.cell (World.block_lt_of_cell? w _ hx251_0)).trans hx251_0
              replace hx251_1 := (HB.out.cell (World.block_lt_of_cell? w _ hx251_1)).trans hx251_1
              replace hx251_2 := (HB.out.cell (World.block_lt_of_cell? w _ hx251_2)).trans hx251_2
              replace hx251_3 := (HB.out.cell (World.block_lt_of_cell? w _ hx251_3)).trans hx251_3
              replace p251 := eq_true p251; replace q251 := eq_true q251
              try go_wp2_with (((with_reducible refine gate_dst (N := 4) rfl ?_); refine box_event ?hg (N := 4) ?hd (cs := #[.int .i64 0, .int .i64 0, .int .i64 0, .bool false]) (t := 64) ?hr ?_; (case hd => rfl); (case hg => rfl); (case hr => first | (go_simp; done) | (go_simp; rfl)); intro gb252 hg w22 hbox hb; have n0_ := Aside0.mk (blk_below (g := gb250) (o := .cells #[.slice (some ad251) l0_0.length c0_0] 39 (0, 0)) (Cmp.b BK250.out) hb); have n1_ := Aside0.mk (below_step (Cmp.g HB.out) hb); have n2_ := Aside0.mk (hbox); have n3_ := Aside0.mk ((by rw [hg]; exact (below_size (Cmp.g HB.out)) : w.heap.size ≤ gb252)); have n4_ := Aside0.mk ((by rw [hg]; exact (below_size (Cmp.g HB.out)) : w.heap.size ≤ gb252)); have n5_ := Aside0.mk ((by rw [hg]; exact Nat.ne_of_lt (blk_lt (g := gb250) (o := .cells #[.slice (some ad251) l0_0.length c0_0] 39 (0, 0)) (Cmp.b BK250.out)) : gb250 ≠ gb252)); have n6_ := Aside0.mk ((by rw [hg]; exact Nat.ne_of_gt (blk_lt (g := gb250) (o := .cells #[.slice (some ad251) l0_0.length c0_0] 39 (0, 0)) (Cmp.b BK250.out)) : gb252 ≠ gb250)); clear BK250; clear HB; have BK250 := n0_; have HB := n1_; have BK252 := n2_; have GW252 := n3_; have GE252 := n4_; have NB250_252 := n5_; have NB252_250 := n6_; clear n0_ n1_ n2_ n3_ n4_ n5_ n6_; clear hb hbox hg; have hnb23 := NB252_250.out; have hnc23 := NB250_252.out; have hcz24_0 : w22.cell? ⟨gb252, 0, none⟩ = some (.int .i64 0) := (blk_cell BK252.out 0).trans rfl; have hcz24_1 : w22.cell? ⟨gb252, 1, none⟩ = some (.int .i64 0) := (blk_cell BK252.out 1).trans rfl; have hcz24_2 : w22.cell? ⟨gb252, 2, none⟩ = some (.int .i64 0) := (blk_cell BK252.out 2).trans rfl; have hcz24_3 : w22.cell? ⟨gb252, 3, none⟩ = some (.bool false) := (blk_cell BK252.out 3).trans rfl; have hfz24_0 := blk_frozen BK252.out 0; have hfz24_1 := blk_frozen BK252.out 1; have hfz24_2 := blk_frozen BK252.out 2; have hfz24_3 := blk_frozen BK252.out 3))
              have n0_ : Aside0 (((((w22.setCell ⟨gb252, 0, none⟩ (.int .i64 ((rd_T64 l0_0 x12_1).f0))).setCell ⟨gb252, 1, none⟩ (.int .i64 ((rd_T64 l0_0 x12_1).f1))).setCell ⟨gb252, 2, none⟩ (.int .i64 ((rd_T64 l0_0 x12_1).f2))).setCell ⟨gb252, 3, none⟩ (.bool ((rd_T64 l0_0 x12_1).f3))).heap[gb250]? = some (.cells #[.slice (some ad251) l0_0.length c0_0] 39 (0, 0))) := ⟨by (with_reducible repeat (first | refine blk_drewN ?_ _ | refine blk_drew ?_ | refine blk_alloc ?_ _)); refine blk_far ?_ NB250_252.out _; (with_reducible repeat (first | refine blk_drewN ?_ _ | refine blk_drew ?_ | refine blk_alloc ?_ _)); refine blk_far ?_ NB250_252.out _; (with_reducible repeat (first | refine blk_drewN ?_ _ | refine blk_drew ?_ | refine blk_alloc ?_ _)); refine blk_far ?_ NB250_252.out _; (with_reducible repeat (first | refine blk_drewN ?_ _ | refine blk_drew ?_ | refine blk_alloc ?_ _)); refine blk_far ?_ NB250_252.out _; (with_reducible repeat (first | refine blk_drewN ?_ _ | refine blk_drew ?_ | refine blk_alloc ?_ _)); exact BK250.out⟩
              have n1_ : Aside0 (((((w22.setCell ⟨gb252, 0, none⟩ (.int .i64 ((rd_T64 l0_0 x12_1).f0))).setCell ⟨gb252, 1, none⟩ (.int .i64 ((rd_T64 l0_0 x12_1).f1))).setCell ⟨gb252, 2, none⟩ (.int .i64 ((rd_T64 l0_0 x12_1).f2))).setCell ⟨gb252, 3, none⟩ (.bool ((rd_T64 l0_0 x12_1).f3))).heap[gb252]? = some (.cells #[.int .i64 ((rd_T64 l0_0 x12_1).f0), .int .i64 ((rd_T64 l0_0 x12_1).f1), .int .i64 ((rd_T64 l0_0 x12_1).f2), .bool ((rd_T64 l0_0 x12_1).f3)] 64 (0, 0))) := ⟨by (with_reducible repeat (first | refine blk_drewN ?_ _ | refine blk_drew ?_ | refine blk_alloc ?_ _)); refine blk_put (cs := #[.int .i64 ((rd_T64 l0_0 x12_1).f0), .int .i64 ((rd_T64 l0_0 x12_1).f1), .int .i64 ((rd_T64 l0_0 x12_1).f2), .bool false]) ?_ 3 _ rfl; (with_reducible repeat (first | refine blk_drewN ?_ _ | refine blk_drew ?_ | refine blk_alloc ?_ _)); refine blk_put (cs := #[.int .i64 ((rd_T64 l0_0 x12_1).f0), .int .i64 ((rd_T64 l0_0 x12_1).f1), .int .i64 0, .bool false]) ?_ 2 _ rfl; (with_reducible repeat (first | refine blk_drewN ?_ _ | refine blk_drew ?_ | refine blk_alloc ?_ _)); refine blk_put (cs := #[.int .i64 ((rd_T64 l0_0 x12_1).f0), .int .i64 0, .int .i64 0, .bool false]) ?_ 1 _ rfl; (with_reducible repeat (first | refine blk_drewN ?_ _ | refine blk_drew ?_ | refine blk_alloc ?_ _)); refine blk_put (cs := #[.int .i64 0, .int .i64 0, .int .i64 0, .bool false]) ?_ 0 _ rfl; (with_reducible repeat (first | refine blk_drewN ?_ _ | refine blk_drew ?_ | refine blk_alloc ?_ _)); exact BK252.out⟩
              have n2_ : Aside0 (Below w.heap.size w ((((w22.setCell ⟨gb252, 0, none⟩ (.int .i64 ((rd_T64 l0_0 x12_1).f0))).setCell ⟨gb252, 1, none⟩ (.int .i64 ((rd_T64 l0_0 x12_1).f1))).setCell ⟨gb252, 2, none⟩ (.int .i64 ((rd_T64 l0_0 x12_1).f2))).setCell ⟨gb252, 3, none⟩ (.bool ((rd_T64 l0_0 x12_1).f3)))) := ⟨Cmp.g HB.out⟩
              (try clear BK250); (try clear BK252); (try clear HB)
              generalize ((((w22.setCell ⟨gb252, 0, none⟩ (.int .i64 ((rd_T64 l0_0 x12_1).f0))).setCell ⟨gb252, 1, none⟩ (.int .i64 ((rd_T64 l0_0 x12_1).f1))).setCell ⟨gb252, 2, none⟩ (.int .i64 ((rd_T64 l0_0 x12_1).f2))).setCell ⟨gb252, 3, none⟩ (.bool ((rd_T64 l0_0 x12_1).f3))) = w25 at n0_ n1_ n2_ ⊢
              have BK250 := n0_; have BK252 := n1_; have HB := n2_; clear n0_ n1_ n2_; have n0_ := Aside0.mk (blk_drew BK250.out); have n1_ := Aside0.mk (blk_drew BK252.out); have n2_ := Aside0.mk (below_drew1 HB.out); clear BK250; clear BK252; clear HB; have BK250 := n0_; have BK252 := n1_; have HB := n2_; clear n0_ n1_ n2_
              have p256 : 0 ≤ ((ji17) : Int) := of_decide_eq_true Cmp.d
              have q256 : (ji17) < (l0_0.length : Int) := of_decide_eq_true Cmp.d
              obtain ⟨ad256, e256, hx256_0, hx256_1, hx256_2, hx256_3⟩ := at_T64 HR0_0.out (ji17) p256 q256
              have hw256_3 := hx256_3; have hw256_2 := hx256_2; have hw256_1 := hx256_1; have hw256_0 := hx256_0
              obtain rfl : ad251 = ad256 := (by injection e256)
              replace hx256_0 := (HB.out.cell (World.block_lt_of_cell? w _ hx256_0)).trans hx256_0
              replace hx256_1 := (HB.out.cell (World.block_lt_of_cell? w _ hx256_1)).trans hx256_1
              replace hx256_2 := (HB.out.cell (World.block_lt_of_cell? w _ hx256_2)).trans hx256_2
              replace hx256_3 := (HB.out.cell (World.block_lt_of_cell? w _ hx256_3)).trans hx256_3
              replace p256 := eq_true p256; replace q256 := eq_true q256
              refine start_ (n := 31) (S := fun w' => w'.cell? ⟨gb252, 0, none⟩ = some (.int .i64 ((rd_T64 l0_0 x12_1).f0)) ∧ w'.cell? ⟨gb252, 1, none⟩ = some (.int .i64 ((rd_T64 l0_0 x12_1).f1)) ∧ w'.cell? ⟨gb252, 2, none⟩ = some (.int .i64 ((rd_T64 l0_0 x12_1).f2)) ∧ w'.cell? ⟨gb252, 3, none⟩ = some (.bool ((rd_T64 l0_0 x12_1).f3)) ∧ w'.cell? ⟨gb250, 0, none⟩ = some (.slice (some ad251) l0_0.length c0_0) ∧ w'.cell? (ad251.add (((ji17)).toNat * 4)) = some (.int .i64 ((rd_T64 l0_0 (ji17)).f0)) ∧ w'.cell? ⟨(ad251.add (((ji17)).toNat * 4)).block, (ad251.add (((ji17)).toNat * 4)).off + 1, none⟩ = some (.int .i64 ((rd_T64 l0_0 (ji17)).f1)) ∧ w'.cell? ⟨(ad251.add (((ji17)).toNat * 4)).block, (ad251.add (((ji17)).toNat * 4)).off + 2, none⟩ = some (.int .i64 ((rd_T64 l0_0 (ji17)).f2)) ∧ w'.cell? ⟨(ad251.add (((ji17)).toNat * 4)).block, (ad251.add (((ji17)).toNat * 4)).off + 3, none⟩ = some (.bool ((rd_T64 l0_0 (ji17)).f3))) (ds := []) (Cmp.bm 0 31) (by kernel_rfl) rfl rfl ⟨(blk_cell BK252.out 0).trans rfl, (blk_cell BK252.out 1).trans rfl, (blk_cell BK252.out 2).trans rfl, (blk_cell BK252.out 3).trans rfl, (blk_cell BK250.out 0).trans rfl, ((HB.out.cell (World.block_lt_of_cell? w _ hw256_0)).trans hw256_0), ((HB.out.cell (World.block_lt_of_cell? w _ hw256_1)).trans hw256_1), ((HB.out.cell (World.block_lt_of_cell? w _ hw256_2)).trans hw256_2), ((HB.out.cell (World.block_lt_of_cell? w _ hw256_3)).trans hw256_3)⟩ (fun hHeld => ?_); refine with_tabW impl_IsBundle.tab6 impl_IsBundle.bits6 (fun HT_ HW_ => ?_)
              generalize w25.drew = w26 at BK250 BK252 HB hx256_0 hx256_1 hx256_2 hx256_3 hHeld ⊢
              refine Cmp.pu HT_ 0 17 (Cmp.bm 1 30) ?_; refine Cmp.tk HT_ HW_ hHeld 1 18 (Cmp.bm 2 29) ?_
              refine one_ (i := 2) (N := some 19) (Cmp.bm 3 28) rfl rfl (one_of HT_.out (by kernel_rfl)) (by decide) (fun K hK => ?_)
              refine goes_ Try.func37 (by kernel_rfl) rfl #[.int .i64 ((rd_T64 l0_0 x12_1).f0), .int .i64 0, .int .i64 2147483646] (by rfl) rfl rfl Cmp.q ?_
              with_reducible refine (impl_InRange.calls ((rd_T64 l0_0 x12_1).f0) 0 2147483646 true _ A10.out).mono ?_
              rintro e w' ⟨rfl, ⟨nd, rfl⟩⟩; refine ⟨_, rfl, ?_⟩
              refine hK.out _ _ ⟨(blk_cell BK252.out 0).trans rfl, (blk_cell BK252.out 1).trans rfl, (blk_cell BK252.out 2).trans rfl, (blk_cell BK252.out 3).trans rfl, (blk_cell BK250.out 0).trans rfl, ((HB.out.cell (World.block_lt_of_cell? w _ hw256_0)).trans hw256_0), ((HB.out.cell (World.block_lt_of_cell? w _ hw256_1)).trans hw256_1), ((HB.out.cell (World.block_lt_of_cell? w _ hw256_2)).trans hw256_2), ((HB.out.cell (World.block_lt_of_cell? w _ hw256_3)).trans hw256_3)⟩ (fun hHeld => ?_)
              clear hK K
              refine norm_ (a' := ?_) ?_ ?_
              rotate_left
              ·show Act.put _ (some 19) _ = _
               simp only [Act.put, Cmp.s, Cmp.z, Cmp.c, i64_w, i32_w]; rfl
              refine Cmp.pu HT_ 3 20 (Cmp.bm 4 27) ?_; refine Cmp.pu HT_ 4 21 (Cmp.bm 5 26) ?_; refine Cmp.pu HT_ 5 22 (Cmp.bm 6 25) ?_; refine Cmp.tk HT_ HW_ hHeld 6 23 (Cmp.bm 7 24) ?_
              refine one_ (i := 7) (N := some 24) (Cmp.bm 8 23) rfl rfl (one_of HT_.out (by kernel_rfl)) (by decide) (fun K hK => ?_)
              refine goes_ Try.func37 (by kernel_rfl) rfl #[.int .i64 ((rd_T64 l0_0 x12_1).f1), .int .i64 0, .int .i64 1000000] (by rfl) rfl rfl Cmp.q ?_
              with_reducible refine (impl_InRange.calls ((rd_T64 l0_0 x12_1).f1) 0 1000000 true _ A12.out).mono ?_
              rintro e w' ⟨rfl, ⟨nd, rfl⟩⟩; refine ⟨_, rfl, ?_⟩
              refine hK.out _ _ ⟨(blk_cell BK252.out 0).trans rfl, (blk_cell BK252.out 1).trans rfl, (blk_cell BK252.out 2).trans rfl, (blk_cell BK252.out 3).trans rfl, (blk_cell BK250.out 0).trans rfl, ((HB.out.cell (World.block_lt_of_cell? w _ hw256_0)).trans hw256_0), ((HB.out.cell (World.block_lt_of_cell? w _ hw256_1)).trans hw256_1), ((HB.out.cell (World.block_lt_of_cell? w _ hw256_2)).trans hw256_2), ((HB.out.cell (World.block_lt_of_cell? w _ hw256_3)).trans hw256_3)⟩ (fun hHeld => ?_)
              clear hK K
              refine norm_ (a' := ?_) ?_ ?_
              rotate_left
              ·show Act.put _ (some 24) _ = _
               simp only [Act.put, Cmp.s, Cmp.z, Cmp.c, i64_w, i32_w]; rfl
              refine Cmp.pu HT_ 8 25 (Cmp.bm 9 22) ?_; refine Cmp.pu HT_ 9 26 (Cmp.bm 10 21) ?_; refine Cmp.pu HT_ 10 27 (Cmp.bm 11 20) ?_; refine Cmp.pu HT_ 11 28 (Cmp.bm 12 19) ?_; refine Cmp.tk HT_ HW_ hHeld 12 29 (Cmp.bm 13 18) ?_
              refine one_ (i := 13) (N := some 30) (Cmp.bm 14 17) rfl rfl (one_of HT_.out (by kernel_rfl)) (by decide) (fun K hK => ?_)
              refine goes_ Try.func37 (by kernel_rfl) rfl #[.int .i64 ((rd_T64 l0_0 x12_1).f2), .int .i64 1, .int .i64 1000000] (by rfl) rfl rfl Cmp.q ?_
              with_reducible refine (impl_InRange.calls ((rd_T64 l0_0 x12_1).f2) 1 1000000 true _ A14.out).mono ?_
              rintro e w' ⟨rfl, ⟨nd, rfl⟩⟩; refine ⟨_, rfl, ?_⟩
              refine hK.out _ _ ⟨(blk_cell BK252.out 0).trans rfl, (blk_cell BK252.out 1).trans rfl, (blk_cell BK252.out 2).trans rfl, (blk_cell BK252.out 3).trans rfl, (blk_cell BK250.out 0).trans rfl, ((HB.out.cell (World.block_lt_of_cell? w _ hw256_0)).trans hw256_0), ((HB.out.cell (World.block_lt_of_cell? w _ hw256_1)).trans hw256_1), ((HB.out.cell (World.block_lt_of_cell? w _ hw256_2)).trans hw256_2), ((HB.out.cell (World.block_lt_of_cell? w _ hw256_3)).trans hw256_3)⟩ (fun hHeld => ?_)
              clear hK K
              refine norm_ (a' := ?_) ?_ ?_
              rotate_left
              ·show Act.put _ (some 30) _ = _
               simp only [Act.put, Cmp.s, Cmp.z, Cmp.c, i64_w, i32_w]; rfl
              refine Cmp.pu HT_ 14 31 (Cmp.bm 15 16) ?_; refine Cmp.pu HT_ 15 32 (Cmp.bm 16 15) ?_; refine Cmp.pu HT_ 16 33 (Cmp.bm 17 14) ?_; refine Cmp.pu HT_ 17 34 (Cmp.bm 18 13) ?_; refine Cmp.pu HT_ 18 35 (Cmp.bm 19 12) ?_; refine Cmp.pu HT_ 19 36 (Cmp.bm 20 11) ?_; refine Cmp.pu HT_ 20 37 (Cmp.bm 21 10) ?_; refine Cmp.pu HT_ 22 39 (Cmp.bb 31 6291455) ?_; refine Cmp.pu HT_ 23 40 (Cmp.bb 31 14680063) ?_; refine Cmp.tk HT_ HW_ hHeld 21 38 (Cmp.bm 24 7) ?_; refine Cmp.pu HT_ 24 41 (Cmp.bm 25 6) ?_; refine Cmp.tk HT_ HW_ hHeld 25 42 (Cmp.bm 26 5) ?_; refine Cmp.tk HT_ HW_ hHeld 26 43 (Cmp.bm 27 4) ?_
              refine one_ (i := 27) (N := some 44) (Cmp.bm 28 3) rfl rfl (one_of HT_.out (by kernel_rfl)) (by decide) (fun K hK => ?_)
              refine goes_ Try.func56 (by kernel_rfl) rfl #[.agg #[.int .i64 ((rd_T64 l0_0 (ji17)).f0), .int .i64 ((rd_T64 l0_0 (ji17)).f1), .int .i64 ((rd_T64 l0_0 (ji17)).f2), .bool ((rd_T64 l0_0 (ji17)).f3)], .agg #[.int .i64 ((rd_T64 l0_0 x12_1).f0), .int .i64 ((rd_T64 l0_0 x12_1).f1), .int .i64 ((rd_T64 l0_0 x12_1).f2), .bool ((rd_T64 l0_0 x12_1).f3)]] (by rfl) rfl rfl (by (try simp only [List.map_toArray, List.map_cons, List.map_nil]); first | done | (simp only [hji17]; rfl) | rfl | (simp only [List.length_drop, List.length_take]; rfl)) ?_
              with_reducible refine (impl_entryBefore.calls ((rd_T64 l0_0 (ji17)).f0) ((rd_T64 l0_0 (ji17)).f1) ((rd_T64 l0_0 (ji17)).f2) ((rd_T64 l0_0 (ji17)).f3) ((rd_T64 l0_0 x12_1).f0) ((rd_T64 l0_0 x12_1).f1) ((rd_T64 l0_0 x12_1).f2) ((rd_T64 l0_0 x12_1).f3) true _ A20.out).mono ?_
              rintro e w27 ⟨rfl, hb⟩; refine ⟨_, rfl, ?_⟩
              have n0_ := Aside0.mk (blk_below (g := gb250) (o := .cells #[.slice (some ad251) l0_0.length c0_0] 39 (0, 0)) (Cmp.b BK250.out) hb)
              have n1_ := Aside0.mk (blk_below (g := gb252) (o := .cells #[.int .i64 ((rd_T64 l0_0 x12_1).f0), .int .i64 ((rd_T64 l0_0 x12_1).f1), .int .i64 ((rd_T64 l0_0 x12_1).f2), .bool ((rd_T64 l0_0 x12_1).f3)] 64 (0, 0)) (Cmp.b BK252.out) hb)
              have n2_ := Aside0.mk (below_step (Cmp.g HB.out) hb)
              clear BK250; clear BK252; clear HB; have BK250 := n0_; have BK252 := n1_; have HB := n2_; clear n0_ n1_ n2_; (try clear hb); (try clear hb2); (try clear hk); (try clear hi)
              refine hK.out _ _ ⟨(blk_cell BK252.out 0).trans rfl, (blk_cell BK252.out 1).trans rfl, (blk_cell BK252.out 2).trans rfl, (blk_cell BK252.out 3).trans rfl, (blk_cell BK250.out 0).trans rfl, ((HB.out.cell (World.block_lt_of_cell? w _ hw256_0)).trans hw256_0), ((HB.out.cell (World.block_lt_of_cell? w _ hw256_1)).trans hw256_1), ((HB.out.cell (World.block_lt_of_cell? w _ hw256_2)).trans hw256_2), ((HB.out.cell (World.block_lt_of_cell? w _ hw256_3)).trans hw256_3)⟩ (fun hHeld => ?_)
              clear hK K
              refine norm_ (a' := ?_) ?_ ?_
              rotate_left
              ·show Act.put _ (some 44) _ = _
               simp only [Act.put, Cmp.s, Cmp.z, Cmp.c, i64_w, i32_w]; rfl
              refine Cmp.pu HT_ 28 45 (Cmp.bm 29 2) ?_; refine Cmp.pu HT_ 29 46 (Cmp.bm 30 1) ?_; refine Cmp.pu HT_ 30 47 (Cmp.bm 31 0) ?_
              refine done_ (done_of HT_.out (by kernel_rfl)) ?_
              try go_wp2
              go_roundg k1
              case measure => have := HK1.out; omega
              case rel => exact ⟨(wrap64 (x12_1 + 1)), (by first | rfl | simp | simp [*]), H', ⟨by have := HK1.out; omega⟩, ⟨by (with_reducible repeat (first | refine blk_drewN ?_ _ | refine blk_drew ?_ | refine blk_alloc ?_ _)); exact BK250.out⟩, ⟨Cmp.g HB.out⟩⟩
             ·replace c21 := Bool.eq_false_iff.mpr c21
              subst c21
              have H1 : (some false) = some r := by rw [if_neg (show ¬ (false = true) by decide)] at H; exact H
              clear H; have H := H1; clear H1
              obtain rfl := Option.some.inj H
              have p251 : 0 ≤ (x12_1 : Int) := of_decide_eq_true Cmp.d
              have q251 : x12_1 < (l0_0.length : Int) := of_decide_eq_true Cmp.d
              obtain ⟨ad251, e251, hx251_0, hx251_1, hx251_2, hx251_3⟩ := at_T64 HR0_0.out x12_1 p251 q251
              cases e251
              replace hx251_0 := (HB.out.cell (World.block_lt_of_cell? w _ hx251_0)).trans hx251_0
              replace hx251_1 := (HB.out.cell (World.block_lt_of_cell? w _ hx251_1)).trans hx251_1
              replace hx251_2 := (HB.out.cell (World.block_lt_of_cell? w _ hx251_2)).trans hx251_2
              replace hx251_3 := (HB.out.cell (World.block_lt_of_cell? w _ hx251_3)).trans hx251_3
              replace p251 := eq_true p251; replace q251 := eq_true q251
              try go_wp2_with (((with_reducible refine gate_dst (N := 4) rfl ?_); refine box_event ?hg (N := 4) ?hd (cs := #[.int .i64 0, .int .i64 0, .int .i64 0, .bool false]) (t := 64) ?hr ?_; (case hd => rfl); (case hg => rfl); (case hr => first | (go_simp; done) | (go_simp; rfl)); intro gb252 hg w28 hbox hb; have n0_ := Aside0.mk (blk_below (g := gb250) (o := .cells #[.slice (some ad251) l0_0.length c0_0] 39 (0, 0)) (Cmp.b BK250.out) hb); have n1_ := Aside0.mk (below_step (Cmp.g HB.out) hb); have n2_ := Aside0.mk (hbox); have n3_ := Aside0.mk ((by rw [hg]; exact (below_size (Cmp.g HB.out)) : w.heap.size ≤ gb252)); have n4_ := Aside0.mk ((by rw [hg]; exact (below_size (Cmp.g HB.out)) : w.heap.size ≤ gb252)); have n5_ := Aside0.mk ((by rw [hg]; exact Nat.ne_of_lt (blk_lt (g := gb250) (o := .cells #[.slice (some ad251) l0_0.length c0_0] 39 (0, 0)) (Cmp.b BK250.out)) : gb250 ≠ gb252)); have n6_ := Aside0.mk ((by rw [hg]; exact Nat.ne_of_gt (blk_lt (g := gb250) (o := .cells #[.slice (some ad251) l0_0.length c0_0] 39 (0, 0)) (Cmp.b BK250.out)) : gb252 ≠ gb250)); clear BK250; clear HB; have BK250 := n0_; have HB := n1_; have BK252 := n2_; have GW252 := n3_; have GE252 := n4_; have NB250_252 := n5_; have NB252_250 := n6_; clear n0_ n1_ n2_ n3_ n4_ n5_ n6_; clear hb hbox hg; have hnb29 := NB252_250.out; have hnc29 := NB250_252.out; have hcz30_0 : w28.cell? ⟨gb252, 0, none⟩ = some (.int .i64 0) := (blk_cell BK252.out 0).trans rfl; have hcz30_1 : w28.cell? ⟨gb252, 1, none⟩ = some (.int .i64 0) := (blk_cell BK252.out 1).trans rfl; have hcz30_2 : w28.cell? ⟨gb252, 2, none⟩ = some (.int .i64 0) := (blk_cell BK252.out 2).trans rfl; have hcz30_3 : w28.cell? ⟨gb252, 3, none⟩ = some (.bool false) := (blk_cell BK252.out 3).trans rfl; have hfz30_0 := blk_frozen BK252.out 0; have hfz30_1 := blk_frozen BK252.out 1; have hfz30_2 := blk_frozen BK252.out 2; have hfz30_3 := blk_frozen BK252.out 3))
              have n0_ : Aside0 (((((w28.setCell ⟨gb252, 0, none⟩ (.int .i64 ((rd_T64 l0_0 x12_1).f0))).setCell ⟨gb252, 1, none⟩ (.int .i64 ((rd_T64 l0_0 x12_1).f1))).setCell ⟨gb252, 2, none⟩ (.int .i64 ((rd_T64 l0_0 x12_1).f2))).setCell ⟨gb252, 3, none⟩ (.bool ((rd_T64 l0_0 x12_1).f3))).heap[gb250]? = some (.cells #[.slice (some ad251) l0_0.length c0_0] 39 (0, 0))) := ⟨by (with_reducible repeat (first | refine blk_drewN ?_ _ | refine blk_drew ?_ | refine blk_alloc ?_ _)); refine blk_far ?_ NB250_252.out _; (with_reducible repeat (first | refine blk_drewN ?_ _ | refine blk_drew ?_ | refine blk_alloc ?_ _)); refine blk_far ?_ NB250_252.out _; (with_reducible repeat (first | refine blk_drewN ?_ _ | refine blk_drew ?_ | refine blk_alloc ?_ _)); refine blk_far ?_ NB250_252.out _; (with_reducible repeat (first | refine blk_drewN ?_ _ | refine blk_drew ?_ | refine blk_alloc ?_ _)); refine blk_far ?_ NB250_252.out _; (with_reducible repeat (first | refine blk_drewN ?_ _ | refine blk_drew ?_ | refine blk_alloc ?_ _)); exact BK250.out⟩
              have n1_ : Aside0 (((((w28.setCell ⟨gb252, 0, none⟩ (.int .i64 ((rd_T64 l0_0 x12_1).f0))).setCell ⟨gb252, 1, none⟩ (.int .i64 ((rd_T64 l0_0 x12_1).f1))).setCell ⟨gb252, 2, none⟩ (.int .i64 ((rd_T64 l0_0 x12_1).f2))).setCell ⟨gb252, 3, none⟩ (.bool ((rd_T64 l0_0 x12_1).f3))).heap[gb252]? = some (.cells #[.int .i64 ((rd_T64 l0_0 x12_1).f0), .int .i64 ((rd_T64 l0_0 x12_1).f1), .int .i64 ((rd_T64 l0_0 x12_1).f2), .bool ((rd_T64 l0_0 x12_1).f3)] 64 (0, 0))) := ⟨by (with_reducible repeat (first | refine blk_drewN ?_ _ | refine blk_drew ?_ | refine blk_alloc ?_ _)); refine blk_put (cs := #[.int .i64 ((rd_T64 l0_0 x12_1).f0), .int .i64 ((rd_T64 l0_0 x12_1).f1), .int .i64 ((rd_T64 l0_0 x12_1).f2), .bool false]) ?_ 3 _ rfl; (with_reducible repeat (first | refine blk_drewN ?_ _ | refine blk_drew ?_ | refine blk_alloc ?_ _)); refine blk_put (cs := #[.int .i64 ((rd_T64 l0_0 x12_1).f0), .int .i64 ((rd_T64 l0_0 x12_1).f1), .int .i64 0, .bool false]) ?_ 2 _ rfl; (with_reducible repeat (first | refine blk_drewN ?_ _ | refine blk_drew ?_ | refine blk_alloc ?_ _)); refine blk_put (cs := #[.int .i64 ((rd_T64 l0_0 x12_1).f0), .int .i64 0, .int .i64 0, .bool false]) ?_ 1 _ rfl; (with_reducible repeat (first | refine blk_drewN ?_ _ | refine blk_drew ?_ | refine blk_alloc ?_ _)); refine blk_put (cs := #[.int .i64 0, .int .i64 0, .int .i64 0, .bool false]) ?_ 0 _ rfl; (with_reducible repeat (first | refine blk_drewN ?_ _ | refine blk_drew ?_ | refine blk_alloc ?_ _)); exact BK252.out⟩
              have n2_ : Aside0 (Below w.heap.size w ((((w28.setCell ⟨gb252, 0, none⟩ (.int .i64 ((rd_T64 l0_0 x12_1).f0))).setCell ⟨gb252, 1, none⟩ (.int .i64 ((rd_T64 l0_0 x12_1).f1))).setCell ⟨gb252, 2, none⟩ (.int .i64 ((rd_T64 l0_0 x12_1).f2))).setCell ⟨gb252, 3, none⟩ (.bool ((rd_T64 l0_0 x12_1).f3)))) := ⟨Cmp.g HB.out⟩
              (try clear BK250); (try clear BK252); (try clear HB)
              generalize ((((w28.setCell ⟨gb252, 0, none⟩ (.int .i64 ((rd_T64 l0_0 x12_1).f0))).setCell ⟨gb252, 1, none⟩ (.int .i64 ((rd_T64 l0_0 x12_1).f1))).setCell ⟨gb252, 2, none⟩ (.int .i64 ((rd_T64 l0_0 x12_1).f2))).setCell ⟨gb252, 3, none⟩ (.bool ((rd_T64 l0_0 x12_1).f3))) = w31 at n0_ n1_ n2_ ⊢
              have BK250 := n0_; have BK252 := n1_; have HB := n2_; clear n0_ n1_ n2_; have n0_ := Aside0.mk (blk_drew BK250.out); have n1_ := Aside0.mk (blk_drew BK252.out); have n2_ := Aside0.mk (below_drew1 HB.out); clear BK250; clear BK252; clear HB; have BK250 := n0_; have BK252 := n1_; have HB := n2_; clear n0_ n1_ n2_
              have p256 : 0 ≤ ((ji17) : Int) := of_decide_eq_true Cmp.d
              have q256 : (ji17) < (l0_0.length : Int) := of_decide_eq_true Cmp.d
              obtain ⟨ad256, e256, hx256_0, hx256_1, hx256_2, hx256_3⟩ := at_T64 HR0_0.out (ji17) p256 q256
              have hw256_3 := hx256_3; have hw256_2 := hx256_2; have hw256_1 := hx256_1; have hw256_0 := hx256_0
              obtain rfl : ad251 = ad256 := (by injection e256)
              replace hx256_0 := (HB.out.cell (World.block_lt_of_cell? w _ hx256_0)).trans hx256_0
              replace hx256_1 := (HB.out.cell (World.block_lt_of_cell? w _ hx256_1)).trans hx256_1
              replace hx256_2 := (HB.out.cell (World.block_lt_of_cell? w _ hx256_2)).trans hx256_2
              replace hx256_3 := (HB.out.cell (World.block_lt_of_cell? w _ hx256_3)).trans hx256_3
              replace p256 := eq_true p256; replace q256 := eq_true q256
              refine start_ (n := 31) (S := fun w' => w'.cell? ⟨gb252, 0, none⟩ = some (.int .i64 ((rd_T64 l0_0 x12_1).f0)) ∧ w'.cell? ⟨gb252, 1, none⟩ = some (.int .i64 ((rd_T64 l0_0 x12_1).f1)) ∧ w'.cell? ⟨gb252, 2, none⟩ = some (.int .i64 ((rd_T64 l0_0 x12_1).f2)) ∧ w'.cell? ⟨gb252, 3, none⟩ = some (.bool ((rd_T64 l0_0 x12_1).f3)) ∧ w'.cell? ⟨gb250, 0, none⟩ = some (.slice (some ad251) l0_0.length c0_0) ∧ w'.cell? (ad251.add (((ji17)).toNat * 4)) = some (.int .i64 ((rd_T64 l0_0 (ji17)).f0)) ∧ w'.cell? ⟨(ad251.add (((ji17)).toNat * 4)).block, (ad251.add (((ji17)).toNat * 4)).off + 1, none⟩ = some (.int .i64 ((rd_T64 l0_0 (ji17)).f1)) ∧ w'.cell? ⟨(ad251.add (((ji17)).toNat * 4)).block, (ad251.add (((ji17)).toNat * 4)).off + 2, none⟩ = some (.int .i64 ((rd_T64 l0_0 (ji17)).f2)) ∧ w'.cell? ⟨(ad251.add (((ji17)).toNat * 4)).block, (ad251.add (((ji17)).toNat * 4)).off + 3, none⟩ = some (.bool ((rd_T64 l0_0 (ji17)).f3))) (ds := []) (Cmp.bm 0 31) (by kernel_rfl) rfl rfl ⟨(blk_cell BK252.out 0).trans rfl, (blk_cell BK252.out 1).trans rfl, (blk_cell BK252.out 2).trans rfl, (blk_cell BK252.out 3).trans rfl, (blk_cell BK250.out 0).trans rfl, ((HB.out.cell (World.block_lt_of_cell? w _ hw256_0)).trans hw256_0), ((HB.out.cell (World.block_lt_of_cell? w _ hw256_1)).trans hw256_1), ((HB.out.cell (World.block_lt_of_cell? w _ hw256_2)).trans hw256_2), ((HB.out.cell (World.block_lt_of_cell? w _ hw256_3)).trans hw256_3)⟩ (fun hHeld => ?_); refine with_tabW impl_IsBundle.tab6 impl_IsBundle.bits6 (fun HT_ HW_ => ?_)
              generalize w31.drew = w32 at BK250 BK252 HB hx256_0 hx256_1 hx256_2 hx256_3 hHeld ⊢
              refine Cmp.pu HT_ 0 17 (Cmp.bm 1 30) ?_; refine Cmp.tk HT_ HW_ hHeld 1 18 (Cmp.bm 2 29) ?_
              refine one_ (i := 2) (N := some 19) (Cmp.bm 3 28) rfl rfl (one_of HT_.out (by kernel_rfl)) (by decide) (fun K hK => ?_)
              refine goes_ Try.func37 (by kernel_rfl) rfl #[.int .i64 ((rd_T64 l0_0 x12_1).f0), .int .i64 0, .int .i64 2147483646] (by rfl) rfl rfl Cmp.q ?_
              with_reducible refine (impl_InRange.calls ((rd_T64 l0_0 x12_1).f0) 0 2147483646 true _ A10.out).mono ?_
              rintro e w' ⟨rfl, ⟨nd, rfl⟩⟩; refine ⟨_, rfl, ?_⟩
              refine hK.out _ _ ⟨(blk_cell BK252.out 0).trans rfl, (blk_cell BK252.out 1).trans rfl, (blk_cell BK252.out 2).trans rfl, (blk_cell BK252.out 3).trans rfl, (blk_cell BK250.out 0).trans rfl, ((HB.out.cell (World.block_lt_of_cell? w _ hw256_0)).trans hw256_0), ((HB.out.cell (World.block_lt_of_cell? w _ hw256_1)).trans hw256_1), ((HB.out.cell (World.block_lt_of_cell? w _ hw256_2)).trans hw256_2), ((HB.out.cell (World.block_lt_of_cell? w _ hw256_3)).trans hw256_3)⟩ (fun hHeld => ?_)
              clear hK K
              refine norm_ (a' := ?_) ?_ ?_
              rotate_left
              ·show Act.put _ (some 19) _ = _
               simp only [Act.put, Cmp.s, Cmp.z, Cmp.c, i64_w, i32_w]; rfl
              refine Cmp.pu HT_ 3 20 (Cmp.bm 4 27) ?_; refine Cmp.pu HT_ 4 21 (Cmp.bm 5 26) ?_; refine Cmp.pu HT_ 5 22 (Cmp.bm 6 25) ?_; refine Cmp.tk HT_ HW_ hHeld 6 23 (Cmp.bm 7 24) ?_
              refine one_ (i := 7) (N := some 24) (Cmp.bm 8 23) rfl rfl (one_of HT_.out (by kernel_rfl)) (by decide) (fun K hK => ?_)
              refine goes_ Try.func37 (by kernel_rfl) rfl #[.int .i64 ((rd_T64 l0_0 x12_1).f1), .int .i64 0, .int .i64 1000000] (by rfl) rfl rfl Cmp.q ?_
              with_reducible refine (impl_InRange.calls ((rd_T64 l0_0 x12_1).f1) 0 1000000 true _ A12.out).mono ?_
              rintro e w' ⟨rfl, ⟨nd, rfl⟩⟩; refine ⟨_, rfl, ?_⟩
              refine hK.out _ _ ⟨(blk_cell BK252.out 0).trans rfl, (blk_cell BK252.out 1).trans rfl, (blk_cell BK252.out 2).trans rfl, (blk_cell BK252.out 3).trans rfl, (blk_cell BK250.out 0).trans rfl, ((HB.out.cell (World.block_lt_of_cell? w _ hw256_0)).trans hw256_0), ((HB.out.cell (World.block_lt_of_cell? w _ hw256_1)).trans hw256_1), ((HB.out.cell (World.block_lt_of_cell? w _ hw256_2)).trans hw256_2), ((HB.out.cell (World.block_lt_of_cell? w _ hw256_3)).trans hw256_3)⟩ (fun hHeld => ?_)
              clear hK K
              refine norm_ (a' := ?_) ?_ ?_
              rotate_left
              ·show Act.put _ (some 24) _ = _
               simp only [Act.put, Cmp.s, Cmp.z, Cmp.c, i64_w, i32_w]; rfl
              refine Cmp.pu HT_ 8 25 (Cmp.bm 9 22) ?_; refine Cmp.pu HT_ 9 26 (Cmp.bm 10 21) ?_; refine Cmp.pu HT_ 10 27 (Cmp.bm 11 20) ?_; refine Cmp.pu HT_ 11 28 (Cmp.bm 12 19) ?_; refine Cmp.tk HT_ HW_ hHeld 12 29 (Cmp.bm 13 18) ?_
              refine one_ (i := 13) (N := some 30) (Cmp.bm 14 17) rfl rfl (one_of HT_.out (by kernel_rfl)) (by decide) (fun K hK => ?_)
              refine goes_ Try.func37 (by kernel_rfl) rfl #[.int .i64 ((rd_T64 l0_0 x12_1).f2), .int .i64 1, .int .i64 1000000] (by rfl) rfl rfl Cmp.q ?_
              with_reducible refine (impl_InRange.calls ((rd_T64 l0_0 x12_1).f2) 1 1000000 true _ A14.out).mono ?_
              rintro e w' ⟨rfl, ⟨nd, rfl⟩⟩; refine ⟨_, rfl, ?_⟩
              refine hK.out _ _ ⟨(blk_cell BK252.out 0).trans rfl, (blk_cell BK252.out 1).trans rfl, (blk_cell BK252.out 2).trans rfl, (blk_cell BK252.out 3).trans rfl, (blk_cell BK250.out 0).trans rfl, ((HB.out.cell (World.block_lt_of_cell? w _ hw256_0)).trans hw256_0), ((HB.out.cell (World.block_lt_of_cell? w _ hw256_1)).trans hw256_1), ((HB.out.cell (World.block_lt_of_cell? w _ hw256_2)).trans hw256_2), ((HB.out.cell (World.block_lt_of_cell? w _ hw256_3)).trans hw256_3)⟩ (fun hHeld => ?_)
              clear hK K
              refine norm_ (a' := ?_) ?_ ?_
              rotate_left
              ·show Act.put _ (some 30) _ = _
               simp only [Act.put, Cmp.s, Cmp.z, Cmp.c, i64_w, i32_w]; rfl
              refine Cmp.pu HT_ 14 31 (Cmp.bm 15 16) ?_; refine Cmp.pu HT_ 15 32 (Cmp.bm 16 15) ?_; refine Cmp.pu HT_ 16 33 (Cmp.bm 17 14) ?_; refine Cmp.pu HT_ 17 34 (Cmp.bm 18 13) ?_; refine Cmp.pu HT_ 18 35 (Cmp.bm 19 12) ?_; refine Cmp.pu HT_ 19 36 (Cmp.bm 20 11) ?_; refine Cmp.pu HT_ 20 37 (Cmp.bm 21 10) ?_; refine Cmp.pu HT_ 22 39 (Cmp.bb 31 6291455) ?_; refine Cmp.pu HT_ 23 40 (Cmp.bb 31 14680063) ?_; refine Cmp.tk HT_ HW_ hHeld 21 38 (Cmp.bm 24 7) ?_; refine Cmp.pu HT_ 24 41 (Cmp.bm 25 6) ?_; refine Cmp.tk HT_ HW_ hHeld 25 42 (Cmp.bm 26 5) ?_; refine Cmp.tk HT_ HW_ hHeld 26 43 (Cmp.bm 27 4) ?_
              refine one_ (i := 27) (N := some 44) (Cmp.bm 28 3) rfl rfl (one_of HT_.out (by kernel_rfl)) (by decide) (fun K hK => ?_)
              refine goes_ Try.func56 (by kernel_rfl) rfl #[.agg #[.int .i64 ((rd_T64 l0_0 (ji17)).f0), .int .i64 ((rd_T64 l0_0 (ji17)).f1), .int .i64 ((rd_T64 l0_0 (ji17)).f2), .bool ((rd_T64 l0_0 (ji17)).f3)], .agg #[.int .i64 ((rd_T64 l0_0 x12_1).f0), .int .i64 ((rd_T64 l0_0 x12_1).f1), .int .i64 ((rd_T64 l0_0 x12_1).f2), .bool ((rd_T64 l0_0 x12_1).f3)]] (by rfl) rfl rfl (by (try simp only [List.map_toArray, List.map_cons, List.map_nil]); first | done | (simp only [hji17]; rfl) | rfl | (simp only [List.length_drop, List.length_take]; rfl)) ?_
              with_reducible refine (impl_entryBefore.calls ((rd_T64 l0_0 (ji17)).f0) ((rd_T64 l0_0 (ji17)).f1) ((rd_T64 l0_0 (ji17)).f2) ((rd_T64 l0_0 (ji17)).f3) ((rd_T64 l0_0 x12_1).f0) ((rd_T64 l0_0 x12_1).f1) ((rd_T64 l0_0 x12_1).f2) ((rd_T64 l0_0 x12_1).f3) false _ A20.out).mono ?_
              rintro e w33 ⟨rfl, hb⟩; refine ⟨_, rfl, ?_⟩
              have n0_ := Aside0.mk (blk_below (g := gb250) (o := .cells #[.slice (some ad251) l0_0.length c0_0] 39 (0, 0)) (Cmp.b BK250.out) hb)
              have n1_ := Aside0.mk (blk_below (g := gb252) (o := .cells #[.int .i64 ((rd_T64 l0_0 x12_1).f0), .int .i64 ((rd_T64 l0_0 x12_1).f1), .int .i64 ((rd_T64 l0_0 x12_1).f2), .bool ((rd_T64 l0_0 x12_1).f3)] 64 (0, 0)) (Cmp.b BK252.out) hb)
              have n2_ := Aside0.mk (below_step (Cmp.g HB.out) hb)
              clear BK250; clear BK252; clear HB; have BK250 := n0_; have BK252 := n1_; have HB := n2_; clear n0_ n1_ n2_; (try clear hb); (try clear hb2); (try clear hk); (try clear hi)
              refine hK.out _ _ ⟨(blk_cell BK252.out 0).trans rfl, (blk_cell BK252.out 1).trans rfl, (blk_cell BK252.out 2).trans rfl, (blk_cell BK252.out 3).trans rfl, (blk_cell BK250.out 0).trans rfl, ((HB.out.cell (World.block_lt_of_cell? w _ hw256_0)).trans hw256_0), ((HB.out.cell (World.block_lt_of_cell? w _ hw256_1)).trans hw256_1), ((HB.out.cell (World.block_lt_of_cell? w _ hw256_2)).trans hw256_2), ((HB.out.cell (World.block_lt_of_cell? w _ hw256_3)).trans hw256_3)⟩ (fun hHeld => ?_)
              clear hK K
              refine norm_ (a' := ?_) ?_ ?_
              rotate_left
              ·show Act.put _ (some 44) _ = _
               simp only [Act.put, Cmp.s, Cmp.z, Cmp.c, i64_w, i32_w]; rfl
              refine Cmp.pu HT_ 28 45 (Cmp.bm 29 2) ?_; refine Cmp.pu HT_ 29 46 (Cmp.bm 30 1) ?_; refine Cmp.pu HT_ 30 47 (Cmp.bm 31 0) ?_
              refine done_ (done_of HT_.out (by kernel_rfl)) ?_
              try go_wp2
              go_ret
              exact ⟨by first | rfl | (simp [errW_none, errW_some] <;> rfl) | (simp only [← hji17]; first | rfl | (simp [errW_none, errW_some] <;> rfl)) | (simp [*, errW_none, errW_some] <;> rfl), Cmp.g HB.out⟩
            ·rw [if_neg c19] at H; exact absurd H (by simp)
           ·rw [if_neg c18] at H; exact absurd H (by simp)
          ·rw [if_neg c16] at H; have c16b0 : decide (0 < x12_1) = false := decide_eq_false c16; clear c16
           have H' := Aside0.mk H
           clear H
           have p251 : 0 ≤ (x12_1 : Int) := of_decide_eq_true Cmp.d
           have q251 : x12_1 < (l0_0.length : Int) := of_decide_eq_true Cmp.d
           obtain ⟨ad251, e251, hx251_0, hx251_1, hx251_2, hx251_3⟩ := at_T64 HR0_0.out x12_1 p251 q251
           cases e251
           replace hx251_0 := (HB.out.cell (World.block_lt_of_cell? w _ hx251_0)).trans hx251_0
           replace hx251_1 := (HB.out.cell (World.block_lt_of_cell? w _ hx251_1)).trans hx251_1
           replace hx251_2 := (HB.out.cell (World.block_lt_of_cell? w _ hx251_2)).trans hx251_2
           replace hx251_3 := (HB.out.cell (World.block_lt_of_cell? w _ hx251_3)).trans hx251_3
           replace p251 := eq_true p251; replace q251 := eq_true q251
           try go_wp2_with (((with_reducible refine gate_dst (N := 4) rfl ?_); refine box_event ?hg (N := 4) ?hd (cs := #[.int .i64 0, .int .i64 0, .int .i64 0, .bool false]) (t := 64) ?hr ?_; (case hd => rfl); (case hg => rfl); (case hr => first | (go_simp; done) | (go_simp; rfl)); intro gb252 hg w34 hbox hb; have n0_ := Aside0.mk (blk_below (g := gb250) (o := .cells #[.slice (some ad251) l0_0.length c0_0] 39 (0, 0)) (Cmp.b BK250.out) hb); have n1_ := Aside0.mk (below_step (Cmp.g HB.out) hb); have n2_ := Aside0.mk (hbox); have n3_ := Aside0.mk ((by rw [hg]; exact (below_size (Cmp.g HB.out)) : w.heap.size ≤ gb252)); have n4_ := Aside0.mk ((by rw [hg]; exact (below_size (Cmp.g HB.out)) : w.heap.size ≤ gb252)); have n5_ := Aside0.mk ((by rw [hg]; exact Nat.ne_of_lt (blk_lt (g := gb250) (o := .cells #[.slice (some ad251) l0_0.length c0_0] 39 (0, 0)) (Cmp.b BK250.out)) : gb250 ≠ gb252)); have n6_ := Aside0.mk ((by rw [hg]; exact Nat.ne_of_gt (blk_lt (g := gb250) (o := .cells #[.slice (some ad251) l0_0.length c0_0] 39 (0, 0)) (Cmp.b BK250.out)) : gb252 ≠ gb250)); clear BK250; clear HB; have BK250 := n0_; have HB := n1_; have BK252 := n2_; have GW252 := n3_; have GE252 := n4_; have NB250_252 := n5_; have NB252_250 := n6_; clear n0_ n1_ n2_ n3_ n4_ n5_ n6_; clear hb hbox hg; have hnb35 := NB252_250.out; have hnc35 := NB250_252.out; have hcz36_0 : w34.cell? ⟨gb252, 0, none⟩ = some (.int .i64 0) := (blk_cell BK252.out 0).trans rfl; have hcz36_1 : w34.cell? ⟨gb252, 1, none⟩ = some (.int .i64 0) := (blk_cell BK252.out 1).trans rfl; have hcz36_2 : w34.cell? ⟨gb252, 2, none⟩ = some (.int .i64 0) := (blk_cell BK252.out 2).trans rfl; have hcz36_3 : w34.cell? ⟨gb252, 3, none⟩ = some (.bool false) := (blk_cell BK252.out 3).trans rfl; have hfz36_0 := blk_frozen BK252.out 0; have hfz36_1 := blk_frozen BK252.out 1; have hfz36_2 := blk_frozen BK252.out 2; have hfz36_3 := blk_frozen BK252.out 3))
           have n0_ : Aside0 (((((w34.setCell ⟨gb252, 0, none⟩ (.int .i64 ((rd_T64 l0_0 x12_1).f0))).setCell ⟨gb252, 1, none⟩ (.int .i64 ((rd_T64 l0_0 x12_1).f1))).setCell ⟨gb252, 2, none⟩ (.int .i64 ((rd_T64 l0_0 x12_1).f2))).setCell ⟨gb252, 3, none⟩ (.bool ((rd_T64 l0_0 x12_1).f3))).heap[gb250]? = some (.cells #[.slice (some ad251) l0_0.length c0_0] 39 (0, 0))) := ⟨by (with_reducible repeat (first | refine blk_drewN ?_ _ | refine blk_drew ?_ | refine blk_alloc ?_ _)); refine blk_far ?_ NB250_252.out _; (with_reducible repeat (first | refine blk_drewN ?_ _ | refine blk_drew ?_ | refine blk_alloc ?_ _)); refine blk_far ?_ NB250_252.out _; (with_reducible repeat (first | refine blk_drewN ?_ _ | refine blk_drew ?_ | refine blk_alloc ?_ _)); refine blk_far ?_ NB250_252.out _; (with_reducible repeat (first | refine blk_drewN ?_ _ | refine blk_drew ?_ | refine blk_alloc ?_ _)); refine blk_far ?_ NB250_252.out _; (with_reducible repeat (first | refine blk_drewN ?_ _ | refine blk_drew ?_ | refine blk_alloc ?_ _)); exact BK250.out⟩
           have n1_ : Aside0 (((((w34.setCell ⟨gb252, 0, none⟩ (.int .i64 ((rd_T64 l0_0 x12_1).f0))).setCell ⟨gb252, 1, none⟩ (.int .i64 ((rd_T64 l0_0 x12_1).f1))).setCell ⟨gb252, 2, none⟩ (.int .i64 ((rd_T64 l0_0 x12_1).f2))).setCell ⟨gb252, 3, none⟩ (.bool ((rd_T64 l0_0 x12_1).f3))).heap[gb252]? = some (.cells #[.int .i64 ((rd_T64 l0_0 x12_1).f0), .int .i64 ((rd_T64 l0_0 x12_1).f1), .int .i64 ((rd_T64 l0_0 x12_1).f2), .bool ((rd_T64 l0_0 x12_1).f3)] 64 (0, 0))) := ⟨by (with_reducible repeat (first | refine blk_drewN ?_ _ | refine blk_drew ?_ | refine blk_alloc ?_ _)); refine blk_put (cs := #[.int .i64 ((rd_T64 l0_0 x12_1).f0), .int .i64 ((rd_T64 l0_0 x12_1).f1), .int .i64 ((rd_T64 l0_0 x12_1).f2), .bool false]) ?_ 3 _ rfl; (with_reducible repeat (first | refine blk_drewN ?_ _ | refine blk_drew ?_ | refine blk_alloc ?_ _)); refine blk_put (cs := #[.int .i64 ((rd_T64 l0_0 x12_1).f0), .int .i64 ((rd_T64 l0_0 x12_1).f1), .int .i64 0, .bool false]) ?_ 2 _ rfl; (with_reducible repeat (first | refine blk_drewN ?_ _ | refine blk_drew ?_ | refine blk_alloc ?_ _)); refine blk_put (cs := #[.int .i64 ((rd_T64 l0_0 x12_1).f0), .int .i64 0, .int .i64 0, .bool false]) ?_ 1 _ rfl; (with_reducible repeat (first | refine blk_drewN ?_ _ | refine blk_drew ?_ | refine blk_alloc ?_ _)); refine blk_put (cs := #[.int .i64 0, .int .i64 0, .int .i64 0, .bool false]) ?_ 0 _ rfl; (with_reducible repeat (first | refine blk_drewN ?_ _ | refine blk_drew ?_ | refine blk_alloc ?_ _)); exact BK252.out⟩
           have n2_ : Aside0 (Below w.heap.size w ((((w34.setCell ⟨gb252, 0, none⟩ (.int .i64 ((rd_T64 l0_0 x12_1).f0))).setCell ⟨gb252, 1, none⟩ (.int .i64 ((rd_T64 l0_0 x12_1).f1))).setCell ⟨gb252, 2, none⟩ (.int .i64 ((rd_T64 l0_0 x12_1).f2))).setCell ⟨gb252, 3, none⟩ (.bool ((rd_T64 l0_0 x12_1).f3)))) := ⟨Cmp.g HB.out⟩
           (try clear BK250); (try clear BK252); (try clear HB)
           generalize ((((w34.setCell ⟨gb252, 0, none⟩ (.int .i64 ((rd_T64 l0_0 x12_1).f0))).setCell ⟨gb252, 1, none⟩ (.int .i64 ((rd_T64 l0_0 x12_1).f1))).setCell ⟨gb252, 2, none⟩ (.int .i64 ((rd_T64 l0_0 x12_1).f2))).setCell ⟨gb252, 3, none⟩ (.bool ((rd_T64 l0_0 x12_1).f3))) = w37 at n0_ n1_ n2_ ⊢
           have BK250 := n0_; have BK252 := n1_; have HB := n2_; clear n0_ n1_ n2_; have n0_ := Aside0.mk (blk_drew BK250.out); have n1_ := Aside0.mk (blk_drew BK252.out); have n2_ := Aside0.mk (below_drew1 HB.out); clear BK250; clear BK252; clear HB; have BK250 := n0_; have BK252 := n1_; have HB := n2_; clear n0_ n1_ n2_
           refine start_ (n := 31) (S := fun w' => w'.cell? ⟨gb252, 0, none⟩ = some (.int .i64 ((rd_T64 l0_0 x12_1).f0)) ∧ w'.cell? ⟨gb252, 1, none⟩ = some (.int .i64 ((rd_T64 l0_0 x12_1).f1)) ∧ w'.cell? ⟨gb252, 2, none⟩ = some (.int .i64 ((rd_T64 l0_0 x12_1).f2)) ∧ w'.cell? ⟨gb252, 3, none⟩ = some (.bool ((rd_T64 l0_0 x12_1).f3))) (ds := []) (Cmp.bm 0 31) (by kernel_rfl) rfl rfl ⟨(blk_cell BK252.out 0).trans rfl, (blk_cell BK252.out 1).trans rfl, (blk_cell BK252.out 2).trans rfl, (blk_cell BK252.out 3).trans rfl⟩ (fun hHeld => ?_); refine with_tabW impl_IsBundle.tab6 impl_IsBundle.bits6 (fun HT_ HW_ => ?_)
           generalize w37.drew = w38 at BK250 BK252 HB hHeld ⊢
           refine Cmp.pu HT_ 0 17 (Cmp.bm 1 30) ?_; refine Cmp.tk HT_ HW_ hHeld 1 18 (Cmp.bm 2 29) ?_
           refine one_ (i := 2) (N := some 19) (Cmp.bm 3 28) rfl rfl (one_of HT_.out (by kernel_rfl)) (by decide) (fun K hK => ?_)
           refine goes_ Try.func37 (by kernel_rfl) rfl #[.int .i64 ((rd_T64 l0_0 x12_1).f0), .int .i64 0, .int .i64 2147483646] (by rfl) rfl rfl Cmp.q ?_
           with_reducible refine (impl_InRange.calls ((rd_T64 l0_0 x12_1).f0) 0 2147483646 true _ A10.out).mono ?_
           rintro e w' ⟨rfl, ⟨nd, rfl⟩⟩; refine ⟨_, rfl, ?_⟩
           refine hK.out _ _ ⟨(blk_cell BK252.out 0).trans rfl, (blk_cell BK252.out 1).trans rfl, (blk_cell BK252.out 2).trans rfl, (blk_cell BK252.out 3).trans rfl⟩ (fun hHeld => ?_)
           clear hK K
           refine norm_ (a' := ?_) ?_ ?_
           rotate_left
           ·show Act.put _ (some 19) _ = _
            simp only [Act.put, Cmp.s, Cmp.z, Cmp.c, i64_w, i32_w]; rfl
           refine Cmp.pu HT_ 3 20 (Cmp.bm 4 27) ?_; refine Cmp.pu HT_ 4 21 (Cmp.bm 5 26) ?_; refine Cmp.pu HT_ 5 22 (Cmp.bm 6 25) ?_; refine Cmp.tk HT_ HW_ hHeld 6 23 (Cmp.bm 7 24) ?_
           refine one_ (i := 7) (N := some 24) (Cmp.bm 8 23) rfl rfl (one_of HT_.out (by kernel_rfl)) (by decide) (fun K hK => ?_)
           refine goes_ Try.func37 (by kernel_rfl) rfl #[.int .i64 ((rd_T64 l0_0 x12_1).f1), .int .i64 0, .int .i64 1000000] (by rfl) rfl rfl Cmp.q ?_
           with_reducible refine (impl_InRange.calls ((rd_T64 l0_0 x12_1).f1) 0 1000000 true _ A12.out).mono ?_
           rintro e w' ⟨rfl, ⟨nd, rfl⟩⟩; refine ⟨_, rfl, ?_⟩
           refine hK.out _ _ ⟨(blk_cell BK252.out 0).trans rfl, (blk_cell BK252.out 1).trans rfl, (blk_cell BK252.out 2).trans rfl, (blk_cell BK252.out 3).trans rfl⟩ (fun hHeld => ?_)
           clear hK K
           refine norm_ (a' := ?_) ?_ ?_
           rotate_left
           ·show Act.put _ (some 24) _ = _
            simp only [Act.put, Cmp.s, Cmp.z, Cmp.c, i64_w, i32_w]; rfl
           refine Cmp.pu HT_ 8 25 (Cmp.bm 9 22) ?_; refine Cmp.pu HT_ 9 26 (Cmp.bm 10 21) ?_; refine Cmp.pu HT_ 10 27 (Cmp.bm 11 20) ?_; refine Cmp.pu HT_ 11 28 (Cmp.bm 12 19) ?_; refine Cmp.tk HT_ HW_ hHeld 12 29 (Cmp.bm 13 18) ?_
           refine one_ (i := 13) (N := some 30) (Cmp.bm 14 17) rfl rfl (one_of HT_.out (by kernel_rfl)) (by decide) (fun K hK => ?_)
           refine goes_ Try.func37 (by kernel_rfl) rfl #[.int .i64 ((rd_T64 l0_0 x12_1).f2), .int .i64 1, .int .i64 1000000] (by rfl) rfl rfl Cmp.q ?_
           with_reducible refine (impl_InRange.calls ((rd_T64 l0_0 x12_1).f2) 1 1000000 true _ A14.out).mono ?_
           rintro e w' ⟨rfl, ⟨nd, rfl⟩⟩; refine ⟨_, rfl, ?_⟩
           refine hK.out _ _ ⟨(blk_cell BK252.out 0).trans rfl, (blk_cell BK252.out 1).trans rfl, (blk_cell BK252.out 2).trans rfl, (blk_cell BK252.out 3).trans rfl⟩ (fun hHeld => ?_)
           clear hK K
           refine norm_ (a' := ?_) ?_ ?_
           rotate_left
           ·show Act.put _ (some 30) _ = _
            simp only [Act.put, Cmp.s, Cmp.z, Cmp.c, i64_w, i32_w]; rfl
           refine Cmp.pu HT_ 14 31 (Cmp.bm 15 16) ?_; refine Cmp.pu HT_ 15 32 (Cmp.bm 16 15) ?_; refine Cmp.pu HT_ 16 33 (Cmp.bm 17 14) ?_; refine Cmp.pu HT_ 17 34 (Cmp.bm 18 13) ?_; refine Cmp.pu HT_ 18 35 (Cmp.bm 19 12) ?_; refine Cmp.pu HT_ 19 36 (Cmp.bm 20 11) ?_; refine Cmp.pv HT_ 20 37 (Cmp.bm 21 10) ?_; refine Cmp.pv HT_ 21 38 (Cmp.bm 22 9) ?_; refine Cmp.pv HT_ 22 39 (Cmp.bm 23 8) ?_; refine Cmp.pv HT_ 23 40 (Cmp.bm 24 7) ?_; refine Cmp.pv HT_ 24 41 (Cmp.bm 25 6) ?_; refine Cmp.pv HT_ 25 42 (Cmp.bm 26 5) ?_; refine Cmp.pv HT_ 26 43 (Cmp.bm 27 4) ?_; refine Cmp.pv HT_ 27 44 (Cmp.bm 28 3) ?_; refine Cmp.pv HT_ 28 45 (Cmp.bm 29 2) ?_; refine Cmp.pu HT_ 29 46 (Cmp.bm 30 1) ?_; refine Cmp.pu HT_ 30 47 (Cmp.bm 31 0) ?_
           refine done_ (done_of HT_.out (by kernel_rfl)) ?_
           try go_wp2
           go_roundg k1
           case measure => have := HK1.out; omega
           case rel => exact ⟨(wrap64 (x12_1 + 1)), (by first | rfl | simp | simp [*]), H', ⟨by have := HK1.out; omega⟩, ⟨by (with_reducible repeat (first | refine blk_drewN ?_ _ | refine blk_drew ?_ | refine blk_alloc ?_ _)); exact BK250.out⟩, ⟨Cmp.g HB.out⟩⟩
         ·replace c15 := Bool.eq_false_iff.mpr c15
          subst c15
          have H1 : (some false) = some r := by rw [if_neg (show ¬ (false = true) by decide)] at H; exact H
          clear H; have H := H1; clear H1
          obtain rfl := Option.some.inj H
          have p251 : 0 ≤ (x12_1 : Int) := of_decide_eq_true Cmp.d
          have q251 : x12_1 < (l0_0.length : Int) := of_decide_eq_true Cmp.d
          obtain ⟨ad251, e251, hx251_0, hx251_1, hx251_2, hx251_3⟩ := at_T64 HR0_0.out x12_1 p251 q251
          cases e251
          replace hx251_0 := (HB.out.cell (World.block_lt_of_cell? w _ hx251_0)).trans hx251_0
          replace hx251_1 := (HB.out.cell (World.block_lt_of_cell? w _ hx251_1)).trans hx251_1
          replace hx251_2 := (HB.out.cell (World.block_lt_of_cell? w _ hx251_2)).trans hx251_2
          replace hx251_3 := (HB.out.cell (World.block_lt_of_cell? w _ hx251_3)).trans hx251_3
          replace p251 := eq_true p251; replace q251 := eq_true q251
          try go_wp2_with (((with_reducible refine gate_dst (N := 4) rfl ?_); refine box_event ?hg (N := 4) ?hd (cs := #[.int .i64 0, .int .i64 0, .int .i64 0, .bool false]) (t := 64) ?hr ?_; (case hd => rfl); (case hg => rfl); (case hr => first | (go_simp; done) | (go_simp; rfl)); intro gb252 hg w39 hbox hb; have n0_ := Aside0.mk (blk_below (g := gb250) (o := .cells #[.slice (some ad251) l0_0.length c0_0] 39 (0, 0)) (Cmp.b BK250.out) hb); have n1_ := Aside0.mk (below_step (Cmp.g HB.out) hb); have n2_ := Aside0.mk (hbox); have n3_ := Aside0.mk ((by rw [hg]; exact (below_size (Cmp.g HB.out)) : w.heap.size ≤ gb252)); have n4_ := Aside0.mk ((by rw [hg]; exact (below_size (Cmp.g HB.out)) : w.heap.size ≤ gb252)); have n5_ := Aside0.mk ((by rw [hg]; exact Nat.ne_of_lt (blk_lt (g := gb250) (o := .cells #[.slice (some ad251) l0_0.length c0_0] 39 (0, 0)) (Cmp.b BK250.out)) : gb250 ≠ gb252)); have n6_ := Aside0.mk ((by rw [hg]; exact Nat.ne_of_gt (blk_lt (g := gb250) (o := .cells #[.slice (some ad251) l0_0.length c0_0] 39 (0, 0)) (Cmp.b BK250.out)) : gb252 ≠ gb250)); clear BK250; clear HB; have BK250 := n0_; have HB := n1_; have BK252 := n2_; have GW252 := n3_; have GE252 := n4_; have NB250_252 := n5_; have NB252_250 := n6_; clear n0_ n1_ n2_ n3_ n4_ n5_ n6_; clear hb hbox hg; have hnb40 := NB252_250.out; have hnc40 := NB250_252.out; have hcz41_0 : w39.cell? ⟨gb252, 0, none⟩ = some (.int .i64 0) := (blk_cell BK252.out 0).trans rfl; have hcz41_1 : w39.cell? ⟨gb252, 1, none⟩ = some (.int .i64 0) := (blk_cell BK252.out 1).trans rfl; have hcz41_2 : w39.cell? ⟨gb252, 2, none⟩ = some (.int .i64 0) := (blk_cell BK252.out 2).trans rfl; have hcz41_3 : w39.cell? ⟨gb252, 3, none⟩ = some (.bool false) := (blk_cell BK252.out 3).trans rfl; have hfz41_0 := blk_frozen BK252.out 0; have hfz41_1 := blk_frozen BK252.out 1; have hfz41_2 := blk_frozen BK252.out 2; have hfz41_3 := blk_frozen BK252.out 3))
          have n0_ : Aside0 (((((w39.setCell ⟨gb252, 0, none⟩ (.int .i64 ((rd_T64 l0_0 x12_1).f0))).setCell ⟨gb252, 1, none⟩ (.int .i64 ((rd_T64 l0_0 x12_1).f1))).setCell ⟨gb252, 2, none⟩ (.int .i64 ((rd_T64 l0_0 x12_1).f2))).setCell ⟨gb252, 3, none⟩ (.bool ((rd_T64 l0_0 x12_1).f3))).heap[gb250]? = some (.cells #[.slice (some ad251) l0_0.length c0_0] 39 (0, 0))) := ⟨by (with_reducible repeat (first | refine blk_drewN ?_ _ | refine blk_drew ?_ | refine blk_alloc ?_ _)); refine blk_far ?_ NB250_252.out _; (with_reducible repeat (first | refine blk_drewN ?_ _ | refine blk_drew ?_ | refine blk_alloc ?_ _)); refine blk_far ?_ NB250_252.out _; (with_reducible repeat (first | refine blk_drewN ?_ _ | refine blk_drew ?_ | refine blk_alloc ?_ _)); refine blk_far ?_ NB250_252.out _; (with_reducible repeat (first | refine blk_drewN ?_ _ | refine blk_drew ?_ | refine blk_alloc ?_ _)); refine blk_far ?_ NB250_252.out _; (with_reducible repeat (first | refine blk_drewN ?_ _ | refine blk_drew ?_ | refine blk_alloc ?_ _)); exact BK250.out⟩
          have n1_ : Aside0 (((((w39.setCell ⟨gb252, 0, none⟩ (.int .i64 ((rd_T64 l0_0 x12_1).f0))).setCell ⟨gb252, 1, none⟩ (.int .i64 ((rd_T64 l0_0 x12_1).f1))).setCell ⟨gb252, 2, none⟩ (.int .i64 ((rd_T64 l0_0 x12_1).f2))).setCell ⟨gb252, 3, none⟩ (.bool ((rd_T64 l0_0 x12_1).f3))).heap[gb252]? = some (.cells #[.int .i64 ((rd_T64 l0_0 x12_1).f0), .int .i64 ((rd_T64 l0_0 x12_1).f1), .int .i64 ((rd_T64 l0_0 x12_1).f2), .bool ((rd_T64 l0_0 x12_1).f3)] 64 (0, 0))) := ⟨by (with_reducible repeat (first | refine blk_drewN ?_ _ | refine blk_drew ?_ | refine blk_alloc ?_ _)); refine blk_put (cs := #[.int .i64 ((rd_T64 l0_0 x12_1).f0), .int .i64 ((rd_T64 l0_0 x12_1).f1), .int .i64 ((rd_T64 l0_0 x12_1).f2), .bool false]) ?_ 3 _ rfl; (with_reducible repeat (first | refine blk_drewN ?_ _ | refine blk_drew ?_ | refine blk_alloc ?_ _)); refine blk_put (cs := #[.int .i64 ((rd_T64 l0_0 x12_1).f0), .int .i64 ((rd_T64 l0_0 x12_1).f1), .int .i64 0, .bool false]) ?_ 2 _ rfl; (with_reducible repeat (first | refine blk_drewN ?_ _ | refine blk_drew ?_ | refine blk_alloc ?_ _)); refine blk_put (cs := #[.int .i64 ((rd_T64 l0_0 x12_1).f0), .int .i64 0, .int .i64 0, .bool false]) ?_ 1 _ rfl; (with_reducible repeat (first | refine blk_drewN ?_ _ | refine blk_drew ?_ | refine blk_alloc ?_ _)); refine blk_put (cs := #[.int .i64 0, .int .i64 0, .int .i64 0, .bool false]) ?_ 0 _ rfl; (with_reducible repeat (first | refine blk_drewN ?_ _ | refine blk_drew ?_ | refine blk_alloc ?_ _)); exact BK252.out⟩
          have n2_ : Aside0 (Below w.heap.size w ((((w39.setCell ⟨gb252, 0, none⟩ (.int .i64 ((rd_T64 l0_0 x12_1).f0))).setCell ⟨gb252, 1, none⟩ (.int .i64 ((rd_T64 l0_0 x12_1).f1))).setCell ⟨gb252, 2, none⟩ (.int .i64 ((rd_T64 l0_0 x12_1).f2))).setCell ⟨gb252, 3, none⟩ (.bool ((rd_T64 l0_0 x12_1).f3)))) := ⟨Cmp.g HB.out⟩
          (try clear BK250); (try clear BK252); (try clear HB)
          generalize ((((w39.setCell ⟨gb252, 0, none⟩ (.int .i64 ((rd_T64 l0_0 x12_1).f0))).setCell ⟨gb252, 1, none⟩ (.int .i64 ((rd_T64 l0_0 x12_1).f1))).setCell ⟨gb252, 2, none⟩ (.int .i64 ((rd_T64 l0_0 x12_1).f2))).setCell ⟨gb252, 3, none⟩ (.bool ((rd_T64 l0_0 x12_1).f3))) = w42 at n0_ n1_ n2_ ⊢
          have BK250 := n0_; have BK252 := n1_; have HB := n2_; clear n0_ n1_ n2_; have n0_ := Aside0.mk (blk_drew BK250.out); have n1_ := Aside0.mk (blk_drew BK252.out); have n2_ := Aside0.mk (below_drew1 HB.out); clear BK250; clear BK252; clear HB; have BK250 := n0_; have BK252 := n1_; have HB := n2_; clear n0_ n1_ n2_
          refine start_ (n := 31) (S := fun w' => w'.cell? ⟨gb252, 0, none⟩ = some (.int .i64 ((rd_T64 l0_0 x12_1).f0)) ∧ w'.cell? ⟨gb252, 1, none⟩ = some (.int .i64 ((rd_T64 l0_0 x12_1).f1)) ∧ w'.cell? ⟨gb252, 2, none⟩ = some (.int .i64 ((rd_T64 l0_0 x12_1).f2)) ∧ w'.cell? ⟨gb252, 3, none⟩ = some (.bool ((rd_T64 l0_0 x12_1).f3))) (ds := []) (Cmp.bm 0 31) (by kernel_rfl) rfl rfl ⟨(blk_cell BK252.out 0).trans rfl, (blk_cell BK252.out 1).trans rfl, (blk_cell BK252.out 2).trans rfl, (blk_cell BK252.out 3).trans rfl⟩ (fun hHeld => ?_); refine with_tabW impl_IsBundle.tab6 impl_IsBundle.bits6 (fun HT_ HW_ => ?_)
          generalize w42.drew = w43 at BK250 BK252 HB hHeld ⊢
          refine Cmp.pu HT_ 0 17 (Cmp.bm 1 30) ?_; refine Cmp.tk HT_ HW_ hHeld 1 18 (Cmp.bm 2 29) ?_
          refine one_ (i := 2) (N := some 19) (Cmp.bm 3 28) rfl rfl (one_of HT_.out (by kernel_rfl)) (by decide) (fun K hK => ?_)
          refine goes_ Try.func37 (by kernel_rfl) rfl #[.int .i64 ((rd_T64 l0_0 x12_1).f0), .int .i64 0, .int .i64 2147483646] (by rfl) rfl rfl Cmp.q ?_
          with_reducible refine (impl_InRange.calls ((rd_T64 l0_0 x12_1).f0) 0 2147483646 true _ A10.out).mono ?_
          rintro e w' ⟨rfl, ⟨nd, rfl⟩⟩; refine ⟨_, rfl, ?_⟩
          refine hK.out _ _ ⟨(blk_cell BK252.out 0).trans rfl, (blk_cell BK252.out 1).trans rfl, (blk_cell BK252.out 2).trans rfl, (blk_cell BK252.out 3).trans rfl⟩ (fun hHeld => ?_)
          clear hK K
          refine norm_ (a' := ?_) ?_ ?_
          rotate_left
          ·show Act.put _ (some 19) _ = _
           simp only [Act.put, Cmp.s, Cmp.z, Cmp.c, i64_w, i32_w]; rfl
          refine Cmp.pu HT_ 3 20 (Cmp.bm 4 27) ?_; refine Cmp.pu HT_ 4 21 (Cmp.bm 5 26) ?_; refine Cmp.pu HT_ 5 22 (Cmp.bm 6 25) ?_; refine Cmp.tk HT_ HW_ hHeld 6 23 (Cmp.bm 7 24) ?_
          refine one_ (i := 7) (N := some 24) (Cmp.bm 8 23) rfl rfl (one_of HT_.out (by kernel_rfl)) (by decide) (fun K hK => ?_)
          refine goes_ Try.func37 (by kernel_rfl) rfl #[.int .i64 ((rd_T64 l0_0 x12_1).f1), .int .i64 0, .int .i64 1000000] (by rfl) rfl rfl Cmp.q ?_
          with_reducible refine (impl_InRange.calls ((rd_T64 l0_0 x12_1).f1) 0 1000000 true _ A12.out).mono ?_
          rintro e w' ⟨rfl, ⟨nd, rfl⟩⟩; refine ⟨_, rfl, ?_⟩
          refine hK.out _ _ ⟨(blk_cell BK252.out 0).trans rfl, (blk_cell BK252.out 1).trans rfl, (blk_cell BK252.out 2).trans rfl, (blk_cell BK252.out 3).trans rfl⟩ (fun hHeld => ?_)
          clear hK K
          refine norm_ (a' := ?_) ?_ ?_
          rotate_left
          ·show Act.put _ (some 24) _ = _
           simp only [Act.put, Cmp.s, Cmp.z, Cmp.c, i64_w, i32_w]; rfl
          refine Cmp.pu HT_ 8 25 (Cmp.bm 9 22) ?_; refine Cmp.pu HT_ 9 26 (Cmp.bm 10 21) ?_; refine Cmp.pu HT_ 10 27 (Cmp.bm 11 20) ?_; refine Cmp.pu HT_ 11 28 (Cmp.bm 12 19) ?_; refine Cmp.tk HT_ HW_ hHeld 12 29 (Cmp.bm 13 18) ?_
          refine one_ (i := 13) (N := some 30) (Cmp.bm 14 17) rfl rfl (one_of HT_.out (by kernel_rfl)) (by decide) (fun K hK => ?_)
          refine goes_ Try.func37 (by kernel_rfl) rfl #[.int .i64 ((rd_T64 l0_0 x12_1).f2), .int .i64 1, .int .i64 1000000] (by rfl) rfl rfl Cmp.q ?_
          with_reducible refine (impl_InRange.calls ((rd_T64 l0_0 x12_1).f2) 1 1000000 false _ A14.out).mono ?_
          rintro e w' ⟨rfl, ⟨nd, rfl⟩⟩; refine ⟨_, rfl, ?_⟩
          refine hK.out _ _ ⟨(blk_cell BK252.out 0).trans rfl, (blk_cell BK252.out 1).trans rfl, (blk_cell BK252.out 2).trans rfl, (blk_cell BK252.out 3).trans rfl⟩ (fun hHeld => ?_)
          clear hK K
          refine norm_ (a' := ?_) ?_ ?_
          rotate_left
          ·show Act.put _ (some 30) _ = _
           simp only [Act.put, Cmp.s, Cmp.z, Cmp.c, i64_w, i32_w]; rfl
          refine Cmp.pu HT_ 14 31 (Cmp.bm 15 16) ?_; refine Cmp.pu HT_ 15 32 (Cmp.bm 16 15) ?_; refine Cmp.pu HT_ 16 33 (Cmp.bm 17 14) ?_; refine Cmp.pv HT_ 17 34 (Cmp.bm 18 13) ?_; refine Cmp.pv HT_ 18 35 (Cmp.bm 19 12) ?_; refine Cmp.pv HT_ 19 36 (Cmp.bm 20 11) ?_; refine Cmp.pv HT_ 20 37 (Cmp.bm 21 10) ?_; refine Cmp.pv HT_ 21 38 (Cmp.bm 22 9) ?_; refine Cmp.pv HT_ 22 39 (Cmp.bm 23 8) ?_; refine Cmp.pv HT_ 23 40 (Cmp.bm 24 7) ?_; refine Cmp.pv HT_ 24 41 (Cmp.bm 25 6) ?_; refine Cmp.pv HT_ 25 42 (Cmp.bm 26 5) ?_; refine Cmp.pv HT_ 26 43 (Cmp.bm 27 4) ?_; refine Cmp.pv HT_ 27 44 (Cmp.bm 28 3) ?_; refine Cmp.pv HT_ 28 45 (Cmp.bm 29 2) ?_; refine Cmp.pv HT_ 29 46 (Cmp.bm 30 1) ?_; refine Cmp.pu HT_ 30 47 (Cmp.bm 31 0) ?_
          refine done_ (done_of HT_.out (by kernel_rfl)) ?_
          try go_wp2
          go_ret
          exact ⟨by first | rfl | (simp [errW_none, errW_some] <;> rfl) | (simp [*, errW_none, errW_some] <;> rfl), Cmp.g HB.out⟩
        ·replace c13 := Bool.eq_false_iff.mpr c13
         subst c13
         have H1 : (some false) = some r := by rw [if_neg (show ¬ (false = true) by decide)] at H; exact H
         clear H; have H := H1; clear H1
         obtain rfl := Option.some.inj H
         have p251 : 0 ≤ (x12_1 : Int) := of_decide_eq_true Cmp.d
         have q251 : x12_1 < (l0_0.length : Int) := of_decide_eq_true Cmp.d
         obtain ⟨ad251, e251, hx251_0, hx251_1, hx251_2, hx251_3⟩ := at_T64 HR0_0.out x12_1 p251 q251
         cases e251
         replace hx251_0 := (HB.out.cell (World.block_lt_of_cell? w _ hx251_0)).trans hx251_0
         replace hx251_1 := (HB.out.cell (World.block_lt_of_cell? w _ hx251_1)).trans hx251_1
         replace hx251_2 := (HB.out.cell (World.block_lt_of_cell? w _ hx251_2)).trans hx251_2
         replace hx251_3 := (HB.out.cell (World.block_lt_of_cell? w _ hx251_3)).trans hx251_3
         replace p251 := eq_true p251; replace q251 := eq_true q251
         try go_wp2_with (((with_reducible refine gate_dst (N := 4) rfl ?_); refine box_event ?hg (N := 4) ?hd (cs := #[.int .i64 0, .int .i64 0, .int .i64 0, .bool false]) (t := 64) ?hr ?_; (case hd => rfl); (case hg => rfl); (case hr => first | (go_simp; done) | (go_simp; rfl)); intro gb252 hg w44 hbox hb; have n0_ := Aside0.mk (blk_below (g := gb250) (o := .cells #[.slice (some ad251) l0_0.length c0_0] 39 (0, 0)) (Cmp.b BK250.out) hb); have n1_ := Aside0.mk (below_step (Cmp.g HB.out) hb); have n2_ := Aside0.mk (hbox); have n3_ := Aside0.mk ((by rw [hg]; exact (below_size (Cmp.g HB.out)) : w.heap.size ≤ gb252)); have n4_ := Aside0.mk ((by rw [hg]; exact (below_size (Cmp.g HB.out)) : w.heap.size ≤ gb252)); have n5_ := Aside0.mk ((by rw [hg]; exact Nat.ne_of_lt (blk_lt (g := gb250) (o := .cells #[.slice (some ad251) l0_0.length c0_0] 39 (0, 0)) (Cmp.b BK250.out)) : gb250 ≠ gb252)); have n6_ := Aside0.mk ((by rw [hg]; exact Nat.ne_of_gt (blk_lt (g := gb250) (o := .cells #[.slice (some ad251) l0_0.length c0_0] 39 (0, 0)) (Cmp.b BK250.out)) : gb252 ≠ gb250)); clear BK250; clear HB; have BK250 := n0_; have HB := n1_; have BK252 := n2_; have GW252 := n3_; have GE252 := n4_; have NB250_252 := n5_; have NB252_250 := n6_; clear n0_ n1_ n2_ n3_ n4_ n5_ n6_; clear hb hbox hg; have hnb45 := NB252_250.out; have hnc45 := NB250_252.out; have hcz46_0 : w44.cell? ⟨gb252, 0, none⟩ = some (.int .i64 0) := (blk_cell BK252.out 0).trans rfl; have hcz46_1 : w44.cell? ⟨gb252, 1, none⟩ = some (.int .i64 0) := (blk_cell BK252.out 1).trans rfl; have hcz46_2 : w44.cell? ⟨gb252, 2, none⟩ = some (.int .i64 0) := (blk_cell BK252.out 2).trans rfl; have hcz46_3 : w44.cell? ⟨gb252, 3, none⟩ = some (.bool false) := (blk_cell BK252.out 3).trans rfl; have hfz46_0 := blk_frozen BK252.out 0; have hfz46_1 := blk_frozen BK252.out 1; have hfz46_2 := blk_frozen BK252.out 2; have hfz46_3 := blk_frozen BK252.out 3))
         have n0_ : Aside0 (((((w44.setCell ⟨gb252, 0, none⟩ (.int .i64 ((rd_T64 l0_0 x12_1).f0))).setCell ⟨gb252, 1, none⟩ (.int .i64 ((rd_T64 l0_0 x12_1).f1))).setCell ⟨gb252, 2, none⟩ (.int .i64 ((rd_T64 l0_0 x12_1).f2))).setCell ⟨gb252, 3, none⟩ (.bool ((rd_T64 l0_0 x12_1).f3))).heap[gb250]? = some (.cells #[.slice (some ad251) l0_0.length c0_0] 39 (0, 0))) := ⟨by (with_reducible repeat (first | refine blk_drewN ?_ _ | refine blk_drew ?_ | refine blk_alloc ?_ _)); refine blk_far ?_ NB250_252.out _; (with_reducible repeat (first | refine blk_drewN ?_ _ | refine blk_drew ?_ | refine blk_alloc ?_ _)); refine blk_far ?_ NB250_252.out _; (with_reducible repeat (first | refine blk_drewN ?_ _ | refine blk_drew ?_ | refine blk_alloc ?_ _)); refine blk_far ?_ NB250_252.out _; (with_reducible repeat (first | refine blk_drewN ?_ _ | refine blk_drew ?_ | refine blk_alloc ?_ _)); refine blk_far ?_ NB250_252.out _; (with_reducible repeat (first | refine blk_drewN ?_ _ | refine blk_drew ?_ | refine blk_alloc ?_ _)); exact BK250.out⟩
         have n1_ : Aside0 (((((w44.setCell ⟨gb252, 0, none⟩ (.int .i64 ((rd_T64 l0_0 x12_1).f0))).setCell ⟨gb252, 1, none⟩ (.int .i64 ((rd_T64 l0_0 x12_1).f1))).setCell ⟨gb252, 2, none⟩ (.int .i64 ((rd_T64 l0_0 x12_1).f2))).setCell ⟨gb252, 3, none⟩ (.bool ((rd_T64 l0_0 x12_1).f3))).heap[gb252]? = some (.cells #[.int .i64 ((rd_T64 l0_0 x12_1).f0), .int .i64 ((rd_T64 l0_0 x12_1).f1), .int .i64 ((rd_T64 l0_0 x12_1).f2), .bool ((rd_T64 l0_0 x12_1).f3)] 64 (0, 0))) := ⟨by (with_reducible repeat (first | refine blk_drewN ?_ _ | refine blk_drew ?_ | refine blk_alloc ?_ _)); refine blk_put (cs := #[.int .i64 ((rd_T64 l0_0 x12_1).f0), .int .i64 ((rd_T64 l0_0 x12_1).f1), .int .i64 ((rd_T64 l0_0 x12_1).f2), .bool false]) ?_ 3 _ rfl; (with_reducible repeat (first | refine blk_drewN ?_ _ | refine blk_drew ?_ | refine blk_alloc ?_ _)); refine blk_put (cs := #[.int .i64 ((rd_T64 l0_0 x12_1).f0), .int .i64 ((rd_T64 l0_0 x12_1).f1), .int .i64 0, .bool false]) ?_ 2 _ rfl; (with_reducible repeat (first | refine blk_drewN ?_ _ | refine blk_drew ?_ | refine blk_alloc ?_ _)); refine blk_put (cs := #[.int .i64 ((rd_T64 l0_0 x12_1).f0), .int .i64 0, .int .i64 0, .bool false]) ?_ 1 _ rfl; (with_reducible repeat (first | refine blk_drewN ?_ _ | refine blk_drew ?_ | refine blk_alloc ?_ _)); refine blk_put (cs := #[.int .i64 0, .int .i64 0, .int .i64 0, .bool false]) ?_ 0 _ rfl; (with_reducible repeat (first | refine blk_drewN ?_ _ | refine blk_drew ?_ | refine blk_alloc ?_ _)); exact BK252.out⟩
         have n2_ : Aside0 (Below w.heap.size w ((((w44.setCell ⟨gb252, 0, none⟩ (.int .i64 ((rd_T64 l0_0 x12_1).f0))).setCell ⟨gb252, 1, none⟩ (.int .i64 ((rd_T64 l0_0 x12_1).f1))).setCell ⟨gb252, 2, none⟩ (.int .i64 ((rd_T64 l0_0 x12_1).f2))).setCell ⟨gb252, 3, none⟩ (.bool ((rd_T64 l0_0 x12_1).f3)))) := ⟨Cmp.g HB.out⟩
         (try clear BK250); (try clear BK252); (try clear HB)
         generalize ((((w44.setCell ⟨gb252, 0, none⟩ (.int .i64 ((rd_T64 l0_0 x12_1).f0))).setCell ⟨gb252, 1, none⟩ (.int .i64 ((rd_T64 l0_0 x12_1).f1))).setCell ⟨gb252, 2, none⟩ (.int .i64 ((rd_T64 l0_0 x12_1).f2))).setCell ⟨gb252, 3, none⟩ (.bool ((rd_T64 l0_0 x12_1).f3))) = w47 at n0_ n1_ n2_ ⊢
         have BK250 := n0_; have BK252 := n1_; have HB := n2_; clear n0_ n1_ n2_; have n0_ := Aside0.mk (blk_drew BK250.out); have n1_ := Aside0.mk (blk_drew BK252.out); have n2_ := Aside0.mk (below_drew1 HB.out); clear BK250; clear BK252; clear HB; have BK250 := n0_; have BK252 := n1_; have HB := n2_; clear n0_ n1_ n2_
         refine start_ (n := 31) (S := fun w' => w'.cell? ⟨gb252, 0, none⟩ = some (.int .i64 ((rd_T64 l0_0 x12_1).f0)) ∧ w'.cell? ⟨gb252, 1, none⟩ = some (.int .i64 ((rd_T64 l0_0 x12_1).f1)) ∧ w'.cell? ⟨gb252, 2, none⟩ = some (.int .i64 ((rd_T64 l0_0 x12_1).f2)) ∧ w'.cell? ⟨gb252, 3, none⟩ = some (.bool ((rd_T64 l0_0 x12_1).f3))) (ds := []) (Cmp.bm 0 31) (by kernel_rfl) rfl rfl ⟨(blk_cell BK252.out 0).trans rfl, (blk_cell BK252.out 1).trans rfl, (blk_cell BK252.out 2).trans rfl, (blk_cell BK252.out 3).trans rfl⟩ (fun hHeld => ?_); refine with_tabW impl_IsBundle.tab6 impl_IsBundle.bits6 (fun HT_ HW_ => ?_)
         generalize w47.drew = w48 at BK250 BK252 HB hHeld ⊢
         refine Cmp.pu HT_ 0 17 (Cmp.bm 1 30) ?_; refine Cmp.tk HT_ HW_ hHeld 1 18 (Cmp.bm 2 29) ?_
         refine one_ (i := 2) (N := some 19) (Cmp.bm 3 28) rfl rfl (one_of HT_.out (by kernel_rfl)) (by decide) (fun K hK => ?_)
         refine goes_ Try.func37 (by kernel_rfl) rfl #[.int .i64 ((rd_T64 l0_0 x12_1).f0), .int .i64 0, .int .i64 2147483646] (by rfl) rfl rfl Cmp.q ?_
         with_reducible refine (impl_InRange.calls ((rd_T64 l0_0 x12_1).f0) 0 2147483646 true _ A10.out).mono ?_
         rintro e w' ⟨rfl, ⟨nd, rfl⟩⟩; refine ⟨_, rfl, ?_⟩
         refine hK.out _ _ ⟨(blk_cell BK252.out 0).trans rfl, (blk_cell BK252.out 1).trans rfl, (blk_cell BK252.out 2).trans rfl, (blk_cell BK252.out 3).trans rfl⟩ (fun hHeld => ?_)
         clear hK K
         refine norm_ (a' := ?_) ?_ ?_
         rotate_left
         ·show Act.put _ (some 19) _ = _
          simp only [Act.put, Cmp.s, Cmp.z, Cmp.c, i64_w, i32_w]; rfl
         refine Cmp.pu HT_ 3 20 (Cmp.bm 4 27) ?_; refine Cmp.pu HT_ 4 21 (Cmp.bm 5 26) ?_; refine Cmp.pu HT_ 5 22 (Cmp.bm 6 25) ?_; refine Cmp.tk HT_ HW_ hHeld 6 23 (Cmp.bm 7 24) ?_
         refine one_ (i := 7) (N := some 24) (Cmp.bm 8 23) rfl rfl (one_of HT_.out (by kernel_rfl)) (by decide) (fun K hK => ?_)
         refine goes_ Try.func37 (by kernel_rfl) rfl #[.int .i64 ((rd_T64 l0_0 x12_1).f1), .int .i64 0, .int .i64 1000000] (by rfl) rfl rfl Cmp.q ?_
         with_reducible refine (impl_InRange.calls ((rd_T64 l0_0 x12_1).f1) 0 1000000 false _ A12.out).mono ?_
         rintro e w' ⟨rfl, ⟨nd, rfl⟩⟩; refine ⟨_, rfl, ?_⟩
         refine hK.out _ _ ⟨(blk_cell BK252.out 0).trans rfl, (blk_cell BK252.out 1).trans rfl, (blk_cell BK252.out 2).trans rfl, (blk_cell BK252.out 3).trans rfl⟩ (fun hHeld => ?_)
         clear hK K
         refine norm_ (a' := ?_) ?_ ?_
         rotate_left
         ·show Act.put _ (some 24) _ = _
          simp only [Act.put, Cmp.s, Cmp.z, Cmp.c, i64_w, i32_w]; rfl
         refine Cmp.pu HT_ 8 25 (Cmp.bm 9 22) ?_; refine Cmp.pu HT_ 9 26 (Cmp.bm 10 21) ?_; refine Cmp.pu HT_ 10 27 (Cmp.bm 11 20) ?_; refine Cmp.pv HT_ 11 28 (Cmp.bm 12 19) ?_; refine Cmp.pv HT_ 12 29 (Cmp.bm 13 18) ?_; refine Cmp.pv HT_ 13 30 (Cmp.bm 14 17) ?_; refine Cmp.pv HT_ 14 31 (Cmp.bm 15 16) ?_; refine Cmp.pu HT_ 15 32 (Cmp.bm 16 15) ?_; refine Cmp.pu HT_ 16 33 (Cmp.bm 17 14) ?_; refine Cmp.pv HT_ 17 34 (Cmp.bm 18 13) ?_; refine Cmp.pv HT_ 18 35 (Cmp.bm 19 12) ?_; refine Cmp.pv HT_ 19 36 (Cmp.bm 20 11) ?_; refine Cmp.pv HT_ 20 37 (Cmp.bm 21 10) ?_; refine Cmp.pv HT_ 21 38 (Cmp.bm 22 9) ?_; refine Cmp.pv HT_ 22 39 (Cmp.bm 23 8) ?_; refine Cmp.pv HT_ 23 40 (Cmp.bm 24 7) ?_; refine Cmp.pv HT_ 24 41 (Cmp.bm 25 6) ?_; refine Cmp.pv HT_ 25 42 (Cmp.bm 26 5) ?_; refine Cmp.pv HT_ 26 43 (Cmp.bm 27 4) ?_; refine Cmp.pv HT_ 27 44 (Cmp.bm 28 3) ?_; refine Cmp.pv HT_ 28 45 (Cmp.bm 29 2) ?_; refine Cmp.pv HT_ 29 46 (Cmp.bm 30 1) ?_; refine Cmp.pu HT_ 30 47 (Cmp.bm 31 0) ?_
         refine done_ (done_of HT_.out (by kernel_rfl)) ?_
         try go_wp2
         go_ret
         exact ⟨by first | rfl | (simp [errW_none, errW_some] <;> rfl) | (simp [*, errW_none, errW_some] <;> rfl), Cmp.g HB.out⟩
       ·replace c11 := Bool.eq_false_iff.mpr c11
        subst c11
        have H1 : (some false) = some r := by rw [if_neg (show ¬ (false = true) by decide)] at H; exact H
        clear H; have H := H1; clear H1
        obtain rfl := Option.some.inj H
        have p251 : 0 ≤ (x12_1 : Int) := of_decide_eq_true Cmp.d
        have q251 : x12_1 < (l0_0.length : Int) := of_decide_eq_true Cmp.d
        obtain ⟨ad251, e251, hx251_0, hx251_1, hx251_2, hx251_3⟩ := at_T64 HR0_0.out x12_1 p251 q251
        cases e251
        replace hx251_0 := (HB.out.cell (World.block_lt_of_cell? w _ hx251_0)).trans hx251_0
        replace hx251_1 := (HB.out.cell (World.block_lt_of_cell? w _ hx251_1)).trans hx251_1
        replace hx251_2 := (HB.out.cell (World.block_lt_of_cell? w _ hx251_2)).trans hx251_2
        replace hx251_3 := (HB.out.cell (World.block_lt_of_cell? w _ hx251_3)).trans hx251_3
        replace p251 := eq_true p251; replace q251 := eq_true q251
        try go_wp2_with (((with_reducible refine gate_dst (N := 4) rfl ?_); refine box_event ?hg (N := 4) ?hd (cs := #[.int .i64 0, .int .i64 0, .int .i64 0, .bool false]) (t := 64) ?hr ?_; (case hd => rfl); (case hg => rfl); (case hr => first | (go_simp; done) | (go_simp; rfl)); intro gb252 hg w49 hbox hb; have n0_ := Aside0.mk (blk_below (g := gb250) (o := .cells #[.slice (some ad251) l0_0.length c0_0] 39 (0, 0)) (Cmp.b BK250.out) hb); have n1_ := Aside0.mk (below_step (Cmp.g HB.out) hb); have n2_ := Aside0.mk (hbox); have n3_ := Aside0.mk ((by rw [hg]; exact (below_size (Cmp.g HB.out)) : w.heap.size ≤ gb252)); have n4_ := Aside0.mk ((by rw [hg]; exact (below_size (Cmp.g HB.out)) : w.heap.size ≤ gb252)); have n5_ := Aside0.mk ((by rw [hg]; exact Nat.ne_of_lt (blk_lt (g := gb250) (o := .cells #[.slice (some ad251) l0_0.length c0_0] 39 (0, 0)) (Cmp.b BK250.out)) : gb250 ≠ gb252)); have n6_ := Aside0.mk ((by rw [hg]; exact Nat.ne_of_gt (blk_lt (g := gb250) (o := .cells #[.slice (some ad251) l0_0.length c0_0] 39 (0, 0)) (Cmp.b BK250.out)) : gb252 ≠ gb250)); clear BK250; clear HB; have BK250 := n0_; have HB := n1_; have BK252 := n2_; have GW252 := n3_; have GE252 := n4_; have NB250_252 := n5_; have NB252_250 := n6_; clear n0_ n1_ n2_ n3_ n4_ n5_ n6_; clear hb hbox hg; have hnb50 := NB252_250.out; have hnc50 := NB250_252.out; have hcz51_0 : w49.cell? ⟨gb252, 0, none⟩ = some (.int .i64 0) := (blk_cell BK252.out 0).trans rfl; have hcz51_1 : w49.cell? ⟨gb252, 1, none⟩ = some (.int .i64 0) := (blk_cell BK252.out 1).trans rfl; have hcz51_2 : w49.cell? ⟨gb252, 2, none⟩ = some (.int .i64 0) := (blk_cell BK252.out 2).trans rfl; have hcz51_3 : w49.cell? ⟨gb252, 3, none⟩ = some (.bool false) := (blk_cell BK252.out 3).trans rfl; have hfz51_0 := blk_frozen BK252.out 0; have hfz51_1 := blk_frozen BK252.out 1; have hfz51_2 := blk_frozen BK252.out 2; have hfz51_3 := blk_frozen BK252.out 3))
        have n0_ : Aside0 (((((w49.setCell ⟨gb252, 0, none⟩ (.int .i64 ((rd_T64 l0_0 x12_1).f0))).setCell ⟨gb252, 1, none⟩ (.int .i64 ((rd_T64 l0_0 x12_1).f1))).setCell ⟨gb252, 2, none⟩ (.int .i64 ((rd_T64 l0_0 x12_1).f2))).setCell ⟨gb252, 3, none⟩ (.bool ((rd_T64 l0_0 x12_1).f3))).heap[gb250]? = some (.cells #[.slice (some ad251) l0_0.length c0_0] 39 (0, 0))) := ⟨by (with_reducible repeat (first | refine blk_drewN ?_ _ | refine blk_drew ?_ | refine blk_alloc ?_ _)); refine blk_far ?_ NB250_252.out _; (with_reducible repeat (first | refine blk_drewN ?_ _ | refine blk_drew ?_ | refine blk_alloc ?_ _)); refine blk_far ?_ NB250_252.out _; (with_reducible repeat (first | refine blk_drewN ?_ _ | refine blk_drew ?_ | refine blk_alloc ?_ _)); refine blk_far ?_ NB250_252.out _; (with_reducible repeat (first | refine blk_drewN ?_ _ | refine blk_drew ?_ | refine blk_alloc ?_ _)); refine blk_far ?_ NB250_252.out _; (with_reducible repeat (first | refine blk_drewN ?_ _ | refine blk_drew ?_ | refine blk_alloc ?_ _)); exact BK250.out⟩
        have n1_ : Aside0 (((((w49.setCell ⟨gb252, 0, none⟩ (.int .i64 ((rd_T64 l0_0 x12_1).f0))).setCell ⟨gb252, 1, none⟩ (.int .i64 ((rd_T64 l0_0 x12_1).f1))).setCell ⟨gb252, 2, none⟩ (.int .i64 ((rd_T64 l0_0 x12_1).f2))).setCell ⟨gb252, 3, none⟩ (.bool ((rd_T64 l0_0 x12_1).f3))).heap[gb252]? = some (.cells #[.int .i64 ((rd_T64 l0_0 x12_1).f0), .int .i64 ((rd_T64 l0_0 x12_1).f1), .int .i64 ((rd_T64 l0_0 x12_1).f2), .bool ((rd_T64 l0_0 x12_1).f3)] 64 (0, 0))) := ⟨by (with_reducible repeat (first | refine blk_drewN ?_ _ | refine blk_drew ?_ | refine blk_alloc ?_ _)); refine blk_put (cs := #[.int .i64 ((rd_T64 l0_0 x12_1).f0), .int .i64 ((rd_T64 l0_0 x12_1).f1), .int .i64 ((rd_T64 l0_0 x12_1).f2), .bool false]) ?_ 3 _ rfl; (with_reducible repeat (first | refine blk_drewN ?_ _ | refine blk_drew ?_ | refine blk_alloc ?_ _)); refine blk_put (cs := #[.int .i64 ((rd_T64 l0_0 x12_1).f0), .int .i64 ((rd_T64 l0_0 x12_1).f1), .int .i64 0, .bool false]) ?_ 2 _ rfl; (with_reducible repeat (first | refine blk_drewN ?_ _ | refine blk_drew ?_ | refine blk_alloc ?_ _)); refine blk_put (cs := #[.int .i64 ((rd_T64 l0_0 x12_1).f0), .int .i64 0, .int .i64 0, .bool false]) ?_ 1 _ rfl; (with_reducible repeat (first | refine blk_drewN ?_ _ | refine blk_drew ?_ | refine blk_alloc ?_ _)); refine blk_put (cs := #[.int .i64 0, .int .i64 0, .int .i64 0, .bool false]) ?_ 0 _ rfl; (with_reducible repeat (first | refine blk_drewN ?_ _ | refine blk_drew ?_ | refine blk_alloc ?_ _)); exact BK252.out⟩
        have n2_ : Aside0 (Below w.heap.size w ((((w49.setCell ⟨gb252, 0, none⟩ (.int .i64 ((rd_T64 l0_0 x12_1).f0))).setCell ⟨gb252, 1, none⟩ (.int .i64 ((rd_T64 l0_0 x12_1).f1))).setCell ⟨gb252, 2, none⟩ (.int .i64 ((rd_T64 l0_0 x12_1).f2))).setCell ⟨gb252, 3, none⟩ (.bool ((rd_T64 l0_0 x12_1).f3)))) := ⟨Cmp.g HB.out⟩
        (try clear BK250); (try clear BK252); (try clear HB)
        generalize ((((w49.setCell ⟨gb252, 0, none⟩ (.int .i64 ((rd_T64 l0_0 x12_1).f0))).setCell ⟨gb252, 1, none⟩ (.int .i64 ((rd_T64 l0_0 x12_1).f1))).setCell ⟨gb252, 2, none⟩ (.int .i64 ((rd_T64 l0_0 x12_1).f2))).setCell ⟨gb252, 3, none⟩ (.bool ((rd_T64 l0_0 x12_1).f3))) = w52 at n0_ n1_ n2_ ⊢
        have BK250 := n0_; have BK252 := n1_; have HB := n2_; clear n0_ n1_ n2_; have n0_ := Aside0.mk (blk_drew BK250.out); have n1_ := Aside0.mk (blk_drew BK252.out); have n2_ := Aside0.mk (below_drew1 HB.out); clear BK250; clear BK252; clear HB; have BK250 := n0_; have BK252 := n1_; have HB := n2_; clear n0_ n1_ n2_
        refine start_ (n := 31) (S := fun w' => w'.cell? ⟨gb252, 0, none⟩ = some (.int .i64 ((rd_T64 l0_0 x12_1).f0)) ∧ w'.cell? ⟨gb252, 1, none⟩ = some (.int .i64 ((rd_T64 l0_0 x12_1).f1)) ∧ w'.cell? ⟨gb252, 2, none⟩ = some (.int .i64 ((rd_T64 l0_0 x12_1).f2)) ∧ w'.cell? ⟨gb252, 3, none⟩ = some (.bool ((rd_T64 l0_0 x12_1).f3))) (ds := []) (Cmp.bm 0 31) (by kernel_rfl) rfl rfl ⟨(blk_cell BK252.out 0).trans rfl, (blk_cell BK252.out 1).trans rfl, (blk_cell BK252.out 2).trans rfl, (blk_cell BK252.out 3).trans rfl⟩ (fun hHeld => ?_); refine with_tabW impl_IsBundle.tab6 impl_IsBundle.bits6 (fun HT_ HW_ => ?_)
        generalize w52.drew = w53 at BK250 BK252 HB hHeld ⊢
        refine Cmp.pu HT_ 0 17 (Cmp.bm 1 30) ?_; refine Cmp.tk HT_ HW_ hHeld 1 18 (Cmp.bm 2 29) ?_
        refine one_ (i := 2) (N := some 19) (Cmp.bm 3 28) rfl rfl (one_of HT_.out (by kernel_rfl)) (by decide) (fun K hK => ?_)
        refine goes_ Try.func37 (by kernel_rfl) rfl #[.int .i64 ((rd_T64 l0_0 x12_1).f0), .int .i64 0, .int .i64 2147483646] (by rfl) rfl rfl Cmp.q ?_
        with_reducible refine (impl_InRange.calls ((rd_T64 l0_0 x12_1).f0) 0 2147483646 false _ A10.out).mono ?_
        rintro e w' ⟨rfl, ⟨nd, rfl⟩⟩; refine ⟨_, rfl, ?_⟩
        refine hK.out _ _ ⟨(blk_cell BK252.out 0).trans rfl, (blk_cell BK252.out 1).trans rfl, (blk_cell BK252.out 2).trans rfl, (blk_cell BK252.out 3).trans rfl⟩ (fun hHeld => ?_)
        clear hK K
        refine norm_ (a' := ?_) ?_ ?_
        rotate_left
        ·show Act.put _ (some 19) _ = _
         simp only [Act.put, Cmp.s, Cmp.z, Cmp.c, i64_w, i32_w]; rfl
        refine Cmp.pu HT_ 3 20 (Cmp.bm 4 27) ?_; refine Cmp.pu HT_ 4 21 (Cmp.bm 5 26) ?_; refine Cmp.pv HT_ 5 22 (Cmp.bm 6 25) ?_; refine Cmp.pv HT_ 6 23 (Cmp.bm 7 24) ?_; refine Cmp.pv HT_ 7 24 (Cmp.bm 8 23) ?_; refine Cmp.pv HT_ 8 25 (Cmp.bm 9 22) ?_; refine Cmp.pu HT_ 9 26 (Cmp.bm 10 21) ?_; refine Cmp.pu HT_ 10 27 (Cmp.bm 11 20) ?_; refine Cmp.pv HT_ 11 28 (Cmp.bm 12 19) ?_; refine Cmp.pv HT_ 12 29 (Cmp.bm 13 18) ?_; refine Cmp.pv HT_ 13 30 (Cmp.bm 14 17) ?_; refine Cmp.pv HT_ 14 31 (Cmp.bm 15 16) ?_; refine Cmp.pu HT_ 15 32 (Cmp.bm 16 15) ?_; refine Cmp.pu HT_ 16 33 (Cmp.bm 17 14) ?_; refine Cmp.pv HT_ 17 34 (Cmp.bm 18 13) ?_; refine Cmp.pv HT_ 18 35 (Cmp.bm 19 12) ?_; refine Cmp.pv HT_ 19 36 (Cmp.bm 20 11) ?_; refine Cmp.pv HT_ 20 37 (Cmp.bm 21 10) ?_; refine Cmp.pv HT_ 21 38 (Cmp.bm 22 9) ?_; refine Cmp.pv HT_ 22 39 (Cmp.bm 23 8) ?_; refine Cmp.pv HT_ 23 40 (Cmp.bm 24 7) ?_; refine Cmp.pv HT_ 24 41 (Cmp.bm 25 6) ?_; refine Cmp.pv HT_ 25 42 (Cmp.bm 26 5) ?_; refine Cmp.pv HT_ 26 43 (Cmp.bm 27 4) ?_; refine Cmp.pv HT_ 27 44 (Cmp.bm 28 3) ?_; refine Cmp.pv HT_ 28 45 (Cmp.bm 29 2) ?_; refine Cmp.pv HT_ 29 46 (Cmp.bm 30 1) ?_; refine Cmp.pu HT_ 30 47 (Cmp.bm 31 0) ?_
        refine done_ (done_of HT_.out (by kernel_rfl)) ?_
        try go_wp2
        go_ret
        exact ⟨by first | rfl | (simp [errW_none, errW_some] <;> rfl) | (simp [*, errW_none, errW_some] <;> rfl), Cmp.g HB.out⟩
      ·rw [if_neg c9] at H; exact absurd H (by simp)
     ·rw [if_neg c8] at H; exact absurd H (by simp)
    ·rw [if_neg c7] at H
     have c7b0 : decide (x12_1 < (l0_0.length : Int)) = false := decide_eq_false c7
     clear c7
     obtain rfl := Option.some.inj H
     go_wp2
     go_ret
     exact ⟨by first | rfl | (simp [errW_none, errW_some] <;> rfl) | (simp [*, errW_none, errW_some] <;> rfl), Cmp.g HB.out⟩

end Go.Proofs.Ytnifeegdkhmakaa.PFnExactIncludesBundle

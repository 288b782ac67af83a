/- Printed functions of the program, out of print.sh, told more shortly. No condition. -/
import Derived.Test.YtnifeegdkhmakaaCmp
import Derived.Test.YtnifeegdkhmakaaPFnExactIncludesBundlex0
import Derived.Test.YtnifeegdkhmakaaPFnExactIncludesBundlex3
namespace Go.Proofs.Ytnifeegdkhmakaa.PFnExactIncludesBundle
open Go.Proofs.Ytnifeegdkhmakaa
open Go.RowKit Go.Proofs.YtnifeegdkhmakaaW.PrintWords Go.Proofs.YtnifeegdkhmakaaW.PrintLast Go.Proofs.YtnifeegdkhmakaaW.PrintMore
attribute [local go_sem] max2_int min2_int max_two min_two max_three min_three max_four min_four   -- for this text's walks alone
set_option linter.unusedVariables false
set_option linter.unusedSimpArgs false

/-! ### spec_IsBundle: function 41 -/
def spec_IsBundle.l0 : Nat → Int → List (S64) → Option (Bool)
  | 0, _, _ => none
  | k + 1, x3, x134000 => if x3 < (x134000.length : Int) then (if 0 ≤ x3 then ((spec_l1In.f ((rd_T64 x134000 x3).f0) 0 2147483646).bind fun t136 => (if t136 = true then ((spec_l1In.f ((rd_T64 x134000 x3).f1) 0 1000000).bind fun t137 => (if t137 = true then ((spec_l1In.f ((rd_T64 x134000 x3).f2) 1 1000000).bind fun t138 => (if t138 = true then (if x3 > 0 then (if 0 ≤ (wrap64 (x3 - 1)) then (if (wrap64 (x3 - 1)) < (x134000.length : Int) then ((spec_l17Less.f ((rd_T64 x134000 (wrap64 (x3 - 1))).f0) ((rd_T64 x134000 (wrap64 (x3 - 1))).f1) ((rd_T64 x134000 (wrap64 (x3 - 1))).f2) ((rd_T64 x134000 (wrap64 (x3 - 1))).f3) ((rd_T64 x134000 x3).f0) ((rd_T64 x134000 x3).f1)).bind fun t140 => (if t140 = true then (spec_IsBundle.l0 k (wrap64 (x3 + 1)) x134000) else (some false))) else (none)) else (none)) else (spec_IsBundle.l0 k (wrap64 (x3 + 1)) x134000)) else (some false))) else (some false))) else (some false))) else (none)) else (some (decide ((x134000.length : Int) ≤ 20)))
def spec_IsBundle.f (k : Nat) (l0_0 : List (S64)) : Option (Bool) := spec_IsBundle.l0 k 0 l0_0
theorem spec_IsBundle.mono_l : ∀ k, (∀ y0 y1, LeO (spec_IsBundle.l0 k y0 y1) (spec_IsBundle.l0 (k + 1) y0 y1))
  | 0 => fun _ _ r h => by simp [spec_IsBundle.l0] at h
  | k + 1 => by
    have ih0 := spec_IsBundle.mono_l k
    · intro y0 y1
      unfold spec_IsBundle.l0
      repeat' first
      | (with_reducible exact ih0 _ _)
      | (with_reducible exact LeO.refl _)
      | (with_reducible exact LeO.none _)
      | (with_reducible refine LeO.ite ?_ ?_)
      | (with_reducible refine LeO.bind ?_ (fun _ => ?_))
      | exact ih0 _ _
      | exact LeO.none _
      | refine LeO.ite ?_ ?_
      | refine LeO.bind ?_ (fun _ => ?_)
theorem spec_IsBundle.mono : ∀ a0 k, LeO (spec_IsBundle.f k a0) (spec_IsBundle.f (k + 1) a0) := by
  intro a0 k
  have ih0 := spec_IsBundle.mono_l k
  unfold spec_IsBundle.f
  repeat' first
      | (with_reducible exact ih0 _ _)
      | (with_reducible exact LeO.refl _)
      | (with_reducible exact LeO.none _)
      | (with_reducible refine LeO.ite ?_ ?_)
      | (with_reducible refine LeO.bind ?_ (fun _ => ?_))
      | exact ih0 _ _
      | exact LeO.none _
      | refine LeO.ite ?_ ?_
      | refine LeO.bind ?_ (fun _ => ?_)
def spec_IsBundle.T5 : Bool × List (List Nat × List Nat) := (true, [([], []), ([0], [0]), ([1], [1]), ([2], [2]), ([3, 2], [3]), ([4], [4]), ([5, 4], [4, 5]), ([6, 4, 4], [4, 6]), ([7, 4], [4, 7]), ([4, 8], [4, 8]), ([9, 7], [9]), ([10], [10]), ([11, 10], [10, 11]), ([12, 10, 10], [10, 12]), ([13, 10], [10, 13]), ([10, 14], [10, 14]), ([15, 13], [15]), ([16], [16]), ([17, 16], [16, 17]), ([18, 16, 16], [16, 18]), ([19], [19]), ([20, 19], [19, 20]), ([19], [19]), ([22, 19], [19, 22]), ([21, 23, 19], [19, 21, 23]), ([24, 19], [19, 24]), ([19], [19]), ([26, 19], [19, 26]), ([19], [19]), ([28, 19], [19, 28]), ([25, 27, 29, 19, 19], [19, 25, 27, 29]), ([30, 19], [19, 30]), ([19, 31, 16], [16, 19, 31]), ([16, 32], [16, 32])])
def spec_IsBundle.B5 : List Nat := [0, 1, 3, 7, 15, 31, 63, 127, 255, 511, 1023, 2047, 4095, 8191, 16383, 32767, 65535, 131071, 262143, 524287, 1048575, 2097151, 1048575, 5242879, 16777215, 33554431, 1048575, 68157439, 1048575, 269484031, 1073741823, 2147483647, 4294967295, 8589934591]
theorem spec_IsBundle.tab5 : rtab .any (opsOf Try.f41 5) = spec_IsBundle.T5 := by kernel_rfl
theorem spec_IsBundle.bits5 : waitsOk spec_IsBundle.T5.2 spec_IsBundle.B5 = true := by kernel_rfl
set_option maxHeartbeats 8000000 in
set_option maxRecDepth 100000 in
theorem spec_IsBundle.calls (k : Nat) (A0_0 : Option Addr) (c0_0 : Nat) (l0_0 : List (S64)) (r : Bool) (w : World) (hr0_0 : Kd.C k64 w A0_0 l0_0.length l0_0) (hc0_0 : l0_0.length ≤ c0_0) (h : spec_IsBundle.f k l0_0 = some r) :
    Calls Try.prog 41 #[.agg #[.slice A0_0 l0_0.length c0_0]] w fun e w' => e = .returned (.bool r) ∧ Below w.heap.size w w' := by
 have hu39 := Try.underlying39; have hu64 := Try.underlying64; have HR0_0 := Aside0.mk hr0_0; have HC0_0 := Aside0.mk hc0_0; clear hr0_0 hc0_0
 have HB := Aside0.mk (Below.refl w.heap.size w)
 have H : (spec_IsBundle.l0 k 0 l0_0) = some r := h
 clear h
 have H' := Aside0.mk H
 clear H
 go_enter Try.func41, Try.ntmps41
 go_wp2_with (((with_reducible refine gate_dst (N := 1) rfl ?_); refine box_event ?hg (N := 1) ?hd (cs := #[.slice A0_0 l0_0.length c0_0]) (t := 39) ?hr ?_; (case hd => rfl); (case hg => rfl); (case hr => first | (go_simp; done) | (go_simp; rfl)); intro gb133 hg w2 hbox hb; have n0_ := Aside0.mk (below_step (Cmp.g HB.out) hb); have n1_ := Aside0.mk (hbox); have n2_ := Aside0.mk ((by rw [hg]; exact (below_size (Cmp.g HB.out)) : w.heap.size ≤ gb133)); have n3_ := Aside0.mk ((by rw [hg]; exact (below_size (Cmp.g HB.out)) : w.heap.size ≤ gb133)); clear HB; have HB := n0_; have BK133 := n1_; have GW133 := n2_; have GE133 := n3_; clear n0_ n1_ n2_ n3_; clear hb hbox hg))
 go_loopg [3] k (fun kq v3 w' => ∃ (x3_1 : Int), v3 = .int .i64 x3_1 ∧ Aside0 (spec_IsBundle.l0 kq x3_1 l0_0 = some r) ∧ Aside0 (kq ≤ k) ∧ Aside0 (w'.heap[gb133]? = some (.cells #[(.slice A0_0 l0_0.length c0_0)] 39 (0, 0))) ∧ Aside0 (Below w.heap.size w w'))
 case atStart => exact ⟨(0), (by first | rfl | simp | simp [*]), H', ⟨Nat.le_refl _⟩, ⟨by (with_reducible repeat (first | refine blk_drewN ?_ _ | refine blk_drew ?_ | refine blk_alloc ?_ _)); exact BK133.out⟩, ⟨Cmp.g HB.out⟩⟩
 case round =>
  clear H'
  (try clear p2)
  obtain ⟨x3_1, rfl, HA, HK1, BK133, HB⟩ := hrel
  cases gk with
  | zero => exact absurd HA.out (by simp [spec_IsBundle.l0])
  | succ k1 =>
   have H := HA.out; clear HA
   simp only [spec_IsBundle.l0] at H
   by_cases c3 : x3_1 < (l0_0.length : Int)
   ·rw [if_pos c3] at H
    have c3b0 : decide (x3_1 < (l0_0.length : Int)) = true := decide_eq_true c3
    clear c3
    by_cases c4 : 0 ≤ x3_1
    ·rw [if_pos c4] at H; have c4b0 : decide (0 ≤ x3_1) = true := decide_eq_true c4; clear c4; replace H := Option.bind_eq_some_iff.mp H; obtain ⟨t136, A50, H⟩ := H; (try dsimp only at H); have A5 := Aside0.mk A50; clear A50
     by_cases c6 : t136 = true
     ·subst c6; rw [if_pos rfl] at H; replace H := Option.bind_eq_some_iff.mp H; obtain ⟨t137, A70, H⟩ := H; (try dsimp only at H); have A7 := Aside0.mk A70; clear A70
      by_cases c8 : t137 = true
      ·subst c8; rw [if_pos rfl] at H; replace H := Option.bind_eq_some_iff.mp H; obtain ⟨t138, A90, H⟩ := H; (try dsimp only at H); have A9 := Aside0.mk A90; clear A90
       by_cases c10 : t138 = true
       ·subst c10; rw [if_pos rfl] at H
        by_cases c11 : x3_1 > 0
        ·rw [if_pos c11] at H; have c11b0 : decide (0 < x3_1) = true := decide_eq_true c11; clear c11
         obtain ⟨ji12, hji12⟩ : ∃ j_ : Int, (wrap64 (x3_1 - 1)) = j_ := ⟨_, rfl⟩
         replace H : (if 0 ≤ (ji12) then (if (ji12) < (l0_0.length : Int) then ((spec_l17Less.f ((rd_T64 l0_0 (ji12)).f0) ((rd_T64 l0_0 (ji12)).f1) ((rd_T64 l0_0 (ji12)).f2) ((rd_T64 l0_0 (ji12)).f3) ((rd_T64 l0_0 x3_1).f0) ((rd_T64 l0_0 x3_1).f1)).bind fun t140 => (if t140 = true then (spec_IsBundle.l0 k1 (wrap64 (x3_1 + 1)) l0_0) else (some false))) else (none)) else (none)) = some r := by first | (rw [hji12] at H; exact H) | (simp only [hji12] at H ⊢; exact H)
         (try rw [hji12] at A5)
         (try rw [hji12] at A7)
         (try rw [hji12] at A9)
         have hji12w : (IntKind.i64.wrap (x3_1 - 1)) = ji12 := (i64_w _).trans hji12
         by_cases c13 : 0 ≤ (ji12)
         ·rw [if_pos c13] at H; have c13b0 : decide (0 ≤ (ji12)) = true := decide_eq_true c13; clear c13
          by_cases c14 : (ji12) < (l0_0.length : Int)
          ·rw [if_pos c14] at H
           have c14b0 : decide ((ji12) < (l0_0.length : Int)) = true := decide_eq_true c14
           clear c14; replace H := Option.bind_eq_some_iff.mp H; obtain ⟨t140, A150, H⟩ := H; (try dsimp only at H); have A15 := Aside0.mk A150; clear A150
           by_cases c16 : t140 = true
           ·subst c16; rw [if_pos rfl] at H
            have H' := Aside0.mk H
            clear H
            have hcz17_0 : wr.cell? ⟨gb133, 0, none⟩ = some (.slice A0_0 l0_0.length c0_0) := (blk_cell BK133.out 0).trans rfl
            have hfz17_0 := blk_frozen BK133.out 0
            have p134 : 0 ≤ (x3_1 : Int) := of_decide_eq_true Cmp.d
            have q134 : x3_1 < (l0_0.length : Int) := of_decide_eq_true Cmp.d
            obtain ⟨ad134, e134, hx134_0, hx134_1, hx134_2, hx134_3⟩ := at_T64 HR0_0.out x3_1 p134 q134
            cases e134
            replace hx134_0 := (HB.out.cell (World.block_lt_of_cell? w _ hx134_0)).trans hx134_0
            replace hx134_1 := (HB.out.cell (World.block_lt_of_cell? w _ hx134_1)).trans hx134_1
            replace hx134_2 := (HB.out.cell (World.block_lt_of_cell? w _ hx134_2)).trans hx134_2
            replace hx134_3 := (HB.out.cell (World.block_lt_of_cell? w _ hx134_3)).trans hx134_3
            replace p134 := eq_true p134; replace q134 := eq_true q134
            try go_wp2_with (((with_reducible refine gate_dst (N := 4) rfl ?_); refine box_event ?hg (N := 4) ?hd (cs := #[.int .i64 0, .int .i64 0, .int .i64 0, .bool false]) (t := 64) ?hr ?_; (case hd => rfl); (case hg => rfl); (case hr => first | (go_simp; done) | (go_simp; rfl)); intro gb135 hg w18 hbox hb; have n0_ := Aside0.mk (blk_below (g := gb133) (o := .cells #[.slice (some ad134) l0_0.length c0_0] 39 (0, 0)) (Cmp.b BK133.out) hb); have n1_ := Aside0.mk (below_step (Cmp.g HB.out) hb); have n2_ := Aside0.mk (hbox); have n3_ := Aside0.mk ((by rw [hg]; exact (below_size (Cmp.g HB.out)) : w.heap.size ≤ gb135)); have n4_ := Aside0.mk ((by rw [hg]; exact (below_size (Cmp.g HB.out)) : w.heap.size ≤ gb135)); have n5_ := Aside0.mk ((by rw [hg]; exact Nat.ne_of_lt (blk_lt (g := gb133) (o := .cells #[.slice (some ad134) l0_0.length c0_0] 39 (0, 0)) (Cmp.b BK133.out)) : gb133 ≠ gb135)); have n6_ := Aside0.mk ((by rw [hg]; exact Nat.ne_of_gt (blk_lt (g := gb133) (o := .cells #[.slice (some ad134) l0_0.length c0_0] 39 (0, 0)) (Cmp.b BK133.out)) : gb135 ≠ gb133)); clear BK133; clear HB; have BK133 := n0_; have HB := n1_; have BK135 := n2_; have GW135 := n3_; have GE135 := n4_; have NB133_135 := n5_; have NB135_133 := n6_; clear n0_ n1_ n2_ n3_ n4_ n5_ n6_; clear hb hbox hg; have hnb19 := NB135_133.out; have hnc19 := NB133_135.out; have hcz20_0 : w18.cell? ⟨gb135, 0, none⟩ = some (.int .i64 0) := (blk_cell BK135.out 0).trans rfl; have hcz20_1 : w18.cell? ⟨gb135, 1, none⟩ = some (.int .i64 0) := (blk_cell BK135.out 1).trans rfl; have hcz20_2 : w18.cell? ⟨gb135, 2, none⟩ = some (.int .i64 0) := (blk_cell BK135.out 2).trans rfl; have hcz20_3 : w18.cell? ⟨gb135, 3, none⟩ = some (.bool false) := (blk_cell BK135.out 3).trans rfl; have hfz20_0 := blk_frozen BK135.out 0; have hfz20_1 := blk_frozen BK135.out 1; have hfz20_2 := blk_frozen BK135.out 2; have hfz20_3 := blk_frozen BK135.out 3))
            have n0_ : Aside0 (((((w18.setCell ⟨gb135, 0, none⟩ (.int .i64 ((rd_T64 l0_0 x3_1).f0))).setCell ⟨gb135, 1, none⟩ (.int .i64 ((rd_T64 l0_0 x3_1).f1))).setCell ⟨gb135, 2, none⟩ (.int .i64 ((rd_T64 l0_0 x3_1).f2))).setCell ⟨gb135, 3, none⟩ (.bool ((rd_T64 l0_0 x3_1).f3))).heap[gb133]? = some (.cells #[.slice (some ad134) l0_0.length c0_0] 39 (0, 0))) := ⟨by (with_reducible repeat (first | refine blk_drewN ?_ _ | refine blk_drew ?_ | refine blk_alloc ?_ _)); refine blk_far ?_ NB133_135.out _; (with_reducible repeat (first | refine blk_drewN ?_ _ | refine blk_drew ?_ | refine blk_alloc ?_ _)); refine blk_far ?_ NB133_135.out _; (with_reducible repeat (first | refine blk_drewN ?_ _ | refine blk_drew ?_ | refine blk_alloc ?_ _)); refine blk_far ?_ NB133_135.out _; (with_reducible repeat (first | refine blk_drewN ?_ _ | refine blk_drew ?_ | refine blk_alloc ?_ _)); refine blk_far ?_ NB133_135.out _; (with_reducible repeat (first | refine blk_drewN ?_ _ | refine blk_drew ?_ | refine blk_alloc ?_ _)); exact BK133.out⟩
            have n1_ : Aside0 (((((w18.setCell ⟨gb135, 0, none⟩ (.int .i64 ((rd_T64 l0_0 x3_1).f0))).setCell ⟨gb135, 1, none⟩ (.int .i64 ((rd_T64 l0_0 x3_1).f1))).setCell ⟨gb135, 2, none⟩ (.int .i64 ((rd_T64 l0_0 x3_1).f2))).setCell ⟨gb135, 3, none⟩ (.bool ((rd_T64 l0_0 x3_1).f3))).heap[gb135]? = some (.cells #[.int .i64 ((rd_T64 l0_0 x3_1).f0), .int .i64 ((rd_T64 l0_0 x3_1).f1), .int .i64 ((rd_T64 l0_0 x3_1).f2), .bool ((rd_T64 l0_0 x3_1).f3)] 64 (0, 0))) := ⟨by (with_reducible repeat (first | refine blk_drewN ?_ _ | refine blk_drew ?_ | refine blk_alloc ?_ _)); refine blk_put (cs := #[.int .i64 ((rd_T64 l0_0 x3_1).f0), .int .i64 ((rd_T64 l0_0 x3_1).f1), .int .i64 ((rd_T64 l0_0 x3_1).f2), .bool false]) ?_ 3 _ rfl; (with_reducible repeat (first | refine blk_drewN ?_ _ | refine blk_drew ?_ | refine blk_alloc ?_ _)); refine blk_put (cs := #[.int .i64 ((rd_T64 l0_0 x3_1).f0), .int .i64 ((rd_T64 l0_0 x3_1).f1), .int .i64 0, .bool false]) ?_ 2 _ rfl; (with_reducible repeat (first | refine blk_drewN ?_ _ | refine blk_drew ?_ | refine blk_alloc ?_ _)); refine blk_put (cs := #[.int .i64 ((rd_T64 l0_0 x3_1).f0), .int .i64 0, .int .i64 0, .bool false]) ?_ 1 _ rfl; (with_reducible repeat (first | refine blk_drewN ?_ _ | refine blk_drew ?_ | refine blk_alloc ?_ _)); refine blk_put (cs := #[.int .i64 0, .int .i64 0, .int .i64 0, .bool false]) ?_ 0 _ rfl; (with_reducible repeat (first | refine blk_drewN ?_ _ | refine blk_drew ?_ | refine blk_alloc ?_ _)); exact BK135.out⟩
            have n2_ : Aside0 (Below w.heap.size w ((((w18.setCell ⟨gb135, 0, none⟩ (.int .i64 ((rd_T64 l0_0 x3_1).f0))).setCell ⟨gb135, 1, none⟩ (.int .i64 ((rd_T64 l0_0 x3_1).f1))).setCell ⟨gb135, 2, none⟩ (.int .i64 ((rd_T64 l0_0 x3_1).f2))).setCell ⟨gb135, 3, none⟩ (.bool ((rd_T64 l0_0 x3_1).f3)))) := ⟨Cmp.g HB.out⟩
            (try clear BK133); (try clear BK135); (try clear HB)
            generalize ((((w18.setCell ⟨gb135, 0, none⟩ (.int .i64 ((rd_T64 l0_0 x3_1).f0))).setCell ⟨gb135, 1, none⟩ (.int .i64 ((rd_T64 l0_0 x3_1).f1))).setCell ⟨gb135, 2, none⟩ (.int .i64 ((rd_T64 l0_0 x3_1).f2))).setCell ⟨gb135, 3, none⟩ (.bool ((rd_T64 l0_0 x3_1).f3))) = w21 at n0_ n1_ n2_ ⊢
            have BK133 := n0_; have BK135 := n1_; have HB := n2_; clear n0_ n1_ n2_; have n0_ := Aside0.mk (blk_drew BK133.out); have n1_ := Aside0.mk (blk_drew BK135.out); have n2_ := Aside0.mk (below_drew1 HB.out); clear BK133; clear BK135; clear HB; have BK133 := n0_; have BK135 := n1_; have HB := n2_; clear n0_ n1_ n2_
            have p139 : 0 ≤ ((ji12) : Int) := of_decide_eq_true Cmp.d
            have q139 : (ji12) < (l0_0.length : Int) := of_decide_eq_true Cmp.d
            obtain ⟨ad139, e139, hx139_0, hx139_1, hx139_2, hx139_3⟩ := at_T64 HR0_0.out (ji12) p139 q139
            have hw139_3 := hx139_3; have hw139_2 := hx139_2; have hw139_1 := hx139_1; have hw139_0 := hx139_0
            obtain rfl : ad134 = ad139 := (by injection e139)
            replace hx139_0 := (HB.out.cell (World.block_lt_of_cell? w _ hx139_0)).trans hx139_0
            replace hx139_1 := (HB.out.cell (World.block_lt_of_cell? w _ hx139_1)).trans hx139_1
            replace hx139_2 := (HB.out.cell (World.block_lt_of_cell? w _ hx139_2)).trans hx139_2
            replace hx139_3 := (HB.out.cell (World.block_lt_of_cell? w _ hx139_3)).trans hx139_3
            replace p139 := eq_true p139; replace q139 := eq_true q139
            refine start_ (n := 34) (S := fun w' => w'.cell? ⟨gb135, 0, none⟩ = some (.int .i64 ((rd_T64 l0_0 x3_1).f0)) ∧ w'.cell? ⟨gb135, 1, none⟩ = some (.int .i64 ((rd_T64 l0_0 x3_1).f1)) ∧ w'.cell? ⟨gb135, 2, none⟩ = some (.int .i64 ((rd_T64 l0_0 x3_1).f2)) ∧ w'.cell? ⟨gb135, 3, none⟩ = some (.bool ((rd_T64 l0_0 x3_1).f3)) ∧ w'.cell? ⟨gb133, 0, none⟩ = some (.slice (some ad134) l0_0.length c0_0) ∧ w'.cell? (ad134.add (((ji12)).toNat * 4)) = some (.int .i64 ((rd_T64 l0_0 (ji12)).f0)) ∧ w'.cell? ⟨(ad134.add (((ji12)).toNat * 4)).block, (ad134.add (((ji12)).toNat * 4)).off + 1, none⟩ = some (.int .i64 ((rd_T64 l0_0 (ji12)).f1)) ∧ w'.cell? ⟨(ad134.add (((ji12)).toNat * 4)).block, (ad134.add (((ji12)).toNat * 4)).off + 2, none⟩ = some (.int .i64 ((rd_T64 l0_0 (ji12)).f2)) ∧ w'.cell? ⟨(ad134.add (((ji12)).toNat * 4)).block, (ad134.add (((ji12)).toNat * 4)).off + 3, none⟩ = some (.bool ((rd_T64 l0_0 (ji12)).f3))) (ds := []) (Cmp.bm 0 34) (by kernel_rfl) rfl rfl ⟨(blk_cell BK135.out 0).trans rfl, (blk_cell BK135.out 1).trans rfl, (blk_cell BK135.out 2).trans rfl, (blk_cell BK135.out 3).trans rfl, (blk_cell BK133.out 0).trans rfl, ((HB.out.cell (World.block_lt_of_cell? w _ hw139_0)).trans hw139_0), ((HB.out.cell (World.block_lt_of_cell? w _ hw139_1)).trans hw139_1), ((HB.out.cell (World.block_lt_of_cell? w _ hw139_2)).trans hw139_2), ((HB.out.cell (World.block_lt_of_cell? w _ hw139_3)).trans hw139_3)⟩ (fun hHeld => ?_); refine with_tabW spec_IsBundle.tab5 spec_IsBundle.bits5 (fun HT_ HW_ => ?_)
            generalize w21.drew = w22 at BK133 BK135 HB hx139_0 hx139_1 hx139_2 hx139_3 hHeld ⊢
            refine Cmp.pu HT_ 0 17 (Cmp.bm 1 33) ?_; refine Cmp.tk HT_ HW_ hHeld 1 18 (Cmp.bm 2 32) ?_
            refine one_ (i := 2) (N := some 19) (Cmp.bm 3 31) rfl rfl (one_of HT_.out (by kernel_rfl)) (by decide) (fun K hK => ?_)
            refine goes_ Try.func34 (by kernel_rfl) rfl #[.int .i64 ((rd_T64 l0_0 x3_1).f0), .int .i64 0, .int .i64 2147483646] (by rfl) rfl rfl Cmp.q ?_
            with_reducible refine (spec_l1In.calls ((rd_T64 l0_0 x3_1).f0) 0 2147483646 true _ A5.out).mono ?_
            rintro e w' ⟨rfl, ⟨nd, rfl⟩⟩; refine ⟨_, rfl, ?_⟩
            refine hK.out _ _ ⟨(blk_cell BK135.out 0).trans rfl, (blk_cell BK135.out 1).trans rfl, (blk_cell BK135.out 2).trans rfl, (blk_cell BK135.out 3).trans rfl, (blk_cell BK133.out 0).trans rfl, ((HB.out.cell (World.block_lt_of_cell? w _ hw139_0)).trans hw139_0), ((HB.out.cell (World.block_lt_of_cell? w _ hw139_1)).trans hw139_1), ((HB.out.cell (World.block_lt_of_cell? w _ hw139_2)).trans hw139_2), ((HB.out.cell (World.block_lt_of_cell? w _ hw139_3)).trans hw139_3)⟩ (fun hHeld => ?_)
            clear hK K
            refine norm_ (a' := ?_) ?_ ?_
            rotate_left
            ·show Act.put _ (some 19) _ = _
             simp only [Act.put, Cmp.s, Cmp.z, Cmp.c, i64_w, i32_w]; rfl
            refine Cmp.pu HT_ 3 20 (Cmp.bm 4 30) ?_; refine Cmp.pu HT_ 4 21 (Cmp.bm 5 29) ?_; refine Cmp.pu HT_ 5 22 (Cmp.bm 6 28) ?_; refine Cmp.tk HT_ HW_ hHeld 6 23 (Cmp.bm 7 27) ?_
            refine one_ (i := 7) (N := some 24) (Cmp.bm 8 26) rfl rfl (one_of HT_.out (by kernel_rfl)) (by decide) (fun K hK => ?_)
            refine goes_ Try.func34 (by kernel_rfl) rfl #[.int .i64 ((rd_T64 l0_0 x3_1).f1), .int .i64 0, .int .i64 1000000] (by rfl) rfl rfl Cmp.q ?_
            with_reducible refine (spec_l1In.calls ((rd_T64 l0_0 x3_1).f1) 0 1000000 true _ A7.out).mono ?_
            rintro e w' ⟨rfl, ⟨nd, rfl⟩⟩; refine ⟨_, rfl, ?_⟩
            refine hK.out _ _ ⟨(blk_cell BK135.out 0).trans rfl, (blk_cell BK135.out 1).trans rfl, (blk_cell BK135.out 2).trans rfl, (blk_cell BK135.out 3).trans rfl, (blk_cell BK133.out 0).trans rfl, ((HB.out.cell (World.block_lt_of_cell? w _ hw139_0)).trans hw139_0), ((HB.out.cell (World.block_lt_of_cell? w _ hw139_1)).trans hw139_1), ((HB.out.cell (World.block_lt_of_cell? w _ hw139_2)).trans hw139_2), ((HB.out.cell (World.block_lt_of_cell? w _ hw139_3)).trans hw139_3)⟩ (fun hHeld => ?_)
            clear hK K
            refine norm_ (a' := ?_) ?_ ?_
            rotate_left
            ·show Act.put _ (some 24) _ = _
             simp only [Act.put, Cmp.s, Cmp.z, Cmp.c, i64_w, i32_w]; rfl
            refine Cmp.pu HT_ 8 25 (Cmp.bm 9 25) ?_; refine Cmp.pu HT_ 9 26 (Cmp.bm 10 24) ?_; refine Cmp.pu HT_ 10 27 (Cmp.bm 11 23) ?_; refine Cmp.pu HT_ 11 28 (Cmp.bm 12 22) ?_; refine Cmp.tk HT_ HW_ hHeld 12 29 (Cmp.bm 13 21) ?_
            refine one_ (i := 13) (N := some 30) (Cmp.bm 14 20) rfl rfl (one_of HT_.out (by kernel_rfl)) (by decide) (fun K hK => ?_)
            refine goes_ Try.func34 (by kernel_rfl) rfl #[.int .i64 ((rd_T64 l0_0 x3_1).f2), .int .i64 1, .int .i64 1000000] (by rfl) rfl rfl Cmp.q ?_
            with_reducible refine (spec_l1In.calls ((rd_T64 l0_0 x3_1).f2) 1 1000000 true _ A9.out).mono ?_
            rintro e w' ⟨rfl, ⟨nd, rfl⟩⟩; refine ⟨_, rfl, ?_⟩
            refine hK.out _ _ ⟨(blk_cell BK135.out 0).trans rfl, (blk_cell BK135.out 1).trans rfl, (blk_cell BK135.out 2).trans rfl, (blk_cell BK135.out 3).trans rfl, (blk_cell BK133.out 0).trans rfl, ((HB.out.cell (World.block_lt_of_cell? w _ hw139_0)).trans hw139_0), ((HB.out.cell (World.block_lt_of_cell? w _ hw139_1)).trans hw139_1), ((HB.out.cell (World.block_lt_of_cell? w _ hw139_2)).trans hw139_2), ((HB.out.cell (World.block_lt_of_cell? w _ hw139_3)).trans hw139_3)⟩ (fun hHeld => ?_)
            clear hK K
            refine norm_ (a' := ?_) ?_ ?_
            rotate_left
            ·show Act.put _ (some 30) _ = _
             simp only [Act.put, Cmp.s, Cmp.z, Cmp.c, i64_w, i32_w]; rfl
            refine Cmp.pu HT_ 14 31 (Cmp.bm 15 19) ?_; refine Cmp.pu HT_ 15 32 (Cmp.bm 16 18) ?_; refine Cmp.pu HT_ 16 33 (Cmp.bm 17 17) ?_; refine Cmp.pu HT_ 17 34 (Cmp.bm 18 16) ?_; refine Cmp.pu HT_ 18 35 (Cmp.bm 19 15) ?_; refine Cmp.pu HT_ 19 36 (Cmp.bm 20 14) ?_; refine Cmp.pu HT_ 20 37 (Cmp.bm 21 13) ?_; refine Cmp.pu HT_ 22 39 (Cmp.bb 34 6291455) ?_; refine Cmp.pu HT_ 23 40 (Cmp.bb 34 14680063) ?_; refine Cmp.pu HT_ 26 43 (Cmp.bb 34 81788927) ?_; refine Cmp.pu HT_ 28 45 (Cmp.bb 34 350224383) ?_; refine Cmp.tk HT_ HW_ hHeld 21 38 (Cmp.bb 34 352321535) ?_; refine Cmp.pu HT_ 24 41 (Cmp.bb 34 369098751) ?_; refine Cmp.tk HT_ HW_ hHeld 25 42 (Cmp.bb 34 402653183) ?_; refine Cmp.tk HT_ HW_ hHeld 27 44 (Cmp.bm 29 5) ?_; refine Cmp.tk HT_ HW_ hHeld 29 46 (Cmp.bm 30 4) ?_
            refine one_ (i := 30) (N := some 47) (Cmp.bm 31 3) rfl rfl (one_of HT_.out (by kernel_rfl)) (by decide) (fun K hK => ?_)
            refine goes_ Try.func61 (by kernel_rfl) rfl #[.agg #[.int .i64 ((rd_T64 l0_0 (ji12)).f0), .int .i64 ((rd_T64 l0_0 (ji12)).f1), .int .i64 ((rd_T64 l0_0 (ji12)).f2), .bool ((rd_T64 l0_0 (ji12)).f3)], .int .i64 ((rd_T64 l0_0 x3_1).f0), .int .i64 ((rd_T64 l0_0 x3_1).f1)] (by rfl) rfl rfl (by (try simp only [List.map_toArray, List.map_cons, List.map_nil]); first | done | (simp only [hji12]; rfl) | rfl | (simp only [List.length_drop, List.length_take]; rfl)) ?_
            with_reducible refine (spec_l17Less.calls ((rd_T64 l0_0 (ji12)).f0) ((rd_T64 l0_0 (ji12)).f1) ((rd_T64 l0_0 (ji12)).f2) ((rd_T64 l0_0 (ji12)).f3) ((rd_T64 l0_0 x3_1).f0) ((rd_T64 l0_0 x3_1).f1) true _ A15.out).mono ?_
            rintro e w23 ⟨rfl, hb⟩; refine ⟨_, rfl, ?_⟩
            have n0_ := Aside0.mk (blk_below (g := gb133) (o := .cells #[.slice (some ad134) l0_0.length c0_0] 39 (0, 0)) (Cmp.b BK133.out) hb)
            have n1_ := Aside0.mk (blk_below (g := gb135) (o := .cells #[.int .i64 ((rd_T64 l0_0 x3_1).f0), .int .i64 ((rd_T64 l0_0 x3_1).f1), .int .i64 ((rd_T64 l0_0 x3_1).f2), .bool ((rd_T64 l0_0 x3_1).f3)] 64 (0, 0)) (Cmp.b BK135.out) hb)
            have n2_ := Aside0.mk (below_step (Cmp.g HB.out) hb)
            clear BK133; clear BK135; clear HB; have BK133 := n0_; have BK135 := n1_; have HB := n2_; clear n0_ n1_ n2_; (try clear hb); (try clear hb2); (try clear hk); (try clear hi)
            refine hK.out _ _ ⟨(blk_cell BK135.out 0).trans rfl, (blk_cell BK135.out 1).trans rfl, (blk_cell BK135.out 2).trans rfl, (blk_cell BK135.out 3).trans rfl, (blk_cell BK133.out 0).trans rfl, ((HB.out.cell (World.block_lt_of_cell? w _ hw139_0)).trans hw139_0), ((HB.out.cell (World.block_lt_of_cell? w _ hw139_1)).trans hw139_1), ((HB.out.cell (World.block_lt_of_cell? w _ hw139_2)).trans hw139_2), ((HB.out.cell (World.block_lt_of_cell? w _ hw139_3)).trans hw139_3)⟩ (fun hHeld => ?_)
            clear hK K
            refine norm_ (a' := ?_) ?_ ?_
            rotate_left
            ·show Act.put _ (some 47) _ = _
             simp only [Act.put, Cmp.s, Cmp.z, Cmp.c, i64_w, i32_w]; rfl
            refine Cmp.pu HT_ 31 48 (Cmp.bm 32 2) ?_; refine Cmp.pu HT_ 32 49 (Cmp.bm 33 1) ?_; refine Cmp.pu HT_ 33 50 (Cmp.bm 34 0) ?_
            refine done_ (done_of HT_.out (by kernel_rfl)) ?_
            try go_wp2
            go_roundg k1
            case measure => have := HK1.out; omega
            case rel => exact ⟨(wrap64 (x3_1 + 1)), (by first | rfl | simp | simp [*]), H', ⟨by have := HK1.out; omega⟩, ⟨by (with_reducible repeat (first | refine blk_drewN ?_ _ | refine blk_drew ?_ | refine blk_alloc ?_ _)); exact BK133.out⟩, ⟨Cmp.g HB.out⟩⟩
           ·replace c16 := Bool.eq_false_iff.mpr c16
            subst c16
            have H1 : (some false) = some r := by rw [if_neg (show ¬ (false = true) by decide)] at H; exact H
            clear H; have H := H1; clear H1
            obtain rfl := Option.some.inj H
            have hcz24_0 : wr.cell? ⟨gb133, 0, none⟩ = some (.slice A0_0 l0_0.length c0_0) := (blk_cell BK133.out 0).trans rfl
            have hfz24_0 := blk_frozen BK133.out 0
            have p134 : 0 ≤ (x3_1 : Int) := of_decide_eq_true Cmp.d
            have q134 : x3_1 < (l0_0.length : Int) := of_decide_eq_true Cmp.d
            obtain ⟨ad134, e134, hx134_0, hx134_1, hx134_2, hx134_3⟩ := at_T64 HR0_0.out x3_1 p134 q134
            cases e134
            replace hx134_0 := (HB.out.cell (World.block_lt_of_cell? w _ hx134_0)).trans hx134_0
            replace hx134_1 := (HB.out.cell (World.block_lt_of_cell? w _ hx134_1)).trans hx134_1
            replace hx134_2 := (HB.out.cell (World.block_lt_of_cell? w _ hx134_2)).trans hx134_2
            replace hx134_3 := (HB.out.cell (World.block_lt_of_cell? w _ hx134_3)).trans hx134_3
            replace p134 := eq_true p134; replace q134 := eq_true q134
            try go_wp2_with (((with_reducible refine gate_dst (N := 4) rfl ?_); refine box_event ?hg (N := 4) ?hd (cs := #[.int .i64 0, .int .i64 0, .int .i64 0, .bool false]) (t := 64) ?hr ?_; (case hd => rfl); (case hg => rfl); (case hr => first | (go_simp; done) | (go_simp; rfl)); intro gb135 hg w25 hbox hb; have n0_ := Aside0.mk (blk_below (g := gb133) (o := .cells #[.slice (some ad134) l0_0.length c0_0] 39 (0, 0)) (Cmp.b BK133.out) hb); have n1_ := Aside0.mk (below_step (Cmp.g HB.out) hb); have n2_ := Aside0.mk (hbox); have n3_ := Aside0.mk ((by rw [hg]; exact (below_size (Cmp.g HB.out)) : w.heap.size ≤ gb135)); have n4_ := Aside0.mk ((by rw [hg]; exact (below_size (Cmp.g HB.out)) : w.heap.size ≤ gb135)); have n5_ := Aside0.mk ((by rw [hg]; exact Nat.ne_of_lt (blk_lt (g := gb133) (o := .cells #[.slice (some ad134) l0_0.length c0_0] 39 (0, 0)) (Cmp.b BK133.out)) : gb133 ≠ gb135)); have n6_ := Aside0.mk ((by rw [hg]; exact Nat.ne_of_gt (blk_lt (g := gb133) (o := .cells #[.slice (some ad134) l0_0.length c0_0] 39 (0, 0)) (Cmp.b BK133.out)) : gb135 ≠ gb133)); clear BK133; clear HB; have BK133 := n0_; have HB := n1_; have BK135 := n2_; have GW135 := n3_; have GE135 := n4_; have NB133_135 := n5_; have NB135_133 := n6_; clear n0_ n1_ n2_ n3_ n4_ n5_ n6_; clear hb hbox hg; have hnb26 := NB135_133.out; have hnc26 := NB133_135.out; have hcz27_0 : w25.cell? ⟨gb135, 0, none⟩ = some (.int .i64 0) := (blk_cell BK135.out 0).trans rfl; have hcz27_1 : w25.cell? ⟨gb135, 1, none⟩ = some (.int .i64 0) := (blk_cell BK135.out 1).trans rfl; have hcz27_2 : w25.cell? ⟨gb135, 2, none⟩ = some (.int .i64 0) := (blk_cell BK135.out 2).trans rfl; have hcz27_3 : w25.cell? ⟨gb135, 3, none⟩ = some (.bool false) := (blk_cell BK135.out 3).trans rfl; have hfz27_0 := blk_frozen BK135.out 0; have hfz27_1 := blk_frozen BK135.out 1; have hfz27_2 := blk_frozen BK135.out 2; have hfz27_3 := blk_frozen BK135.out 3))
            have n0_ : Aside0 (((((w25.setCell ⟨gb135, 0, none⟩ (.int .i64 ((rd_T64 l0_0 x3_1).f0))).setCell ⟨gb135, 1, none⟩ (.int .i64 ((rd_T64 l0_0 x3_1).f1))).setCell ⟨gb135, 2, none⟩ (.int .i64 ((rd_T64 l0_0 x3_1).f2))).setCell ⟨gb135, 3, none⟩ (.bool ((rd_T64 l0_0 x3_1).f3))).heap[gb133]? = some (.cells #[.slice (some ad134) l0_0.length c0_0] 39 (0, 0))) := ⟨by (with_reducible repeat (first | refine blk_drewN ?_ _ | refine blk_drew ?_ | refine blk_alloc ?_ _)); refine blk_far ?_ NB133_135.out _; (with_reducible repeat (first | refine blk_drewN ?_ _ | refine blk_drew ?_ | refine blk_alloc ?_ _)); refine blk_far ?_ NB133_135.out _; (with_reducible repeat (first | refine blk_drewN ?_ _ | refine blk_drew ?_ | refine blk_alloc ?_ _)); refine blk_far ?_ NB133_135.out _; (with_reducible repeat (first | refine blk_drewN ?_ _ | refine blk_drew ?_ | refine blk_alloc ?_ _)); refine blk_far ?_ NB133_135.out _; (with_reducible repeat (first | refine blk_drewN ?_ _ | refine blk_drew ?_ | refine blk_alloc ?_ _)); exact BK133.out⟩
            have n1_ : Aside0 (((((w25.setCell ⟨gb135, 0, none⟩ (.int .i64 ((rd_T64 l0_0 x3_1).f0))).setCell ⟨gb135, 1, none⟩ (.int .i64 ((rd_T64 l0_0 x3_1).f1))).setCell ⟨gb135, 2, none⟩ (.int .i64 ((rd_T64 l0_0 x3_1).f2))).setCell ⟨gb135, 3, none⟩ (.bool ((rd_T64 l0_0 x3_1).f3))).heap[gb135]? = some (.cells #[.int .i64 ((rd_T64 l0_0 x3_1).f0), .int .i64 ((rd_T64 l0_0 x3_1).f1), .int .i64 ((rd_T64 l0_0 x3_1).f2), .bool ((rd_T64 l0_0 x3_1).f3)] 64 (0, 0))) := ⟨by (with_reducible repeat (first | refine blk_drewN ?_ _ | refine blk_drew ?_ | refine blk_alloc ?_ _)); refine blk_put (cs := #[.int .i64 ((rd_T64 l0_0 x3_1).f0), .int .i64 ((rd_T64 l0_0 x3_1).f1), .int .i64 ((rd_T64 l0_0 x3_1).f2), .bool false]) ?_ 3 _ rfl; (with_reducible repeat (first | refine blk_drewN ?_ _ | refine blk_drew ?_ | refine blk_alloc ?_ _)); refine blk_put (cs := #[.int .i64 ((rd_T64 l0_0 x3_1).f0), .int .i64 ((rd_T64 l0_0 x3_1).f1), .int .i64 0, .bool false]) ?_ 2 _ rfl; (with_reducible repeat (first | refine blk_drewN ?_ _ | refine blk_drew ?_ | refine blk_alloc ?_ _)); refine blk_put (cs := #[.int .i64 ((rd_T64 l0_0 x3_1).f0), .int .i64 0, .int .i64 0, .bool false]) ?_ 1 _ rfl; (with_reducible repeat (first | refine blk_drewN ?_ _ | refine blk_drew ?_ | refine blk_alloc ?_ _)); refine blk_put (cs := #[.int .i64 0, .int .i64 0, .int .i64 0, .bool false]) ?_ 0 _ rfl; (with_reducible repeat (first | refine blk_drewN ?_ _ | refine blk_drew ?_ | refine blk_alloc ?_ _)); exact BK135.out⟩
            have n2_ : Aside0 (Below w.heap.size w ((((w25.setCell ⟨gb135, 0, none⟩ (.int .i64 ((rd_T64 l0_0 x3_1).f0))).setCell ⟨gb135, 1, none⟩ (.int .i64 ((rd_T64 l0_0 x3_1).f1))).setCell ⟨gb135, 2, none⟩ (.int .i64 ((rd_T64 l0_0 x3_1).f2))).setCell ⟨gb135, 3, none⟩ (.bool ((rd_T64 l0_0 x3_1).f3)))) := ⟨Cmp.g HB.out⟩
            (try clear BK133); (try clear BK135); (try clear HB)
            generalize ((((w25.setCell ⟨gb135, 0, none⟩ (.int .i64 ((rd_T64 l0_0 x3_1).f0))).setCell ⟨gb135, 1, none⟩ (.int .i64 ((rd_T64 l0_0 x3_1).f1))).setCell ⟨gb135, 2, none⟩ (.int .i64 ((rd_T64 l0_0 x3_1).f2))).setCell ⟨gb135, 3, none⟩ (.bool ((rd_T64 l0_0 x3_1).f3))) = w28 at n0_ n1_ n2_ ⊢
            have BK133 := n0_; have BK135 := n1_; have HB := n2_; clear n0_ n1_ n2_; have n0_ := Aside0.mk (blk_drew BK133.out); have n1_ := Aside0.mk (blk_drew BK135.out); have n2_ := Aside0.mk (below_drew1 HB.out); clear BK133; clear BK135; clear HB; have BK133 := n0_; have BK135 := n1_; have HB := n2_; clear n0_ n1_ n2_
            have p139 : 0 ≤ ((ji12) : Int) := of_decide_eq_true Cmp.d
            have q139 : (ji12) < (l0_0.length : Int) := of_decide_eq_true Cmp.d
            obtain ⟨ad139, e139, hx139_0, hx139_1, hx139_2, hx139_3⟩ := at_T64 HR0_0.out (ji12) p139 q139
            have hw139_3 := hx139_3; have hw139_2 := hx139_2; have hw139_1 := hx139_1; have hw139_0 := hx139_0
            obtain rfl : ad134 = ad139 := (by injection e139)
            replace hx139_0 := (HB.out.cell (World.block_lt_of_cell? w _ hx139_0)).trans hx139_0
            replace hx139_1 := (HB.out.cell (World.block_lt_of_cell? w _ hx139_1)).trans hx139_1
            replace hx139_2 := (HB.out.cell (World.block_lt_of_cell? w _ hx139_2)).trans hx139_2
            replace hx139_3 := (HB.out.cell (World.block_lt_of_cell? w _ hx139_3)).trans hx139_3
            replace p139 := eq_true p139; replace q139 := eq_true q139
            refine start_ (n := 34) (S := fun w' => w'.cell? ⟨gb135, 0, none⟩ = some (.int .i64 ((rd_T64 l0_0 x3_1).f0)) ∧ w'.cell? ⟨gb135, 1, none⟩ = some (.int .i64 ((rd_T64 l0_0 x3_1).f1)) ∧ w'.cell? ⟨gb135, 2, none⟩ = some (.int .i64 ((rd_T64 l0_0 x3_1).f2)) ∧ w'.cell? ⟨gb135, 3, none⟩ = some (.bool ((rd_T64 l0_0 x3_1).f3)) ∧ w'.cell? ⟨gb133, 0, none⟩ = some (.slice (some ad134) l0_0.length c0_0) ∧ w'.cell? (ad134.add (((ji12)).toNat * 4)) = some (.int .i64 ((rd_T64 l0_0 (ji12)).f0)) ∧ w'.cell? ⟨(ad134.add (((ji12)).toNat * 4)).block, (ad134.add (((ji12)).toNat * 4)).off + 1, none⟩ = some (.int .i64 ((rd_T64 l0_0 (ji12)).f1)) ∧ w'.cell? ⟨(ad134.add (((ji12)).toNat * 4)).block, (ad134.add (((ji12)).toNat * 4)).off + 2, none⟩ = some (.int .i64 ((rd_T64 l0_0 (ji12)).f2)) ∧ w'.cell? ⟨(ad134.add (((ji12)).toNat * 4)).block, (ad134.add (((ji12)).toNat * 4)).off + 3, none⟩ = some (.bool ((rd_T64 l0_0 (ji12)).f3))) (ds := []) (Cmp.bm 0 34) (by kernel_rfl) rfl rfl ⟨(blk_cell BK135.out 0).trans rfl, (blk_cell BK135.out 1).trans rfl, (blk_cell BK135.out 2).trans rfl, (blk_cell BK135.out 3).trans rfl, (blk_cell BK133.out 0).trans rfl, ((HB.out.cell (World.block_lt_of_cell? w _ hw139_0)).trans hw139_0), ((HB.out.cell (World.block_lt_of_cell? w _ hw139_1)).trans hw139_1), ((HB.out.cell (World.block_lt_of_cell? w _ hw139_2)).trans hw139_2), ((HB.out.cell (World.block_lt_of_cell? w _ hw139_3)).trans hw139_3)⟩ (fun hHeld => ?_); refine with_tabW spec_IsBundle.tab5 spec_IsBundle.bits5 (fun HT_ HW_ => ?_)
            generalize w28.drew = w29 at BK133 BK135 HB hx139_0 hx139_1 hx139_2 hx139_3 hHeld ⊢
            refine Cmp.pu HT_ 0 17 (Cmp.bm 1 33) ?_; refine Cmp.tk HT_ HW_ hHeld 1 18 (Cmp.bm 2 32) ?_
            refine one_ (i := 2) (N := some 19) (Cmp.bm 3 31) rfl rfl (one_of HT_.out (by kernel_rfl)) (by decide) (fun K hK => ?_)
            refine goes_ Try.func34 (by kernel_rfl) rfl #[.int .i64 ((rd_T64 l0_0 x3_1).f0), .int .i64 0, .int .i64 2147483646] (by rfl) rfl rfl Cmp.q ?_
            with_reducible refine (spec_l1In.calls ((rd_T64 l0_0 x3_1).f0) 0 2147483646 true _ A5.out).mono ?_
            rintro e w' ⟨rfl, ⟨nd, rfl⟩⟩; refine ⟨_, rfl, ?_⟩
            refine hK.out _ _ ⟨(blk_cell BK135.out 0).trans rfl, (blk_cell BK135.out 1).trans rfl, (blk_cell BK135.out 2).trans rfl, (blk_cell BK135.out 3).trans rfl, (blk_cell BK133.out 0).trans rfl, ((HB.out.cell (World.block_lt_of_cell? w _ hw139_0)).trans hw139_0), ((HB.out.cell (World.block_lt_of_cell? w _ hw139_1)).trans hw139_1), ((HB.out.cell (World.block_lt_of_cell? w _ hw139_2)).trans hw139_2), ((HB.out.cell (World.block_lt_of_cell? w _ hw139_3)).trans hw139_3)⟩ (fun hHeld => ?_)
            clear hK K
            refine norm_ (a' := ?_) ?_ ?_
            rotate_left
            ·show Act.put _ (some 19) _ = _
             simp only [Act.put, Cmp.s, Cmp.z, Cmp.c, i64_w, i32_w]; rfl
            refine Cmp.pu HT_ 3 20 (Cmp.bm 4 30) ?_; refine Cmp.pu HT_ 4 21 (Cmp.bm 5 29) ?_; refine Cmp.pu HT_ 5 22 (Cmp.bm 6 28) ?_; refine Cmp.tk HT_ HW_ hHeld 6 23 (Cmp.bm 7 27) ?_
            refine one_ (i := 7) (N := some 24) (Cmp.bm 8 26) rfl rfl (one_of HT_.out (by kernel_rfl)) (by decide) (fun K hK => ?_)
            refine goes_ Try.func34 (by kernel_rfl) rfl #[.int .i64 ((rd_T64 l0_0 x3_1).f1), .int .i64 0, .int .i64 1000000] (by rfl) rfl rfl Cmp.q ?_
            with_reducible refine (spec_l1In.calls ((rd_T64 l0_0 x3_1).f1) 0 1000000 true _ A7.out).mono ?_
            rintro e w' ⟨rfl, ⟨nd, rfl⟩⟩; refine ⟨_, rfl, ?_⟩
            refine hK.out _ _ ⟨(blk_cell BK135.out 0).trans rfl, (blk_cell BK135.out 1).trans rfl, (blk_cell BK135.out 2).trans rfl, (blk_cell BK135.out 3).trans rfl, (blk_cell BK133.out 0).trans rfl, ((HB.out.cell (World.block_lt_of_cell? w _ hw139_0)).trans hw139_0), ((HB.out.cell (World.block_lt_of_cell? w _ hw139_1)).trans hw139_1), ((HB.out.cell (World.block_lt_of_cell? w _ hw139_2)).trans hw139_2), ((HB.out.cell (World.block_lt_of_cell? w _ hw139_3)).trans hw139_3)⟩ (fun hHeld => ?_)
            clear hK K
            refine norm_ (a' := ?_) ?_ ?_
            rotate_left
            ·show Act.put _ (some 24) _ = _
             simp only [Act.put, Cmp.s, Cmp.z, Cmp.c, i64_w, i32_w]; rfl
            refine Cmp.pu HT_ 8 25 (Cmp.bm 9 25) ?_; refine Cmp.pu HT_ 9 26 (Cmp.bm 10 24) ?_; refine Cmp.pu HT_ 10 27 (Cmp.bm 11 23) ?_; refine Cmp.pu HT_ 11 28 (Cmp.bm 12 22) ?_; refine Cmp.tk HT_ HW_ hHeld 12 29 (Cmp.bm 13 21) ?_
            refine one_ (i := 13) (N := some 30) (Cmp.bm 14 20) rfl rfl (one_of HT_.out (by kernel_rfl)) (by decide) (fun K hK => ?_)
            refine goes_ Try.func34 (by kernel_rfl) rfl #[.int .i64 ((rd_T64 l0_0 x3_1).f2), .int .i64 1, .int .i64 1000000] (by rfl) rfl rfl Cmp.q ?_
            with_reducible refine (spec_l1In.calls ((rd_T64 l0_0 x3_1).f2) 1 1000000 true _ A9.out).mono ?_
            rintro e w' ⟨rfl, ⟨nd, rfl⟩⟩; refine ⟨_, rfl, ?_⟩
            refine hK.out _ _ ⟨(blk_cell BK135.out 0).trans rfl, (blk_cell BK135.out 1).trans rfl, (blk_cell BK135.out 2).trans rfl, (blk_cell BK135.out 3).trans rfl, (blk_cell BK133.out 0).trans rfl, ((HB.out.cell (World.block_lt_of_cell? w _ hw139_0)).trans hw139_0), ((HB.out.cell (World.block_lt_of_cell? w _ hw139_1)).trans hw139_1), ((HB.out.cell (World.block_lt_of_cell? w _ hw139_2)).trans hw139_2), ((HB.out.cell (World.block_lt_of_cell? w _ hw139_3)).trans hw139_3)⟩ (fun hHeld => ?_)
            clear hK K
            refine norm_ (a' := ?_) ?_ ?_
            rotate_left
            ·show Act.put _ (some 30) _ = _
             simp only [Act.put, Cmp.s, Cmp.z, Cmp.c, i64_w, i32_w]; rfl
            refine Cmp.pu HT_ 14 31 (Cmp.bm 15 19) ?_; refine Cmp.pu HT_ 15 32 (Cmp.bm 16 18) ?_; refine Cmp.pu HT_ 16 33 (Cmp.bm 17 17) ?_; refine Cmp.pu HT_ 17 34 (Cmp.bm 18 16) ?_; refine Cmp.pu HT_ 18 35 (Cmp.bm 19 15) ?_; refine Cmp.pu HT_ 19 36 (Cmp.bm 20 14) ?_; refine Cmp.pu HT_ 20 37 (Cmp.bm 21 13) ?_; refine Cmp.pu HT_ 22 39 (Cmp.bb 34 6291455) ?_; refine Cmp.pu HT_ 23 40 (Cmp.bb 34 14680063) ?_; refine Cmp.pu HT_ 26 43 (Cmp.bb 34 81788927) ?_; refine Cmp.pu HT_ 28 45 (Cmp.bb 34 350224383) ?_; refine Cmp.tk HT_ HW_ hHeld 21 38 (Cmp.bb 34 352321535) ?_; refine Cmp.pu HT_ 24 41 (Cmp.bb 34 369098751) ?_; refine Cmp.tk HT_ HW_ hHeld 25 42 (Cmp.bb 34 402653183) ?_; refine Cmp.tk HT_ HW_ hHeld 27 44 (Cmp.bm 29 5) ?_; refine Cmp.tk HT_ HW_ hHeld 29 46 (Cmp.bm 30 4) ?_
            refine one_ (i := 30) (N := some 47) (Cmp.bm 31 3) rfl rfl (one_of HT_.out (by kernel_rfl)) (by decide) (fun K hK => ?_)
            refine goes_ Try.func61 (by kernel_rfl) rfl #[.agg #[.int .i64 ((rd_T64 l0_0 (ji12)).f0), .int .i64 ((rd_T64 l0_0 (ji12)).f1), .int .i64 ((rd_T64 l0_0 (ji12)).f2), .bool ((rd_T64 l0_0 (ji12)).f3)], .int .i64 ((rd_T64 l0_0 x3_1).f0), .int .i64 ((rd_T64 l0_0 x3_1).f1)] (by rfl) rfl rfl (by (try simp only [List.map_toArray, List.map_cons, List.map_nil]); first | done | (simp only [hji12]; rfl) | rfl | (simp only [List.length_drop, List.length_take]; rfl)) ?_
            with_reducible refine (spec_l17Less.calls ((rd_T64 l0_0 (ji12)).f0) ((rd_T64 l0_0 (ji12)).f1) ((rd_T64 l0_0 (ji12)).f2) ((rd_T64 l0_0 (ji12)).f3) ((rd_T64 l0_0 x3_1).f0) ((rd_T64 l0_0 x3_1).f1) false _ A15.out).mono ?_
            rintro e w30 ⟨rfl, hb⟩; refine ⟨_, rfl, ?_⟩
            have n0_ := Aside0.mk (blk_below (g := gb133) (o := .cells #[.slice (some ad134) l0_0.length c0_0] 39 (0, 0)) (Cmp.b BK133.out) hb)
            have n1_ := Aside0.mk (blk_below (g := gb135) (o := .cells #[.int .i64 ((rd_T64 l0_0 x3_1).f0), .int .i64 ((rd_T64 l0_0 x3_1).f1), .int .i64 ((rd_T64 l0_0 x3_1).f2), .bool ((rd_T64 l0_0 x3_1).f3)] 64 (0, 0)) (Cmp.b BK135.out) hb)
            have n2_ := Aside0.mk (below_step (Cmp.g HB.out) hb)
            clear BK133; clear BK135; clear HB; have BK133 := n0_; have BK135 := n1_; have HB := n2_; clear n0_ n1_ n2_; (try clear hb); (try clear hb2); (try clear hk); (try clear hi)
            refine hK.out _ _ ⟨(blk_cell BK135.out 0).trans rfl, (blk_cell BK135.out 1).trans rfl, (blk_cell BK135.out 2).trans rfl, (blk_cell BK135.out 3).trans rfl, (blk_cell BK133.out 0).trans rfl, ((HB.out.cell (World.block_lt_of_cell? w _ hw139_0)).trans hw139_0), ((HB.out.cell (World.block_lt_of_cell? w _ hw139_1)).trans hw139_1), ((HB.out.cell (World.block_lt_of_cell? w _ hw139_2)).trans hw139_2), ((HB.out.cell (World.block_lt_of_cell? w _ hw139_3)).trans hw139_3)⟩ (fun hHeld => ?_)
            clear hK K
            refine norm_ (a' := ?_) ?_ ?_
            rotate_left
            ·show Act.put _ (some 47) _ = _
             simp only [Act.put, Cmp.s, Cmp.z, Cmp.c, i64_w, i32_w]; rfl
            refine Cmp.pu HT_ 31 48 (Cmp.bm 32 2) ?_; refine Cmp.pu HT_ 32 49 (Cmp.bm 33 1) ?_; refine Cmp.pu HT_ 33 50 (Cmp.bm 34 0) ?_
            refine done_ (done_of HT_.out (by kernel_rfl)) ?_
            try go_wp2
            go_ret
            exact ⟨by first | rfl | (simp [errW_none, errW_some] <;> rfl) | (simp only [← hji12]; first | rfl | (simp [errW_none, errW_some] <;> rfl)) | (simp [*, errW_none, errW_some] <;> rfl), Cmp.g HB.out⟩
          ·rw [if_neg c14] at H; exact absurd H (by simp)
         ·rw [if_neg c13] at H; exact absurd H (by simp)
        ·rw [if_neg c11] at H; have c11b0 : decide (0 < x3_1) = false := decide_eq_false c11; clear c11
         have H' := Aside0.mk H
         clear H
         have hcz31_0 : wr.cell? ⟨gb133, 0, none⟩ = some (.slice A0_0 l0_0.length c0_0) := (blk_cell BK133.out 0).trans rfl
         have hfz31_0 := blk_frozen BK133.out 0
         have p134 : 0 ≤ (x3_1 : Int) := of_decide_eq_true Cmp.d
         have q134 : x3_1 < (l0_0.length : Int) := of_decide_eq_true Cmp.d
         obtain ⟨ad134, e134, hx134_0, hx134_1, hx134_2, hx134_3⟩ := at_T64 HR0_0.out x3_1 p134 q134
         cases e134
         replace hx134_0 := (HB.out.cell (World.block_lt_of_cell? w _ hx134_0)).trans hx134_0
         replace hx134_1 := (HB.out.cell (World.block_lt_of_cell? w _ hx134_1)).trans hx134_1
         replace hx134_2 := (HB.out.cell (World.block_lt_of_cell? w _ hx134_2)).trans hx134_2
         replace hx134_3 := (HB.out.cell (World.block_lt_of_cell? w _ hx134_3)).trans hx134_3
         replace p134 := eq_true p134; replace q134 := eq_true q134
         try go_wp2_with (((with_reducible refine gate_dst (N := 4) rfl ?_); refine box_event ?hg (N := 4) ?hd (cs := #[.int .i64 0, .int .i64 0, .int .i64 0, .bool false]) (t := 64) ?hr ?_; (case hd => rfl); (case hg => rfl); (case hr => first | (go_simp; done) | (go_simp; rfl)); intro gb135 hg w32 hbox hb; have n0_ := Aside0.mk (blk_below (g := gb133) (o := .cells #[.slice (some ad134) l0_0.length c0_0] 39 (0, 0)) (Cmp.b BK133.out) hb); have n1_ := Aside0.mk (below_step (Cmp.g HB.out) hb); have n2_ := Aside0.mk (hbox); have n3_ := Aside0.mk ((by rw [hg]; exact (below_size (Cmp.g HB.out)) : w.heap.size ≤ gb135)); have n4_ := Aside0.mk ((by rw [hg]; exact (below_size (Cmp.g HB.out)) : w.heap.size ≤ gb135)); have n5_ := Aside0.mk ((by rw [hg]; exact Nat.ne_of_lt (blk_lt (g := gb133) (o := .cells #[.slice (some ad134) l0_0.length c0_0] 39 (0, 0)) (Cmp.b BK133.out)) : gb133 ≠ gb135)); have n6_ := Aside0.mk ((by rw [hg]; exact Nat.ne_of_gt (blk_lt (g := gb133) (o := .cells #[.slice (some ad134) l0_0.length c0_0] 39 (0, 0)) (Cmp.b BK133.out)) : gb135 ≠ gb133)); clear BK133; clear HB; have BK133 := n0_; have HB := n1_; have BK135 := n2_; have GW135 := n3_; have GE135 := n4_; have NB133_135 := n5_; have NB135_133 := n6_; clear n0_ n1_ n2_ n3_ n4_ n5_ n6_; clear hb hbox hg; have hnb33 := NB135_133.out; have hnc33 := NB133_135.out; have hcz34_0 : w32.cell? ⟨gb135, 0, none⟩ = some (.int .i64 0) := (blk_cell BK135.out 0).trans rfl; have hcz34_1 : w32.cell? ⟨gb135, 1, none⟩ = some (.int .i64 0) := (blk_cell BK135.out 1).trans rfl; have hcz34_2 : w32.cell? ⟨gb135, 2, none⟩ = some (.int .i64 0) := (blk_cell BK135.out 2).trans rfl; have hcz34_3 : w32.cell? ⟨gb135, 3, none⟩ = some (.bool false) := (blk_cell BK135.out 3).trans rfl; have hfz34_0 := blk_frozen BK135.out 0; have hfz34_1 := blk_frozen BK135.out 1; have hfz34_2 := blk_frozen BK135.out 2; have hfz34_3 := blk_frozen BK135.out 3))
         have n0_ : Aside0 (((((w32.setCell ⟨gb135, 0, none⟩ (.int .i64 ((rd_T64 l0_0 x3_1).f0))).setCell ⟨gb135, 1, none⟩ (.int .i64 ((rd_T64 l0_0 x3_1).f1))).setCell ⟨gb135, 2, none⟩ (.int .i64 ((rd_T64 l0_0 x3_1).f2))).setCell ⟨gb135, 3, none⟩ (.bool ((rd_T64 l0_0 x3_1).f3))).heap[gb133]? = some (.cells #[.slice (some ad134) l0_0.length c0_0] 39 (0, 0))) := ⟨by (with_reducible repeat (first | refine blk_drewN ?_ _ | refine blk_drew ?_ | refine blk_alloc ?_ _)); refine blk_far ?_ NB133_135.out _; (with_reducible repeat (first | refine blk_drewN ?_ _ | refine blk_drew ?_ | refine blk_alloc ?_ _)); refine blk_far ?_ NB133_135.out _; (with_reducible repeat (first | refine blk_drewN ?_ _ | refine blk_drew ?_ | refine blk_alloc ?_ _)); refine blk_far ?_ NB133_135.out _; (with_reducible repeat (first | refine blk_drewN ?_ _ | refine blk_drew ?_ | refine blk_alloc ?_ _)); refine blk_far ?_ NB133_135.out _; (with_reducible repeat (first | refine blk_drewN ?_ _ | refine blk_drew ?_ | refine blk_alloc ?_ _)); exact BK133.out⟩
         have n1_ : Aside0 (((((w32.setCell ⟨gb135, 0, none⟩ (.int .i64 ((rd_T64 l0_0 x3_1).f0))).setCell ⟨gb135, 1, none⟩ (.int .i64 ((rd_T64 l0_0 x3_1).f1))).setCell ⟨gb135, 2, none⟩ (.int .i64 ((rd_T64 l0_0 x3_1).f2))).setCell ⟨gb135, 3, none⟩ (.bool ((rd_T64 l0_0 x3_1).f3))).heap[gb135]? = some (.cells #[.int .i64 ((rd_T64 l0_0 x3_1).f0), .int .i64 ((rd_T64 l0_0 x3_1).f1), .int .i64 ((rd_T64 l0_0 x3_1).f2), .bool ((rd_T64 l0_0 x3_1).f3)] 64 (0, 0))) := ⟨by (with_reducible repeat (first | refine blk_drewN ?_ _ | refine blk_drew ?_ | refine blk_alloc ?_ _)); refine blk_put (cs := #[.int .i64 ((rd_T64 l0_0 x3_1).f0), .int .i64 ((rd_T64 l0_0 x3_1).f1), .int .i64 ((rd_T64 l0_0 x3_1).f2), .bool false]) ?_ 3 _ rfl; (with_reducible repeat (first | refine blk_drewN ?_ _ | refine blk_drew ?_ | refine blk_alloc ?_ _)); refine blk_put (cs := #[.int .i64 ((rd_T64 l0_0 x3_1).f0), .int .i64 ((rd_T64 l0_0 x3_1).f1), .int .i64 0, .bool false]) ?_ 2 _ rfl; (with_reducible repeat (first | refine blk_drewN ?_ _ | refine blk_drew ?_ | refine blk_alloc ?_ _)); refine blk_put (cs := #[.int .i64 ((rd_T64 l0_0 x3_1).f0), .int .i64 0, .int .i64 0, .bool false]) ?_ 1 _ rfl; (with_reducible repeat (first | refine blk_drewN ?_ _ | refine blk_drew ?_ | refine blk_alloc ?_ _)); refine blk_put (cs := #[.int .i64 0, .int .i64 0, .int .i64 0, .bool false]) ?_ 0 _ rfl; (with_reducible repeat (first | refine blk_drewN ?_ _ | refine blk_drew ?_ | refine blk_alloc ?_ _)); exact BK135.out⟩
         have n2_ : Aside0 (Below w.heap.size w ((((w32.setCell ⟨gb135, 0, none⟩ (.int .i64 ((rd_T64 l0_0 x3_1).f0))).setCell ⟨gb135, 1, none⟩ (.int .i64 ((rd_T64 l0_0 x3_1).f1))).setCell ⟨gb135, 2, none⟩ (.int .i64 ((rd_T64 l0_0 x3_1).f2))).setCell ⟨gb135, 3, none⟩ (.bool ((rd_T64 l0_0 x3_1).f3)))) := ⟨Cmp.g HB.out⟩
         (try clear BK133); (try clear BK135); (try clear HB)
         generalize ((((w32.setCell ⟨gb135, 0, none⟩ (.int .i64 ((rd_T64 l0_0 x3_1).f0))).setCell ⟨gb135, 1, none⟩ (.int .i64 ((rd_T64 l0_0 x3_1).f1))).setCell ⟨gb135, 2, none⟩ (.int .i64 ((rd_T64 l0_0 x3_1).f2))).setCell ⟨gb135, 3, none⟩ (.bool ((rd_T64 l0_0 x3_1).f3))) = w35 at n0_ n1_ n2_ ⊢
         have BK133 := n0_; have BK135 := n1_; have HB := n2_; clear n0_ n1_ n2_; have n0_ := Aside0.mk (blk_drew BK133.out); have n1_ := Aside0.mk (blk_drew BK135.out); have n2_ := Aside0.mk (below_drew1 HB.out); clear BK133; clear BK135; clear HB; have BK133 := n0_; have BK135 := n1_; have HB := n2_; clear n0_ n1_ n2_
         refine start_ (n := 34) (S := fun w' => w'.cell? ⟨gb135, 0, none⟩ = some (.int .i64 ((rd_T64 l0_0 x3_1).f0)) ∧ w'.cell? ⟨gb135, 1, none⟩ = some (.int .i64 ((rd_T64 l0_0 x3_1).f1)) ∧ w'.cell? ⟨gb135, 2, none⟩ = some (.int .i64 ((rd_T64 l0_0 x3_1).f2)) ∧ w'.cell? ⟨gb135, 3, none⟩ = some (.bool ((rd_T64 l0_0 x3_1).f3))) (ds := []) (Cmp.bm 0 34) (by kernel_rfl) rfl rfl ⟨(blk_cell BK135.out 0).trans rfl, (blk_cell BK135.out 1).trans rfl, (blk_cell BK135.out 2).trans rfl, (blk_cell BK135.out 3).trans rfl⟩ (fun hHeld => ?_); refine with_tabW spec_IsBundle.tab5 spec_IsBundle.bits5 (fun HT_ HW_ => ?_)
         generalize w35.drew = w36 at BK133 BK135 HB hHeld ⊢
         refine Cmp.pu HT_ 0 17 (Cmp.bm 1 33) ?_; refine Cmp.tk HT_ HW_ hHeld 1 18 (Cmp.bm 2 32) ?_
         refine one_ (i := 2) (N := some 19) (Cmp.bm 3 31) rfl rfl (one_of HT_.out (by kernel_rfl)) (by decide) (fun K hK => ?_)
         refine goes_ Try.func34 (by kernel_rfl) rfl #[.int .i64 ((rd_T64 l0_0 x3_1).f0), .int .i64 0, .int .i64 2147483646] (by rfl) rfl rfl Cmp.q ?_
         with_reducible refine (spec_l1In.calls ((rd_T64 l0_0 x3_1).f0) 0 2147483646 true _ A5.out).mono ?_
         rintro e w' ⟨rfl, ⟨nd, rfl⟩⟩; refine ⟨_, rfl, ?_⟩
         refine hK.out _ _ ⟨(blk_cell BK135.out 0).trans rfl, (blk_cell BK135.out 1).trans rfl, (blk_cell BK135.out 2).trans rfl, (blk_cell BK135.out 3).trans rfl⟩ (fun hHeld => ?_)
         clear hK K
         refine norm_ (a' := ?_) ?_ ?_
         rotate_left
         ·show Act.put _ (some 19) _ = _
          simp only [Act.put, Cmp.s, Cmp.z, Cmp.c, i64_w, i32_w]; rfl
         refine Cmp.pu HT_ 3 20 (Cmp.bm 4 30) ?_; refine Cmp.pu HT_ 4 21 (Cmp.bm 5 29) ?_; refine Cmp.pu HT_ 5 22 (Cmp.bm 6 28) ?_; refine Cmp.tk HT_ HW_ hHeld 6 23 (Cmp.bm 7 27) ?_
         refine one_ (i := 7) (N := some 24) (Cmp.bm 8 26) rfl rfl (one_of HT_.out (by kernel_rfl)) (by decide) (fun K hK => ?_)
         refine goes_ Try.func34 (by kernel_rfl) rfl #[.int .i64 ((rd_T64 l0_0 x3_1).f1), .int .i64 0, .int .i64 1000000] (by rfl) rfl rfl Cmp.q ?_
         with_reducible refine (spec_l1In.calls ((rd_T64 l0_0 x3_1).f1) 0 1000000 true _ A7.out).mono ?_
         rintro e w' ⟨rfl, ⟨nd, rfl⟩⟩; refine ⟨_, rfl, ?_⟩
         refine hK.out _ _ ⟨(blk_cell BK135.out 0).trans rfl, (blk_cell BK135.out 1).trans rfl, (blk_cell BK135.out 2).trans rfl, (blk_cell BK135.out 3).trans rfl⟩ (fun hHeld => ?_)
         clear hK K
         refine norm_ (a' := ?_) ?_ ?_
         rotate_left
         ·show Act.put _ (some 24) _ = _
          simp only [Act.put, Cmp.s, Cmp.z, Cmp.c, i64_w, i32_w]; rfl
         refine Cmp.pu HT_ 8 25 (Cmp.bm 9 25) ?_; refine Cmp.pu HT_ 9 26 (Cmp.bm 10 24) ?_; refine Cmp.pu HT_ 10 27 (Cmp.bm 11 23) ?_; refine Cmp.pu HT_ 11 28 (Cmp.bm 12 22) ?_; refine Cmp.tk HT_ HW_ hHeld 12 29 (Cmp.bm 13 21) ?_
         refine one_ (i := 13) (N := some 30) (Cmp.bm 14 20) rfl rfl (one_of HT_.out (by kernel_rfl)) (by decide) (fun K hK => ?_)
         refine goes_ Try.func34 (by kernel_rfl) rfl #[.int .i64 ((rd_T64 l0_0 x3_1).f2), .int .i64 1, .int .i64 1000000] (by rfl) rfl rfl Cmp.q ?_
         with_reducible refine (spec_l1In.calls ((rd_T64 l0_0 x3_1).f2) 1 1000000 true _ A9.out).mono ?_
         rintro e w' ⟨rfl, ⟨nd, rfl⟩⟩; refine ⟨_, rfl, ?_⟩
         refine hK.out _ _ ⟨(blk_cell BK135.out 0).trans rfl, (blk_cell BK135.out 1).trans rfl, (blk_cell BK135.out 2).trans rfl, (blk_cell BK135.out 3).trans rfl⟩ (fun hHeld => ?_)
         clear hK K
         refine norm_ (a' := ?_) ?_ ?_
         rotate_left
         ·show Act.put _ (some 30) _ = _
          simp only [Act.put, Cmp.s, Cmp.z, Cmp.c, i64_w, i32_w]; rfl
         refine Cmp.pu HT_ 14 31 (Cmp.bm 15 19) ?_; refine Cmp.pu HT_ 15 32 (Cmp.bm 16 18) ?_; refine Cmp.pu HT_ 16 33 (Cmp.bm 17 17) ?_; refine Cmp.pu HT_ 17 34 (Cmp.bm 18 16) ?_; refine Cmp.pu HT_ 18 35 (Cmp.bm 19 15) ?_; refine Cmp.pu HT_ 19 36 (Cmp.bm 20 14) ?_; refine Cmp.pv HT_ 20 37 (Cmp.bm 21 13) ?_; refine Cmp.pv HT_ 21 38 (Cmp.bm 22 12) ?_; refine Cmp.pv HT_ 22 39 (Cmp.bm 23 11) ?_; refine Cmp.pv HT_ 23 40 (Cmp.bm 24 10) ?_; refine Cmp.pv HT_ 24 41 (Cmp.bm 25 9) ?_; refine Cmp.pv HT_ 25 42 (Cmp.bm 26 8) ?_; refine Cmp.pv HT_ 26 43 (Cmp.bm 27 7) ?_; refine Cmp.pv HT_ 27 44 (Cmp.bm 28 6) ?_; refine Cmp.pv HT_ 28 45 (Cmp.bm 29 5) ?_; refine Cmp.pv HT_ 29 46 (Cmp.bm 30 4) ?_; refine Cmp.pv HT_ 30 47 (Cmp.bm 31 3) ?_; refine Cmp.pv HT_ 31 48 (Cmp.bm 32 2) ?_; refine Cmp.pu HT_ 32 49 (Cmp.bm 33 1) ?_; refine Cmp.pu HT_ 33 50 (Cmp.bm 34 0) ?_
         refine done_ (done_of HT_.out (by kernel_rfl)) ?_
         try go_wp2
         go_roundg k1
         case measure => have := HK1.out; omega
         case rel => exact ⟨(wrap64 (x3_1 + 1)), (by first | rfl | simp | simp [*]), H', ⟨by have := HK1.out; omega⟩, ⟨by (with_reducible repeat (first | refine blk_drewN ?_ _ | refine blk_drew ?_ | refine blk_alloc ?_ _)); exact BK133.out⟩, ⟨Cmp.g HB.out⟩⟩
       ·replace c10 := Bool.eq_false_iff.mpr c10
        subst c10
        have H1 : (some false) = some r := by rw [if_neg (show ¬ (false = true) by decide)] at H; exact H
        clear H; have H := H1; clear H1
        obtain rfl := Option.some.inj H
        have hcz37_0 : wr.cell? ⟨gb133, 0, none⟩ = some (.slice A0_0 l0_0.length c0_0) := (blk_cell BK133.out 0).trans rfl
        have hfz37_0 := blk_frozen BK133.out 0
        have p134 : 0 ≤ (x3_1 : Int) := of_decide_eq_true Cmp.d
        have q134 : x3_1 < (l0_0.length : Int) := of_decide_eq_true Cmp.d
        obtain ⟨ad134, e134, hx134_0, hx134_1, hx134_2, hx134_3⟩ := at_T64 HR0_0.out x3_1 p134 q134
        cases e134
        replace hx134_0 := (HB.out.cell (World.block_lt_of_cell? w _ hx134_0)).trans hx134_0
        replace hx134_1 := (HB.out.cell (World.block_lt_of_cell? w _ hx134_1)).trans hx134_1
        replace hx134_2 := (HB.out.cell (World.block_lt_of_cell? w _ hx134_2)).trans hx134_2
        replace hx134_3 := (HB.out.cell (World.block_lt_of_cell? w _ hx134_3)).trans hx134_3
        replace p134 := eq_true p134; replace q134 := eq_true q134
        try go_wp2_with (((with_reducible refine gate_dst (N := 4) rfl ?_); refine box_event ?hg (N := 4) ?hd (cs := #[.int .i64 0, .int .i64 0, .int .i64 0, .bool false]) (t := 64) ?hr ?_; (case hd => rfl); (case hg => rfl); (case hr => first | (go_simp; done) | (go_simp; rfl)); intro gb135 hg w38 hbox hb; have n0_ := Aside0.mk (blk_below (g := gb133) (o := .cells #[.slice (some ad134) l0_0.length c0_0] 39 (0, 0)) (Cmp.b BK133.out) hb); have n1_ := Aside0.mk (below_step (Cmp.g HB.out) hb); have n2_ := Aside0.mk (hbox); have n3_ := Aside0.mk ((by rw [hg]; exact (below_size (Cmp.g HB.out)) : w.heap.size ≤ gb135)); have n4_ := Aside0.mk ((by rw [hg]; exact (below_size (Cmp.g HB.out)) : w.heap.size ≤ gb135)); have n5_ := Aside0.mk ((by rw [hg]; exact Nat.ne_of_lt (blk_lt (g := gb133) (o := .cells #[.slice (some ad134) l0_0.length c0_0] 39 (0, 0)) (Cmp.b BK133.out)) : gb133 ≠ gb135)); have n6_ := Aside0.mk ((by rw [hg]; exact Nat.ne_of_gt (blk_lt (g := gb133) (o := .cells #[.slice (some ad134) l0_0.length c0_0] 39 (0, 0)) (Cmp.b BK133.out)) : gb135 ≠ gb133)); clear BK133; clear HB; have BK133 := n0_; have HB := n1_; have BK135 := n2_; have GW135 := n3_; have GE135 := n4_; have NB133_135 := n5_; have NB135_133 := n6_; clear n0_ n1_ n2_ n3_ n4_ n5_ n6_; clear hb hbox hg; have hnb39 := NB135_133.out; have hnc39 := NB133_135.out; have hcz40_0 : w38.cell? ⟨gb135, 0, none⟩ = some (.int .i64 0) := (blk_cell BK135.out 0).trans rfl; have hcz40_1 : w38.cell? ⟨gb135, 1, none⟩ = some (.int .i64 0) := (blk_cell BK135.out 1).trans rfl; have hcz40_2 : w38.cell? ⟨gb135, 2, none⟩ = some (.int .i64 0) := (blk_cell BK135.out 2).trans rfl; have hcz40_3 : w38.cell? ⟨gb135, 3, none⟩ = some (.bool false) := (blk_cell BK135.out 3).trans rfl; have hfz40_0 := blk_frozen BK135.out 0; have hfz40_1 := blk_frozen BK135.out 1; have hfz40_2 := blk_frozen BK135.out 2; have hfz40_3 := blk_frozen BK135.out 3))
        have n0_ : Aside0 (((((w38.setCell ⟨gb135, 0, none⟩ (.int .i64 ((rd_T64 l0_0 x3_1).f0))).setCell ⟨gb135, 1, none⟩ (.int .i64 ((rd_T64 l0_0 x3_1).f1))).setCell ⟨gb135, 2, none⟩ (.int .i64 ((rd_T64 l0_0 x3_1).f2))).setCell ⟨gb135, 3, none⟩ (.bool ((rd_T64 l0_0 x3_1).f3))).heap[gb133]? = some (.cells #[.slice (some ad134) l0_0.length c0_0] 39 (0, 0))) := ⟨by (with_reducible repeat (first | refine blk_drewN ?_ _ | refine blk_drew ?_ | refine blk_alloc ?_ _)); refine blk_far ?_ NB133_135.out _; (with_reducible repeat (first | refine blk_drewN ?_ _ | refine blk_drew ?_ | refine blk_alloc ?_ _)); refine blk_far ?_ NB133_135.out _; (with_reducible repeat (first | refine blk_drewN ?_ _ | refine blk_drew ?_ | refine blk_alloc ?_ _)); refine blk_far ?_ NB133_135.out _; (with_reducible repeat (first | refine blk_drewN ?_ _ | refine blk_drew ?_ | refine blk_alloc ?_ _)); refine blk_far ?_ NB133_135.out _; (with_reducible repeat (first | refine blk_drewN ?_ _ | refine blk_drew ?_ | refine blk_alloc ?_ _)); exact BK133.out⟩
        have n1_ : Aside0 (((((w38.setCell ⟨gb135, 0, none⟩ (.int .i64 ((rd_T64 l0_0 x3_1).f0))).setCell ⟨gb135, 1, none⟩ (.int .i64 ((rd_T64 l0_0 x3_1).f1))).setCell ⟨gb135, 2, none⟩ (.int .i64 ((rd_T64 l0_0 x3_1).f2))).setCell ⟨gb135, 3, none⟩ (.bool ((rd_T64 l0_0 x3_1).f3))).heap[gb135]? = some (.cells #[.int .i64 ((rd_T64 l0_0 x3_1).f0), .int .i64 ((rd_T64 l0_0 x3_1).f1), .int .i64 ((rd_T64 l0_0 x3_1).f2), .bool ((rd_T64 l0_0 x3_1).f3)] 64 (0, 0))) := ⟨by (with_reducible repeat (first | refine blk_drewN ?_ _ | refine blk_drew ?_ | refine blk_alloc ?_ _)); refine blk_put (cs := #[.int .i64 ((rd_T64 l0_0 x3_1).f0), .int .i64 ((rd_T64 l0_0 x3_1).f1), .int .i64 ((rd_T64 l0_0 x3_1).f2), .bool false]) ?_ 3 _ rfl; (with_reducible repeat (first | refine blk_drewN ?_ _ | refine blk_drew ?_ | refine blk_alloc ?_ _)); refine blk_put (cs := #[.int .i64 ((rd_T64 l0_0 x3_1).f0), .int .i64 ((rd_T64 l0_0 x3_1).f1), .int .i64 0, .bool false]) ?_ 2 _ rfl; (with_reducible repeat (first | refine blk_drewN ?_ _ | refine blk_drew ?_ | refine blk_alloc ?_ _)); refine blk_put (cs := #[.int .i64 ((rd_T64 l0_0 x3_1).f0), .int .i64 0, .int .i64 0, .bool false]) ?_ 1 _ rfl; (with_reducible repeat (first | refine blk_drewN ?_ _ | refine blk_drew ?_ | refine blk_alloc ?_ _)); refine blk_put (cs := #[.int .i64 0, .int .i64 0, .int .i64 0, .bool false]) ?_ 0 _ rfl; (with_reducible repeat (first | refine blk_drewN ?_ _ | refine blk_drew ?_ | refine blk_alloc ?_ _)); exact BK135.out⟩
        have n2_ : Aside0 (Below w.heap.size w ((((w38.setCell ⟨gb135, 0, none⟩ (.int .i64 ((rd_T64 l0_0 x3_1).f0))).setCell ⟨gb135, 1, none⟩ (.int .i64 ((rd_T64 l0_0 x3_1).f1))).setCell ⟨gb135, 2, none⟩ (.int .i64 ((rd_T64 l0_0 x3_1).f2))).setCell ⟨gb135, 3, none⟩ (.bool ((rd_T64 l0_0 x3_1).f3)))) := ⟨Cmp.g HB.out⟩
        (try clear BK133); (try clear BK135); (try clear HB)
        generalize ((((w38.setCell ⟨gb135, 0, none⟩ (.int .i64 ((rd_T64 l0_0 x3_1).f0))).setCell ⟨gb135, 1, none⟩ (.int .i64 ((rd_T64 l0_0 x3_1).f1))).setCell ⟨gb135, 2, none⟩ (.int .i64 ((rd_T64 l0_0 x3_1).f2))).setCell ⟨gb135, 3, none⟩ (.bool ((rd_T64 l0_0 x3_1).f3))) = w41 at n0_ n1_ n2_ ⊢
        have BK133 := n0_; have BK135 := n1_; have HB := n2_; clear n0_ n1_ n2_; have n0_ := Aside0.mk (blk_drew BK133.out); have n1_ := Aside0.mk (blk_drew BK135.out); have n2_ := Aside0.mk (below_drew1 HB.out); clear BK133; clear BK135; clear HB; have BK133 := n0_; have BK135 := n1_; have HB := n2_; clear n0_ n1_ n2_
        refine start_ (n := 34) (S := fun w' => w'.cell? ⟨gb135, 0, none⟩ = some (.int .i64 ((rd_T64 l0_0 x3_1).f0)) ∧ w'.cell? ⟨gb135, 1, none⟩ = some (.int .i64 ((rd_T64 l0_0 x3_1).f1)) ∧ w'.cell? ⟨gb135, 2, none⟩ = some (.int .i64 ((rd_T64 l0_0 x3_1).f2)) ∧ w'.cell? ⟨gb135, 3, none⟩ = some (.bool ((rd_T64 l0_0 x3_1).f3))) (ds := []) (Cmp.bm 0 34) (by kernel_rfl) rfl rfl ⟨(blk_cell BK135.out 0).trans rfl, (blk_cell BK135.out 1).trans rfl, (blk_cell BK135.out 2).trans rfl, (blk_cell BK135.out 3).trans rfl⟩ (fun hHeld => ?_); refine with_tabW spec_IsBundle.tab5 spec_IsBundle.bits5 (fun HT_ HW_ => ?_)
        generalize w41.drew = w42 at BK133 BK135 HB hHeld ⊢
        refine Cmp.pu HT_ 0 17 (Cmp.bm 1 33) ?_; refine Cmp.tk HT_ HW_ hHeld 1 18 (Cmp.bm 2 32) ?_
        refine one_ (i := 2) (N := some 19) (Cmp.bm 3 31) rfl rfl (one_of HT_.out (by kernel_rfl)) (by decide) (fun K hK => ?_)
        refine goes_ Try.func34 (by kernel_rfl) rfl #[.int .i64 ((rd_T64 l0_0 x3_1).f0), .int .i64 0, .int .i64 2147483646] (by rfl) rfl rfl Cmp.q ?_
        with_reducible refine (spec_l1In.calls ((rd_T64 l0_0 x3_1).f0) 0 2147483646 true _ A5.out).mono ?_
        rintro e w' ⟨rfl, ⟨nd, rfl⟩⟩; refine ⟨_, rfl, ?_⟩
        refine hK.out _ _ ⟨(blk_cell BK135.out 0).trans rfl, (blk_cell BK135.out 1).trans rfl, (blk_cell BK135.out 2).trans rfl, (blk_cell BK135.out 3).trans rfl⟩ (fun hHeld => ?_)
        clear hK K
        refine norm_ (a' := ?_) ?_ ?_
        rotate_left
        ·show Act.put _ (some 19) _ = _
         simp only [Act.put, Cmp.s, Cmp.z, Cmp.c, i64_w, i32_w]; rfl
        refine Cmp.pu HT_ 3 20 (Cmp.bm 4 30) ?_; refine Cmp.pu HT_ 4 21 (Cmp.bm 5 29) ?_; refine Cmp.pu HT_ 5 22 (Cmp.bm 6 28) ?_; refine Cmp.tk HT_ HW_ hHeld 6 23 (Cmp.bm 7 27) ?_
        refine one_ (i := 7) (N := some 24) (Cmp.bm 8 26) rfl rfl (one_of HT_.out (by kernel_rfl)) (by decide) (fun K hK => ?_)
        refine goes_ Try.func34 (by kernel_rfl) rfl #[.int .i64 ((rd_T64 l0_0 x3_1).f1), .int .i64 0, .int .i64 1000000] (by rfl) rfl rfl Cmp.q ?_
        with_reducible refine (spec_l1In.calls ((rd_T64 l0_0 x3_1).f1) 0 1000000 true _ A7.out).mono ?_
        rintro e w' ⟨rfl, ⟨nd, rfl⟩⟩; refine ⟨_, rfl, ?_⟩
        refine hK.out _ _ ⟨(blk_cell BK135.out 0).trans rfl, (blk_cell BK135.out 1).trans rfl, (blk_cell BK135.out 2).trans rfl, (blk_cell BK135.out 3).trans rfl⟩ (fun hHeld => ?_)
        clear hK K
        refine norm_ (a' := ?_) ?_ ?_
        rotate_left
        ·show Act.put _ (some 24) _ = _
         simp only [Act.put, Cmp.s, Cmp.z, Cmp.c, i64_w, i32_w]; rfl
        refine Cmp.pu HT_ 8 25 (Cmp.bm 9 25) ?_; refine Cmp.pu HT_ 9 26 (Cmp.bm 10 24) ?_; refine Cmp.pu HT_ 10 27 (Cmp.bm 11 23) ?_; refine Cmp.pu HT_ 11 28 (Cmp.bm 12 22) ?_; refine Cmp.tk HT_ HW_ hHeld 12 29 (Cmp.bm 13 21) ?_
        refine one_ (i := 13) (N := some 30) (Cmp.bm 14 20) rfl rfl (one_of HT_.out (by kernel_rfl)) (by decide) (fun K hK => ?_)
        refine goes_ Try.func34 (by kernel_rfl) rfl #[.int .i64 ((rd_T64 l0_0 x3_1).f2), .int .i64 1, .int .i64 1000000] (by rfl) rfl rfl Cmp.q ?_
        with_reducible refine (spec_l1In.calls ((rd_T64 l0_0 x3_1).f2) 1 1000000 false _ A9.out).mono ?_
        rintro e w' ⟨rfl, ⟨nd, rfl⟩⟩; refine ⟨_, rfl, ?_⟩
        refine hK.out _ _ ⟨(blk_cell BK135.out 0).trans rfl, (blk_cell BK135.out 1).trans rfl, (blk_cell BK135.out 2).trans rfl, (blk_cell BK135.out 3).trans rfl⟩ (fun hHeld => ?_)
        clear hK K
        refine norm_ (a' := ?_) ?_ ?_
        rotate_left
        ·show Act.put _ (some 30) _ = _
         simp only [Act.put, Cmp.s, Cmp.z, Cmp.c, i64_w, i32_w]; rfl
        refine Cmp.pu HT_ 14 31 (Cmp.bm 15 19) ?_; refine Cmp.pu HT_ 15 32 (Cmp.bm 16 18) ?_; refine Cmp.pu HT_ 16 33 (Cmp.bm 17 17) ?_; refine Cmp.pv HT_ 17 34 (Cmp.bm 18 16) ?_; refine Cmp.pv HT_ 18 35 (Cmp.bm 19 15) ?_; refine Cmp.pv HT_ 19 36 (Cmp.bm 20 14) ?_; refine Cmp.pv HT_ 20 37 (Cmp.bm 21 13) ?_; refine Cmp.pv HT_ 21 38 (Cmp.bm 22 12) ?_; refine Cmp.pv HT_ 22 39 (Cmp.bm 23 11) ?_; refine Cmp.pv HT_ 23 40 (Cmp.bm 24 10) ?_; refine Cmp.pv HT_ 24 41 (Cmp.bm 25 9) ?_; refine Cmp.pv HT_ 25 42 (Cmp.bm 26 8) ?_; refine Cmp.pv HT_ 26 43 (Cmp.bm 27 7) ?_; refine Cmp.pv HT_ 27 44 (Cmp.bm 28 6) ?_; refine Cmp.pv HT_ 28 45 (Cmp.bm 29 5) ?_; refine Cmp.pv HT_ 29 46 (Cmp.bm 30 4) ?_; refine Cmp.pv HT_ 30 47 (Cmp.bm 31 3) ?_; refine Cmp.pv HT_ 31 48 (Cmp.bm 32 2) ?_; refine Cmp.pv HT_ 32 49 (Cmp.bm 33 1) ?_; refine Cmp.pu HT_ 33 50 (Cmp.bm 34 0) ?_
        refine done_ (done_of HT_.out (by kernel_rfl)) ?_
        try go_wp2
        go_ret
        exact ⟨by first | rfl | (simp [errW_none, errW_some] <;> rfl) | (simp [*, errW_none, errW_some] <;> rfl), Cmp.g HB.out⟩
      ·replace c8 := Bool.eq_false_iff.mpr c8
       subst c8
       have H1 : (some false) = some r := by rw [if_neg (show ¬ (false = true) by decide)] at H; exact H
       clear H; have H := H1; clear H1
       obtain rfl := Option.some.inj H
       have hcz43_0 : wr.cell? ⟨gb133, 0, none⟩ = some (.slice A0_0 l0_0.length c0_0) := (blk_cell BK133.out 0).trans rfl
       have hfz43_0 := blk_frozen BK133.out 0
       have p134 : 0 ≤ (x3_1 : Int) := of_decide_eq_true Cmp.d
       have q134 : x3_1 < (l0_0.length : Int) := of_decide_eq_true Cmp.d
       obtain ⟨ad134, e134, hx134_0, hx134_1, hx134_2, hx134_3⟩ := at_T64 HR0_0.out x3_1 p134 q134
       cases e134
       replace hx134_0 := (HB.out.cell (World.block_lt_of_cell? w _ hx134_0)).trans hx134_0
       replace hx134_1 := (HB.out.cell (World.block_lt_of_cell? w _ hx134_1)).trans hx134_1
       replace hx134_2 := (HB.out.cell (World.block_lt_of_cell? w _ hx134_2)).trans hx134_2
       replace hx134_3 := (HB.out.cell (World.block_lt_of_cell? w _ hx134_3)).trans hx134_3
       replace p134 := eq_true p134; replace q134 := eq_true q134
       try go_wp2_with (((with_reducible refine gate_dst (N := 4) rfl ?_); refine box_event ?hg (N := 4) ?hd (cs := #[.int .i64 0, .int .i64 0, .int .i64 0, .bool false]) (t := 64) ?hr ?_; (case hd => rfl); (case hg => rfl); (case hr => first | (go_simp; done) | (go_simp; rfl)); intro gb135 hg w44 hbox hb; have n0_ := Aside0.mk (blk_below (g := gb133) (o := .cells #[.slice (some ad134) l0_0.length c0_0] 39 (0, 0)) (Cmp.b BK133.out) hb); have n1_ := Aside0.mk (below_step (Cmp.g HB.out) hb); have n2_ := Aside0.mk (hbox); have n3_ := Aside0.mk ((by rw [hg]; exact (below_size (Cmp.g HB.out)) : w.heap.size ≤ gb135)); have n4_ := Aside0.mk ((by rw [hg]; exact (below_size (Cmp.g HB.out)) : w.heap.size ≤ gb135)); have n5_ := Aside0.mk ((by rw [hg]; exact Nat.ne_of_lt (blk_lt (g := gb133) (o := .cells #[.slice (some ad134) l0_0.length c0_0] 39 (0, 0)) (Cmp.b BK133.out)) : gb133 ≠ gb135)); have n6_ := Aside0.mk ((by rw [hg]; exact Nat.ne_of_gt (blk_lt (g := gb133) (o := .cells #[.slice (some ad134) l0_0.length c0_0] 39 (0, 0)) (Cmp.b BK133.out)) : gb135 ≠ gb133)); clear BK133; clear HB; have BK133 := n0_; have HB := n1_; have BK135 := n2_; have GW135 := n3_; have GE135 := n4_; have NB133_135 := n5_; have NB135_133 := n6_; clear n0_ n1_ n2_ n3_ n4_ n5_ n6_; clear hb hbox hg; have hnb45 := NB135_133.out; have hnc45 := NB133_135.out; have hcz46_0 : w44.cell? ⟨gb135, 0, none⟩ = some (.int .i64 0) := (blk_cell BK135.out 0).trans rfl; have hcz46_1 : w44.cell? ⟨gb135, 1, none⟩ = some (.int .i64 0) := (blk_cell BK135.out 1).trans rfl; have hcz46_2 : w44.cell? ⟨gb135, 2, none⟩ = some (.int .i64 0) := (blk_cell BK135.out 2).trans rfl; have hcz46_3 : w44.cell? ⟨gb135, 3, none⟩ = some (.bool false) := (blk_cell BK135.out 3).trans rfl; have hfz46_0 := blk_frozen BK135.out 0; have hfz46_1 := blk_frozen BK135.out 1; have hfz46_2 := blk_frozen BK135.out 2; have hfz46_3 := blk_frozen BK135.out 3))
       have n0_ : Aside0 (((((w44.setCell ⟨gb135, 0, none⟩ (.int .i64 ((rd_T64 l0_0 x3_1).f0))).setCell ⟨gb135, 1, none⟩ (.int .i64 ((rd_T64 l0_0 x3_1).f1))).setCell ⟨gb135, 2, none⟩ (.int .i64 ((rd_T64 l0_0 x3_1).f2))).setCell ⟨gb135, 3, none⟩ (.bool ((rd_T64 l0_0 x3_1).f3))).heap[gb133]? = some (.cells #[.slice (some ad134) l0_0.length c0_0] 39 (0, 0))) := ⟨by (with_reducible repeat (first | refine blk_drewN ?_ _ | refine blk_drew ?_ | refine blk_alloc ?_ _)); refine blk_far ?_ NB133_135.out _; (with_reducible repeat (first | refine blk_drewN ?_ _ | refine blk_drew ?_ | refine blk_alloc ?_ _)); refine blk_far ?_ NB133_135.out _; (with_reducible repeat (first | refine blk_drewN ?_ _ | refine blk_drew ?_ | refine blk_alloc ?_ _)); refine blk_far ?_ NB133_135.out _; (with_reducible repeat (first | refine blk_drewN ?_ _ | refine blk_drew ?_ | refine blk_alloc ?_ _)); refine blk_far ?_ NB133_135.out _; (with_reducible repeat (first | refine blk_drewN ?_ _ | refine blk_drew ?_ | refine blk_alloc ?_ _)); exact BK133.out⟩
       have n1_ : Aside0 (((((w44.setCell ⟨gb135, 0, none⟩ (.int .i64 ((rd_T64 l0_0 x3_1).f0))).setCell ⟨gb135, 1, none⟩ (.int .i64 ((rd_T64 l0_0 x3_1).f1))).setCell ⟨gb135, 2, none⟩ (.int .i64 ((rd_T64 l0_0 x3_1).f2))).setCell ⟨gb135, 3, none⟩ (.bool ((rd_T64 l0_0 x3_1).f3))).heap[gb135]? = some (.cells #[.int .i64 ((rd_T64 l0_0 x3_1).f0), .int .i64 ((rd_T64 l0_0 x3_1).f1), .int .i64 ((rd_T64 l0_0 x3_1).f2), .bool ((rd_T64 l0_0 x3_1).f3)] 64 (0, 0))) := ⟨by (with_reducible repeat (first | refine blk_drewN ?_ _ | refine blk_drew ?_ | refine blk_alloc ?_ _)); refine blk_put (cs := #[.int .i64 ((rd_T64 l0_0 x3_1).f0), .int .i64 ((rd_T64 l0_0 x3_1).f1), .int .i64 ((rd_T64 l0_0 x3_1).f2), .bool false]) ?_ 3 _ rfl; (with_reducible repeat (first | refine blk_drewN ?_ _ | refine blk_drew ?_ | refine blk_alloc ?_ _)); refine blk_put (cs := #[.int .i64 ((rd_T64 l0_0 x3_1).f0), .int .i64 ((rd_T64 l0_0 x3_1).f1), .int .i64 0, .bool false]) ?_ 2 _ rfl; (with_reducible repeat (first | refine blk_drewN ?_ _ | refine blk_drew ?_ | refine blk_alloc ?_ _)); refine blk_put (cs := #[.int .i64 ((rd_T64 l0_0 x3_1).f0), .int .i64 0, .int .i64 0, .bool false]) ?_ 1 _ rfl; (with_reducible repeat (first | refine blk_drewN ?_ _ | refine blk_drew ?_ | refine blk_alloc ?_ _)); refine blk_put (cs := #[.int .i64 0, .int .i64 0, .int .i64 0, .bool false]) ?_ 0 _ rfl; (with_reducible repeat (first | refine blk_drewN ?_ _ | refine blk_drew ?_ | refine blk_alloc ?_ _)); exact BK135.out⟩
       have n2_ : Aside0 (Below w.heap.size w ((((w44.setCell ⟨gb135, 0, none⟩ (.int .i64 ((rd_T64 l0_0 x3_1).f0))).setCell ⟨gb135, 1, none⟩ (.int .i64 ((rd_T64 l0_0 x3_1).f1))).setCell ⟨gb135, 2, none⟩ (.int .i64 ((rd_T64 l0_0 x3_1).f2))).setCell ⟨gb135, 3, none⟩ (.bool ((rd_T64 l0_0 x3_1).f3)))) := ⟨Cmp.g HB.out⟩
       (try clear BK133); (try clear BK135); (try clear HB)
       generalize ((((w44.setCell ⟨gb135, 0, none⟩ (.int .i64 ((rd_T64 l0_0 x3_1).f0))).setCell ⟨gb135, 1, none⟩ (.int .i64 ((rd_T64 l0_0 x3_1).f1))).setCell ⟨gb135, 2, none⟩ (.int .i64 ((rd_T64 l0_0 x3_1).f2))).setCell ⟨gb135, 3, none⟩ (.bool ((rd_T64 l0_0 x3_1).f3))) = w47 at n0_ n1_ n2_ ⊢
       have BK133 := n0_; have BK135 := n1_; have HB := n2_; clear n0_ n1_ n2_; have n0_ := Aside0.mk (blk_drew BK133.out); have n1_ := Aside0.mk (blk_drew BK135.out); have n2_ := Aside0.mk (below_drew1 HB.out); clear BK133; clear BK135; clear HB; have BK133 := n0_; have BK135 := n1_; have HB := n2_; clear n0_ n1_ n2_
       refine start_ (n := 34) (S := fun w' => w'.cell? ⟨gb135, 0, none⟩ = some (.int .i64 ((rd_T64 l0_0 x3_1).f0)) ∧ w'.cell? ⟨gb135, 1, none⟩ = some (.int .i64 ((rd_T64 l0_0 x3_1).f1)) ∧ w'.cell? ⟨gb135, 2, none⟩ = some (.int .i64 ((rd_T64 l0_0 x3_1).f2)) ∧ w'.cell? ⟨gb135, 3, none⟩ = some (.bool ((rd_T64 l0_0 x3_1).f3))) (ds := []) (Cmp.bm 0 34) (by kernel_rfl) rfl rfl ⟨(blk_cell BK135.out 0).trans rfl, (blk_cell BK135.out 1).trans rfl, (blk_cell BK135.out 2).trans rfl, (blk_cell BK135.out 3).trans rfl⟩ (fun hHeld => ?_); refine with_tabW spec_IsBundle.tab5 spec_IsBundle.bits5 (fun HT_ HW_ => ?_)
       generalize w47.drew = w48 at BK133 BK135 HB hHeld ⊢
       refine Cmp.pu HT_ 0 17 (Cmp.bm 1 33) ?_; refine Cmp.tk HT_ HW_ hHeld 1 18 (Cmp.bm 2 32) ?_
       refine one_ (i := 2) (N := some 19) (Cmp.bm 3 31) rfl rfl (one_of HT_.out (by kernel_rfl)) (by decide) (fun K hK => ?_)
       refine goes_ Try.func34 (by kernel_rfl) rfl #[.int .i64 ((rd_T64 l0_0 x3_1).f0), .int .i64 0, .int .i64 2147483646] (by rfl) rfl rfl Cmp.q ?_
       with_reducible refine (spec_l1In.calls ((rd_T64 l0_0 x3_1).f0) 0 2147483646 true _ A5.out).mono ?_
       rintro e w' ⟨rfl, ⟨nd, rfl⟩⟩; refine ⟨_, rfl, ?_⟩
       refine hK.out _ _ ⟨(blk_cell BK135.out 0).trans rfl, (blk_cell BK135.out 1).trans rfl, (blk_cell BK135.out 2).trans rfl, (blk_cell BK135.out 3).trans rfl⟩ (fun hHeld => ?_)
       clear hK K
       refine norm_ (a' := ?_) ?_ ?_
       rotate_left
       ·show Act.put _ (some 19) _ = _
        simp only [Act.put, Cmp.s, Cmp.z, Cmp.c, i64_w, i32_w]; rfl
       refine Cmp.pu HT_ 3 20 (Cmp.bm 4 30) ?_; refine Cmp.pu HT_ 4 21 (Cmp.bm 5 29) ?_; refine Cmp.pu HT_ 5 22 (Cmp.bm 6 28) ?_; refine Cmp.tk HT_ HW_ hHeld 6 23 (Cmp.bm 7 27) ?_
       refine one_ (i := 7) (N := some 24) (Cmp.bm 8 26) rfl rfl (one_of HT_.out (by kernel_rfl)) (by decide) (fun K hK => ?_)
       refine goes_ Try.func34 (by kernel_rfl) rfl #[.int .i64 ((rd_T64 l0_0 x3_1).f1), .int .i64 0, .int .i64 1000000] (by rfl) rfl rfl Cmp.q ?_
       with_reducible refine (spec_l1In.calls ((rd_T64 l0_0 x3_1).f1) 0 1000000 false _ A7.out).mono ?_
       rintro e w' ⟨rfl, ⟨nd, rfl⟩⟩; refine ⟨_, rfl, ?_⟩
       refine hK.out _ _ ⟨(blk_cell BK135.out 0).trans rfl, (blk_cell BK135.out 1).trans rfl, (blk_cell BK135.out 2).trans rfl, (blk_cell BK135.out 3).trans rfl⟩ (fun hHeld => ?_)
       clear hK K
       refine norm_ (a' := ?_) ?_ ?_
       rotate_left
       ·show Act.put _ (some 24) _ = _
        simp only [Act.put, Cmp.s, Cmp.z, Cmp.c, i64_w, i32_w]; rfl
       refine Cmp.pu HT_ 8 25 (Cmp.bm 9 25) ?_; refine Cmp.pu HT_ 9 26 (Cmp.bm 10 24) ?_; refine Cmp.pu HT_ 10 27 (Cmp.bm 11 23) ?_; refine Cmp.pv HT_ 11 28 (Cmp.bm 12 22) ?_; refine Cmp.pv HT_ 12 29 (Cmp.bm 13 21) ?_; refine Cmp.pv HT_ 13 30 (Cmp.bm 14 20) ?_; refine Cmp.pv HT_ 14 31 (Cmp.bm 15 19) ?_; refine Cmp.pu HT_ 15 32 (Cmp.bm 16 18) ?_; refine Cmp.pu HT_ 16 33 (Cmp.bm 17 17) ?_; refine Cmp.pv HT_ 17 34 (Cmp.bm 18 16) ?_; refine Cmp.pv HT_ 18 35 (Cmp.bm 19 15) ?_; refine Cmp.pv HT_ 19 36 (Cmp.bm 20 14) ?_; refine Cmp.pv HT_ 20 37 (Cmp.bm 21 13) ?_; refine Cmp.pv HT_ 21 38 (Cmp.bm 22 12) ?_; refine Cmp.pv HT_ 22 39 (Cmp.bm 23 11) ?_; refine Cmp.pv HT_ 23 40 (Cmp.bm 24 10) ?_; refine Cmp.pv HT_ 24 41 (Cmp.bm 25 9) ?_; refine Cmp.pv HT_ 25 42 (Cmp.bm 26 8) ?_; refine Cmp.pv HT_ 26 43 (Cmp.bm 27 7) ?_; refine Cmp.pv HT_ 27 44 (Cmp.bm 28 6) ?_; refine Cmp.pv HT_ 28 45 (Cmp.bm 29 5) ?_; refine Cmp.pv HT_ 29 46 (Cmp.bm 30 4) ?_; refine Cmp.pv HT_ 30 47 (Cmp.bm 31 3) ?_; refine Cmp.pv HT_ 31 48 (Cmp.bm 32 2) ?_; refine Cmp.pv HT_ 32 49 (Cmp.bm 33 1) ?_; refine Cmp.pu HT_ 33 50 (Cmp.bm 34 0) ?_
       refine done_ (done_of HT_.out (by kernel_rfl)) ?_
       try go_wp2
       go_ret
       exact ⟨by first | rfl | (simp [errW_none, errW_some] <;> rfl) | (simp [*, errW_none, errW_some] <;> rfl), Cmp.g HB.out⟩
     ·replace c6 := Bool.eq_false_iff.mpr c6
      subst c6
      have H1 : (some false) = some r := by rw [if_neg (show ¬ (false = true) by decide)] at H; exact H
      clear H; have H := H1; clear H1
      obtain rfl := Option.some.inj H
      have hcz49_0 : wr.cell? ⟨gb133, 0, none⟩ = some (.slice A0_0 l0_0.length c0_0) := (blk_cell BK133.out 0).trans rfl
      have hfz49_0 := blk_frozen BK133.out 0
      have p134 : 0 ≤ (x3_1 : Int) := of_decide_eq_true Cmp.d
      have q134 : x3_1 < (l0_0.length : Int) := of_decide_eq_true Cmp.d
      obtain ⟨ad134, e134, hx134_0, hx134_1, hx134_2, hx134_3⟩ := at_T64 HR0_0.out x3_1 p134 q134
      cases e134
      replace hx134_0 := (HB.out.cell (World.block_lt_of_cell? w _ hx134_0)).trans hx134_0
      replace hx134_1 := (HB.out.cell (World.block_lt_of_cell? w _ hx134_1)).trans hx134_1
      replace hx134_2 := (HB.out.cell (World.block_lt_of_cell? w _ hx134_2)).trans hx134_2
      replace hx134_3 := (HB.out.cell (World.block_lt_of_cell? w _ hx134_3)).trans hx134_3
      replace p134 := eq_true p134; replace q134 := eq_true q134
      try go_wp2_with (((with_reducible refine gate_dst (N := 4) rfl ?_); refine box_event ?hg (N := 4) ?hd (cs := #[.int .i64 0, .int .i64 0, .int .i64 0, .bool false]) (t := 64) ?hr ?_; (case hd => rfl); (case hg => rfl); (case hr => first | (go_simp; done) | (go_simp; rfl)); intro gb135 hg w50 hbox hb; have n0_ := Aside0.mk (blk_below (g := gb133) (o := .cells #[.slice (some ad134) l0_0.length c0_0] 39 (0, 0)) (Cmp.b BK133.out) hb); have n1_ := Aside0.mk (below_step (Cmp.g HB.out) hb); have n2_ := Aside0.mk (hbox); have n3_ := Aside0.mk ((by rw [hg]; exact (below_size (Cmp.g HB.out)) : w.heap.size ≤ gb135)); have n4_ := Aside0.mk ((by rw [hg]; exact (below_size (Cmp.g HB.out)) : w.heap.size ≤ gb135)); have n5_ := Aside0.mk ((by rw [hg]; exact Nat.ne_of_lt (blk_lt (g := gb133) (o := .cells #[.slice (some ad134) l0_0.length c0_0] 39 (0, 0)) (Cmp.b BK133.out)) : gb133 ≠ gb135)); have n6_ := Aside0.mk ((by rw [hg]; exact Nat.ne_of_gt (blk_lt (g := gb133) (o := .cells #[.slice (some ad134) l0_0.length c0_0] 39 (0, 0)) (Cmp.b BK133.out)) : gb135 ≠ gb133)); clear BK133; clear HB; have BK133 := n0_; have HB := n1_; have BK135 := n2_; have GW135 := n3_; have GE135 := n4_; have NB133_135 := n5_; have NB135_133 := n6_; clear n0_ n1_ n2_ n3_ n4_ n5_ n6_; clear hb hbox hg; have hnb51 := NB135_133.out; have hnc51 := NB133_135.out; have hcz52_0 : w50.cell? ⟨gb135, 0, none⟩ = some (.int .i64 0) := (blk_cell BK135.out 0).trans rfl; have hcz52_1 : w50.cell? ⟨gb135, 1, none⟩ = some (.int .i64 0) := (blk_cell BK135.out 1).trans rfl; have hcz52_2 : w50.cell? ⟨gb135, 2, none⟩ = some (.int .i64 0) := (blk_cell BK135.out 2).trans rfl; have hcz52_3 : w50.cell? ⟨gb135, 3, none⟩ = some (.bool false) := (blk_cell BK135.out 3).trans rfl; have hfz52_0 := blk_frozen BK135.out 0; have hfz52_1 := blk_frozen BK135.out 1; have hfz52_2 := blk_frozen BK135.out 2; have hfz52_3 := blk_frozen BK135.out 3))
      have n0_ : Aside0 (((((w50.setCell ⟨gb135, 0, none⟩ (.int .i64 ((rd_T64 l0_0 x3_1).f0))).setCell ⟨gb135, 1, none⟩ (.int .i64 ((rd_T64 l0_0 x3_1).f1))).setCell ⟨gb135, 2, none⟩ (.int .i64 ((rd_T64 l0_0 x3_1).f2))).setCell ⟨gb135, 3, none⟩ (.bool ((rd_T64 l0_0 x3_1).f3))).heap[gb133]? = some (.cells #[.slice (some ad134) l0_0.length c0_0] 39 (0, 0))) := ⟨by (with_reducible repeat (first | refine blk_drewN ?_ _ | refine blk_drew ?_ | refine blk_alloc ?_ _)); refine blk_far ?_ NB133_135.out _; (with_reducible repeat (first | refine blk_drewN ?_ _ | refine blk_drew ?_ | refine blk_alloc ?_ _)); refine blk_far ?_ NB133_135.out _; (with_reducible repeat (first | refine blk_drewN ?_ _ | refine blk_drew ?_ | refine blk_alloc ?_ _)); refine blk_far ?_ NB133_135.out _; (with_reducible repeat (first | refine blk_drewN ?_ _ | refine blk_drew ?_ | refine blk_alloc ?_ _)); refine blk_far ?_ NB133_135.out _; (with_reducible repeat (first | refine blk_drewN ?_ _ | refine blk_drew ?_ | refine blk_alloc ?_ _)); exact BK133.out⟩
      have n1_ : Aside0 (((((w50.setCell ⟨gb135, 0, none⟩ (.int .i64 ((rd_T64 l0_0 x3_1).f0))).setCell ⟨gb135, 1, none⟩ (.int .i64 ((rd_T64 l0_0 x3_1).f1))).setCell ⟨gb135, 2, none⟩ (.int .i64 ((rd_T64 l0_0 x3_1).f2))).setCell ⟨gb135, 3, none⟩ (.bool ((rd_T64 l0_0 x3_1).f3))).heap[gb135]? = some (.cells #[.int .i64 ((rd_T64 l0_0 x3_1).f0), .int .i64 ((rd_T64 l0_0 x3_1).f1), .int .i64 ((rd_T64 l0_0 x3_1).f2), .bool ((rd_T64 l0_0 x3_1).f3)] 64 (0, 0))) := ⟨by (with_reducible repeat (first | refine blk_drewN ?_ _ | refine blk_drew ?_ | refine blk_alloc ?_ _)); refine blk_put (cs := #[.int .i64 ((rd_T64 l0_0 x3_1).f0), .int .i64 ((rd_T64 l0_0 x3_1).f1), .int .i64 ((rd_T64 l0_0 x3_1).f2), .bool false]) ?_ 3 _ rfl; (with_reducible repeat (first | refine blk_drewN ?_ _ | refine blk_drew ?_ | refine blk_alloc ?_ _)); refine blk_put (cs := #[.int .i64 ((rd_T64 l0_0 x3_1).f0), .int .i64 ((rd_T64 l0_0 x3_1).f1), .int .i64 0, .bool false]) ?_ 2 _ rfl; (with_reducible repeat (first | refine blk_drewN ?_ _ | refine blk_drew ?_ | refine blk_alloc ?_ _)); refine blk_put (cs := #[.int .i64 ((rd_T64 l0_0 x3_1).f0), .int .i64 0, .int .i64 0, .bool false]) ?_ 1 _ rfl; (with_reducible repeat (first | refine blk_drewN ?_ _ | refine blk_drew ?_ | refine blk_alloc ?_ _)); refine blk_put (cs := #[.int .i64 0, .int .i64 0, .int .i64 0, .bool false]) ?_ 0 _ rfl; (with_reducible repeat (first | refine blk_drewN ?_ _ | refine blk_drew ?_ | refine blk_alloc ?_ _)); exact BK135.out⟩
      have n2_ : Aside0 (Below w.heap.size w ((((w50.setCell ⟨gb135, 0, none⟩ (.int .i64 ((rd_T64 l0_0 x3_1).f0))).setCell ⟨gb135, 1, none⟩ (.int .i64 ((rd_T64 l0_0 x3_1).f1))).setCell ⟨gb135, 2, none⟩ (.int .i64 ((rd_T64 l0_0 x3_1).f2))).setCell ⟨gb135, 3, none⟩ (.bool ((rd_T64 l0_0 x3_1).f3)))) := ⟨Cmp.g HB.out⟩
      (try clear BK133); (try clear BK135); (try clear HB)
      generalize ((((w50.setCell ⟨gb135, 0, none⟩ (.int .i64 ((rd_T64 l0_0 x3_1).f0))).setCell ⟨gb135, 1, none⟩ (.int .i64 ((rd_T64 l0_0 x3_1).f1))).setCell ⟨gb135, 2, none⟩ (.int .i64 ((rd_T64 l0_0 x3_1).f2))).setCell ⟨gb135, 3, none⟩ (.bool ((rd_T64 l0_0 x3_1).f3))) = w53 at n0_ n1_ n2_ ⊢
      have BK133 := n0_; have BK135 := n1_; have HB := n2_; clear n0_ n1_ n2_; have n0_ := Aside0.mk (blk_drew BK133.out); have n1_ := Aside0.mk (blk_drew BK135.out); have n2_ := Aside0.mk (below_drew1 HB.out); clear BK133; clear BK135; clear HB; have BK133 := n0_; have BK135 := n1_; have HB := n2_; clear n0_ n1_ n2_
      refine start_ (n := 34) (S := fun w' => w'.cell? ⟨gb135, 0, none⟩ = some (.int .i64 ((rd_T64 l0_0 x3_1).f0)) ∧ w'.cell? ⟨gb135, 1, none⟩ = some (.int .i64 ((rd_T64 l0_0 x3_1).f1)) ∧ w'.cell? ⟨gb135, 2, none⟩ = some (.int .i64 ((rd_T64 l0_0 x3_1).f2)) ∧ w'.cell? ⟨gb135, 3, none⟩ = some (.bool ((rd_T64 l0_0 x3_1).f3))) (ds := []) (Cmp.bm 0 34) (by kernel_rfl) rfl rfl ⟨(blk_cell BK135.out 0).trans rfl, (blk_cell BK135.out 1).trans rfl, (blk_cell BK135.out 2).trans rfl, (blk_cell BK135.out 3).trans rfl⟩ (fun hHeld => ?_); refine with_tabW spec_IsBundle.tab5 spec_IsBundle.bits5 (fun HT_ HW_ => ?_)
      generalize w53.drew = w54 at BK133 BK135 HB hHeld ⊢
      refine Cmp.pu HT_ 0 17 (Cmp.bm 1 33) ?_; refine Cmp.tk HT_ HW_ hHeld 1 18 (Cmp.bm 2 32) ?_
      refine one_ (i := 2) (N := some 19) (Cmp.bm 3 31) rfl rfl (one_of HT_.out (by kernel_rfl)) (by decide) (fun K hK => ?_)
      refine goes_ Try.func34 (by kernel_rfl) rfl #[.int .i64 ((rd_T64 l0_0 x3_1).f0), .int .i64 0, .int .i64 2147483646] (by rfl) rfl rfl Cmp.q ?_
      with_reducible refine (spec_l1In.calls ((rd_T64 l0_0 x3_1).f0) 0 2147483646 false _ A5.out).mono ?_
      rintro e w' ⟨rfl, ⟨nd, rfl⟩⟩; refine ⟨_, rfl, ?_⟩
      refine hK.out _ _ ⟨(blk_cell BK135.out 0).trans rfl, (blk_cell BK135.out 1).trans rfl, (blk_cell BK135.out 2).trans rfl, (blk_cell BK135.out 3).trans rfl⟩ (fun hHeld => ?_)
      clear hK K
      refine norm_ (a' := ?_) ?_ ?_
      rotate_left
      ·show Act.put _ (some 19) _ = _
       simp only [Act.put, Cmp.s, Cmp.z, Cmp.c, i64_w, i32_w]; rfl
      refine Cmp.pu HT_ 3 20 (Cmp.bm 4 30) ?_; refine Cmp.pu HT_ 4 21 (Cmp.bm 5 29) ?_; refine Cmp.pv HT_ 5 22 (Cmp.bm 6 28) ?_; refine Cmp.pv HT_ 6 23 (Cmp.bm 7 27) ?_; refine Cmp.pv HT_ 7 24 (Cmp.bm 8 26) ?_; refine Cmp.pv HT_ 8 25 (Cmp.bm 9 25) ?_; refine Cmp.pu HT_ 9 26 (Cmp.bm 10 24) ?_; refine Cmp.pu HT_ 10 27 (Cmp.bm 11 23) ?_; refine Cmp.pv HT_ 11 28 (Cmp.bm 12 22) ?_; refine Cmp.pv HT_ 12 29 (Cmp.bm 13 21) ?_; refine Cmp.pv HT_ 13 30 (Cmp.bm 14 20) ?_; refine Cmp.pv HT_ 14 31 (Cmp.bm 15 19) ?_; refine Cmp.pu HT_ 15 32 (Cmp.bm 16 18) ?_; refine Cmp.pu HT_ 16 33 (Cmp.bm 17 17) ?_; refine Cmp.pv HT_ 17 34 (Cmp.bm 18 16) ?_; refine Cmp.pv HT_ 18 35 (Cmp.bm 19 15) ?_; refine Cmp.pv HT_ 19 36 (Cmp.bm 20 14) ?_; refine Cmp.pv HT_ 20 37 (Cmp.bm 21 13) ?_; refine Cmp.pv HT_ 21 38 (Cmp.bm 22 12) ?_; refine Cmp.pv HT_ 22 39 (Cmp.bm 23 11) ?_; refine Cmp.pv HT_ 23 40 (Cmp.bm 24 10) ?_; refine Cmp.pv HT_ 24 41 (Cmp.bm 25 9) ?_; refine Cmp.pv HT_ 25 42 (Cmp.bm 26 8) ?_; refine Cmp.pv HT_ 26 43 (Cmp.bm 27 7) ?_; refine Cmp.pv HT_ 27 44 (Cmp.bm 28 6) ?_; refine Cmp.pv HT_ 28 45 (Cmp.bm 29 5) ?_; refine Cmp.pv HT_ 29 46 (Cmp.bm 30 4) ?_; refine Cmp.pv HT_ 30 47 (Cmp.bm 31 3) ?_; refine Cmp.pv HT_ 31 48 (Cmp.bm 32 2) ?_; refine Cmp.pv HT_ 32 49 (Cmp.bm 33 1) ?_; refine Cmp.pu HT_ 33 50 (Cmp.bm 34 0) ?_
      refine done_ (done_of HT_.out (by kernel_rfl)) ?_
      try go_wp2
      go_ret
      exact ⟨by first | rfl | (simp [errW_none, errW_some] <;> rfl) | (simp [*, errW_none, errW_some] <;> rfl), Cmp.g HB.out⟩
    ·rw [if_neg c4] at H; exact absurd H (by simp)
   ·rw [if_neg c3] at H
    have c3b0 : decide (x3_1 < (l0_0.length : Int)) = false := decide_eq_false c3
    clear c3
    obtain rfl := Option.some.inj H
    have hcz55_0 : wr.cell? ⟨gb133, 0, none⟩ = some (.slice A0_0 l0_0.length c0_0) := (blk_cell BK133.out 0).trans rfl
    have hfz55_0 := blk_frozen BK133.out 0
    go_wp2
    go_ret
    exact ⟨by first | rfl | (simp [errW_none, errW_some] <;> rfl) | (simp [*, errW_none, errW_some] <;> rfl), Cmp.g HB.out⟩

end Go.Proofs.Ytnifeegdkhmakaa.PFnExactIncludesBundle

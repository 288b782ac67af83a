/- Printed functions of the program, out of print.sh, told more shortly. No condition. -/
import Derived.Test.YtpgjecknkmmnhaaCmp
import Derived.Test.YtpgjecknkmmnhaaPFnExactOpenBundlex0
import Derived.Test.YtpgjecknkmmnhaaPFnExactOpenBundlex8
import Derived.Test.YtpgjecknkmmnhaaPFnExactOpenBundlex9
import Derived.Test.YtpgjecknkmmnhaaPFnExactOpenBundlex13
import Derived.Test.YtpgjecknkmmnhaaPFnExactOpenBundlex14
namespace Go.Proofs.Ytpgjecknkmmnhaa.PFnExactOpenBundle
open Go.Proofs.Ytpgjecknkmmnhaa
open Go.RowKit Go.Proofs.YtpgjecknkmmnhaaW.PrintWords Go.Proofs.YtpgjecknkmmnhaaW.PrintLast Go.Proofs.YtpgjecknkmmnhaaW.PrintMore
attribute [local go_sem] max2_int min2_int max_two min_two max_three min_three max_four min_four   -- for this text's walks alone
set_option linter.unusedVariables false
set_option linter.unusedSimpArgs false

/-! ### spec_OpenBundle: function 30 -/
def spec_OpenBundle.j0 : Nat → Int → Bool → Int → Int → List Int → Int → Option ((List (S94)) × Bool)
  | 0, _, _, _, _, _, _ => none
  | k + 1, x0, x20, x391000, x391001, x391002, x391003 => if x20 = true then (some (([] : List (S94)), false)) else ((spec_l18Key.f k x0 x391000 x391001).bind fun t394 => ((spec_Decrypt.f k t394 x391002).bind fun t395 => ((spec_DecodeBundle.f k t395).bind fun bt398 => (some (bt398.1, bt398.2)))))
def spec_OpenBundle.f (k : Nat) (a0 : Int) (a1_0 : Int) (a1_1 : Int) (l1_2 : List Int) (a1_3 : Int) : Option ((List (S94)) × Bool) := (spec_l18Range.f a0 a1_0 a1_1).bind fun t392 => (if t392 = true then ((spec_BundleMAC.f k a0 a1_0 a1_1 l1_2 a1_3).bind fun t393 => (spec_OpenBundle.j0 k a0 (a1_3 != t393) a1_0 a1_1 l1_2 a1_3)) else (spec_OpenBundle.j0 k a0 true a1_0 a1_1 l1_2 a1_3))
theorem spec_OpenBundle.mono_l : ∀ k, (∀ y0 y1 y2 y3 y4 y5, LeO (spec_OpenBundle.j0 k y0 y1 y2 y3 y4 y5) (spec_OpenBundle.j0 (k + 1) y0 y1 y2 y3 y4 y5))
  | 0 => fun _ _ _ _ _ _ r h => by simp [spec_OpenBundle.j0] at h
  | k + 1 => by
    have ih0 := spec_OpenBundle.mono_l k
    · intro y0 y1 y2 y3 y4 y5
      unfold spec_OpenBundle.j0
      repeat' first
      | (with_reducible exact ih0 _ _ _ _ _ _)
      | (with_reducible exact spec_BundleMAC.mono _ _ _ _ _ _)
      | (with_reducible exact spec_DecodeBundle.mono _ _)
      | (with_reducible exact spec_Decrypt.mono _ _ _)
      | (with_reducible exact spec_l18Key.mono _ _ _ _)
      | (with_reducible exact LeO.refl _)
      | (with_reducible exact LeO.none _)
      | (with_reducible refine LeO.ite ?_ ?_)
      | (with_reducible refine LeO.bind ?_ (fun _ => ?_))
      | exact ih0 _ _ _ _ _ _
      | exact spec_BundleMAC.mono _ _ _ _ _ _
      | exact spec_DecodeBundle.mono _ _
      | exact spec_Decrypt.mono _ _ _
      | exact spec_l18Key.mono _ _ _ _
      | exact LeO.none _
      | refine LeO.ite ?_ ?_
      | refine LeO.bind ?_ (fun _ => ?_)
theorem spec_OpenBundle.mono : ∀ a0 a1 a2 a3 a4 k, LeO (spec_OpenBundle.f k a0 a1 a2 a3 a4) (spec_OpenBundle.f (k + 1) a0 a1 a2 a3 a4) := by
  intro a0 a1 a2 a3 a4 k
  have ih0 := spec_OpenBundle.mono_l k
  unfold spec_OpenBundle.f
  repeat' first
      | (with_reducible exact ih0 _ _ _ _ _ _)
      | (with_reducible exact spec_BundleMAC.mono _ _ _ _ _ _)
      | (with_reducible exact spec_DecodeBundle.mono _ _)
      | (with_reducible exact spec_Decrypt.mono _ _ _)
      | (with_reducible exact spec_l18Key.mono _ _ _ _)
      | (with_reducible exact LeO.refl _)
      | (with_reducible exact LeO.none _)
      | (with_reducible refine LeO.ite ?_ ?_)
      | (with_reducible refine LeO.bind ?_ (fun _ => ?_))
      | exact ih0 _ _ _ _ _ _
      | exact spec_BundleMAC.mono _ _ _ _ _ _
      | exact spec_DecodeBundle.mono _ _
      | exact spec_Decrypt.mono _ _ _
      | exact spec_l18Key.mono _ _ _ _
      | exact LeO.none _
      | refine LeO.ite ?_ ?_
      | refine LeO.bind ?_ (fun _ => ?_)
def spec_OpenBundle.T1 : Bool × List (List Nat × List Nat) := (true, [([], []), ([], []), ([1], [1]), ([], []), ([3], [3]), ([0, 2, 4], [0, 2, 4]), ([5], [5]), ([6, 5], [6]), ([7], [7]), ([8, 7], [7, 8]), ([7], [7]), ([7], [7]), ([10, 11, 7, 7], [7, 10, 11]), ([9, 12, 7], [7, 9, 12]), ([7, 13], [7, 13])])
def spec_OpenBundle.B1 : List Nat := [0, 0, 2, 0, 8, 31, 63, 127, 255, 511, 255, 255, 3327, 8191, 16383]
theorem spec_OpenBundle.tab1 : rtab .any (opsOf Try.f30 1) = spec_OpenBundle.T1 := by kernel_rfl
theorem spec_OpenBundle.bits1 : waitsOk spec_OpenBundle.T1.2 spec_OpenBundle.B1 = true := by kernel_rfl
def spec_OpenBundle.T3 : Bool × List (List Nat × List Nat) := (true, [([], []), ([], []), ([1], [1]), ([], []), ([3], [3]), ([0, 2, 4], [0, 2, 4]), ([], []), ([6], [6]), ([5, 7, 5], [5, 7]), ([8, 8], [8]), ([9], [9]), ([9], [9]), ([10, 9, 0, 1, 2, 3, 4, 5, 6, 7, 8, 9, 10, 11], [10]), ([11, 12, 0, 1, 2, 3, 4, 5, 6, 7, 8, 9, 10, 11, 12], [11])])
def spec_OpenBundle.B3 : List Nat := [0, 0, 2, 0, 8, 31, 0, 64, 255, 511, 1023, 1023, 4095, 8191]
theorem spec_OpenBundle.tab3 : rtab .any (opsOf Try.f30 3) = spec_OpenBundle.T3 := by kernel_rfl
theorem spec_OpenBundle.bits3 : waitsOk spec_OpenBundle.T3.2 spec_OpenBundle.B3 = true := by kernel_rfl
set_option maxHeartbeats 8000000 in
set_option maxRecDepth 100000 in
theorem spec_OpenBundle.calls (k : Nat) (a0 : Int) (a1_0 : Int) (a1_1 : Int) (A1_2 : Option Addr) (c1_2 : Nat) (l1_2 : List Int) (a1_3 : Int) (r1 : List (S94)) (r2 : Bool) (w : World) (hr1_2 : Kd.C (Kd.int .u8) w A1_2 l1_2.length l1_2) (hc1_2 : l1_2.length ≤ c1_2) (h : spec_OpenBundle.f k a0 a1_0 a1_1 l1_2 a1_3 = some (r1, r2)) :
    Calls Try.prog 30 #[.int .i64 a0, .agg #[.int .i64 a1_0, .int .i64 a1_1, .slice A1_2 l1_2.length c1_2, .int .i64 a1_3]] w fun e w' => ∃ v0_ : Value, e = .returned (.tuple #[.agg #[v0_], .bool r2]) ∧ Kd.R k94 94 w' w.heap.size (fun _ => True) v0_ r1 ∧ Below w.heap.size w w' := by
 have hu49 := Try.underlying49; have hu45 := Try.underlying45; have HR1_2 := Aside0.mk hr1_2; have HC1_2 := Aside0.mk hc1_2; clear hr1_2 hc1_2
 have HB := Aside0.mk (Below.refl w.heap.size w)
 have H : ((spec_l18Range.f a0 a1_0 a1_1).bind fun t392 => (if t392 = true then ((spec_BundleMAC.f k a0 a1_0 a1_1 l1_2 a1_3).bind fun t393 => (spec_OpenBundle.j0 k a0 (a1_3 != t393) a1_0 a1_1 l1_2 a1_3)) else (spec_OpenBundle.j0 k a0 true a1_0 a1_1 l1_2 a1_3))) = some (r1, r2) := h
 clear h; have HC3 := Aside0.mk H; clear H
 go_enter Try.func30, Try.ntmps30
 go_upto_region 1 with (first | ((with_reducible refine gate_dst (N := 3) rfl ?_); refine box_event ?hg (N := 3) ?hd (cs := #[.int .i64 a1_0, .int .i64 a1_1, .slice A1_2 l1_2.length c1_2, .int .i64 a1_3]) (t := 49) ?hr ?_; (case hd => rfl); (case hg => rfl); (case hr => first | (go_simp; done) | (go_simp; rfl)); intro gb390 hg w4 hbox hb; have n0_ := Aside0.mk (below_step (Cmp.g HB.out) hb); have n1_ := Aside0.mk (hbox); have n2_ := Aside0.mk ((by rw [hg]; exact (below_size (Cmp.g HB.out)) : w.heap.size ≤ gb390)); have n3_ := Aside0.mk ((by rw [hg]; exact (below_size (Cmp.g HB.out)) : w.heap.size ≤ gb390)); clear HB; have HB := n0_; have BK390 := n1_; have GW390 := n2_; have GE390 := n3_; clear n0_ n1_ n2_ n3_; clear hb hbox hg) | ((with_reducible refine gate_dst (N := 4) rfl ?_); refine box_event ?hg (N := 4) ?hd (cs := #[.slice none 0 0]) (t := 45) ?hr ?_; (case hd => rfl); (case hg => rfl); (case hr => first | (go_simp; done) | (go_simp; rfl)); intro gb391 hg w5 hbox hb; have n0_ := Aside0.mk (blk_below (Cmp.b BK390.out) hb); have n1_ := Aside0.mk (below_step (Cmp.g HB.out) hb); have n2_ := Aside0.mk (hbox); have n3_ := Aside0.mk ((by rw [hg]; exact (below_size (Cmp.g HB.out)) : w.heap.size ≤ gb391)); have n4_ := Aside0.mk ((by rw [hg]; exact (below_size (Cmp.g HB.out)) : w.heap.size ≤ gb391)); have n5_ := Aside0.mk ((by rw [hg]; exact Nat.ne_of_lt (blk_lt (Cmp.b BK390.out)) : gb390 ≠ gb391)); have n6_ := Aside0.mk ((by rw [hg]; exact Nat.ne_of_gt (blk_lt (Cmp.b BK390.out)) : gb391 ≠ gb390)); clear BK390; clear HB; have BK390 := n0_; have HB := n1_; have BK391 := n2_; have GW391 := n3_; have GE391 := n4_; have NB390_391 := n5_; have NB391_390 := n6_; clear n0_ n1_ n2_ n3_ n4_ n5_ n6_; clear hb hbox hg))
 (try simp only [Act.put, List.setIfInBounds_toArray, List.set_cons_zero, List.set_cons_succ])
 go_cut [20] (fun v20 wc => ∃ (kq : Nat) (x20_2 : Bool), v20 = .bool x20_2 ∧ Aside0 (spec_OpenBundle.j0 kq a0 x20_2 a1_0 a1_1 l1_2 a1_3 = some (r1, r2)) ∧ Aside0 (kq ≤ k) ∧ Aside0 (wc.heap[gb390]? = some (.cells #[.int .i64 a1_0, .int .i64 a1_1, (.slice A1_2 l1_2.length c1_2), .int .i64 a1_3] 49 (0, 0))) ∧ Aside0 (wc.heap[gb391]? = some (.cells #[(.slice none 0 0)] 45 (0, 0))) ∧ Aside0 (Below w.heap.size w wc))
 case first =>
  have H := HC3.out; clear HC3; replace H := Option.bind_eq_some_iff.mp H; obtain ⟨t392, A60, H⟩ := H; (try dsimp only at H); have A6 := Aside0.mk A60; clear A60
  by_cases c7 : t392 = true
  ·subst c7; rw [if_pos rfl] at H; replace H := Option.bind_eq_some_iff.mp H; obtain ⟨t393, A80, H⟩ := H; (try dsimp only at H); have A8 := Aside0.mk A80; clear A80
   have H' := Aside0.mk H
   clear H
   try go_wp2
   have n0_ := Aside0.mk (blk_drew BK390.out); have n1_ := Aside0.mk (blk_drew BK391.out); have n2_ := Aside0.mk (below_drew1 HB.out); clear BK390; clear BK391; clear HB; have BK390 := n0_; have BK391 := n1_; have HB := n2_; clear n0_ n1_ n2_
   refine start_ (n := 15) (S := fun w' => w'.cell? ⟨gb390, 0, none⟩ = some (.int .i64 a1_0) ∧ w'.cell? ⟨gb390, 1, none⟩ = some (.int .i64 a1_1) ∧ w'.cell? ⟨gb390, 2, none⟩ = some (.slice A1_2 l1_2.length c1_2) ∧ w'.cell? ⟨gb390, 3, none⟩ = some (.int .i64 a1_3)) (ds := []) (Cmp.bm 0 15) (by kernel_rfl) rfl rfl ⟨(blk_cell BK390.out 0).trans rfl, (blk_cell BK390.out 1).trans rfl, (blk_cell BK390.out 2).trans rfl, (blk_cell BK390.out 3).trans rfl⟩ (fun hHeld => ?_); refine with_tabW spec_OpenBundle.tab1 spec_OpenBundle.bits1 (fun HT_ HW_ => ?_)
   generalize w5.drew = w9 at BK390 BK391 HB hHeld ⊢
   refine Cmp.pu HT_ 0 6 (Cmp.bm 1 14) ?_; refine Cmp.pu HT_ 1 7 (Cmp.bm 2 13) ?_; refine Cmp.pu HT_ 3 9 (Cmp.bb 15 11) ?_; refine Cmp.tk HT_ HW_ hHeld 2 8 (Cmp.bm 4 11) ?_; refine Cmp.tk HT_ HW_ hHeld 4 10 (Cmp.bm 5 10) ?_
   refine one_ (i := 5) (N := some 11) (Cmp.bm 6 9) rfl rfl (one_of HT_.out (by kernel_rfl)) (by decide) (fun K hK => ?_)
   refine goes_ Try.func65 (by kernel_rfl) rfl #[.int .i64 a0, .int .i64 a1_0, .int .i64 a1_1] (by rfl) rfl rfl Cmp.q ?_
   with_reducible refine (spec_l18Range.calls a0 a1_0 a1_1 true _ A6.out).mono ?_
   rintro e w' ⟨rfl, ⟨nd, rfl⟩⟩; refine ⟨_, rfl, ?_⟩
   refine hK.out _ _ ⟨(blk_cell BK390.out 0).trans rfl, (blk_cell BK390.out 1).trans rfl, (blk_cell BK390.out 2).trans rfl, (blk_cell BK390.out 3).trans rfl⟩ (fun hHeld => ?_)
   clear hK K
   refine norm_ (a' := ?_) ?_ ?_
   rotate_left
   ·show Act.put _ (some 11) _ = _
    simp only [Act.put, Cmp.s, Cmp.z, Cmp.c, i64_w, i32_w]; rfl
   refine Cmp.pu HT_ 6 12 (Cmp.bm 7 8) ?_; refine Cmp.pu HT_ 7 13 (Cmp.bm 8 7) ?_; refine Cmp.pu HT_ 8 14 (Cmp.bm 9 6) ?_; refine Cmp.pu HT_ 10 16 (Cmp.bb 15 1535) ?_; refine Cmp.tk HT_ HW_ hHeld 9 15 (Cmp.bm 11 4) ?_; refine Cmp.tk HT_ HW_ hHeld 11 17 (Cmp.bm 12 3) ?_
   refine one_ (i := 12) (N := some 18) (Cmp.bm 13 2) rfl rfl (one_of HT_.out (by kernel_rfl)) (by decide) (fun K hK => ?_)
   refine goes_ Try.func70 (by kernel_rfl) rfl #[.int .i64 a0, .agg #[.int .i64 a1_0, .int .i64 a1_1, .slice A1_2 l1_2.length c1_2, .int .i64 a1_3]] (by rfl) rfl rfl Cmp.q ?_
   with_reducible refine (spec_BundleMAC.calls k a0 a1_0 a1_1 _ _ l1_2 a1_3 t393 _ ?side1 ?side2 A8.out).mono ?_
   (case side1 => exact Cmp.rc (Kd.C_below HR1_2.out (Cmp.g HB.out)))
   (case side2 => exact HC1_2.out)
   rintro e w10 ⟨rfl, hb⟩; refine ⟨_, rfl, ?_⟩
   have n0_ := Aside0.mk (blk_below (Cmp.b BK390.out) hb)
   have n1_ := Aside0.mk (blk_below (Cmp.b BK391.out) hb)
   have n2_ := Aside0.mk (below_step (Cmp.g HB.out) hb)
   clear BK390; clear BK391; clear HB; have BK390 := n0_; have BK391 := n1_; have HB := n2_; clear n0_ n1_ n2_; (try clear hb); (try clear hb2); (try clear hk); (try clear hi)
   refine hK.out _ _ ⟨(blk_cell BK390.out 0).trans rfl, (blk_cell BK390.out 1).trans rfl, (blk_cell BK390.out 2).trans rfl, (blk_cell BK390.out 3).trans rfl⟩ (fun hHeld => ?_)
   clear hK K
   refine norm_ (a' := ?_) ?_ ?_
   rotate_left
   ·show Act.put _ (some 18) _ = _
    simp only [Act.put, Cmp.s, Cmp.z, Cmp.c, i64_w, i32_w]; rfl
   refine Cmp.pu HT_ 13 19 (Cmp.bm 14 1) ?_; refine Cmp.pu HT_ 14 20 (Cmp.bm 15 0) ?_
   refine done_ (done_of HT_.out (by kernel_rfl)) ?_
   try go_wp2
   go_meet
   case rel => exact ⟨_, ((a1_3 != t393)), (by first | rfl | simp | simp [*]), H', ⟨by first | omega | exact Nat.le_refl _⟩, ⟨by (with_reducible repeat (first | refine blk_drewN ?_ _ | refine blk_drew ?_ | refine blk_alloc ?_ _)); exact BK390.out⟩, ⟨by (with_reducible repeat (first | refine blk_drewN ?_ _ | refine blk_drew ?_ | refine blk_alloc ?_ _)); exact BK391.out⟩, ⟨Cmp.g HB.out⟩⟩
  ·replace c7 := Bool.eq_false_iff.mpr c7
   subst c7
   have H1 : (spec_OpenBundle.j0 k a0 true a1_0 a1_1 l1_2 a1_3) = some (r1, r2) := by rw [if_neg (show ¬ (false = true) by decide)] at H; exact H
   clear H; have H := H1; clear H1
   have H' := Aside0.mk H
   clear H
   try go_wp2
   have n0_ := Aside0.mk (blk_drew BK390.out); have n1_ := Aside0.mk (blk_drew BK391.out); have n2_ := Aside0.mk (below_drew1 HB.out); clear BK390; clear BK391; clear HB; have BK390 := n0_; have BK391 := n1_; have HB := n2_; clear n0_ n1_ n2_
   refine start_ (n := 15) (S := fun w' => w'.cell? ⟨gb390, 0, none⟩ = some (.int .i64 a1_0) ∧ w'.cell? ⟨gb390, 1, none⟩ = some (.int .i64 a1_1) ∧ w'.cell? ⟨gb390, 2, none⟩ = some (.slice A1_2 l1_2.length c1_2) ∧ w'.cell? ⟨gb390, 3, none⟩ = some (.int .i64 a1_3)) (ds := []) (Cmp.bm 0 15) (by kernel_rfl) rfl rfl ⟨(blk_cell BK390.out 0).trans rfl, (blk_cell BK390.out 1).trans rfl, (blk_cell BK390.out 2).trans rfl, (blk_cell BK390.out 3).trans rfl⟩ (fun hHeld => ?_); refine with_tabW spec_OpenBundle.tab1 spec_OpenBundle.bits1 (fun HT_ HW_ => ?_)
   generalize w5.drew = w11 at BK390 BK391 HB hHeld ⊢
   refine Cmp.pu HT_ 0 6 (Cmp.bm 1 14) ?_; refine Cmp.pu HT_ 1 7 (Cmp.bm 2 13) ?_; refine Cmp.pu HT_ 3 9 (Cmp.bb 15 11) ?_; refine Cmp.tk HT_ HW_ hHeld 2 8 (Cmp.bm 4 11) ?_; refine Cmp.tk HT_ HW_ hHeld 4 10 (Cmp.bm 5 10) ?_
   refine one_ (i := 5) (N := some 11) (Cmp.bm 6 9) rfl rfl (one_of HT_.out (by kernel_rfl)) (by decide) (fun K hK => ?_)
   refine goes_ Try.func65 (by kernel_rfl) rfl #[.int .i64 a0, .int .i64 a1_0, .int .i64 a1_1] (by rfl) rfl rfl Cmp.q ?_
   with_reducible refine (spec_l18Range.calls a0 a1_0 a1_1 false _ A6.out).mono ?_
   rintro e w' ⟨rfl, ⟨nd, rfl⟩⟩; refine ⟨_, rfl, ?_⟩
   refine hK.out _ _ ⟨(blk_cell BK390.out 0).trans rfl, (blk_cell BK390.out 1).trans rfl, (blk_cell BK390.out 2).trans rfl, (blk_cell BK390.out 3).trans rfl⟩ (fun hHeld => ?_)
   clear hK K
   refine norm_ (a' := ?_) ?_ ?_
   rotate_left
   ·show Act.put _ (some 11) _ = _
    simp only [Act.put, Cmp.s, Cmp.z, Cmp.c, i64_w, i32_w]; rfl
   refine Cmp.pu HT_ 6 12 (Cmp.bm 7 8) ?_; refine Cmp.pu HT_ 7 13 (Cmp.bm 8 7) ?_; refine Cmp.pv HT_ 8 14 (Cmp.bm 9 6) ?_; refine Cmp.pv HT_ 9 15 (Cmp.bm 10 5) ?_; refine Cmp.pv HT_ 10 16 (Cmp.bm 11 4) ?_; refine Cmp.pv HT_ 11 17 (Cmp.bm 12 3) ?_; refine Cmp.pv HT_ 12 18 (Cmp.bm 13 2) ?_; refine Cmp.pv HT_ 13 19 (Cmp.bm 14 1) ?_; refine Cmp.pu HT_ 14 20 (Cmp.bm 15 0) ?_
   refine done_ (done_of HT_.out (by kernel_rfl)) ?_
   try go_wp2
   go_meet
   case rel => exact ⟨_, (true), (by first | rfl | simp | simp [*]), H', ⟨by first | omega | exact Nat.le_refl _⟩, ⟨by (with_reducible repeat (first | refine blk_drewN ?_ _ | refine blk_drew ?_ | refine blk_alloc ?_ _)); exact BK390.out⟩, ⟨by (with_reducible repeat (first | refine blk_drewN ?_ _ | refine blk_drew ?_ | refine blk_alloc ?_ _)); exact BK391.out⟩, ⟨Cmp.g HB.out⟩⟩
 case rest =>
  clear HC3; (try clear c1); (try clear p2); (try clear c3); (try clear c6); (try clear c7)
  obtain ⟨kq, x20_2, rfl, HA, HJ2, BK390, BK391, HB⟩ := hcut
  cases kq with
  | zero => exact absurd HA.out (by simp [spec_OpenBundle.j0])
  | succ kj2 =>
   have H := HA.out; clear HA
   simp only [spec_OpenBundle.j0] at H
   by_cases c12 : x20_2 = true
   ·subst c12; rw [if_pos rfl] at H
    simp only [Option.some.injEq, Prod.mk.injEq] at H
    obtain ⟨rfl, rfl⟩ := H; have hnb13 := NB391_390.out; have hnc13 := NB390_391.out
    have hcz14_0 : wc.cell? ⟨gb391, 0, none⟩ = some (.slice none 0 0) := (blk_cell BK391.out 0).trans rfl
    have hfz14_0 := blk_frozen BK391.out 0
    go_wp2
    refine bodyPost_ret (results_ct rfl _ _ gb391 45 #[.slice none 0 0] (0, 0) _ rfl (by (with_reducible repeat (first | refine blk_drewN ?_ _ | refine blk_drew ?_ | refine blk_alloc ?_ _)); refine blk_put (cs := #[.slice none 0 0]) ?_ 0 _ rfl; (with_reducible repeat (first | refine blk_drewN ?_ _ | refine blk_drew ?_ | refine blk_alloc ?_ _)); exact BK391.out) Try.underlying45 rfl (by kernel_rfl)) rfl ?_
    exact ⟨_, by first | rfl | (simp [errW_none, errW_some] <;> rfl) | (simp [*, errW_none, errW_some] <;> rfl), by first | exact Kd.R_nil _ _ _ _ _ | exact Kd.N_nil _ _ _ _ _ | exact Kd.V_nil _ _ _ _ _ | exact Kd.Q_nil _ _ _ _ _ | exact Kd.S_nil _ _ _ _ _, Cmp.g HB.out⟩
   ·replace c12 := Bool.eq_false_iff.mpr c12
    subst c12
    have H1 : ((spec_l18Key.f kj2 a0 a1_0 a1_1).bind fun t394 => ((spec_Decrypt.f kj2 t394 l1_2).bind fun t395 => ((spec_DecodeBundle.f kj2 t395).bind fun bt398 => (some (bt398.1, bt398.2))))) = some (r1, r2) := by rw [if_neg (show ¬ (false = true) by decide)] at H; exact H
    clear H; have H := H1; clear H1; replace H := Option.bind_eq_some_iff.mp H; obtain ⟨t394, A150, H⟩ := H; (try dsimp only at H); have A15 := Aside0.mk A150; clear A150; replace H := Option.bind_eq_some_iff.mp H; obtain ⟨t395, A160, H⟩ := H; (try dsimp only at H); have A16 := Aside0.mk A160; clear A160; replace H := Option.bind_eq_some_iff.mp H; obtain ⟨⟨t398, t401⟩, A170, H⟩ := H; (try dsimp only at H); have A17 := Aside0.mk A170; clear A170
    simp only [Option.some.injEq, Prod.mk.injEq] at H
    obtain ⟨rfl, rfl⟩ := H
    try go_wp2
    have n0_ := Aside0.mk (blk_drew BK390.out); have n1_ := Aside0.mk (blk_drew BK391.out); have n2_ := Aside0.mk (below_drew1 HB.out); clear BK390; clear BK391; clear HB; have BK390 := n0_; have BK391 := n1_; have HB := n2_; clear n0_ n1_ n2_
    refine start_ (n := 14) (S := fun w' => w'.cell? ⟨gb390, 0, none⟩ = some (.int .i64 a1_0) ∧ w'.cell? ⟨gb390, 1, none⟩ = some (.int .i64 a1_1) ∧ w'.cell? ⟨gb390, 2, none⟩ = some (.slice A1_2 l1_2.length c1_2) ∧ w'.cell? ⟨gb390, 3, none⟩ = some (.int .i64 a1_3)) (ds := []) (Cmp.bm 0 14) (by kernel_rfl) rfl rfl ⟨(blk_cell BK390.out 0).trans rfl, (blk_cell BK390.out 1).trans rfl, (blk_cell BK390.out 2).trans rfl, (blk_cell BK390.out 3).trans rfl⟩ (fun hHeld => ?_); refine with_tabW spec_OpenBundle.tab3 spec_OpenBundle.bits3 (fun HT_ HW_ => ?_)
    generalize wc.drew = w18 at BK390 BK391 HB hHeld ⊢
    refine Cmp.pu HT_ 0 22 (Cmp.bm 1 13) ?_; refine Cmp.pu HT_ 1 23 (Cmp.bm 2 12) ?_; refine Cmp.pu HT_ 3 25 (Cmp.bb 14 11) ?_; refine Cmp.pu HT_ 6 28 (Cmp.bb 14 75) ?_; refine Cmp.tk HT_ HW_ hHeld 2 24 (Cmp.bb 14 79) ?_; refine Cmp.tk HT_ HW_ hHeld 4 26 (Cmp.bb 14 95) ?_; refine Cmp.tk HT_ HW_ hHeld 7 29 (Cmp.bb 14 223) ?_
    refine one_ (i := 5) (N := some 27) (Cmp.bm 8 6) rfl rfl (one_of HT_.out (by kernel_rfl)) (by decide) (fun K hK => ?_)
    refine goes_ Try.func68 (by kernel_rfl) rfl #[.int .i64 a0, .int .i64 a1_0, .int .i64 a1_1] (by rfl) rfl rfl Cmp.q ?_
    with_reducible refine (spec_l18Key.calls kj2 a0 a1_0 a1_1 t394 _ A15.out).mono ?_
    rintro e w19 ⟨rfl, hb⟩; refine ⟨_, rfl, ?_⟩
    have n0_ := Aside0.mk (blk_below (Cmp.b BK390.out) hb)
    have n1_ := Aside0.mk (blk_below (Cmp.b BK391.out) hb)
    have n2_ := Aside0.mk (below_step (Cmp.g HB.out) hb)
    clear BK390; clear BK391; clear HB; have BK390 := n0_; have BK391 := n1_; have HB := n2_; clear n0_ n1_ n2_; (try clear hb); (try clear hb2); (try clear hk); (try clear hi)
    refine hK.out _ _ ⟨(blk_cell BK390.out 0).trans rfl, (blk_cell BK390.out 1).trans rfl, (blk_cell BK390.out 2).trans rfl, (blk_cell BK390.out 3).trans rfl⟩ (fun hHeld => ?_)
    clear hK K
    refine norm_ (a' := ?_) ?_ ?_
    rotate_left
    ·show Act.put _ (some 27) _ = _
     simp only [Act.put, Cmp.s, Cmp.z, Cmp.c, i64_w, i32_w]; rfl
    refine one_ (i := 8) (N := some 30) (Cmp.bm 9 5) rfl rfl (one_of HT_.out (by kernel_rfl)) (by decide) (fun K hK => ?_)
    refine goes_ Try.func79 (by kernel_rfl) rfl #[.int .i64 t394, .slice A1_2 l1_2.length c1_2] (by rfl) rfl rfl Cmp.q ?_
    with_reducible refine (spec_Decrypt.calls kj2 t394 _ _ l1_2 t395 _ ?side1 ?side2 A16.out).mono ?_
    (case side1 => exact Cmp.rc (Kd.C_below HR1_2.out HB.out))
    (case side2 => exact HC1_2.out)
    rintro e w20 ⟨v396, rfl, ho0, hb⟩; refine ⟨_, rfl, ?_⟩
    have n0_ := Aside0.mk (Kd.R_lower ho0 (below_size (Cmp.g HB.out)))
    have n1_ := Aside0.mk (blk_below (Cmp.b BK390.out) hb)
    have n2_ := Aside0.mk (blk_below (Cmp.b BK391.out) hb)
    have n3_ := Aside0.mk (below_step (Cmp.g HB.out) hb)
    clear BK390; clear BK391; clear HB; have HO397 := n0_; have BK390 := n1_; have BK391 := n2_; have HB := n3_; clear n0_ n1_ n2_ n3_; (try clear hb); (try clear hb2); (try clear hk); (try clear hi); (try clear ho0)
    obtain ⟨Ao21, co21, eo21⟩ := Kd.R_slice HO397.out
    (first | subst eo21 | (injection eo21 with f1_ f2_ f3_; have f4_ := f1_.symm; have f5_ := f3_.symm; clear f1_ f2_ f3_; subst f4_; subst f5_))
    refine hK.out _ _ ⟨(blk_cell BK390.out 0).trans rfl, (blk_cell BK390.out 1).trans rfl, (blk_cell BK390.out 2).trans rfl, (blk_cell BK390.out 3).trans rfl⟩ (fun hHeld => ?_)
    clear hK K
    refine norm_ (a' := ?_) ?_ ?_
    rotate_left
    ·show Act.put _ (some 30) _ = _
     simp only [Act.put, Cmp.s, Cmp.z, Cmp.c, i64_w, i32_w]; rfl
    refine one_ (i := 9) (N := some 31) (Cmp.bm 10 4) rfl rfl (one_of HT_.out (by kernel_rfl)) (by decide) (fun K hK => ?_)
    refine goes_ Try.func78 (by kernel_rfl) rfl #[.slice Ao21 t395.length co21] (by rfl) rfl rfl Cmp.q ?_
    with_reducible refine (spec_DecodeBundle.calls kj2 _ _ t395 t398 t401 _ ?side1 ?side2 A17.out).mono ?_
    (case side1 => exact Cmp.rc (Kd.R_reads' HO397.out).2.2)
    (case side2 => exact (Kd.R_reads' HO397.out).2.1)
    rintro e w22 ⟨v399, rfl, ho0, hb⟩; refine ⟨_, rfl, ?_⟩
    have n0_ := Aside0.mk (Kd.R_below (Cmp.rr HO397.out) hb)
    have n1_ := Aside0.mk (Kd.R_lower ho0 (below_size (Cmp.g HB.out)))
    have n2_ := Aside0.mk (blk_below (Cmp.b BK390.out) hb)
    have n3_ := Aside0.mk (blk_below (Cmp.b BK391.out) hb)
    have n4_ := Aside0.mk (below_step (Cmp.g HB.out) hb)
    clear HO397; clear BK390; clear BK391; clear HB; have HO397 := n0_; have HO400 := n1_; have BK390 := n2_; have BK391 := n3_; have HB := n4_; clear n0_ n1_ n2_ n3_ n4_; (try clear hb); (try clear hb2); (try clear hk); (try clear hi); (try clear ho0)
    obtain ⟨Ao23, co23, eo23⟩ := Kd.R_slice HO400.out
    (first | subst eo23 | (injection eo23 with f1_ f2_ f3_; have f4_ := f1_.symm; have f5_ := f3_.symm; clear f1_ f2_ f3_; subst f4_; subst f5_))
    refine hK.out _ _ ⟨(blk_cell BK390.out 0).trans rfl, (blk_cell BK390.out 1).trans rfl, (blk_cell BK390.out 2).trans rfl, (blk_cell BK390.out 3).trans rfl⟩ (fun hHeld => ?_)
    clear hK K
    refine norm_ (a' := ?_) ?_ ?_
    rotate_left
    ·show Act.put _ (some 31) _ = _
     simp only [Act.put, Cmp.s, Cmp.z, Cmp.c, i64_w, i32_w]; rfl
    refine Cmp.pu HT_ 10 32 (Cmp.bm 11 3) ?_; refine Cmp.pu HT_ 11 33 (Cmp.bm 12 2) ?_
    refine one_ (i := 12) (N := none) (Cmp.bm 13 1) rfl rfl (one_of HT_.out (by kernel_rfl)) (by decide) (fun K hK => ?_)
    have hs24 : w22.cell? ⟨gb391, 0, none⟩ = some (.slice none 0 0) := (blk_cell BK391.out 0).trans rfl
    have hfs24 := blk_frozen BK391.out 0; have hns24_0 := NB390_391.out; have hms24_0 := NB391_390.out
    refine skip_ (w1 := ?_) (by rfl) rfl ?_ ?_
    rotate_left
    ·go_simp; rfl
    refine hK.out _ _ ⟨((cell_far (p := ⟨gb391, _, none⟩) NB390_391.out _).trans (hHeld.1)), ((cell_far (p := ⟨gb391, _, none⟩) NB390_391.out _).trans (hHeld.2.1)), ((cell_far (p := ⟨gb391, _, none⟩) NB390_391.out _).trans (hHeld.2.2.1)), ((cell_far (p := ⟨gb391, _, none⟩) NB390_391.out _).trans (hHeld.2.2.2))⟩ (fun hHeld => ?_)
    clear hK K
    refine Cmp.pu HT_ 13 5 (Cmp.bm 14 0) ?_
    refine done_ (done_of HT_.out (by kernel_rfl)) ?_
    try go_wp2
    refine bodyPost_ret (results_ct rfl _ _ gb391 45 #[.slice Ao23 t398.length co23] (0, 0) _ rfl (by (with_reducible repeat (first | refine blk_drewN ?_ _ | refine blk_drew ?_ | refine blk_alloc ?_ _)); refine blk_put (cs := #[.slice none 0 0]) ?_ 0 _ rfl; (with_reducible repeat (first | refine blk_drewN ?_ _ | refine blk_drew ?_ | refine blk_alloc ?_ _)); exact BK391.out) Try.underlying45 rfl (by kernel_rfl)) rfl ?_
    exact ⟨_, by first | rfl | (simp [errW_none, errW_some] <;> rfl) | (simp [*, errW_none, errW_some] <;> rfl), by (with_reducible repeat (first | apply Kd.R_alloc | apply Kd.R_drewN | apply Kd.R_drew)); exact Kd.R_mono (Kd.R_far (p := ⟨gb391, 0, none⟩) (Kd.R_types HO400.out BK391.out (by decide)) (fun _ hk => hk.2) (.slice Ao23 t398.length co23)) (fun _ hk => trivial), Cmp.g HB.out⟩

/-! ### laws_toByteS: function 80 -/
def laws_toByteS.l0 : Nat → List Int → List Int → Int → Option (List Int)
  | 0, _, _, _ => none
  | k + 1, x0, x3, x4 => if x4 < (x0.length : Int) then (if 0 ≤ x4 then (if x4 < (x3.length : Int) then (laws_toByteS.l0 k x0 (x3.set (x4 : Int).toNat (rd x0 x4)) (wrap64 (x4 + 1))) else (none)) else (none)) else (some x3)
def laws_toByteS.f (k : Nat) (l0 : List Int) : Option (List Int) := if 0 ≤ (l0.length : Int) then (if ((l0.length : Int) : Int).toNat ≤ 281474976710656 then (laws_toByteS.l0 k l0 (List.replicate ((l0.length : Int) : Int).toNat 0) 0) else (none)) else (none)
theorem laws_toByteS.mono_l : ∀ k, (∀ y0 y1 y2, LeO (laws_toByteS.l0 k y0 y1 y2) (laws_toByteS.l0 (k + 1) y0 y1 y2))
  | 0 => fun _ _ _ r h => by simp [laws_toByteS.l0] at h
  | k + 1 => by
    have ih0 := laws_toByteS.mono_l k
    · intro y0 y1 y2
      unfold laws_toByteS.l0
      repeat' first
      | (with_reducible exact ih0 _ _ _)
      | (with_reducible exact LeO.refl _)
      | (with_reducible exact LeO.none _)
      | (with_reducible refine LeO.ite ?_ ?_)
      | (with_reducible refine LeO.bind ?_ (fun _ => ?_))
      | exact ih0 _ _ _
      | exact LeO.none _
      | refine LeO.ite ?_ ?_
      | refine LeO.bind ?_ (fun _ => ?_)
theorem laws_toByteS.mono : ∀ a0 k, LeO (laws_toByteS.f k a0) (laws_toByteS.f (k + 1) a0) := by
  intro a0 k
  have ih0 := laws_toByteS.mono_l k
  unfold laws_toByteS.f
  repeat' first
      | (with_reducible exact ih0 _ _ _)
      | (with_reducible exact LeO.refl _)
      | (with_reducible exact LeO.none _)
      | (with_reducible refine LeO.ite ?_ ?_)
      | (with_reducible refine LeO.bind ?_ (fun _ => ?_))
      | exact ih0 _ _ _
      | exact LeO.none _
      | refine LeO.ite ?_ ?_
      | refine LeO.bind ?_ (fun _ => ?_)
set_option maxHeartbeats 8000000 in
set_option maxRecDepth 100000 in
theorem laws_toByteS.calls (k : Nat) (A0 : Option Addr) (c0 : Nat) (l0 : List Int) (r : List Int) (w : World) (hr0 : Kd.C (Kd.int .u8) w A0 l0.length l0) (hc0 : l0.length ≤ c0) (h : laws_toByteS.f k l0 = some r) :
    Calls Try.prog 80 #[.slice A0 l0.length c0] w fun e w' => ∃ v0_ : Value, e = .returned (v0_) ∧ Kd.R (Kd.int .u8) 5 w' w.heap.size (fun _ => True) v0_ r ∧ Below w.heap.size w w' := by
 have HR0 := Aside0.mk hr0; have HC0 := Aside0.mk hc0; clear hr0 hc0
 have HB := Aside0.mk (Below.refl w.heap.size w)
 have H : (if 0 ≤ (l0.length : Int) then (if ((l0.length : Int) : Int).toNat ≤ 281474976710656 then (laws_toByteS.l0 k l0 (List.replicate ((l0.length : Int) : Int).toNat 0) 0) else (none)) else (none)) = some r := h
 clear h
 by_cases c2 : 0 ≤ (l0.length : Int)
 ·rw [if_pos c2] at H
  have c2b0 := eq_true c2
  have c2b1 : decide (0 ≤ (l0.length : Int)) = true := decide_eq_true c2
  clear c2
  by_cases c3 : ((l0.length : Int) : Int).toNat ≤ 281474976710656
  ·rw [if_pos c3] at H
   have c3b0 := eq_true c3
   have c3b1 : decide (((l0.length : Int) : Int).toNat ≤ 281474976710656) = true := decide_eq_true c3
   clear c3
   obtain ⟨y402, hy402⟩ : ∃ y_ : List Int, y_ = (List.replicate ((l0.length : Int) : Int).toNat 0) := ⟨_, rfl⟩
   replace H : (laws_toByteS.l0 k l0 y402 0) = some r := by first | (rw [hy402]; with_reducible exact H) | (have H2_ := (Option.bind_some _ _).symm.trans H; rw [hy402]; with_reducible exact H2_) | (have H2_ := (Option.bind_some _ _).symm.trans H; with_reducible exact H2_) | with_reducible exact H | (rw [hy402]; exact H) | exact H
   have Ny402 := Aside0.mk hy402; clear hy402
   have H' := Aside0.mk H
   clear H
   go_enter Try.func80, Try.ntmps80
   go_wp2_with (first | ((with_reducible refine gate_dst (N := 7) rfl ?_); refine Kd.R_make (Kd.int .u8) _ 5 rfl (N := 7) rfl 22 _ _ rfl (l0.length : Int) rfl rfl Try.underlying22 (.int .u8 0) 1 info5 rfl (by decide) (by omega) 0 (ok := fun _ => True) (okp := fun _ => True) rfl (fun _ hk => hk) trivial (of_decide_eq_true Cmp.d) (Nat.le_trans (Nat.mul_le_mul_right _ (of_decide_eq_true Cmp.d : (l0.length : Int).toNat ≤ 281474976710656)) (by omega)) (Below.refl _ _) (Nat.le_refl _) ?_; intro v403 w4 ho5 hb hg_ hnew_; clear hg_ hnew_; (first | rw [← Ny402.out] at ho5 | (simp only [Int.reduceToNat] at ho5; rw [← Ny402.out] at ho5)); have n0_ := Aside0.mk (Kd.R_lower ho5 (below_size (Cmp.g HB.out))); have n1_ := Aside0.mk (below_step (Cmp.g HB.out) hb); clear HB; have HO404 := n0_; have HB := n1_; clear n0_ n1_; clear hb ho5))
   go_loopg [4] k (fun kq v4 w' => ∃ (x3_1 : List Int) (x4_1 : Int), v4 = .int .i64 x4_1 ∧ Aside0 (laws_toByteS.l0 kq l0 x3_1 x4_1 = some r) ∧ Aside0 (kq ≤ k) ∧ Aside0 (Kd.R (Kd.int .u8) 5 w' w.heap.size (fun _ => True) v403 x3_1) ∧ Aside0 (Below w.heap.size w w'))
   case atStart => exact ⟨(y402), (0), (by first | rfl | simp | simp [*]), H', ⟨Nat.le_refl _⟩, ⟨by (with_reducible repeat (first | apply Kd.R_alloc | apply Kd.R_drewN | apply Kd.R_drew)); exact HO404.out⟩, ⟨Cmp.g HB.out⟩⟩
   case round =>
    clear H'
    (try clear c2); (try clear c2b0); (try clear c2b1); (try clear p2); (try clear c3); (try clear c3b0); (try clear c3b1)
    obtain ⟨x3_1, x4_1, rfl, HA, HK1, HO_3, HB⟩ := hrel
    cases gk with
    | zero => exact absurd HA.out (by simp [laws_toByteS.l0])
    | succ k1 =>
     have H := HA.out; clear HA
     simp only [laws_toByteS.l0] at H
     by_cases c6 : x4_1 < (l0.length : Int)
     ·rw [if_pos c6] at H
      have c6b0 : decide (x4_1 < (l0.length : Int)) = true := decide_eq_true c6
      clear c6
      by_cases c7 : 0 ≤ x4_1
      ·rw [if_pos c7] at H; have c7b0 : decide (0 ≤ x4_1) = true := decide_eq_true c7; clear c7
       by_cases c8 : x4_1 < (x3_1.length : Int)
       ·rw [if_pos c8] at H
        have c8b0 : decide (x4_1 < (x3_1.length : Int)) = true := decide_eq_true c8
        clear c8
        obtain ⟨y406, hy406⟩ : ∃ y_ : List Int, y_ = (x3_1.set (x4_1 : Int).toNat (rd l0 x4_1)) := ⟨_, rfl⟩
        replace H : (laws_toByteS.l0 k1 l0 y406 (wrap64 (x4_1 + 1))) = some r := by first | (rw [hy406]; with_reducible exact H) | (have H2_ := (Option.bind_some _ _).symm.trans H; rw [hy406]; with_reducible exact H2_) | (have H2_ := (Option.bind_some _ _).symm.trans H; with_reducible exact H2_) | with_reducible exact H | (rw [hy406]; exact H) | exact H
        have Ny406 := Aside0.mk hy406; clear hy406
        have H' := Aside0.mk H
        clear H
        have p405 : 0 ≤ (x4_1 : Int) := of_decide_eq_true Cmp.d
        have q405 : x4_1 < (l0.length : Int) := of_decide_eq_true Cmp.d
        obtain ⟨ad405, e405, hx405_0⟩ := Kd.at_int HR0.out x4_1 p405 q405
        cases e405
        replace hx405_0 := (HB.out.cell (World.block_lt_of_cell? w _ hx405_0)).trans hx405_0
        replace p405 := eq_true p405; replace q405 := eq_true q405
        have p9 : 0 ≤ (x4_1 : Int) := of_decide_eq_true Cmp.d
        have q9 : (x4_1 : Int) < ((x3_1.length : Int) : Int) := of_decide_eq_true Cmp.d
        obtain ⟨go9, co9, eo9, gb9, gl9, cl9, HG9⟩ := Kd.R_form HO_3.out (by omega)
        (first | cases eo9 | (injection eo9 with ea_ en_ ec_; (first | subst ea_ | (injection ea_ with ea_; subst ea_)); subst ec_; clear en_))
        have GB9 := Aside0.mk gb9; have GG9 := Aside0.mk HG9; clear gb9 gl9 HG9
        obtain ⟨hx9_0, hf9_0⟩ := Kd.R_celln 0 HO_3.out (x4_1 : Int) p9 q9
        replace p9 := eq_true p9; replace q9 := eq_true q9
        have HP10 := Kd.R_putg HO_3.out (x4_1 : Int) (rd l0 x4_1)
        go_wp2_with (first | ((with_reducible refine gate_store (t := 5) (p := 20) rfl ?_); refine store_event (t := 5) (p := 20) (v := ?vo_w11) (w1 := (wr.setCell ⟨go9, (x4_1 : Int).toNat, none⟩ (.int .u8 (rd l0 x4_1)))) ?hg ?ho ?hn ?hr ?_; (case ho => rfl); (case hg => rfl); (case hn => rfl); (case hr => first | (go_simp; done) | (go_simp; rfl)); intro w11 hw; have hg : wr.grownBy w11 (some go9) := (by rw [hw]; exact HP10.2); have hp_ : Kd.R (Kd.int .u8) 5 w11 w.heap.size (fun _ => True) (.slice (some ⟨go9, 0, none⟩) x3_1.length co9) y406 := (by rw [hw, Ny406.out]; exact HP10.1); clear HP10; have n0_ := Aside0.mk (hp_); have n1_ := Aside0.mk ((by rw [hw]; exact below_set (HB.out) GB9.out : Below w.heap.size w w11)); clear HO_3; clear HB; have HO_3 := n0_; have HB := n1_; clear n0_ n1_; clear hg hw hp_))
        go_roundg k1
        case measure => have := HK1.out; omega
        case rel => exact ⟨(y406), (wrap64 (x4_1 + 1)), (by first | rfl | simp | simp [*]), H', ⟨by have := HK1.out; omega⟩, ⟨by (with_reducible repeat (first | apply Kd.R_alloc | apply Kd.R_drewN | apply Kd.R_drew)); exact HO_3.out⟩, ⟨Cmp.g HB.out⟩⟩
       ·rw [if_neg c8] at H; exact absurd H (by simp)
      ·rw [if_neg c7] at H; exact absurd H (by simp)
     ·rw [if_neg c6] at H
      have c6b0 : decide (x4_1 < (l0.length : Int)) = false := decide_eq_false c6
      clear c6
      obtain rfl := Option.some.inj H
      go_wp2
      go_ret
      exact ⟨_, by first | rfl | (simp [errW_none, errW_some] <;> rfl) | (simp [*, errW_none, errW_some] <;> rfl), by (with_reducible repeat (first | apply Kd.R_alloc | apply Kd.R_drewN | apply Kd.R_drew)); exact HO_3.out, Cmp.g HB.out⟩
  ·rw [if_neg c3] at H; exact absurd H (by simp)
 ·rw [if_neg c2] at H; exact absurd H (by simp)

/-! ### laws_toSealedBundle: function 31 -/
def laws_toSealedBundle.f (k : Nat) (a0_0 : Int) (a0_1 : Int) (l0_2 : List Int) (a0_3 : Int) : Option (Int × Int × List Int × Int) := (laws_toByteS.f k l0_2).bind fun t410 => (some (a0_0, a0_1, t410, a0_3))
theorem laws_toSealedBundle.mono : ∀ a0 a1 a2 a3 k, LeO (laws_toSealedBundle.f k a0 a1 a2 a3) (laws_toSealedBundle.f (k + 1) a0 a1 a2 a3) := by
  intro a0 a1 a2 a3 k
  unfold laws_toSealedBundle.f
  repeat' first
      | (with_reducible exact laws_toByteS.mono _ _)
      | (with_reducible exact LeO.refl _)
      | (with_reducible exact LeO.none _)
      | (with_reducible refine LeO.ite ?_ ?_)
      | (with_reducible refine LeO.bind ?_ (fun _ => ?_))
      | exact laws_toByteS.mono _ _
      | exact LeO.none _
      | refine LeO.ite ?_ ?_
      | refine LeO.bind ?_ (fun _ => ?_)
set_option maxHeartbeats 8000000 in
set_option maxRecDepth 100000 in
theorem laws_toSealedBundle.calls (k : Nat) (a0_0 : Int) (a0_1 : Int) (A0_2 : Option Addr) (c0_2 : Nat) (l0_2 : List Int) (a0_3 : Int) (r1 : Int) (r2 : Int) (r3 : List Int) (r4 : Int) (w : World) (hr0_2 : Kd.C (Kd.int .u8) w A0_2 l0_2.length l0_2) (hc0_2 : l0_2.length ≤ c0_2) (h : laws_toSealedBundle.f k a0_0 a0_1 l0_2 a0_3 = some (r1, r2, r3, r4)) :
    Calls Try.prog 31 #[.agg #[.int .i64 a0_0, .int .i64 a0_1, .slice A0_2 l0_2.length c0_2, .int .i64 a0_3]] w fun e w' => ∃ v2_ : Value, e = .returned (.agg #[.int .i64 r1, .int .i64 r2, v2_, .int .i64 r4]) ∧ Kd.R (Kd.int .u8) 5 w' w.heap.size (fun _ => True) v2_ r3 ∧ Below w.heap.size w w' := by
 have hu58 := Try.underlying58; have hu49 := Try.underlying49; have HR0_2 := Aside0.mk hr0_2; have HC0_2 := Aside0.mk hc0_2; clear hr0_2 hc0_2
 have HB := Aside0.mk (Below.refl w.heap.size w)
 have H : ((laws_toByteS.f k l0_2).bind fun t410 => (some (a0_0, a0_1, t410, a0_3))) = some (r1, r2, r3, r4) := h
 clear h; replace H := Option.bind_eq_some_iff.mp H; obtain ⟨t410, A20, H⟩ := H; (try dsimp only at H); have A2 := Aside0.mk A20; clear A20
 simp only [Option.some.injEq, Prod.mk.injEq] at H
 obtain ⟨rfl, rfl, rfl, rfl⟩ := H
 go_enter Try.func31, Try.ntmps31
 go_wp2_with (first | ((with_reducible refine gate_dst (N := 1) rfl ?_); refine box_event ?hg (N := 1) ?hd (cs := #[.int .i64 a0_0, .int .i64 a0_1, .slice A0_2 l0_2.length c0_2, .int .i64 a0_3]) (t := 58) ?hr ?_; (case hd => rfl); (case hg => rfl); (case hr => first | (go_simp; done) | (go_simp; rfl)); intro gb407 hg w3 hbox hb; have n0_ := Aside0.mk (below_step (Cmp.g HB.out) hb); have n1_ := Aside0.mk (hbox); have n2_ := Aside0.mk ((by rw [hg]; exact (below_size (Cmp.g HB.out)) : w.heap.size ≤ gb407)); have n3_ := Aside0.mk ((by rw [hg]; exact (below_size (Cmp.g HB.out)) : w.heap.size ≤ gb407)); clear HB; have HB := n0_; have BK407 := n1_; have GW407 := n2_; have GE407 := n3_; clear n0_ n1_ n2_ n3_; clear hb hbox hg) | ((with_reducible refine gate_dst (N := 2) rfl ?_); refine box_event ?hg (N := 2) ?hd (cs := #[.int .i64 0, .int .i64 0, .slice none 0 0, .int .i64 0]) (t := 49) ?hr ?_; (case hd => rfl); (case hg => rfl); (case hr => first | (go_simp; done) | (go_simp; rfl)); intro gb408 hg w4 hbox hb; have n0_ := Aside0.mk (blk_below (Cmp.b BK407.out) hb); have n1_ := Aside0.mk (below_step (Cmp.g HB.out) hb); have n2_ := Aside0.mk (hbox); have n3_ := Aside0.mk ((by rw [hg]; exact (below_size (Cmp.g HB.out)) : w.heap.size ≤ gb408)); have n4_ := Aside0.mk ((by rw [hg]; exact (below_size (Cmp.g HB.out)) : w.heap.size ≤ gb408)); have n5_ := Aside0.mk ((by rw [hg]; exact Nat.ne_of_lt (blk_lt (Cmp.b BK407.out)) : gb407 ≠ gb408)); have n6_ := Aside0.mk ((by rw [hg]; exact Nat.ne_of_gt (blk_lt (Cmp.b BK407.out)) : gb408 ≠ gb407)); clear BK407; clear HB; have BK407 := n0_; have HB := n1_; have BK408 := n2_; have GW408 := n3_; have GE408 := n4_; have NB407_408 := n5_; have NB408_407 := n6_; clear n0_ n1_ n2_ n3_ n4_ n5_ n6_; clear hb hbox hg) | ((with_reducible refine gate_dst (N := 3) rfl ?_); refine box_event ?hg (N := 3) ?hd (cs := #[.int .i64 0, .int .i64 0, .slice none 0 0, .int .i64 0]) (t := 49) ?hr ?_; (case hd => rfl); (case hg => rfl); (case hr => first | (go_simp; done) | (go_simp; rfl)); intro gb409 hg w5 hbox hb; have n0_ := Aside0.mk (blk_below (Cmp.b BK407.out) hb); have n1_ := Aside0.mk (blk_below (Cmp.b BK408.out) hb); have n2_ := Aside0.mk (below_step (Cmp.g HB.out) hb); have n3_ := Aside0.mk (hbox); have n4_ := Aside0.mk ((by rw [hg]; exact (below_size (Cmp.g HB.out)) : w.heap.size ≤ gb409)); have n5_ := Aside0.mk ((by rw [hg]; exact (below_size (Cmp.g HB.out)) : w.heap.size ≤ gb409)); have n6_ := Aside0.mk ((by rw [hg]; exact Nat.ne_of_lt (blk_lt (Cmp.b BK407.out)) : gb407 ≠ gb409)); have n7_ := Aside0.mk ((by rw [hg]; exact Nat.ne_of_gt (blk_lt (Cmp.b BK407.out)) : gb409 ≠ gb407)); have n8_ := Aside0.mk ((by rw [hg]; exact Nat.ne_of_lt (blk_lt (Cmp.b BK408.out)) : gb408 ≠ gb409)); have n9_ := Aside0.mk ((by rw [hg]; exact Nat.ne_of_gt (blk_lt (Cmp.b BK408.out)) : gb409 ≠ gb408)); clear BK407; clear BK408; clear HB; have BK407 := n0_; have BK408 := n1_; have HB := n2_; have BK409 := n3_; have GW409 := n4_; have GE409 := n5_; have NB407_409 := n6_; have NB409_407 := n7_; have NB408_409 := n8_; have NB409_408 := n9_; clear n0_ n1_ n2_ n3_ n4_ n5_ n6_ n7_ n8_ n9_; clear hb hbox hg; have hnb6 := NB407_408.out; have hnc6 := NB408_407.out; have hnb7 := NB407_409.out; have hnc7 := NB409_407.out; have hcz8_0 : w5.cell? ⟨gb407, 0, none⟩ = some (.int .i64 a0_0) := (blk_cell BK407.out 0).trans rfl; have hcz8_1 : w5.cell? ⟨gb407, 1, none⟩ = some (.int .i64 a0_1) := (blk_cell BK407.out 1).trans rfl; have hcz8_2 : w5.cell? ⟨gb407, 2, none⟩ = some (.slice A0_2 l0_2.length c0_2) := (blk_cell BK407.out 2).trans rfl; have hcz8_3 : w5.cell? ⟨gb407, 3, none⟩ = some (.int .i64 a0_3) := (blk_cell BK407.out 3).trans rfl; have hfz8_0 := blk_frozen BK407.out 0; have hfz8_1 := blk_frozen BK407.out 1; have hfz8_2 := blk_frozen BK407.out 2; have hfz8_3 := blk_frozen BK407.out 3; have hnb9 := NB409_408.out; have hnc9 := NB408_409.out; have hcz10_0 : w5.cell? ⟨gb409, 0, none⟩ = some (.int .i64 0) := (blk_cell BK409.out 0).trans rfl; have hcz10_1 : w5.cell? ⟨gb409, 1, none⟩ = some (.int .i64 0) := (blk_cell BK409.out 1).trans rfl; have hcz10_2 : w5.cell? ⟨gb409, 2, none⟩ = some (.slice none 0 0) := (blk_cell BK409.out 2).trans rfl; have hcz10_3 : w5.cell? ⟨gb409, 3, none⟩ = some (.int .i64 0) := (blk_cell BK409.out 3).trans rfl; have hfz10_0 := blk_frozen BK409.out 0; have hfz10_1 := blk_frozen BK409.out 1; have hfz10_2 := blk_frozen BK409.out 2; have hfz10_3 := blk_frozen BK409.out 3) | ((with_reducible refine gate_callee (f := 80) rfl ?_); refine goesL_ (some 12) rfl rfl Try.func80 (by kernel_rfl) rfl #[.slice A0_2 l0_2.length c0_2] rfl Cmp.q ?_; (with_reducible refine (laws_toByteS.calls k _ _ l0_2 t410 _ ?side1 ?side2 A2.out).mono ?_); (case side1 => exact Kd.C_below HR0_2.out (Cmp.g HB.out)); (case side2 => exact HC0_2.out); rintro e w11 ⟨v411, rfl, ho0, hb⟩; refine ⟨_, rfl, ?_⟩; have n0_ := Aside0.mk (Kd.R_lower ho0 (below_size (Cmp.g HB.out))); have n1_ := Aside0.mk (blk_below (g := gb407) (o := .cells #[.int .i64 a0_0, .int .i64 a0_1, .slice A0_2 l0_2.length c0_2, .int .i64 a0_3] 58 (0, 0)) (by (with_reducible repeat (first | refine blk_drewN ?_ _ | refine blk_drew ?_ | refine blk_alloc ?_ _)); refine blk_far ?_ NB407_409.out _; (with_reducible repeat (first | refine blk_drewN ?_ _ | refine blk_drew ?_ | refine blk_alloc ?_ _)); refine blk_far ?_ NB407_409.out _; (with_reducible repeat (first | refine blk_drewN ?_ _ | refine blk_drew ?_ | refine blk_alloc ?_ _)); exact BK407.out) hb); have n2_ := Aside0.mk (blk_below (g := gb408) (o := .cells #[.int .i64 0, .int .i64 0, .slice none 0 0, .int .i64 0] 49 (0, 0)) (by (with_reducible repeat (first | refine blk_drewN ?_ _ | refine blk_drew ?_ | refine blk_alloc ?_ _)); refine blk_far ?_ NB408_409.out _; (with_reducible repeat (first | refine blk_drewN ?_ _ | refine blk_drew ?_ | refine blk_alloc ?_ _)); refine blk_far ?_ NB408_409.out _; (with_reducible repeat (first | refine blk_drewN ?_ _ | refine blk_drew ?_ | refine blk_alloc ?_ _)); exact BK408.out) hb); have n3_ := Aside0.mk (blk_below (g := gb409) (o := .cells #[.int .i64 a0_0, .int .i64 a0_1, .slice none 0 0, .int .i64 0] 49 (0, 0)) (by (with_reducible repeat (first | refine blk_drewN ?_ _ | refine blk_drew ?_ | refine blk_alloc ?_ _)); refine blk_put (cs := #[.int .i64 a0_0, .int .i64 0, .slice none 0 0, .int .i64 0]) ?_ 1 _ rfl; (with_reducible repeat (first | refine blk_drewN ?_ _ | refine blk_drew ?_ | refine blk_alloc ?_ _)); refine blk_put (cs := #[.int .i64 0, .int .i64 0, .slice none 0 0, .int .i64 0]) ?_ 0 _ rfl; (with_reducible repeat (first | refine blk_drewN ?_ _ | refine blk_drew ?_ | refine blk_alloc ?_ _)); exact BK409.out) hb); have n4_ := Aside0.mk (below_step (Cmp.g HB.out) hb); clear BK407; clear BK408; clear BK409; clear HB; have HO412 := n0_; have BK407 := n1_; have BK408 := n2_; have BK409 := n3_; have HB := n4_; clear n0_ n1_ n2_ n3_ n4_; (try clear hb); (try clear hb2); (try clear hk); (try clear hi); (try clear ho0); obtain ⟨Ao12, co12, eo12⟩ := Kd.R_slice HO412.out; subst eo12; have hcz13_0 : w11.cell? ⟨gb409, 0, none⟩ = some (.int .i64 a0_0) := (blk_cell BK409.out 0).trans rfl; have hcz13_1 : w11.cell? ⟨gb409, 1, none⟩ = some (.int .i64 a0_1) := (blk_cell BK409.out 1).trans rfl; have hcz13_2 : w11.cell? ⟨gb409, 2, none⟩ = some (.slice none 0 0) := (blk_cell BK409.out 2).trans rfl; have hcz13_3 : w11.cell? ⟨gb409, 3, none⟩ = some (.int .i64 0) := (blk_cell BK409.out 3).trans rfl; have hfz13_0 := blk_frozen BK409.out 0; have hfz13_1 := blk_frozen BK409.out 1; have hfz13_2 := blk_frozen BK409.out 2; have hfz13_3 := blk_frozen BK409.out 3; have hcz14_0 : w11.cell? ⟨gb407, 0, none⟩ = some (.int .i64 a0_0) := (blk_cell BK407.out 0).trans rfl; have hcz14_1 : w11.cell? ⟨gb407, 1, none⟩ = some (.int .i64 a0_1) := (blk_cell BK407.out 1).trans rfl; have hcz14_2 : w11.cell? ⟨gb407, 2, none⟩ = some (.slice A0_2 l0_2.length c0_2) := (blk_cell BK407.out 2).trans rfl; have hcz14_3 : w11.cell? ⟨gb407, 3, none⟩ = some (.int .i64 a0_3) := (blk_cell BK407.out 3).trans rfl; have hfz14_0 := blk_frozen BK407.out 0; have hfz14_1 := blk_frozen BK407.out 1; have hfz14_2 := blk_frozen BK407.out 2; have hfz14_3 := blk_frozen BK407.out 3; have hcz15_0 : w11.cell? ⟨gb408, 0, none⟩ = some (.int .i64 0) := (blk_cell BK408.out 0).trans rfl; have hcz15_1 : w11.cell? ⟨gb408, 1, none⟩ = some (.int .i64 0) := (blk_cell BK408.out 1).trans rfl; have hcz15_2 : w11.cell? ⟨gb408, 2, none⟩ = some (.slice none 0 0) := (blk_cell BK408.out 2).trans rfl; have hcz15_3 : w11.cell? ⟨gb408, 3, none⟩ = some (.int .i64 0) := (blk_cell BK408.out 3).trans rfl; have hfz15_0 := blk_frozen BK408.out 0; have hfz15_1 := blk_frozen BK408.out 1; have hfz15_2 := blk_frozen BK408.out 2; have hfz15_3 := blk_frozen BK408.out 3))
 refine bodyPost_ret (results_cell_row rfl _ _ gb408 49 #[.int .i64 a0_0, .int .i64 a0_1, .slice Ao12 t410.length co12, .int .i64 a0_3] (0, 0) _ rfl (by (with_reducible repeat (first | refine blk_drewN ?_ _ | refine blk_drew ?_ | refine blk_alloc ?_ _)); refine blk_put (cs := #[.int .i64 a0_0, .int .i64 a0_1, .slice Ao12 t410.length co12, .int .i64 0]) ?_ 3 _ rfl; (with_reducible repeat (first | refine blk_drewN ?_ _ | refine blk_drew ?_ | refine blk_alloc ?_ _)); refine blk_put (cs := #[.int .i64 a0_0, .int .i64 a0_1, .slice none 0 0, .int .i64 0]) ?_ 2 _ rfl; (with_reducible repeat (first | refine blk_drewN ?_ _ | refine blk_drew ?_ | refine blk_alloc ?_ _)); refine blk_put (cs := #[.int .i64 a0_0, .int .i64 0, .slice none 0 0, .int .i64 0]) ?_ 1 _ rfl; (with_reducible repeat (first | refine blk_drewN ?_ _ | refine blk_drew ?_ | refine blk_alloc ?_ _)); refine blk_put (cs := #[.int .i64 0, .int .i64 0, .slice none 0 0, .int .i64 0]) ?_ 0 _ rfl; (with_reducible repeat (first | refine blk_drewN ?_ _ | refine blk_drew ?_ | refine blk_alloc ?_ _)); refine blk_far ?_ NB408_409.out _; (with_reducible repeat (first | refine blk_drewN ?_ _ | refine blk_drew ?_ | refine blk_alloc ?_ _)); refine blk_far ?_ NB408_409.out _; (with_reducible repeat (first | refine blk_drewN ?_ _ | refine blk_drew ?_ | refine blk_alloc ?_ _)); exact BK408.out) Try.underlying49 rfl (by kernel_rfl)) rfl ?_
 exact ⟨_, by first | rfl | (simp [errW_none, errW_some] <;> rfl) | (simp [*, errW_none, errW_some] <;> rfl), by (with_reducible repeat (first | apply Kd.R_alloc | apply Kd.R_drewN | apply Kd.R_drew)); exact Kd.R_mono (Kd.R_far (p := ⟨gb408, 3, none⟩) (Kd.R_far (p := ⟨gb408, 2, none⟩) (Kd.R_far (p := ⟨gb408, 1, none⟩) (Kd.R_far (p := ⟨gb408, 0, none⟩) (Kd.R_far (p := ⟨gb409, 3, none⟩) (Kd.R_far (p := ⟨gb409, 2, none⟩) (Kd.R_types (Kd.R_types HO412.out BK409.out (by decide)) BK408.out (by decide)) (fun _ hk => hk.1.2) (.slice Ao12 t410.length co12)) (fun _ hk => hk.1.2) (.int .i64 a0_3)) (fun _ hk => hk.2) (.int .i64 a0_0)) (fun _ hk => hk.2) (.int .i64 a0_1)) (fun _ hk => hk.2) (.slice Ao12 t410.length co12)) (fun _ hk => hk.2) (.int .i64 a0_3)) (fun _ hk => trivial), Cmp.g HB.out⟩

/-! ### laws_eqEntry: function 118 -/
def laws_eqEntry.f (a0_0 : Int) (a0_1 : Int) (a0_2 : Int) (a0_3 : Bool) (a1_0 : Int) (a1_1 : Int) (a1_2 : Int) (a1_3 : Bool) : Option (Bool) := if a0_0 = a1_0 then (if a0_1 = a1_1 then (if a0_2 = a1_2 then (if (a0_3 != a1_3) = true then (some false) else (some true)) else (some false)) else (some false)) else (some false)
set_option maxHeartbeats 8000000 in
set_option maxRecDepth 100000 in
theorem laws_eqEntry.calls (a0_0 : Int) (a0_1 : Int) (a0_2 : Int) (a0_3 : Bool) (a1_0 : Int) (a1_1 : Int) (a1_2 : Int) (a1_3 : Bool) (r : Bool) (w : World) (h : laws_eqEntry.f a0_0 a0_1 a0_2 a0_3 a1_0 a1_1 a1_2 a1_3 = some r) :
    Calls Try.prog 118 #[.agg #[.int .i64 a0_0, .int .i64 a0_1, .int .i64 a0_2, .bool a0_3], .agg #[.int .i64 a1_0, .int .i64 a1_1, .int .i64 a1_2, .bool a1_3]] w fun e w' => e = .returned (.bool r) ∧ Below w.heap.size w w' := by
 have hu94 := Try.underlying94
 have HB := Aside0.mk (Below.refl w.heap.size w)
 have H : (if a0_0 = a1_0 then (if a0_1 = a1_1 then (if a0_2 = a1_2 then (if (a0_3 != a1_3) = true then (some false) else (some true)) else (some false)) else (some false)) else (some false)) = some r := h
 clear h
 by_cases c3 : a0_0 = a1_0
 ·rw [if_pos c3] at H; have c3b0 : (a0_0 == a1_0) = true := beq_iff_eq.mpr c3; have c3b1 : (a0_0 != a1_0) = false := bne_eq_false_iff_eq.mpr c3; clear c3
  by_cases c4 : a0_1 = a1_1
  ·rw [if_pos c4] at H; have c4b0 : (a0_1 == a1_1) = true := beq_iff_eq.mpr c4; have c4b1 : (a0_1 != a1_1) = false := bne_eq_false_iff_eq.mpr c4; clear c4
   by_cases c5 : a0_2 = a1_2
   ·rw [if_pos c5] at H; have c5b0 : (a0_2 == a1_2) = true := beq_iff_eq.mpr c5; have c5b1 : (a0_2 != a1_2) = false := bne_eq_false_iff_eq.mpr c5; clear c5
    by_cases c6 : (a0_3 != a1_3) = true
    ·rw [if_pos c6] at H
     have c6b0 : (a0_3 != a1_3) = true := c6
     (try (have c6b1 : decide (a0_3 = a1_3) = false := by simpa using c6))
     (try (have c6b2 : (a0_3 == a1_3) = false := by simpa using c6))
     (try (have c6b3 : ¬ (a0_3 = a1_3) := by simpa using c6))
     clear c6
     obtain rfl := Option.some.inj H
     go_enter Try.func118, Try.ntmps118
     go_wp2_with (first | ((with_reducible refine gate_dst (N := 2) rfl ?_); refine box_event ?hg (N := 2) ?hd (cs := #[.int .i64 a0_0, .int .i64 a0_1, .int .i64 a0_2, .bool a0_3]) (t := 94) ?hr ?_; (case hd => rfl); (case hg => rfl); (case hr => first | (go_simp; done) | (go_simp; rfl)); intro gb413 hg w7 hbox hb; have n0_ := Aside0.mk (below_step (Cmp.g HB.out) hb); have n1_ := Aside0.mk (hbox); have n2_ := Aside0.mk ((by rw [hg]; exact (below_size (Cmp.g HB.out)) : w.heap.size ≤ gb413)); have n3_ := Aside0.mk ((by rw [hg]; exact (below_size (Cmp.g HB.out)) : w.heap.size ≤ gb413)); clear HB; have HB := n0_; have BK413 := n1_; have GW413 := n2_; have GE413 := n3_; clear n0_ n1_ n2_ n3_; clear hb hbox hg) | ((with_reducible refine gate_dst (N := 3) rfl ?_); refine box_event ?hg (N := 3) ?hd (cs := #[.int .i64 a1_0, .int .i64 a1_1, .int .i64 a1_2, .bool a1_3]) (t := 94) ?hr ?_; (case hd => rfl); (case hg => rfl); (case hr => first | (go_simp; done) | (go_simp; rfl)); intro gb414 hg w8 hbox hb; have n0_ := Aside0.mk (blk_below (Cmp.b BK413.out) hb); have n1_ := Aside0.mk (below_step (Cmp.g HB.out) hb); have n2_ := Aside0.mk (hbox); have n3_ := Aside0.mk ((by rw [hg]; exact (below_size (Cmp.g HB.out)) : w.heap.size ≤ gb414)); have n4_ := Aside0.mk ((by rw [hg]; exact (below_size (Cmp.g HB.out)) : w.heap.size ≤ gb414)); have n5_ := Aside0.mk ((by rw [hg]; exact Nat.ne_of_lt (blk_lt (Cmp.b BK413.out)) : gb413 ≠ gb414)); have n6_ := Aside0.mk ((by rw [hg]; exact Nat.ne_of_gt (blk_lt (Cmp.b BK413.out)) : gb414 ≠ gb413)); clear BK413; clear HB; have BK413 := n0_; have HB := n1_; have BK414 := n2_; have GW414 := n3_; have GE414 := n4_; have NB413_414 := n5_; have NB414_413 := n6_; clear n0_ n1_ n2_ n3_ n4_ n5_ n6_; clear hb hbox hg; have hnb9 := NB413_414.out; have hnc9 := NB414_413.out; have hcz10_0 : w8.cell? ⟨gb413, 0, none⟩ = some (.int .i64 a0_0) := (blk_cell BK413.out 0).trans rfl; have hcz10_1 : w8.cell? ⟨gb413, 1, none⟩ = some (.int .i64 a0_1) := (blk_cell BK413.out 1).trans rfl; have hcz10_2 : w8.cell? ⟨gb413, 2, none⟩ = some (.int .i64 a0_2) := (blk_cell BK413.out 2).trans rfl; have hcz10_3 : w8.cell? ⟨gb413, 3, none⟩ = some (.bool a0_3) := (blk_cell BK413.out 3).trans rfl; have hfz10_0 := blk_frozen BK413.out 0; have hfz10_1 := blk_frozen BK413.out 1; have hfz10_2 := blk_frozen BK413.out 2; have hfz10_3 := blk_frozen BK413.out 3; have hcz11_0 : w8.cell? ⟨gb414, 0, none⟩ = some (.int .i64 a1_0) := (blk_cell BK414.out 0).trans rfl; have hcz11_1 : w8.cell? ⟨gb414, 1, none⟩ = some (.int .i64 a1_1) := (blk_cell BK414.out 1).trans rfl; have hcz11_2 : w8.cell? ⟨gb414, 2, none⟩ = some (.int .i64 a1_2) := (blk_cell BK414.out 2).trans rfl; have hcz11_3 : w8.cell? ⟨gb414, 3, none⟩ = some (.bool a1_3) := (blk_cell BK414.out 3).trans rfl; have hfz11_0 := blk_frozen BK414.out 0; have hfz11_1 := blk_frozen BK414.out 1; have hfz11_2 := blk_frozen BK414.out 2; have hfz11_3 := blk_frozen BK414.out 3))
     go_ret
     exact ⟨by first | rfl | (simp [errW_none, errW_some] <;> rfl) | (simp [*, errW_none, errW_some] <;> rfl), Cmp.g HB.out⟩
    ·rw [if_neg c6] at H
     have c6b0 : (a0_3 != a1_3) = false := by simpa using c6
     (try (have c6b1 : decide (a0_3 = a1_3) = true := by simpa using c6))
     (try (have c6b2 : (a0_3 == a1_3) = true := by simpa using c6))
     clear c6
     obtain rfl := Option.some.inj H
     go_enter Try.func118, Try.ntmps118
     go_wp2_with (first | ((with_reducible refine gate_dst (N := 2) rfl ?_); refine box_event ?hg (N := 2) ?hd (cs := #[.int .i64 a0_0, .int .i64 a0_1, .int .i64 a0_2, .bool a0_3]) (t := 94) ?hr ?_; (case hd => rfl); (case hg => rfl); (case hr => first | (go_simp; done) | (go_simp; rfl)); intro gb413 hg w12 hbox hb; have n0_ := Aside0.mk (below_step (Cmp.g HB.out) hb); have n1_ := Aside0.mk (hbox); have n2_ := Aside0.mk ((by rw [hg]; exact (below_size (Cmp.g HB.out)) : w.heap.size ≤ gb413)); have n3_ := Aside0.mk ((by rw [hg]; exact (below_size (Cmp.g HB.out)) : w.heap.size ≤ gb413)); clear HB; have HB := n0_; have BK413 := n1_; have GW413 := n2_; have GE413 := n3_; clear n0_ n1_ n2_ n3_; clear hb hbox hg) | ((with_reducible refine gate_dst (N := 3) rfl ?_); refine box_event ?hg (N := 3) ?hd (cs := #[.int .i64 a1_0, .int .i64 a1_1, .int .i64 a1_2, .bool a1_3]) (t := 94) ?hr ?_; (case hd => rfl); (case hg => rfl); (case hr => first | (go_simp; done) | (go_simp; rfl)); intro gb414 hg w13 hbox hb; have n0_ := Aside0.mk (blk_below (Cmp.b BK413.out) hb); have n1_ := Aside0.mk (below_step (Cmp.g HB.out) hb); have n2_ := Aside0.mk (hbox); have n3_ := Aside0.mk ((by rw [hg]; exact (below_size (Cmp.g HB.out)) : w.heap.size ≤ gb414)); have n4_ := Aside0.mk ((by rw [hg]; exact (below_size (Cmp.g HB.out)) : w.heap.size ≤ gb414)); have n5_ := Aside0.mk ((by rw [hg]; exact Nat.ne_of_lt (blk_lt (Cmp.b BK413.out)) : gb413 ≠ gb414)); have n6_ := Aside0.mk ((by rw [hg]; exact Nat.ne_of_gt (blk_lt (Cmp.b BK413.out)) : gb414 ≠ gb413)); clear BK413; clear HB; have BK413 := n0_; have HB := n1_; have BK414 := n2_; have GW414 := n3_; have GE414 := n4_; have NB413_414 := n5_; have NB414_413 := n6_; clear n0_ n1_ n2_ n3_ n4_ n5_ n6_; clear hb hbox hg; have hnb14 := NB413_414.out; have hnc14 := NB414_413.out; have hcz15_0 : w13.cell? ⟨gb413, 0, none⟩ = some (.int .i64 a0_0) := (blk_cell BK413.out 0).trans rfl; have hcz15_1 : w13.cell? ⟨gb413, 1, none⟩ = some (.int .i64 a0_1) := (blk_cell BK413.out 1).trans rfl; have hcz15_2 : w13.cell? ⟨gb413, 2, none⟩ = some (.int .i64 a0_2) := (blk_cell BK413.out 2).trans rfl; have hcz15_3 : w13.cell? ⟨gb413, 3, none⟩ = some (.bool a0_3) := (blk_cell BK413.out 3).trans rfl; have hfz15_0 := blk_frozen BK413.out 0; have hfz15_1 := blk_frozen BK413.out 1; have hfz15_2 := blk_frozen BK413.out 2; have hfz15_3 := blk_frozen BK413.out 3; have hcz16_0 : w13.cell? ⟨gb414, 0, none⟩ = some (.int .i64 a1_0) := (blk_cell BK414.out 0).trans rfl; have hcz16_1 : w13.cell? ⟨gb414, 1, none⟩ = some (.int .i64 a1_1) := (blk_cell BK414.out 1).trans rfl; have hcz16_2 : w13.cell? ⟨gb414, 2, none⟩ = some (.int .i64 a1_2) := (blk_cell BK414.out 2).trans rfl; have hcz16_3 : w13.cell? ⟨gb414, 3, none⟩ = some (.bool a1_3) := (blk_cell BK414.out 3).trans rfl; have hfz16_0 := blk_frozen BK414.out 0; have hfz16_1 := blk_frozen BK414.out 1; have hfz16_2 := blk_frozen BK414.out 2; have hfz16_3 := blk_frozen BK414.out 3))
     go_ret
     exact ⟨by first | rfl | (simp [errW_none, errW_some] <;> rfl) | (simp [*, errW_none, errW_some] <;> rfl), Cmp.g HB.out⟩
   ·rw [if_neg c5] at H; have c5b0 : (a0_2 == a1_2) = false := beq_eq_false_iff_ne.mpr c5; have c5b1 : (a0_2 != a1_2) = true := bne_iff_ne.mpr c5
    obtain rfl := Option.some.inj H
    go_enter Try.func118, Try.ntmps118
    go_wp2_with (first | ((with_reducible refine gate_dst (N := 2) rfl ?_); refine box_event ?hg (N := 2) ?hd (cs := #[.int .i64 a0_0, .int .i64 a0_1, .int .i64 a0_2, .bool a0_3]) (t := 94) ?hr ?_; (case hd => rfl); (case hg => rfl); (case hr => first | (go_simp; done) | (go_simp; rfl)); intro gb413 hg w17 hbox hb; have n0_ := Aside0.mk (below_step (Cmp.g HB.out) hb); have n1_ := Aside0.mk (hbox); have n2_ := Aside0.mk ((by rw [hg]; exact (below_size (Cmp.g HB.out)) : w.heap.size ≤ gb413)); have n3_ := Aside0.mk ((by rw [hg]; exact (below_size (Cmp.g HB.out)) : w.heap.size ≤ gb413)); clear HB; have HB := n0_; have BK413 := n1_; have GW413 := n2_; have GE413 := n3_; clear n0_ n1_ n2_ n3_; clear hb hbox hg) | ((with_reducible refine gate_dst (N := 3) rfl ?_); refine box_event ?hg (N := 3) ?hd (cs := #[.int .i64 a1_0, .int .i64 a1_1, .int .i64 a1_2, .bool a1_3]) (t := 94) ?hr ?_; (case hd => rfl); (case hg => rfl); (case hr => first | (go_simp; done) | (go_simp; rfl)); intro gb414 hg w18 hbox hb; have n0_ := Aside0.mk (blk_below (Cmp.b BK413.out) hb); have n1_ := Aside0.mk (below_step (Cmp.g HB.out) hb); have n2_ := Aside0.mk (hbox); have n3_ := Aside0.mk ((by rw [hg]; exact (below_size (Cmp.g HB.out)) : w.heap.size ≤ gb414)); have n4_ := Aside0.mk ((by rw [hg]; exact (below_size (Cmp.g HB.out)) : w.heap.size ≤ gb414)); have n5_ := Aside0.mk ((by rw [hg]; exact Nat.ne_of_lt (blk_lt (Cmp.b BK413.out)) : gb413 ≠ gb414)); have n6_ := Aside0.mk ((by rw [hg]; exact Nat.ne_of_gt (blk_lt (Cmp.b BK413.out)) : gb414 ≠ gb413)); clear BK413; clear HB; have BK413 := n0_; have HB := n1_; have BK414 := n2_; have GW414 := n3_; have GE414 := n4_; have NB413_414 := n5_; have NB414_413 := n6_; clear n0_ n1_ n2_ n3_ n4_ n5_ n6_; clear hb hbox hg; have hnb19 := NB413_414.out; have hnc19 := NB414_413.out; have hcz20_0 : w18.cell? ⟨gb413, 0, none⟩ = some (.int .i64 a0_0) := (blk_cell BK413.out 0).trans rfl; have hcz20_1 : w18.cell? ⟨gb413, 1, none⟩ = some (.int .i64 a0_1) := (blk_cell BK413.out 1).trans rfl; have hcz20_2 : w18.cell? ⟨gb413, 2, none⟩ = some (.int .i64 a0_2) := (blk_cell BK413.out 2).trans rfl; have hcz20_3 : w18.cell? ⟨gb413, 3, none⟩ = some (.bool a0_3) := (blk_cell BK413.out 3).trans rfl; have hfz20_0 := blk_frozen BK413.out 0; have hfz20_1 := blk_frozen BK413.out 1; have hfz20_2 := blk_frozen BK413.out 2; have hfz20_3 := blk_frozen BK413.out 3; have hcz21_0 : w18.cell? ⟨gb414, 0, none⟩ = some (.int .i64 a1_0) := (blk_cell BK414.out 0).trans rfl; have hcz21_1 : w18.cell? ⟨gb414, 1, none⟩ = some (.int .i64 a1_1) := (blk_cell BK414.out 1).trans rfl; have hcz21_2 : w18.cell? ⟨gb414, 2, none⟩ = some (.int .i64 a1_2) := (blk_cell BK414.out 2).trans rfl; have hcz21_3 : w18.cell? ⟨gb414, 3, none⟩ = some (.bool a1_3) := (blk_cell BK414.out 3).trans rfl; have hfz21_0 := blk_frozen BK414.out 0; have hfz21_1 := blk_frozen BK414.out 1; have hfz21_2 := blk_frozen BK414.out 2; have hfz21_3 := blk_frozen BK414.out 3))
    go_ret
    exact ⟨by first | rfl | (simp [errW_none, errW_some] <;> rfl) | (simp [*, errW_none, errW_some] <;> rfl), Cmp.g HB.out⟩
  ·rw [if_neg c4] at H; have c4b0 : (a0_1 == a1_1) = false := beq_eq_false_iff_ne.mpr c4; have c4b1 : (a0_1 != a1_1) = true := bne_iff_ne.mpr c4
   obtain rfl := Option.some.inj H
   go_enter Try.func118, Try.ntmps118
   go_wp2_with (first | ((with_reducible refine gate_dst (N := 2) rfl ?_); refine box_event ?hg (N := 2) ?hd (cs := #[.int .i64 a0_0, .int .i64 a0_1, .int .i64 a0_2, .bool a0_3]) (t := 94) ?hr ?_; (case hd => rfl); (case hg => rfl); (case hr => first | (go_simp; done) | (go_simp; rfl)); intro gb413 hg w22 hbox hb; have n0_ := Aside0.mk (below_step (Cmp.g HB.out) hb); have n1_ := Aside0.mk (hbox); have n2_ := Aside0.mk ((by rw [hg]; exact (below_size (Cmp.g HB.out)) : w.heap.size ≤ gb413)); have n3_ := Aside0.mk ((by rw [hg]; exact (below_size (Cmp.g HB.out)) : w.heap.size ≤ gb413)); clear HB; have HB := n0_; have BK413 := n1_; have GW413 := n2_; have GE413 := n3_; clear n0_ n1_ n2_ n3_; clear hb hbox hg) | ((with_reducible refine gate_dst (N := 3) rfl ?_); refine box_event ?hg (N := 3) ?hd (cs := #[.int .i64 a1_0, .int .i64 a1_1, .int .i64 a1_2, .bool a1_3]) (t := 94) ?hr ?_; (case hd => rfl); (case hg => rfl); (case hr => first | (go_simp; done) | (go_simp; rfl)); intro gb414 hg w23 hbox hb; have n0_ := Aside0.mk (blk_below (Cmp.b BK413.out) hb); have n1_ := Aside0.mk (below_step (Cmp.g HB.out) hb); have n2_ := Aside0.mk (hbox); have n3_ := Aside0.mk ((by rw [hg]; exact (below_size (Cmp.g HB.out)) : w.heap.size ≤ gb414)); have n4_ := Aside0.mk ((by rw [hg]; exact (below_size (Cmp.g HB.out)) : w.heap.size ≤ gb414)); have n5_ := Aside0.mk ((by rw [hg]; exact Nat.ne_of_lt (blk_lt (Cmp.b BK413.out)) : gb413 ≠ gb414)); have n6_ := Aside0.mk ((by rw [hg]; exact Nat.ne_of_gt (blk_lt (Cmp.b BK413.out)) : gb414 ≠ gb413)); clear BK413; clear HB; have BK413 := n0_; have HB := n1_; have BK414 := n2_; have GW414 := n3_; have GE414 := n4_; have NB413_414 := n5_; have NB414_413 := n6_; clear n0_ n1_ n2_ n3_ n4_ n5_ n6_; clear hb hbox hg; have hnb24 := NB413_414.out; have hnc24 := NB414_413.out; have hcz25_0 : w23.cell? ⟨gb413, 0, none⟩ = some (.int .i64 a0_0) := (blk_cell BK413.out 0).trans rfl; have hcz25_1 : w23.cell? ⟨gb413, 1, none⟩ = some (.int .i64 a0_1) := (blk_cell BK413.out 1).trans rfl; have hcz25_2 : w23.cell? ⟨gb413, 2, none⟩ = some (.int .i64 a0_2) := (blk_cell BK413.out 2).trans rfl; have hcz25_3 : w23.cell? ⟨gb413, 3, none⟩ = some (.bool a0_3) := (blk_cell BK413.out 3).trans rfl; have hfz25_0 := blk_frozen BK413.out 0; have hfz25_1 := blk_frozen BK413.out 1; have hfz25_2 := blk_frozen BK413.out 2; have hfz25_3 := blk_frozen BK413.out 3; have hcz26_0 : w23.cell? ⟨gb414, 0, none⟩ = some (.int .i64 a1_0) := (blk_cell BK414.out 0).trans rfl; have hcz26_1 : w23.cell? ⟨gb414, 1, none⟩ = some (.int .i64 a1_1) := (blk_cell BK414.out 1).trans rfl; have hcz26_2 : w23.cell? ⟨gb414, 2, none⟩ = some (.int .i64 a1_2) := (blk_cell BK414.out 2).trans rfl; have hcz26_3 : w23.cell? ⟨gb414, 3, none⟩ = some (.bool a1_3) := (blk_cell BK414.out 3).trans rfl; have hfz26_0 := blk_frozen BK414.out 0; have hfz26_1 := blk_frozen BK414.out 1; have hfz26_2 := blk_frozen BK414.out 2; have hfz26_3 := blk_frozen BK414.out 3))
   go_ret
   exact ⟨by first | rfl | (simp [errW_none, errW_some] <;> rfl) | (simp [*, errW_none, errW_some] <;> rfl), Cmp.g HB.out⟩
 ·rw [if_neg c3] at H; have c3b0 : (a0_0 == a1_0) = false := beq_eq_false_iff_ne.mpr c3; have c3b1 : (a0_0 != a1_0) = true := bne_iff_ne.mpr c3
  obtain rfl := Option.some.inj H
  go_enter Try.func118, Try.ntmps118
  go_wp2_with (first | ((with_reducible refine gate_dst (N := 2) rfl ?_); refine box_event ?hg (N := 2) ?hd (cs := #[.int .i64 a0_0, .int .i64 a0_1, .int .i64 a0_2, .bool a0_3]) (t := 94) ?hr ?_; (case hd => rfl); (case hg => rfl); (case hr => first | (go_simp; done) | (go_simp; rfl)); intro gb413 hg w27 hbox hb; have n0_ := Aside0.mk (below_step (Cmp.g HB.out) hb); have n1_ := Aside0.mk (hbox); have n2_ := Aside0.mk ((by rw [hg]; exact (below_size (Cmp.g HB.out)) : w.heap.size ≤ gb413)); have n3_ := Aside0.mk ((by rw [hg]; exact (below_size (Cmp.g HB.out)) : w.heap.size ≤ gb413)); clear HB; have HB := n0_; have BK413 := n1_; have GW413 := n2_; have GE413 := n3_; clear n0_ n1_ n2_ n3_; clear hb hbox hg) | ((with_reducible refine gate_dst (N := 3) rfl ?_); refine box_event ?hg (N := 3) ?hd (cs := #[.int .i64 a1_0, .int .i64 a1_1, .int .i64 a1_2, .bool a1_3]) (t := 94) ?hr ?_; (case hd => rfl); (case hg => rfl); (case hr => first | (go_simp; done) | (go_simp; rfl)); intro gb414 hg w28 hbox hb; have n0_ := Aside0.mk (blk_below (Cmp.b BK413.out) hb); have n1_ := Aside0.mk (below_step (Cmp.g HB.out) hb); have n2_ := Aside0.mk (hbox); have n3_ := Aside0.mk ((by rw [hg]; exact (below_size (Cmp.g HB.out)) : w.heap.size ≤ gb414)); have n4_ := Aside0.mk ((by rw [hg]; exact (below_size (Cmp.g HB.out)) : w.heap.size ≤ gb414)); have n5_ := Aside0.mk ((by rw [hg]; exact Nat.ne_of_lt (blk_lt (Cmp.b BK413.out)) : gb413 ≠ gb414)); have n6_ := Aside0.mk ((by rw [hg]; exact Nat.ne_of_gt (blk_lt (Cmp.b BK413.out)) : gb414 ≠ gb413)); clear BK413; clear HB; have BK413 := n0_; have HB := n1_; have BK414 := n2_; have GW414 := n3_; have GE414 := n4_; have NB413_414 := n5_; have NB414_413 := n6_; clear n0_ n1_ n2_ n3_ n4_ n5_ n6_; clear hb hbox hg; have hnb29 := NB413_414.out; have hnc29 := NB414_413.out; have hcz30_0 : w28.cell? ⟨gb413, 0, none⟩ = some (.int .i64 a0_0) := (blk_cell BK413.out 0).trans rfl; have hcz30_1 : w28.cell? ⟨gb413, 1, none⟩ = some (.int .i64 a0_1) := (blk_cell BK413.out 1).trans rfl; have hcz30_2 : w28.cell? ⟨gb413, 2, none⟩ = some (.int .i64 a0_2) := (blk_cell BK413.out 2).trans rfl; have hcz30_3 : w28.cell? ⟨gb413, 3, none⟩ = some (.bool a0_3) := (blk_cell BK413.out 3).trans rfl; have hfz30_0 := blk_frozen BK413.out 0; have hfz30_1 := blk_frozen BK413.out 1; have hfz30_2 := blk_frozen BK413.out 2; have hfz30_3 := blk_frozen BK413.out 3; have hcz31_0 : w28.cell? ⟨gb414, 0, none⟩ = some (.int .i64 a1_0) := (blk_cell BK414.out 0).trans rfl; have hcz31_1 : w28.cell? ⟨gb414, 1, none⟩ = some (.int .i64 a1_1) := (blk_cell BK414.out 1).trans rfl; have hcz31_2 : w28.cell? ⟨gb414, 2, none⟩ = some (.int .i64 a1_2) := (blk_cell BK414.out 2).trans rfl; have hcz31_3 : w28.cell? ⟨gb414, 3, none⟩ = some (.bool a1_3) := (blk_cell BK414.out 3).trans rfl; have hfz31_0 := blk_frozen BK414.out 0; have hfz31_1 := blk_frozen BK414.out 1; have hfz31_2 := blk_frozen BK414.out 2; have hfz31_3 := blk_frozen BK414.out 3))
  go_ret
  exact ⟨by first | rfl | (simp [errW_none, errW_some] <;> rfl) | (simp [*, errW_none, errW_some] <;> rfl), Cmp.g HB.out⟩

end Go.Proofs.Ytpgjecknkmmnhaa.PFnExactOpenBundle

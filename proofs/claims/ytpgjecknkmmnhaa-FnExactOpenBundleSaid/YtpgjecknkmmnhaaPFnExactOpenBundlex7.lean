/- Printed functions of the program, out of print.sh, told more shortly. No condition. -/
import Derived.Test.YtpgjecknkmmnhaaCmp
import Derived.Test.YtpgjecknkmmnhaaPFnExactOpenBundlex0
import Derived.Test.YtpgjecknkmmnhaaPFnExactOpenBundlex1
import Derived.Test.YtpgjecknkmmnhaaPFnExactOpenBundlex4
import Derived.Test.YtpgjecknkmmnhaaPFnExactOpenBundlex5
import Derived.Test.YtpgjecknkmmnhaaPFnExactOpenBundlex6
namespace Go.Proofs.Ytpgjecknkmmnhaa.PFnExactOpenBundle
open Go.Proofs.Ytpgjecknkmmnhaa
open Go.RowKit Go.Proofs.YtpgjecknkmmnhaaW.PrintWords Go.Proofs.YtpgjecknkmmnhaaW.PrintLast Go.Proofs.YtpgjecknkmmnhaaW.PrintMore
attribute [local go_sem] max2_int min2_int max_two min_two max_three min_three max_four min_four   -- for this text's walks alone
set_option linter.unusedVariables false
set_option linter.unusedSimpArgs false

/-! ### impl_OpenBundle: function 23 -/
def impl_OpenBundle.j0 : Nat → Int → Bool → Int → Int → List Int → Int → Option ((List (S94)) × Bool)
  | 0, _, _, _, _, _, _ => none
  | k + 1, x0, x30, x215000, x215001, x215002, x215003 => if x30 = true then (some (([] : List (S94)), false)) else ((impl_DeriveKey.f k x0 (([223, x215000, x215001] : List Int))).bind fun t223 => ((impl_Decrypt.f k t223 x215002).bind fun t224 => ((impl_DecodeBundle.f k t224).bind fun bt227 => (some (bt227.1, bt227.2)))))
def impl_OpenBundle.f (k : Nat) (a0 : Int) (a1_0 : Int) (a1_1 : Int) (l1_2 : List Int) (a1_3 : Int) : Option ((List (S94)) × Bool) := (impl_IsValidKey.f a0).bind fun t216 => (if t216 = true then ((impl_InRange.f a1_0 0 1000000).bind fun t217 => (if t217 = true then ((impl_InRange.f a1_1 0 1000000).bind fun t218 => (if t218 = true then ((impl_BundleMAC.f k a0 a1_0 a1_1 l1_2 a1_3).bind fun t219 => (impl_OpenBundle.j0 k a0 (a1_3 != t219) a1_0 a1_1 l1_2 a1_3)) else (impl_OpenBundle.j0 k a0 true a1_0 a1_1 l1_2 a1_3))) else (impl_OpenBundle.j0 k a0 true a1_0 a1_1 l1_2 a1_3))) else (impl_OpenBundle.j0 k a0 true a1_0 a1_1 l1_2 a1_3))
theorem impl_OpenBundle.mono_l : ∀ k, (∀ y0 y1 y2 y3 y4 y5, LeO (impl_OpenBundle.j0 k y0 y1 y2 y3 y4 y5) (impl_OpenBundle.j0 (k + 1) y0 y1 y2 y3 y4 y5))
  | 0 => fun _ _ _ _ _ _ r h => by simp [impl_OpenBundle.j0] at h
  | k + 1 => by
    have ih0 := impl_OpenBundle.mono_l k
    · intro y0 y1 y2 y3 y4 y5
      unfold impl_OpenBundle.j0
      repeat' first
      | (with_reducible exact ih0 _ _ _ _ _ _)
      | (with_reducible exact impl_BundleMAC.mono _ _ _ _ _ _)
      | (with_reducible exact impl_DecodeBundle.mono _ _)
      | (with_reducible exact impl_Decrypt.mono _ _ _)
      | (with_reducible exact impl_DeriveKey.mono _ _ _)
      | (with_reducible exact LeO.refl _)
      | (with_reducible exact LeO.none _)
      | (with_reducible refine LeO.ite ?_ ?_)
      | (with_reducible refine LeO.bind ?_ (fun _ => ?_))
      | exact ih0 _ _ _ _ _ _
      | exact impl_BundleMAC.mono _ _ _ _ _ _
      | exact impl_DecodeBundle.mono _ _
      | exact impl_Decrypt.mono _ _ _
      | exact impl_DeriveKey.mono _ _ _
      | exact LeO.none _
      | refine LeO.ite ?_ ?_
      | refine LeO.bind ?_ (fun _ => ?_)
theorem impl_OpenBundle.mono : ∀ a0 a1 a2 a3 a4 k, LeO (impl_OpenBundle.f k a0 a1 a2 a3 a4) (impl_OpenBundle.f (k + 1) a0 a1 a2 a3 a4) := by
  intro a0 a1 a2 a3 a4 k
  have ih0 := impl_OpenBundle.mono_l k
  unfold impl_OpenBundle.f
  repeat' first
      | (with_reducible exact ih0 _ _ _ _ _ _)
      | (with_reducible exact impl_BundleMAC.mono _ _ _ _ _ _)
      | (with_reducible exact impl_DecodeBundle.mono _ _)
      | (with_reducible exact impl_Decrypt.mono _ _ _)
      | (with_reducible exact impl_DeriveKey.mono _ _ _)
      | (with_reducible exact LeO.refl _)
      | (with_reducible exact LeO.none _)
      | (with_reducible refine LeO.ite ?_ ?_)
      | (with_reducible refine LeO.bind ?_ (fun _ => ?_))
      | exact ih0 _ _ _ _ _ _
      | exact impl_BundleMAC.mono _ _ _ _ _ _
      | exact impl_DecodeBundle.mono _ _
      | exact impl_Decrypt.mono _ _ _
      | exact impl_DeriveKey.mono _ _ _
      | exact LeO.none _
      | refine LeO.ite ?_ ?_
      | refine LeO.bind ?_ (fun _ => ?_)
def impl_OpenBundle.T1 : Bool × List (List Nat × List Nat) := (true, [([], []), ([0], [0]), ([1], [1]), ([2, 1], [2]), ([3], [3]), ([4, 3], [3, 4]), ([5, 3, 3], [3, 5]), ([6, 3], [3, 6]), ([3, 7], [3, 7]), ([8, 6], [8]), ([9], [9]), ([10, 9], [9, 10]), ([11, 9, 9], [9, 11]), ([12, 9], [9, 12]), ([9, 13], [9, 13]), ([14, 12], [14]), ([15], [15]), ([16, 15], [15, 16]), ([15], [15]), ([15], [15]), ([18, 19, 15, 15], [15, 18, 19]), ([17, 20, 15], [15, 17, 20]), ([15, 21], [15, 21])])
def impl_OpenBundle.B1 : List Nat := [0, 1, 3, 7, 15, 31, 63, 127, 255, 511, 1023, 2047, 4095, 8191, 16383, 32767, 65535, 131071, 65535, 65535, 851967, 2097151, 4194303]
theorem impl_OpenBundle.tab1 : rtab .any (opsOf Try.f23 1) = impl_OpenBundle.T1 := by kernel_rfl
theorem impl_OpenBundle.bits1 : waitsOk impl_OpenBundle.T1.2 impl_OpenBundle.B1 = true := by kernel_rfl
def impl_OpenBundle.T3 : Bool × List (List Nat × List Nat) := (true, [([], []), ([], []), ([1], [1]), ([], []), ([3], [3]), ([2, 4], [2, 4]), ([0, 5], [0, 5]), ([], []), ([7], [7]), ([6, 8, 6], [6, 8]), ([9, 9], [9]), ([10], [10]), ([11], [11]), ([11], [11]), ([], []), ([14, 12, 10, 0, 1, 2, 3, 4, 5, 6, 7, 8, 9, 10, 11, 12, 14], [12, 14]), ([13, 15, 0, 1, 2, 3, 4, 5, 6, 7, 8, 9, 10, 11, 12, 13, 14, 15], [13])])
def impl_OpenBundle.B3 : List Nat := [0, 0, 2, 0, 8, 30, 63, 0, 128, 511, 1023, 2047, 4095, 4095, 0, 24575, 65535]
theorem impl_OpenBundle.tab3 : rtab .any (opsOf Try.f23 3) = impl_OpenBundle.T3 := by kernel_rfl
theorem impl_OpenBundle.bits3 : waitsOk impl_OpenBundle.T3.2 impl_OpenBundle.B3 = true := by kernel_rfl
set_option maxHeartbeats 8000000 in
set_option maxRecDepth 100000 in
theorem impl_OpenBundle.calls (k : Nat) (a0 : Int) (a1_0 : Int) (a1_1 : Int) (A1_2 : Option Addr) (c1_2 : Nat) (l1_2 : List Int) (a1_3 : Int) (r1 : List (S94)) (r2 : Bool) (w : World) (hr1_2 : Kd.C (Kd.int .u8) w A1_2 l1_2.length l1_2) (hc1_2 : l1_2.length ≤ c1_2) (h : impl_OpenBundle.f k a0 a1_0 a1_1 l1_2 a1_3 = some (r1, r2)) :
    Calls Try.prog 23 #[.int .i64 a0, .agg #[.int .i64 a1_0, .int .i64 a1_1, .slice A1_2 l1_2.length c1_2, .int .i64 a1_3]] w fun e w' => ∃ v0_ : Value, e = .returned (.tuple #[.agg #[v0_], .bool r2]) ∧ Kd.R k94 94 w' w.heap.size (fun _ => True) v0_ r1 ∧ Below w.heap.size w w' := by
 have hu49 := Try.underlying49; have hu45 := Try.underlying45; have HR1_2 := Aside0.mk hr1_2; have HC1_2 := Aside0.mk hc1_2; clear hr1_2 hc1_2
 have HB := Aside0.mk (Below.refl w.heap.size w)
 have H : ((impl_IsValidKey.f a0).bind fun t216 => (if t216 = true then ((impl_InRange.f a1_0 0 1000000).bind fun t217 => (if t217 = true then ((impl_InRange.f a1_1 0 1000000).bind fun t218 => (if t218 = true then ((impl_BundleMAC.f k a0 a1_0 a1_1 l1_2 a1_3).bind fun t219 => (impl_OpenBundle.j0 k a0 (a1_3 != t219) a1_0 a1_1 l1_2 a1_3)) else (impl_OpenBundle.j0 k a0 true a1_0 a1_1 l1_2 a1_3))) else (impl_OpenBundle.j0 k a0 true a1_0 a1_1 l1_2 a1_3))) else (impl_OpenBundle.j0 k a0 true a1_0 a1_1 l1_2 a1_3))) = some (r1, r2) := h
 clear h; have HC3 := Aside0.mk H; clear H
 go_enter Try.func23, Try.ntmps23
 go_upto_region 1 with (first | ((with_reducible refine gate_dst (N := 3) rfl ?_); refine box_event ?hg (N := 3) ?hd (cs := #[.int .i64 a1_0, .int .i64 a1_1, .slice A1_2 l1_2.length c1_2, .int .i64 a1_3]) (t := 49) ?hr ?_; (case hd => rfl); (case hg => rfl); (case hr => first | (go_simp; done) | (go_simp; rfl)); intro gb214 hg w4 hbox hb; have n0_ := Aside0.mk (below_step (Cmp.g HB.out) hb); have n1_ := Aside0.mk (hbox); have n2_ := Aside0.mk ((by rw [hg]; exact (below_size (Cmp.g HB.out)) : w.heap.size ≤ gb214)); have n3_ := Aside0.mk ((by rw [hg]; exact (below_size (Cmp.g HB.out)) : w.heap.size ≤ gb214)); clear HB; have HB := n0_; have BK214 := n1_; have GW214 := n2_; have GE214 := n3_; clear n0_ n1_ n2_ n3_; clear hb hbox hg) | ((with_reducible refine gate_dst (N := 4) rfl ?_); refine box_event ?hg (N := 4) ?hd (cs := #[.slice none 0 0]) (t := 45) ?hr ?_; (case hd => rfl); (case hg => rfl); (case hr => first | (go_simp; done) | (go_simp; rfl)); intro gb215 hg w5 hbox hb; have n0_ := Aside0.mk (blk_below (Cmp.b BK214.out) hb); have n1_ := Aside0.mk (below_step (Cmp.g HB.out) hb); have n2_ := Aside0.mk (hbox); have n3_ := Aside0.mk ((by rw [hg]; exact (below_size (Cmp.g HB.out)) : w.heap.size ≤ gb215)); have n4_ := Aside0.mk ((by rw [hg]; exact (below_size (Cmp.g HB.out)) : w.heap.size ≤ gb215)); have n5_ := Aside0.mk ((by rw [hg]; exact Nat.ne_of_lt (blk_lt (Cmp.b BK214.out)) : gb214 ≠ gb215)); have n6_ := Aside0.mk ((by rw [hg]; exact Nat.ne_of_gt (blk_lt (Cmp.b BK214.out)) : gb215 ≠ gb214)); clear BK214; clear HB; have BK214 := n0_; have HB := n1_; have BK215 := n2_; have GW215 := n3_; have GE215 := n4_; have NB214_215 := n5_; have NB215_214 := n6_; clear n0_ n1_ n2_ n3_ n4_ n5_ n6_; clear hb hbox hg))
 (try simp only [Act.put, List.setIfInBounds_toArray, List.set_cons_zero, List.set_cons_succ])
 go_cut [30] (fun v30 wc => ∃ (kq : Nat) (x30_2 : Bool), v30 = .bool x30_2 ∧ Aside0 (impl_OpenBundle.j0 kq a0 x30_2 a1_0 a1_1 l1_2 a1_3 = some (r1, r2)) ∧ Aside0 (kq ≤ k) ∧ Aside0 (wc.heap[gb214]? = some (.cells #[.int .i64 a1_0, .int .i64 a1_1, (.slice A1_2 l1_2.length c1_2), .int .i64 a1_3] 49 (0, 0))) ∧ Aside0 (wc.heap[gb215]? = some (.cells #[(.slice none 0 0)] 45 (0, 0))) ∧ Aside0 (Below w.heap.size w wc))
 case first =>
  have H := HC3.out; clear HC3; replace H := Option.bind_eq_some_iff.mp H; obtain ⟨t216, A60, H⟩ := H; (try dsimp only at H); have A6 := Aside0.mk A60; clear A60
  by_cases c7 : t216 = true
  ·subst c7; rw [if_pos rfl] at H; replace H := Option.bind_eq_some_iff.mp H; obtain ⟨t217, A80, H⟩ := H; (try dsimp only at H); have A8 := Aside0.mk A80; clear A80
   by_cases c9 : t217 = true
   ·subst c9; rw [if_pos rfl] at H; replace H := Option.bind_eq_some_iff.mp H; obtain ⟨t218, A100, H⟩ := H; (try dsimp only at H); have A10 := Aside0.mk A100; clear A100
    by_cases c11 : t218 = true
    ·subst c11; rw [if_pos rfl] at H; replace H := Option.bind_eq_some_iff.mp H; obtain ⟨t219, A120, H⟩ := H; (try dsimp only at H); have A12 := Aside0.mk A120; clear A120
     have H' := Aside0.mk H
     clear H
     try go_wp2
     have n0_ := Aside0.mk (blk_drew BK214.out); have n1_ := Aside0.mk (blk_drew BK215.out); have n2_ := Aside0.mk (below_drew1 HB.out); clear BK214; clear BK215; clear HB; have BK214 := n0_; have BK215 := n1_; have HB := n2_; clear n0_ n1_ n2_
     refine start_ (n := 23) (S := fun w' => w'.cell? ⟨gb214, 0, none⟩ = some (.int .i64 a1_0) ∧ w'.cell? ⟨gb214, 1, none⟩ = some (.int .i64 a1_1) ∧ w'.cell? ⟨gb214, 2, none⟩ = some (.slice A1_2 l1_2.length c1_2) ∧ w'.cell? ⟨gb214, 3, none⟩ = some (.int .i64 a1_3)) (ds := []) (Cmp.bm 0 23) (by kernel_rfl) rfl rfl ⟨(blk_cell BK214.out 0).trans rfl, (blk_cell BK214.out 1).trans rfl, (blk_cell BK214.out 2).trans rfl, (blk_cell BK214.out 3).trans rfl⟩ (fun hHeld => ?_); refine with_tabW impl_OpenBundle.tab1 impl_OpenBundle.bits1 (fun HT_ HW_ => ?_)
     generalize w5.drew = w13 at BK214 BK215 HB hHeld ⊢
     refine Cmp.pu HT_ 0 8 (Cmp.bm 1 22) ?_
     refine one_ (i := 1) (N := some 9) (Cmp.bm 2 21) rfl rfl (one_of HT_.out (by kernel_rfl)) (by decide) (fun K hK => ?_)
     refine goes_ Try.func59 (by kernel_rfl) rfl #[.int .i64 a0] (by rfl) rfl rfl Cmp.q ?_
     with_reducible refine (impl_IsValidKey.calls a0 true _ A6.out).mono ?_
     rintro e w' ⟨rfl, ⟨nd, rfl⟩⟩; refine ⟨_, rfl, ?_⟩
     refine hK.out _ _ ⟨(blk_cell BK214.out 0).trans rfl, (blk_cell BK214.out 1).trans rfl, (blk_cell BK214.out 2).trans rfl, (blk_cell BK214.out 3).trans rfl⟩ (fun hHeld => ?_)
     clear hK K
     refine norm_ (a' := ?_) ?_ ?_
     rotate_left
     ·show Act.put _ (some 9) _ = _
      simp only [Act.put, Cmp.s, Cmp.z, Cmp.c, i64_w, i32_w]; rfl
     refine Cmp.pu HT_ 2 10 (Cmp.bm 3 20) ?_; refine Cmp.pu HT_ 3 11 (Cmp.bm 4 19) ?_; refine Cmp.pu HT_ 4 12 (Cmp.bm 5 18) ?_; refine Cmp.tk HT_ HW_ hHeld 5 13 (Cmp.bm 6 17) ?_
     refine one_ (i := 6) (N := some 14) (Cmp.bm 7 16) rfl rfl (one_of HT_.out (by kernel_rfl)) (by decide) (fun K hK => ?_)
     refine goes_ Try.func60 (by kernel_rfl) rfl #[.int .i64 a1_0, .int .i64 0, .int .i64 1000000] (by rfl) rfl rfl Cmp.q ?_
     with_reducible refine (impl_InRange.calls a1_0 0 1000000 true _ A8.out).mono ?_
     rintro e w' ⟨rfl, ⟨nd, rfl⟩⟩; refine ⟨_, rfl, ?_⟩
     refine hK.out _ _ ⟨(blk_cell BK214.out 0).trans rfl, (blk_cell BK214.out 1).trans rfl, (blk_cell BK214.out 2).trans rfl, (blk_cell BK214.out 3).trans rfl⟩ (fun hHeld => ?_)
     clear hK K
     refine norm_ (a' := ?_) ?_ ?_
     rotate_left
     ·show Act.put _ (some 14) _ = _
      simp only [Act.put, Cmp.s, Cmp.z, Cmp.c, i64_w, i32_w]; rfl
     refine Cmp.pu HT_ 7 15 (Cmp.bm 8 15) ?_; refine Cmp.pu HT_ 8 16 (Cmp.bm 9 14) ?_; refine Cmp.pu HT_ 9 17 (Cmp.bm 10 13) ?_; refine Cmp.pu HT_ 10 18 (Cmp.bm 11 12) ?_; refine Cmp.tk HT_ HW_ hHeld 11 19 (Cmp.bm 12 11) ?_
     refine one_ (i := 12) (N := some 20) (Cmp.bm 13 10) rfl rfl (one_of HT_.out (by kernel_rfl)) (by decide) (fun K hK => ?_)
     refine goes_ Try.func60 (by kernel_rfl) rfl #[.int .i64 a1_1, .int .i64 0, .int .i64 1000000] (by rfl) rfl rfl Cmp.q ?_
     with_reducible refine (impl_InRange.calls a1_1 0 1000000 true _ A10.out).mono ?_
     rintro e w' ⟨rfl, ⟨nd, rfl⟩⟩; refine ⟨_, rfl, ?_⟩
     refine hK.out _ _ ⟨(blk_cell BK214.out 0).trans rfl, (blk_cell BK214.out 1).trans rfl, (blk_cell BK214.out 2).trans rfl, (blk_cell BK214.out 3).trans rfl⟩ (fun hHeld => ?_)
     clear hK K
     refine norm_ (a' := ?_) ?_ ?_
     rotate_left
     ·show Act.put _ (some 20) _ = _
      simp only [Act.put, Cmp.s, Cmp.z, Cmp.c, i64_w, i32_w]; rfl
     refine Cmp.pu HT_ 13 21 (Cmp.bm 14 9) ?_; refine Cmp.pu HT_ 14 22 (Cmp.bm 15 8) ?_; refine Cmp.pu HT_ 15 23 (Cmp.bm 16 7) ?_; refine Cmp.pu HT_ 16 24 (Cmp.bm 17 6) ?_; refine Cmp.pu HT_ 18 26 (Cmp.bb 23 393215) ?_; refine Cmp.tk HT_ HW_ hHeld 17 25 (Cmp.bm 19 4) ?_; refine Cmp.tk HT_ HW_ hHeld 19 27 (Cmp.bm 20 3) ?_
     refine one_ (i := 20) (N := some 28) (Cmp.bm 21 2) rfl rfl (one_of HT_.out (by kernel_rfl)) (by decide) (fun K hK => ?_)
     refine goes_ Try.func64 (by kernel_rfl) rfl #[.int .i64 a0, .agg #[.int .i64 a1_0, .int .i64 a1_1, .slice A1_2 l1_2.length c1_2, .int .i64 a1_3]] (by rfl) rfl rfl Cmp.q ?_
     with_reducible refine (impl_BundleMAC.calls k a0 a1_0 a1_1 _ _ l1_2 a1_3 t219 _ ?side1 ?side2 A12.out).mono ?_
     (case side1 => exact Cmp.rc (Kd.C_below HR1_2.out (Cmp.g HB.out)))
     (case side2 => exact HC1_2.out)
     rintro e w14 ⟨rfl, hb⟩; refine ⟨_, rfl, ?_⟩
     have n0_ := Aside0.mk (blk_below (Cmp.b BK214.out) hb)
     have n1_ := Aside0.mk (blk_below (Cmp.b BK215.out) hb)
     have n2_ := Aside0.mk (below_step (Cmp.g HB.out) hb)
     clear BK214; clear BK215; clear HB; have BK214 := n0_; have BK215 := n1_; have HB := n2_; clear n0_ n1_ n2_; (try clear hb); (try clear hb2); (try clear hk); (try clear hi)
     refine hK.out _ _ ⟨(blk_cell BK214.out 0).trans rfl, (blk_cell BK214.out 1).trans rfl, (blk_cell BK214.out 2).trans rfl, (blk_cell BK214.out 3).trans rfl⟩ (fun hHeld => ?_)
     clear hK K
     refine norm_ (a' := ?_) ?_ ?_
     rotate_left
     ·show Act.put _ (some 28) _ = _
      simp only [Act.put, Cmp.s, Cmp.z, Cmp.c, i64_w, i32_w]; rfl
     refine Cmp.pu HT_ 21 29 (Cmp.bm 22 1) ?_; refine Cmp.pu HT_ 22 30 (Cmp.bm 23 0) ?_
     refine done_ (done_of HT_.out (by kernel_rfl)) ?_
     try go_wp2
     go_meet
     case rel => exact ⟨_, ((a1_3 != t219)), (by first | rfl | simp | simp [*]), H', ⟨by first | omega | exact Nat.le_refl _⟩, ⟨by (with_reducible repeat (first | refine blk_drewN ?_ _ | refine blk_drew ?_ | refine blk_alloc ?_ _)); exact BK214.out⟩, ⟨by (with_reducible repeat (first | refine blk_drewN ?_ _ | refine blk_drew ?_ | refine blk_alloc ?_ _)); exact BK215.out⟩, ⟨Cmp.g HB.out⟩⟩
    ·replace c11 := Bool.eq_false_iff.mpr c11
     subst c11
     have H1 : (impl_OpenBundle.j0 k a0 true a1_0 a1_1 l1_2 a1_3) = some (r1, r2) := by rw [if_neg (show ¬ (false = true) by decide)] at H; exact H
     clear H; have H := H1; clear H1
     have H' := Aside0.mk H
     clear H
     try go_wp2
     have n0_ := Aside0.mk (blk_drew BK214.out); have n1_ := Aside0.mk (blk_drew BK215.out); have n2_ := Aside0.mk (below_drew1 HB.out); clear BK214; clear BK215; clear HB; have BK214 := n0_; have BK215 := n1_; have HB := n2_; clear n0_ n1_ n2_
     refine start_ (n := 23) (S := fun w' => w'.cell? ⟨gb214, 0, none⟩ = some (.int .i64 a1_0) ∧ w'.cell? ⟨gb214, 1, none⟩ = some (.int .i64 a1_1) ∧ w'.cell? ⟨gb214, 2, none⟩ = some (.slice A1_2 l1_2.length c1_2) ∧ w'.cell? ⟨gb214, 3, none⟩ = some (.int .i64 a1_3)) (ds := []) (Cmp.bm 0 23) (by kernel_rfl) rfl rfl ⟨(blk_cell BK214.out 0).trans rfl, (blk_cell BK214.out 1).trans rfl, (blk_cell BK214.out 2).trans rfl, (blk_cell BK214.out 3).trans rfl⟩ (fun hHeld => ?_); refine with_tabW impl_OpenBundle.tab1 impl_OpenBundle.bits1 (fun HT_ HW_ => ?_)
     generalize w5.drew = w15 at BK214 BK215 HB hHeld ⊢
     refine Cmp.pu HT_ 0 8 (Cmp.bm 1 22) ?_
     refine one_ (i := 1) (N := some 9) (Cmp.bm 2 21) rfl rfl (one_of HT_.out (by kernel_rfl)) (by decide) (fun K hK => ?_)
     refine goes_ Try.func59 (by kernel_rfl) rfl #[.int .i64 a0] (by rfl) rfl rfl Cmp.q ?_
     with_reducible refine (impl_IsValidKey.calls a0 true _ A6.out).mono ?_
     rintro e w' ⟨rfl, ⟨nd, rfl⟩⟩; refine ⟨_, rfl, ?_⟩
     refine hK.out _ _ ⟨(blk_cell BK214.out 0).trans rfl, (blk_cell BK214.out 1).trans rfl, (blk_cell BK214.out 2).trans rfl, (blk_cell BK214.out 3).trans rfl⟩ (fun hHeld => ?_)
     clear hK K
     refine norm_ (a' := ?_) ?_ ?_
     rotate_left
     ·show Act.put _ (some 9) _ = _
      simp only [Act.put, Cmp.s, Cmp.z, Cmp.c, i64_w, i32_w]; rfl
     refine Cmp.pu HT_ 2 10 (Cmp.bm 3 20) ?_; refine Cmp.pu HT_ 3 11 (Cmp.bm 4 19) ?_; refine Cmp.pu HT_ 4 12 (Cmp.bm 5 18) ?_; refine Cmp.tk HT_ HW_ hHeld 5 13 (Cmp.bm 6 17) ?_
     refine one_ (i := 6) (N := some 14) (Cmp.bm 7 16) rfl rfl (one_of HT_.out (by kernel_rfl)) (by decide) (fun K hK => ?_)
     refine goes_ Try.func60 (by kernel_rfl) rfl #[.int .i64 a1_0, .int .i64 0, .int .i64 1000000] (by rfl) rfl rfl Cmp.q ?_
     with_reducible refine (impl_InRange.calls a1_0 0 1000000 true _ A8.out).mono ?_
     rintro e w' ⟨rfl, ⟨nd, rfl⟩⟩; refine ⟨_, rfl, ?_⟩
     refine hK.out _ _ ⟨(blk_cell BK214.out 0).trans rfl, (blk_cell BK214.out 1).trans rfl, (blk_cell BK214.out 2).trans rfl, (blk_cell BK214.out 3).trans rfl⟩ (fun hHeld => ?_)
     clear hK K
     refine norm_ (a' := ?_) ?_ ?_
     rotate_left
     ·show Act.put _ (some 14) _ = _
      simp only [Act.put, Cmp.s, Cmp.z, Cmp.c, i64_w, i32_w]; rfl
     refine Cmp.pu HT_ 7 15 (Cmp.bm 8 15) ?_; refine Cmp.pu HT_ 8 16 (Cmp.bm 9 14) ?_; refine Cmp.pu HT_ 9 17 (Cmp.bm 10 13) ?_; refine Cmp.pu HT_ 10 18 (Cmp.bm 11 12) ?_; refine Cmp.tk HT_ HW_ hHeld 11 19 (Cmp.bm 12 11) ?_
     refine one_ (i := 12) (N := some 20) (Cmp.bm 13 10) rfl rfl (one_of HT_.out (by kernel_rfl)) (by decide) (fun K hK => ?_)
     refine goes_ Try.func60 (by kernel_rfl) rfl #[.int .i64 a1_1, .int .i64 0, .int .i64 1000000] (by rfl) rfl rfl Cmp.q ?_
     with_reducible refine (impl_InRange.calls a1_1 0 1000000 false _ A10.out).mono ?_
     rintro e w' ⟨rfl, ⟨nd, rfl⟩⟩; refine ⟨_, rfl, ?_⟩
     refine hK.out _ _ ⟨(blk_cell BK214.out 0).trans rfl, (blk_cell BK214.out 1).trans rfl, (blk_cell BK214.out 2).trans rfl, (blk_cell BK214.out 3).trans rfl⟩ (fun hHeld => ?_)
     clear hK K
     refine norm_ (a' := ?_) ?_ ?_
     rotate_left
     ·show Act.put _ (some 20) _ = _
      simp only [Act.put, Cmp.s, Cmp.z, Cmp.c, i64_w, i32_w]; rfl
     refine Cmp.pu HT_ 13 21 (Cmp.bm 14 9) ?_; refine Cmp.pu HT_ 14 22 (Cmp.bm 15 8) ?_; refine Cmp.pu HT_ 15 23 (Cmp.bm 16 7) ?_; refine Cmp.pv HT_ 16 24 (Cmp.bm 17 6) ?_; refine Cmp.pv HT_ 17 25 (Cmp.bm 18 5) ?_; refine Cmp.pv HT_ 18 26 (Cmp.bm 19 4) ?_; refine Cmp.pv HT_ 19 27 (Cmp.bm 20 3) ?_; refine Cmp.pv HT_ 20 28 (Cmp.bm 21 2) ?_; refine Cmp.pv HT_ 21 29 (Cmp.bm 22 1) ?_; refine Cmp.pu HT_ 22 30 (Cmp.bm 23 0) ?_
     refine done_ (done_of HT_.out (by kernel_rfl)) ?_
     try go_wp2
     go_meet
     case rel => exact ⟨_, (true), (by first | rfl | simp | simp [*]), H', ⟨by first | omega | exact Nat.le_refl _⟩, ⟨by (with_reducible repeat (first | refine blk_drewN ?_ _ | refine blk_drew ?_ | refine blk_alloc ?_ _)); exact BK214.out⟩, ⟨by (with_reducible repeat (first | refine blk_drewN ?_ _ | refine blk_drew ?_ | refine blk_alloc ?_ _)); exact BK215.out⟩, ⟨Cmp.g HB.out⟩⟩
   ·replace c9 := Bool.eq_false_iff.mpr c9
    subst c9
    have H1 : (impl_OpenBundle.j0 k a0 true a1_0 a1_1 l1_2 a1_3) = some (r1, r2) := by rw [if_neg (show ¬ (false = true) by decide)] at H; exact H
    clear H; have H := H1; clear H1
    have H' := Aside0.mk H
    clear H
    try go_wp2
    have n0_ := Aside0.mk (blk_drew BK214.out); have n1_ := Aside0.mk (blk_drew BK215.out); have n2_ := Aside0.mk (below_drew1 HB.out); clear BK214; clear BK215; clear HB; have BK214 := n0_; have BK215 := n1_; have HB := n2_; clear n0_ n1_ n2_
    refine start_ (n := 23) (S := fun w' => w'.cell? ⟨gb214, 0, none⟩ = some (.int .i64 a1_0) ∧ w'.cell? ⟨gb214, 1, none⟩ = some (.int .i64 a1_1) ∧ w'.cell? ⟨gb214, 2, none⟩ = some (.slice A1_2 l1_2.length c1_2) ∧ w'.cell? ⟨gb214, 3, none⟩ = some (.int .i64 a1_3)) (ds := []) (Cmp.bm 0 23) (by kernel_rfl) rfl rfl ⟨(blk_cell BK214.out 0).trans rfl, (blk_cell BK214.out 1).trans rfl, (blk_cell BK214.out 2).trans rfl, (blk_cell BK214.out 3).trans rfl⟩ (fun hHeld => ?_); refine with_tabW impl_OpenBundle.tab1 impl_OpenBundle.bits1 (fun HT_ HW_ => ?_)
    generalize w5.drew = w16 at BK214 BK215 HB hHeld ⊢
    refine Cmp.pu HT_ 0 8 (Cmp.bm 1 22) ?_
    refine one_ (i := 1) (N := some 9) (Cmp.bm 2 21) rfl rfl (one_of HT_.out (by kernel_rfl)) (by decide) (fun K hK => ?_)
    refine goes_ Try.func59 (by kernel_rfl) rfl #[.int .i64 a0] (by rfl) rfl rfl Cmp.q ?_
    with_reducible refine (impl_IsValidKey.calls a0 true _ A6.out).mono ?_
    rintro e w' ⟨rfl, ⟨nd, rfl⟩⟩; refine ⟨_, rfl, ?_⟩
    refine hK.out _ _ ⟨(blk_cell BK214.out 0).trans rfl, (blk_cell BK214.out 1).trans rfl, (blk_cell BK214.out 2).trans rfl, (blk_cell BK214.out 3).trans rfl⟩ (fun hHeld => ?_)
    clear hK K
    refine norm_ (a' := ?_) ?_ ?_
    rotate_left
    ·show Act.put _ (some 9) _ = _
     simp only [Act.put, Cmp.s, Cmp.z, Cmp.c, i64_w, i32_w]; rfl
    refine Cmp.pu HT_ 2 10 (Cmp.bm 3 20) ?_; refine Cmp.pu HT_ 3 11 (Cmp.bm 4 19) ?_; refine Cmp.pu HT_ 4 12 (Cmp.bm 5 18) ?_; refine Cmp.tk HT_ HW_ hHeld 5 13 (Cmp.bm 6 17) ?_
    refine one_ (i := 6) (N := some 14) (Cmp.bm 7 16) rfl rfl (one_of HT_.out (by kernel_rfl)) (by decide) (fun K hK => ?_)
    refine goes_ Try.func60 (by kernel_rfl) rfl #[.int .i64 a1_0, .int .i64 0, .int .i64 1000000] (by rfl) rfl rfl Cmp.q ?_
    with_reducible refine (impl_InRange.calls a1_0 0 1000000 false _ A8.out).mono ?_
    rintro e w' ⟨rfl, ⟨nd, rfl⟩⟩; refine ⟨_, rfl, ?_⟩
    refine hK.out _ _ ⟨(blk_cell BK214.out 0).trans rfl, (blk_cell BK214.out 1).trans rfl, (blk_cell BK214.out 2).trans rfl, (blk_cell BK214.out 3).trans rfl⟩ (fun hHeld => ?_)
    clear hK K
    refine norm_ (a' := ?_) ?_ ?_
    rotate_left
    ·show Act.put _ (some 14) _ = _
     simp only [Act.put, Cmp.s, Cmp.z, Cmp.c, i64_w, i32_w]; rfl
    refine Cmp.pu HT_ 7 15 (Cmp.bm 8 15) ?_; refine Cmp.pu HT_ 8 16 (Cmp.bm 9 14) ?_; refine Cmp.pu HT_ 9 17 (Cmp.bm 10 13) ?_; refine Cmp.pv HT_ 10 18 (Cmp.bm 11 12) ?_; refine Cmp.pv HT_ 11 19 (Cmp.bm 12 11) ?_; refine Cmp.pv HT_ 12 20 (Cmp.bm 13 10) ?_; refine Cmp.pv HT_ 13 21 (Cmp.bm 14 9) ?_; refine Cmp.pu HT_ 14 22 (Cmp.bm 15 8) ?_; refine Cmp.pu HT_ 15 23 (Cmp.bm 16 7) ?_; refine Cmp.pv HT_ 16 24 (Cmp.bm 17 6) ?_; refine Cmp.pv HT_ 17 25 (Cmp.bm 18 5) ?_; refine Cmp.pv HT_ 18 26 (Cmp.bm 19 4) ?_; refine Cmp.pv HT_ 19 27 (Cmp.bm 20 3) ?_; refine Cmp.pv HT_ 20 28 (Cmp.bm 21 2) ?_; refine Cmp.pv HT_ 21 29 (Cmp.bm 22 1) ?_; refine Cmp.pu HT_ 22 30 (Cmp.bm 23 0) ?_
    refine done_ (done_of HT_.out (by kernel_rfl)) ?_
    try go_wp2
    go_meet
    case rel => exact ⟨_, (true), (by first | rfl | simp | simp [*]), H', ⟨by first | omega | exact Nat.le_refl _⟩, ⟨by (with_reducible repeat (first | refine blk_drewN ?_ _ | refine blk_drew ?_ | refine blk_alloc ?_ _)); exact BK214.out⟩, ⟨by (with_reducible repeat (first | refine blk_drewN ?_ _ | refine blk_drew ?_ | refine blk_alloc ?_ _)); exact BK215.out⟩, ⟨Cmp.g HB.out⟩⟩
  ·replace c7 := Bool.eq_false_iff.mpr c7
   subst c7
   have H1 : (impl_OpenBundle.j0 k a0 true a1_0 a1_1 l1_2 a1_3) = some (r1, r2) := by rw [if_neg (show ¬ (false = true) by decide)] at H; exact H
   clear H; have H := H1; clear H1
   have H' := Aside0.mk H
   clear H
   try go_wp2
   have n0_ := Aside0.mk (blk_drew BK214.out); have n1_ := Aside0.mk (blk_drew BK215.out); have n2_ := Aside0.mk (below_drew1 HB.out); clear BK214; clear BK215; clear HB; have BK214 := n0_; have BK215 := n1_; have HB := n2_; clear n0_ n1_ n2_
   refine start_ (n := 23) (S := fun w' => True) (ds := []) (Cmp.bm 0 23) (by kernel_rfl) rfl rfl trivial (fun hHeld => ?_); refine with_tabW impl_OpenBundle.tab1 impl_OpenBundle.bits1 (fun HT_ HW_ => ?_)
   generalize w5.drew = w17 at BK214 BK215 HB hHeld ⊢
   refine Cmp.pu HT_ 0 8 (Cmp.bm 1 22) ?_
   refine one_ (i := 1) (N := some 9) (Cmp.bm 2 21) rfl rfl (one_of HT_.out (by kernel_rfl)) (by decide) (fun K hK => ?_)
   refine goes_ Try.func59 (by kernel_rfl) rfl #[.int .i64 a0] (by rfl) rfl rfl Cmp.q ?_
   with_reducible refine (impl_IsValidKey.calls a0 false _ A6.out).mono ?_
   rintro e w' ⟨rfl, ⟨nd, rfl⟩⟩; refine ⟨_, rfl, ?_⟩
   refine hK.out _ _ trivial (fun hHeld => ?_)
   clear hK K
   refine norm_ (a' := ?_) ?_ ?_
   rotate_left
   ·show Act.put _ (some 9) _ = _
    simp only [Act.put, Cmp.s, Cmp.z, Cmp.c, i64_w, i32_w]; rfl
   refine Cmp.pu HT_ 2 10 (Cmp.bm 3 20) ?_; refine Cmp.pu HT_ 3 11 (Cmp.bm 4 19) ?_; refine Cmp.pv HT_ 4 12 (Cmp.bm 5 18) ?_; refine Cmp.pv HT_ 5 13 (Cmp.bm 6 17) ?_; refine Cmp.pv HT_ 6 14 (Cmp.bm 7 16) ?_; refine Cmp.pv HT_ 7 15 (Cmp.bm 8 15) ?_; refine Cmp.pu HT_ 8 16 (Cmp.bm 9 14) ?_; refine Cmp.pu HT_ 9 17 (Cmp.bm 10 13) ?_; refine Cmp.pv HT_ 10 18 (Cmp.bm 11 12) ?_; refine Cmp.pv HT_ 11 19 (Cmp.bm 12 11) ?_; refine Cmp.pv HT_ 12 20 (Cmp.bm 13 10) ?_; refine Cmp.pv HT_ 13 21 (Cmp.bm 14 9) ?_; refine Cmp.pu HT_ 14 22 (Cmp.bm 15 8) ?_; refine Cmp.pu HT_ 15 23 (Cmp.bm 16 7) ?_; refine Cmp.pv HT_ 16 24 (Cmp.bm 17 6) ?_; refine Cmp.pv HT_ 17 25 (Cmp.bm 18 5) ?_; refine Cmp.pv HT_ 18 26 (Cmp.bm 19 4) ?_; refine Cmp.pv HT_ 19 27 (Cmp.bm 20 3) ?_; refine Cmp.pv HT_ 20 28 (Cmp.bm 21 2) ?_; refine Cmp.pv HT_ 21 29 (Cmp.bm 22 1) ?_; refine Cmp.pu HT_ 22 30 (Cmp.bm 23 0) ?_
   refine done_ (done_of HT_.out (by kernel_rfl)) ?_
   try go_wp2
   go_meet
   case rel => exact ⟨_, (true), (by first | rfl | simp | simp [*]), H', ⟨by first | omega | exact Nat.le_refl _⟩, ⟨by (with_reducible repeat (first | refine blk_drewN ?_ _ | refine blk_drew ?_ | refine blk_alloc ?_ _)); exact BK214.out⟩, ⟨by (with_reducible repeat (first | refine blk_drewN ?_ _ | refine blk_drew ?_ | refine blk_alloc ?_ _)); exact BK215.out⟩, ⟨Cmp.g HB.out⟩⟩
 case rest =>
  clear HC3; (try clear c1); (try clear p2); (try clear c5); (try clear c6); (try clear c7); (try clear c9); (try clear c11)
  obtain ⟨kq, x30_2, rfl, HA, HJ2, BK214, BK215, HB⟩ := hcut
  cases kq with
  | zero => exact absurd HA.out (by simp [impl_OpenBundle.j0])
  | succ kj2 =>
   have H := HA.out; clear HA
   simp only [impl_OpenBundle.j0] at H
   by_cases c18 : x30_2 = true
   ·subst c18; rw [if_pos rfl] at H
    simp only [Option.some.injEq, Prod.mk.injEq] at H
    obtain ⟨rfl, rfl⟩ := H; have hnb19 := NB215_214.out; have hnc19 := NB214_215.out
    have hcz20_0 : wc.cell? ⟨gb215, 0, none⟩ = some (.slice none 0 0) := (blk_cell BK215.out 0).trans rfl
    have hfz20_0 := blk_frozen BK215.out 0
    go_wp2
    refine bodyPost_ret (results_ct rfl _ _ gb215 45 #[.slice none 0 0] (0, 0) _ rfl (by (with_reducible repeat (first | refine blk_drewN ?_ _ | refine blk_drew ?_ | refine blk_alloc ?_ _)); refine blk_put (cs := #[.slice none 0 0]) ?_ 0 _ rfl; (with_reducible repeat (first | refine blk_drewN ?_ _ | refine blk_drew ?_ | refine blk_alloc ?_ _)); exact BK215.out) Try.underlying45 rfl (by kernel_rfl)) rfl ?_
    exact ⟨_, by first | rfl | (simp [errW_none, errW_some] <;> rfl) | (simp [*, errW_none, errW_some] <;> rfl), by first | exact Kd.R_nil _ _ _ _ _ | exact Kd.N_nil _ _ _ _ _ | exact Kd.V_nil _ _ _ _ _ | exact Kd.Q_nil _ _ _ _ _ | exact Kd.S_nil _ _ _ _ _, Cmp.g HB.out⟩
   ·replace c18 := Bool.eq_false_iff.mpr c18
    subst c18
    have H1 : ((impl_DeriveKey.f kj2 a0 (([223, a1_0, a1_1] : List Int))).bind fun t223 => ((impl_Decrypt.f kj2 t223 l1_2).bind fun t224 => ((impl_DecodeBundle.f kj2 t224).bind fun bt227 => (some (bt227.1, bt227.2))))) = some (r1, r2) := by rw [if_neg (show ¬ (false = true) by decide)] at H; exact H
    clear H; have H := H1; clear H1
    obtain ⟨y220, hy220⟩ : ∃ y_ : List Int, y_ = (([223, a1_0, a1_1] : List Int)) := ⟨_, rfl⟩
    replace H : ((impl_DeriveKey.f kj2 a0 y220).bind fun t223 => ((impl_Decrypt.f kj2 t223 l1_2).bind fun t224 => ((impl_DecodeBundle.f kj2 t224).bind fun bt227 => (some (bt227.1, bt227.2))))) = some (r1, r2) := by first | (rw [hy220]; with_reducible exact H) | (have H2_ := (Option.bind_some _ _).symm.trans H; rw [hy220]; with_reducible exact H2_) | (have H2_ := (Option.bind_some _ _).symm.trans H; with_reducible exact H2_) | with_reducible exact H | (rw [hy220]; exact H) | exact H
    have Ny220 := Aside0.mk hy220; clear hy220; replace H := Option.bind_eq_some_iff.mp H; obtain ⟨t223, A210, H⟩ := H; (try dsimp only at H); have A21 := Aside0.mk A210; clear A210; replace H := Option.bind_eq_some_iff.mp H; obtain ⟨t224, A220, H⟩ := H; (try dsimp only at H); have A22 := Aside0.mk A220; clear A220; replace H := Option.bind_eq_some_iff.mp H; obtain ⟨⟨t227, t230⟩, A230, H⟩ := H; (try dsimp only at H); have A23 := Aside0.mk A230; clear A230
    simp only [Option.some.injEq, Prod.mk.injEq] at H
    obtain ⟨rfl, rfl⟩ := H
    try go_wp2
    have n0_ := Aside0.mk (blk_drew BK214.out); have n1_ := Aside0.mk (blk_drew BK215.out); have n2_ := Aside0.mk (below_drew1 HB.out); clear BK214; clear BK215; clear HB; have BK214 := n0_; have BK215 := n1_; have HB := n2_; clear n0_ n1_ n2_
    refine start_ (n := 17) (S := fun w' => w'.cell? ⟨gb214, 0, none⟩ = some (.int .i64 a1_0) ∧ w'.cell? ⟨gb214, 1, none⟩ = some (.int .i64 a1_1) ∧ w'.cell? ⟨gb214, 2, none⟩ = some (.slice A1_2 l1_2.length c1_2) ∧ w'.cell? ⟨gb214, 3, none⟩ = some (.int .i64 a1_3)) (ds := []) (Cmp.bm 0 17) (by kernel_rfl) rfl rfl ⟨(blk_cell BK214.out 0).trans rfl, (blk_cell BK214.out 1).trans rfl, (blk_cell BK214.out 2).trans rfl, (blk_cell BK214.out 3).trans rfl⟩ (fun hHeld => ?_); refine with_tabW impl_OpenBundle.tab3 impl_OpenBundle.bits3 (fun HT_ HW_ => ?_)
    generalize wc.drew = w24 at BK214 BK215 HB hHeld ⊢
    refine Cmp.pu HT_ 0 33 (Cmp.bm 1 16) ?_; refine Cmp.pu HT_ 1 34 (Cmp.bm 2 15) ?_; refine Cmp.pu HT_ 3 36 (Cmp.bb 17 11) ?_; refine Cmp.pu HT_ 7 40 (Cmp.bb 17 139) ?_; refine Cmp.tk HT_ HW_ hHeld 2 35 (Cmp.bb 17 143) ?_; refine Cmp.tk HT_ HW_ hHeld 4 37 (Cmp.bb 17 159) ?_; refine Cmp.tk HT_ HW_ hHeld 8 41 (Cmp.bb 17 415) ?_
    refine join_ (σ := Value × Value × Value × Nat) 2 (Cmp.bm 15 2) (fun s_ => [(38, s_.1), (39, .int .i64 t223), (42, s_.2.1), (43, .tuple #[.agg #[s_.2.2.1], .bool t230]), (6, .pointer (some ⟨s_.2.2.2, 0, none⟩)), (32, .tuple #[.agg #[s_.2.2.1], .bool t230]), (44, .agg #[s_.2.2.1]), (45, .bool t230)]) (fun s_ w' => (w'.cell? ⟨gb214, 0, none⟩ = some (.int .i64 a1_0) ∧ w'.cell? ⟨gb214, 1, none⟩ = some (.int .i64 a1_1) ∧ w'.cell? ⟨gb214, 2, none⟩ = some (.slice A1_2 l1_2.length c1_2) ∧ w'.cell? ⟨gb214, 3, none⟩ = some (.int .i64 a1_3)) ∧ (Kd.R (Kd.int .i64) 3 w' w.heap.size (fun _ => True) s_.1 y220) ∧ (Kd.R (Kd.int .u8) 5 w' w.heap.size (fun _ => True) s_.2.1 t224) ∧ (Kd.R k94 94 w' w.heap.size (fun _ => True) s_.2.2.1 t227) ∧ (w'.heap[gb214]? = some (.cells #[.int .i64 a1_0, .int .i64 a1_1, .slice A1_2 l1_2.length c1_2, .int .i64 a1_3] 49 (0, 0))) ∧ (w'.heap[gb215]? = some (.cells #[.slice none 0 0] 45 (0, 0))) ∧ (w'.heap[s_.2.2.2]? = some (.cells #[.slice none 0 0] 45 (0, 0))) ∧ (w.heap.size ≤ s_.2.2.2) ∧ (w.heap.size ≤ s_.2.2.2) ∧ (gb214 ≠ s_.2.2.2) ∧ (s_.2.2.2 ≠ gb214) ∧ (gb215 ≠ s_.2.2.2) ∧ (s_.2.2.2 ≠ gb215) ∧ (Below w.heap.size w w')) ?_ ?_
    rotate_left
    ·intro hJ5_6_9_10_14
     refine join_ (σ := Value × Value × Value) 3 (Cmp.bm 14 3) (fun s_ => [(38, s_.1), (39, .int .i64 t223), (42, s_.2.1), (43, .tuple #[.agg #[s_.2.2], .bool t230]), (32, .tuple #[.agg #[s_.2.2], .bool t230]), (44, .agg #[s_.2.2]), (45, .bool t230)]) (fun s_ w' => (w'.cell? ⟨gb214, 0, none⟩ = some (.int .i64 a1_0) ∧ w'.cell? ⟨gb214, 1, none⟩ = some (.int .i64 a1_1) ∧ w'.cell? ⟨gb214, 2, none⟩ = some (.slice A1_2 l1_2.length c1_2) ∧ w'.cell? ⟨gb214, 3, none⟩ = some (.int .i64 a1_3)) ∧ (Kd.R (Kd.int .i64) 3 w' w.heap.size (fun _ => True) s_.1 y220) ∧ (Kd.R (Kd.int .u8) 5 w' w.heap.size (fun _ => True) s_.2.1 t224) ∧ (Kd.R k94 94 w' w.heap.size (fun _ => True) s_.2.2 t227) ∧ (w'.heap[gb214]? = some (.cells #[.int .i64 a1_0, .int .i64 a1_1, .slice A1_2 l1_2.length c1_2, .int .i64 a1_3] 49 (0, 0))) ∧ (w'.heap[gb215]? = some (.cells #[.slice none 0 0] 45 (0, 0))) ∧ (Below w.heap.size w w')) ?_ ?_
     rotate_left
     ·intro hJ5_6_9_10
      refine join_ (σ := Value × Value × Nat) 6 (Cmp.bb 17 17407) (fun s_ => [(38, s_.1), (39, .int .i64 t223), (42, s_.2.1), (6, .pointer (some ⟨s_.2.2, 0, none⟩))]) (fun s_ w' => (w'.cell? ⟨gb214, 0, none⟩ = some (.int .i64 a1_0) ∧ w'.cell? ⟨gb214, 1, none⟩ = some (.int .i64 a1_1) ∧ w'.cell? ⟨gb214, 2, none⟩ = some (.slice A1_2 l1_2.length c1_2) ∧ w'.cell? ⟨gb214, 3, none⟩ = some (.int .i64 a1_3)) ∧ (Kd.R (Kd.int .i64) 3 w' w.heap.size (fun _ => True) s_.1 y220) ∧ (Kd.R (Kd.int .u8) 5 w' w.heap.size (fun _ => True) s_.2.1 t224) ∧ (w'.heap[gb214]? = some (.cells #[.int .i64 a1_0, .int .i64 a1_1, .slice A1_2 l1_2.length c1_2, .int .i64 a1_3] 49 (0, 0))) ∧ (w'.heap[gb215]? = some (.cells #[.slice none 0 0] 45 (0, 0))) ∧ (w'.heap[s_.2.2]? = some (.cells #[.slice none 0 0] 45 (0, 0))) ∧ (w.heap.size ≤ s_.2.2) ∧ (w.heap.size ≤ s_.2.2) ∧ (gb214 ≠ s_.2.2) ∧ (s_.2.2 ≠ gb214) ∧ (gb215 ≠ s_.2.2) ∧ (s_.2.2 ≠ gb215) ∧ (Below w.heap.size w w')) ?_ ?_
      rotate_left
      ·intro hJ5_6_9_14
       refine join_ (σ := Value × Value) 7 (Cmp.bm 10 7) (fun s_ => [(38, s_.1), (39, .int .i64 t223), (42, s_.2)]) (fun s_ w' => (w'.cell? ⟨gb214, 0, none⟩ = some (.int .i64 a1_0) ∧ w'.cell? ⟨gb214, 1, none⟩ = some (.int .i64 a1_1) ∧ w'.cell? ⟨gb214, 2, none⟩ = some (.slice A1_2 l1_2.length c1_2) ∧ w'.cell? ⟨gb214, 3, none⟩ = some (.int .i64 a1_3)) ∧ (Kd.R (Kd.int .i64) 3 w' w.heap.size (fun _ => True) s_.1 y220) ∧ (Kd.R (Kd.int .u8) 5 w' w.heap.size (fun _ => True) s_.2 t224) ∧ (w'.heap[gb214]? = some (.cells #[.int .i64 a1_0, .int .i64 a1_1, .slice A1_2 l1_2.length c1_2, .int .i64 a1_3] 49 (0, 0))) ∧ (w'.heap[gb215]? = some (.cells #[.slice none 0 0] 45 (0, 0))) ∧ (Below w.heap.size w w')) ?_ ?_
       rotate_left
       ·intro hJ5_6_9
        refine join_ (σ := Value × Nat) 7 (Cmp.bb 17 16895) (fun s_ => [(38, s_.1), (39, .int .i64 t223), (6, .pointer (some ⟨s_.2, 0, none⟩))]) (fun s_ w' => (w'.cell? ⟨gb214, 0, none⟩ = some (.int .i64 a1_0) ∧ w'.cell? ⟨gb214, 1, none⟩ = some (.int .i64 a1_1) ∧ w'.cell? ⟨gb214, 2, none⟩ = some (.slice A1_2 l1_2.length c1_2) ∧ w'.cell? ⟨gb214, 3, none⟩ = some (.int .i64 a1_3)) ∧ (Kd.R (Kd.int .i64) 3 w' w.heap.size (fun _ => True) s_.1 y220) ∧ (w'.heap[gb214]? = some (.cells #[.int .i64 a1_0, .int .i64 a1_1, .slice A1_2 l1_2.length c1_2, .int .i64 a1_3] 49 (0, 0))) ∧ (w'.heap[gb215]? = some (.cells #[.slice none 0 0] 45 (0, 0))) ∧ (w'.heap[s_.2]? = some (.cells #[.slice none 0 0] 45 (0, 0))) ∧ (w.heap.size ≤ s_.2) ∧ (w.heap.size ≤ s_.2) ∧ (gb214 ≠ s_.2) ∧ (s_.2 ≠ gb214) ∧ (gb215 ≠ s_.2) ∧ (s_.2 ≠ gb215) ∧ (Below w.heap.size w w')) ?_ ?_
        rotate_left
        ·intro hJ5_6_14
         refine join_ (σ := Value) 8 (Cmp.bm 9 8) (fun s_ => [(38, s_), (39, .int .i64 t223)]) (fun s_ w' => (w'.cell? ⟨gb214, 0, none⟩ = some (.int .i64 a1_0) ∧ w'.cell? ⟨gb214, 1, none⟩ = some (.int .i64 a1_1) ∧ w'.cell? ⟨gb214, 2, none⟩ = some (.slice A1_2 l1_2.length c1_2) ∧ w'.cell? ⟨gb214, 3, none⟩ = some (.int .i64 a1_3)) ∧ (Kd.R (Kd.int .i64) 3 w' w.heap.size (fun _ => True) s_ y220) ∧ (w'.heap[gb214]? = some (.cells #[.int .i64 a1_0, .int .i64 a1_1, .slice A1_2 l1_2.length c1_2, .int .i64 a1_3] 49 (0, 0))) ∧ (w'.heap[gb215]? = some (.cells #[.slice none 0 0] 45 (0, 0))) ∧ (Below w.heap.size w w')) ?_ ?_
         rotate_left
         ·intro hJ5_6
          refine join_ (σ := Value × Nat) 8 (Cmp.bb 17 16831) (fun s_ => [(38, s_.1), (6, .pointer (some ⟨s_.2, 0, none⟩))]) (fun s_ w' => (w'.cell? ⟨gb214, 0, none⟩ = some (.int .i64 a1_0) ∧ w'.cell? ⟨gb214, 1, none⟩ = some (.int .i64 a1_1) ∧ w'.cell? ⟨gb214, 2, none⟩ = some (.slice A1_2 l1_2.length c1_2) ∧ w'.cell? ⟨gb214, 3, none⟩ = some (.int .i64 a1_3)) ∧ (Kd.R (Kd.int .i64) 3 w' w.heap.size (fun _ => True) s_.1 y220) ∧ (w'.heap[gb214]? = some (.cells #[.int .i64 a1_0, .int .i64 a1_1, .slice A1_2 l1_2.length c1_2, .int .i64 a1_3] 49 (0, 0))) ∧ (w'.heap[gb215]? = some (.cells #[.slice none 0 0] 45 (0, 0))) ∧ (w'.heap[s_.2]? = some (.cells #[.slice none 0 0] 45 (0, 0))) ∧ (w.heap.size ≤ s_.2) ∧ (w.heap.size ≤ s_.2) ∧ (gb214 ≠ s_.2) ∧ (s_.2 ≠ gb214) ∧ (gb215 ≠ s_.2) ∧ (s_.2 ≠ gb215) ∧ (Below w.heap.size w w')) ?_ ?_
          rotate_left
          ·intro hJ5_14
           refine join_ (σ := Value) 9 (Cmp.bb 17 447) (fun s_ => [(38, s_)]) (fun s_ w' => (w'.cell? ⟨gb214, 0, none⟩ = some (.int .i64 a1_0) ∧ w'.cell? ⟨gb214, 1, none⟩ = some (.int .i64 a1_1) ∧ w'.cell? ⟨gb214, 2, none⟩ = some (.slice A1_2 l1_2.length c1_2) ∧ w'.cell? ⟨gb214, 3, none⟩ = some (.int .i64 a1_3)) ∧ (Kd.R (Kd.int .i64) 3 w' w.heap.size (fun _ => True) s_ y220) ∧ (w'.heap[gb214]? = some (.cells #[.int .i64 a1_0, .int .i64 a1_1, .slice A1_2 l1_2.length c1_2, .int .i64 a1_3] 49 (0, 0))) ∧ (w'.heap[gb215]? = some (.cells #[.slice none 0 0] 45 (0, 0))) ∧ (Below w.heap.size w w')) ?_ ?_
           rotate_left
           ·intro hJ5
            refine join_ (σ := Nat) 9 (Cmp.bb 17 16799) (fun s_ => [(6, .pointer (some ⟨s_, 0, none⟩))]) (fun s_ w' => (w'.cell? ⟨gb214, 0, none⟩ = some (.int .i64 a1_0) ∧ w'.cell? ⟨gb214, 1, none⟩ = some (.int .i64 a1_1) ∧ w'.cell? ⟨gb214, 2, none⟩ = some (.slice A1_2 l1_2.length c1_2) ∧ w'.cell? ⟨gb214, 3, none⟩ = some (.int .i64 a1_3)) ∧ (w'.heap[gb214]? = some (.cells #[.int .i64 a1_0, .int .i64 a1_1, .slice A1_2 l1_2.length c1_2, .int .i64 a1_3] 49 (0, 0))) ∧ (w'.heap[gb215]? = some (.cells #[.slice none 0 0] 45 (0, 0))) ∧ (w'.heap[s_]? = some (.cells #[.slice none 0 0] 45 (0, 0))) ∧ (w.heap.size ≤ s_) ∧ (w.heap.size ≤ s_) ∧ (gb214 ≠ s_) ∧ (s_ ≠ gb214) ∧ (gb215 ≠ s_) ∧ (s_ ≠ gb215) ∧ (Below w.heap.size w w')) ?_ ?_
            rotate_left
            ·intro hJ14
             refine two_ (i := 5) (j := 14) (Ni := some 38) (Nj := some 6) (Cmp.bb 17 447) (Cmp.bb 17 16799) rfl rfl rfl rfl (two_of HT_.out (by kernel_rfl)) (by decide) (by decide) (fun K hK => ?_) (fun K hK => ?_)
             ·skip
              refine Kd.R_lit_step (Kd.int .i64) _ 3 ?hg (N := 38) ?hd (xs := ([223, a1_0, a1_1] : List Int)) (inner := [.int .i64 223, .int .i64 a1_0, .int .i64 a1_1]) (ok := fun _ => True) (okp := fun _ => True) ?hr ?hp (fun _ hk => hk) trivial (Below.refl _ _) (Nat.le_refl _) (by simp) ?_; (case hd => rfl); (case hg => rfl); (case hr => first | (go_simp; done) | (go_simp; rfl)); (case hp => exact (Reps.one (show Kd.M (Kd.int .i64) _ _ _ 223 [.int .i64 223] from rfl) (Reps.one (show Kd.M (Kd.int .i64) _ _ _ a1_0 [.int .i64 a1_0] from rfl) (Reps.one (show Kd.M (Kd.int .i64) _ _ _ a1_1 [.int .i64 a1_1] from rfl) (Reps.none _ _)))))
              intro v221 w25 ho26 hb hg_ hnew_
              clear hg_ hnew_
              (first | rw [← Ny220.out] at ho26 | (simp only [Int.reduceToNat] at ho26; rw [← Ny220.out] at ho26))
              have n0_ := Aside0.mk (Kd.R_lower ho26 (below_size (Cmp.g HB.out)))
              have n1_ := Aside0.mk (blk_below (Cmp.b BK214.out) hb)
              have n2_ := Aside0.mk (blk_below (Cmp.b BK215.out) hb)
              have n3_ := Aside0.mk (below_step (Cmp.g HB.out) hb)
              clear BK214; clear BK215; clear HB; have HO222 := n0_; have BK214 := n1_; have BK215 := n2_; have HB := n3_; clear n0_ n1_ n2_ n3_; clear hb ho26
              refine hK.out _ _ ⟨(blk_cell BK214.out 0).trans rfl, (blk_cell BK214.out 1).trans rfl, (blk_cell BK214.out 2).trans rfl, (blk_cell BK214.out 3).trans rfl⟩ (fun hHeld => ?_)
              clear hK K
              refine norm_ (a' := ?_) ?_ ?_
              rotate_left
              ·show Act.put _ (some 38) _ = _
               simp only [Act.put, Cmp.s, Cmp.z, Cmp.c, i64_w, i32_w]; rfl
              exact norm_ (by first | (simp only [putAll, Act.put, List.setIfInBounds_toArray, List.set_cons_zero, List.set_cons_succ]; done) | (simp only [putAll, Act.put, List.setIfInBounds_toArray, List.set_cons_zero, List.set_cons_succ]; rfl)) (hJ5 (v221) _ ⟨hHeld, (Cmp.rr HO222.out), (Cmp.b BK214.out), (Cmp.b BK215.out), (Cmp.g HB.out)⟩)
             ·skip
              refine box_step ?hg (N := 6) ?hd (cs := #[.slice none 0 0]) (t := 45) ?hr ?_; (case hd => rfl); (case hg => rfl); (case hr => first | (go_simp; done) | (go_simp; rfl))
              intro gb231 hg w25 hbox hb
              have n0_ := Aside0.mk (blk_below (Cmp.b BK214.out) hb)
              have n1_ := Aside0.mk (blk_below (Cmp.b BK215.out) hb)
              have n2_ := Aside0.mk (below_step (Cmp.g HB.out) hb)
              have n3_ := Aside0.mk (hbox)
              have n4_ := Aside0.mk ((by rw [hg]; exact (below_size (Cmp.g HB.out)) : w.heap.size ≤ gb231))
              have n5_ := Aside0.mk ((by rw [hg]; exact (below_size (Cmp.g HB.out)) : w.heap.size ≤ gb231))
              have n6_ := Aside0.mk ((by rw [hg]; exact Nat.ne_of_lt (blk_lt (Cmp.b BK214.out)) : gb214 ≠ gb231))
              have n7_ := Aside0.mk ((by rw [hg]; exact Nat.ne_of_gt (blk_lt (Cmp.b BK214.out)) : gb231 ≠ gb214))
              have n8_ := Aside0.mk ((by rw [hg]; exact Nat.ne_of_lt (blk_lt (Cmp.b BK215.out)) : gb215 ≠ gb231))
              have n9_ := Aside0.mk ((by rw [hg]; exact Nat.ne_of_gt (blk_lt (Cmp.b BK215.out)) : gb231 ≠ gb215))
              clear BK214; clear BK215; clear HB; have BK214 := n0_; have BK215 := n1_; have HB := n2_; have BK231 := n3_; have GW231 := n4_; have GE231 := n5_; have NB214_231 := n6_; have NB231_214 := n7_; have NB215_231 := n8_; have NB231_215 := n9_; clear n0_ n1_ n2_ n3_ n4_ n5_ n6_ n7_ n8_ n9_; clear hb hbox hg
              refine hK.out _ _ ⟨(blk_cell BK214.out 0).trans rfl, (blk_cell BK214.out 1).trans rfl, (blk_cell BK214.out 2).trans rfl, (blk_cell BK214.out 3).trans rfl⟩ (fun hHeld => ?_)
              clear hK K
              refine norm_ (a' := ?_) ?_ ?_
              rotate_left
              ·show Act.put _ (some 6) _ = _
               simp only [Act.put, Cmp.s, Cmp.z, Cmp.c, i64_w, i32_w]; rfl
              exact norm_ (by first | (simp only [putAll, Act.put, List.setIfInBounds_toArray, List.set_cons_zero, List.set_cons_succ]; done) | (simp only [putAll, Act.put, List.setIfInBounds_toArray, List.set_cons_zero, List.set_cons_succ]; rfl)) (hJ14 (gb231) _ ⟨hHeld, (Cmp.b BK214.out), (Cmp.b BK215.out), (Cmp.b BK231.out), GW231.out, GE231.out, NB214_231.out, NB231_214.out, NB215_231.out, NB231_215.out, (Cmp.g HB.out)⟩)
            ·skip
             rintro gb231 w26 ⟨hS_, h0_, h1_, h2_, h3_, h4_, h5_, h6_, h7_, h8_, h9_⟩
             have n0_ : Aside0 (w26.heap[gb214]? = some (.cells #[.int .i64 a1_0, .int .i64 a1_1, .slice A1_2 l1_2.length c1_2, .int .i64 a1_3] 49 (0, 0))) := ⟨h0_⟩
             have n1_ : Aside0 (w26.heap[gb215]? = some (.cells #[.slice none 0 0] 45 (0, 0))) := ⟨h1_⟩
             have n2_ : Aside0 (w26.heap[gb231]? = some (.cells #[.slice none 0 0] 45 (0, 0))) := ⟨h2_⟩
             have n3_ : Aside0 (w.heap.size ≤ gb231) := ⟨h3_⟩
             have n4_ : Aside0 (w.heap.size ≤ gb231) := ⟨h4_⟩
             have n5_ : Aside0 (gb214 ≠ gb231) := ⟨h5_⟩
             have n6_ : Aside0 (gb231 ≠ gb214) := ⟨h6_⟩
             have n7_ : Aside0 (gb215 ≠ gb231) := ⟨h7_⟩
             have n8_ : Aside0 (gb231 ≠ gb215) := ⟨h8_⟩
             have n9_ : Aside0 (Below w.heap.size w w26) := ⟨h9_⟩
             clear BK214; clear BK215; clear HB; clear h0_ h1_ h2_ h3_ h4_ h5_ h6_ h7_ h8_ h9_; have BK214 := n0_; have BK215 := n1_; have BK231 := n2_; have GW231 := n3_; have GE231 := n4_; have NB214_231 := n5_; have NB231_214 := n6_; have NB215_231 := n7_; have NB231_215 := n8_; have HB := n9_; clear n0_ n1_ n2_ n3_ n4_ n5_ n6_ n7_ n8_ n9_
             have hHeld : w26.cell? ⟨gb214, 0, none⟩ = some (.int .i64 a1_0) ∧ w26.cell? ⟨gb214, 1, none⟩ = some (.int .i64 a1_1) ∧ w26.cell? ⟨gb214, 2, none⟩ = some (.slice A1_2 l1_2.length c1_2) ∧ w26.cell? ⟨gb214, 3, none⟩ = some (.int .i64 a1_3) := hS_
             refine norm_ (a' := ?_) ?_ ?_
             rotate_left
             ·simp only [putAll, Act.put, List.setIfInBounds_toArray, List.set_cons_zero, List.set_cons_succ]; rfl
             refine one_ (i := 5) (N := some 38) (Cmp.bb 17 16831) rfl rfl (one_of HT_.out (by kernel_rfl)) (by decide) (fun K hK => ?_)
             refine Kd.R_lit_step (Kd.int .i64) _ 3 ?hg (N := 38) ?hd (xs := ([223, a1_0, a1_1] : List Int)) (inner := [.int .i64 223, .int .i64 a1_0, .int .i64 a1_1]) (ok := fun _ => True) (okp := fun _ => True) ?hr ?hp (fun _ hk => hk) trivial (Below.refl _ _) (Nat.le_refl _) (by simp) ?_; (case hd => rfl); (case hg => rfl); (case hr => first | (go_simp; done) | (go_simp; rfl)); (case hp => exact (Reps.one (show Kd.M (Kd.int .i64) _ _ _ 223 [.int .i64 223] from rfl) (Reps.one (show Kd.M (Kd.int .i64) _ _ _ a1_0 [.int .i64 a1_0] from rfl) (Reps.one (show Kd.M (Kd.int .i64) _ _ _ a1_1 [.int .i64 a1_1] from rfl) (Reps.none _ _)))))
             intro v221 w27 ho28 hb hg_ hnew_
             clear hg_ hnew_
             (first | rw [← Ny220.out] at ho28 | (simp only [Int.reduceToNat] at ho28; rw [← Ny220.out] at ho28))
             have n0_ := Aside0.mk (Kd.R_lower ho28 (below_size (Cmp.g HB.out)))
             have n1_ := Aside0.mk (blk_below (Cmp.b BK214.out) hb)
             have n2_ := Aside0.mk (blk_below (Cmp.b BK215.out) hb)
             have n3_ := Aside0.mk (blk_below (Cmp.b BK231.out) hb)
             have n4_ := Aside0.mk (below_step (Cmp.g HB.out) hb)
             clear BK214; clear BK215; clear BK231; clear HB; have HO222 := n0_; have BK214 := n1_; have BK215 := n2_; have BK231 := n3_; have HB := n4_; clear n0_ n1_ n2_ n3_ n4_; clear hb ho28
             refine hK.out _ _ ⟨(blk_cell BK214.out 0).trans rfl, (blk_cell BK214.out 1).trans rfl, (blk_cell BK214.out 2).trans rfl, (blk_cell BK214.out 3).trans rfl⟩ (fun hHeld => ?_)
             clear hK K
             refine norm_ (a' := ?_) ?_ ?_
             rotate_left
             ·show Act.put _ (some 38) _ = _
              simp only [Act.put, Cmp.s, Cmp.z, Cmp.c, i64_w, i32_w]; rfl
             exact norm_ (by first | (simp only [putAll, Act.put, List.setIfInBounds_toArray, List.set_cons_zero, List.set_cons_succ]; done) | (simp only [putAll, Act.put, List.setIfInBounds_toArray, List.set_cons_zero, List.set_cons_succ]; rfl)) (hJ5_14 (v221, gb231) _ ⟨hHeld, (Cmp.rr HO222.out), (Cmp.b BK214.out), (Cmp.b BK215.out), (Cmp.b BK231.out), GW231.out, GE231.out, NB214_231.out, NB231_214.out, NB215_231.out, NB231_215.out, (Cmp.g HB.out)⟩)
           ·skip
            rintro v221 w27 ⟨hS_, h0_, h1_, h2_, h3_⟩
            have n0_ : Aside0 (Kd.R (Kd.int .i64) 3 w27 w.heap.size (fun _ => True) v221 y220) := ⟨h0_⟩
            have n1_ : Aside0 (w27.heap[gb214]? = some (.cells #[.int .i64 a1_0, .int .i64 a1_1, .slice A1_2 l1_2.length c1_2, .int .i64 a1_3] 49 (0, 0))) := ⟨h1_⟩
            have n2_ : Aside0 (w27.heap[gb215]? = some (.cells #[.slice none 0 0] 45 (0, 0))) := ⟨h2_⟩
            have n3_ : Aside0 (Below w.heap.size w w27) := ⟨h3_⟩
            clear BK214; clear BK215; clear HB; clear h0_ h1_ h2_ h3_; have HO222 := n0_; have BK214 := n1_; have BK215 := n2_; have HB := n3_; clear n0_ n1_ n2_ n3_
            have hHeld : w27.cell? ⟨gb214, 0, none⟩ = some (.int .i64 a1_0) ∧ w27.cell? ⟨gb214, 1, none⟩ = some (.int .i64 a1_1) ∧ w27.cell? ⟨gb214, 2, none⟩ = some (.slice A1_2 l1_2.length c1_2) ∧ w27.cell? ⟨gb214, 3, none⟩ = some (.int .i64 a1_3) := hS_
            obtain ⟨Ao28, co28, eo28⟩ := Kd.R_slice HO222.out
            (first | subst eo28 | (injection eo28 with f1_ f2_ f3_; have f4_ := f1_.symm; have f5_ := f3_.symm; clear f1_ f2_ f3_; subst f4_; subst f5_))
            refine norm_ (a' := ?_) ?_ ?_
            rotate_left
            ·simp only [putAll, Act.put, List.setIfInBounds_toArray, List.set_cons_zero, List.set_cons_succ]; rfl
            refine two_ (i := 6) (j := 14) (Ni := some 39) (Nj := some 6) (Cmp.bm 9 8) (Cmp.bb 17 16831) rfl rfl rfl rfl (two_of HT_.out (by kernel_rfl)) (by decide) (by decide) (fun K hK => ?_) (fun K hK => ?_)
            ·skip
             refine goes_ Try.func63 (by kernel_rfl) rfl #[.int .i64 a0, .slice Ao28 y220.length co28] (by rfl) rfl rfl Cmp.q ?_
             with_reducible refine (impl_DeriveKey.calls kj2 a0 (fun k_ => some k_ = (.slice Ao28 y220.length co28 : Value).ownBlock) _ _ y220 t223 _ ?side1 A21.out).mono ?_
             (case side1 => exact Kd.R_V (Kd.R_tight rfl (Kd.R_types (Kd.R_types (HO222.out) BK214.out (by decide)) BK215.out (by decide))))
             rintro e w29 ⟨rfl, hb⟩; refine ⟨_, rfl, ?_⟩
             have n0_ := Aside0.mk (Kd.R_below (Cmp.rr HO222.out) hb)
             have n1_ := Aside0.mk (blk_below (Cmp.b BK214.out) hb)
             have n2_ := Aside0.mk (blk_below (Cmp.b BK215.out) hb)
             have n3_ := Aside0.mk (below_step (Cmp.g HB.out) hb)
             clear HO222; clear BK214; clear BK215; clear HB; have HO222 := n0_; have BK214 := n1_; have BK215 := n2_; have HB := n3_; clear n0_ n1_ n2_ n3_; (try clear hb); (try clear hb2); (try clear hk); (try clear hi)
             refine hK.out _ _ ⟨(blk_cell BK214.out 0).trans rfl, (blk_cell BK214.out 1).trans rfl, (blk_cell BK214.out 2).trans rfl, (blk_cell BK214.out 3).trans rfl⟩ (fun hHeld => ?_)
             clear hK K
             refine norm_ (a' := ?_) ?_ ?_
             rotate_left
             ·show Act.put _ (some 39) _ = _
              simp only [Act.put, Cmp.s, Cmp.z, Cmp.c, i64_w, i32_w]; rfl
             exact norm_ (by first | (simp only [putAll, Act.put, List.setIfInBounds_toArray, List.set_cons_zero, List.set_cons_succ]; done) | (simp only [putAll, Act.put, List.setIfInBounds_toArray, List.set_cons_zero, List.set_cons_succ]; rfl)) (hJ5_6 (.slice Ao28 y220.length co28) _ ⟨hHeld, (Cmp.rr HO222.out), (Cmp.b BK214.out), (Cmp.b BK215.out), (Cmp.g HB.out)⟩)
            ·skip
             refine box_step ?hg (N := 6) ?hd (cs := #[.slice none 0 0]) (t := 45) ?hr ?_; (case hd => rfl); (case hg => rfl); (case hr => first | (go_simp; done) | (go_simp; rfl))
             intro gb231 hg w28 hbox hb
             have n0_ := Aside0.mk (Kd.R_below (Cmp.rr HO222.out) hb)
             have n1_ := Aside0.mk (blk_below (Cmp.b BK214.out) hb)
             have n2_ := Aside0.mk (blk_below (Cmp.b BK215.out) hb)
             have n3_ := Aside0.mk (below_step (Cmp.g HB.out) hb)
             have n4_ := Aside0.mk (hbox)
             have n5_ := Aside0.mk ((by rw [hg]; exact (below_size (Cmp.g HB.out)) : w.heap.size ≤ gb231))
             have n6_ := Aside0.mk ((by rw [hg]; exact (below_size (Cmp.g HB.out)) : w.heap.size ≤ gb231))
             have n7_ := Aside0.mk ((by rw [hg]; exact Nat.ne_of_lt (blk_lt (Cmp.b BK214.out)) : gb214 ≠ gb231))
             have n8_ := Aside0.mk ((by rw [hg]; exact Nat.ne_of_gt (blk_lt (Cmp.b BK214.out)) : gb231 ≠ gb214))
             have n9_ := Aside0.mk ((by rw [hg]; exact Nat.ne_of_lt (blk_lt (Cmp.b BK215.out)) : gb215 ≠ gb231))
             have n10_ := Aside0.mk ((by rw [hg]; exact Nat.ne_of_gt (blk_lt (Cmp.b BK215.out)) : gb231 ≠ gb215))
             clear HO222; clear BK214; clear BK215; clear HB; have HO222 := n0_; have BK214 := n1_; have BK215 := n2_; have HB := n3_; have BK231 := n4_; have GW231 := n5_; have GE231 := n6_; have NB214_231 := n7_; have NB231_214 := n8_; have NB215_231 := n9_; have NB231_215 := n10_; clear n0_ n1_ n2_ n3_ n4_ n5_ n6_ n7_ n8_ n9_ n10_; clear hb hbox hg
             refine hK.out _ _ ⟨(blk_cell BK214.out 0).trans rfl, (blk_cell BK214.out 1).trans rfl, (blk_cell BK214.out 2).trans rfl, (blk_cell BK214.out 3).trans rfl⟩ (fun hHeld => ?_)
             clear hK K
             refine norm_ (a' := ?_) ?_ ?_
             rotate_left
             ·show Act.put _ (some 6) _ = _
              simp only [Act.put, Cmp.s, Cmp.z, Cmp.c, i64_w, i32_w]; rfl
             exact norm_ (by first | (simp only [putAll, Act.put, List.setIfInBounds_toArray, List.set_cons_zero, List.set_cons_succ]; done) | (simp only [putAll, Act.put, List.setIfInBounds_toArray, List.set_cons_zero, List.set_cons_succ]; rfl)) (hJ5_14 (_, gb231) _ ⟨hHeld, (Cmp.rr HO222.out), (Cmp.b BK214.out), (Cmp.b BK215.out), (Cmp.b BK231.out), GW231.out, GE231.out, NB214_231.out, NB231_214.out, NB215_231.out, NB231_215.out, (Cmp.g HB.out)⟩)
          ·skip
           rintro ⟨v221, gb231⟩ w28 ⟨hS_, h0_, h1_, h2_, h3_, h4_, h5_, h6_, h7_, h8_, h9_, h10_⟩
           have n0_ : Aside0 (Kd.R (Kd.int .i64) 3 w28 w.heap.size (fun _ => True) v221 y220) := ⟨h0_⟩
           have n1_ : Aside0 (w28.heap[gb214]? = some (.cells #[.int .i64 a1_0, .int .i64 a1_1, .slice A1_2 l1_2.length c1_2, .int .i64 a1_3] 49 (0, 0))) := ⟨h1_⟩
           have n2_ : Aside0 (w28.heap[gb215]? = some (.cells #[.slice none 0 0] 45 (0, 0))) := ⟨h2_⟩
           have n3_ : Aside0 (w28.heap[gb231]? = some (.cells #[.slice none 0 0] 45 (0, 0))) := ⟨h3_⟩
           have n4_ : Aside0 (w.heap.size ≤ gb231) := ⟨h4_⟩
           have n5_ : Aside0 (w.heap.size ≤ gb231) := ⟨h5_⟩
           have n6_ : Aside0 (gb214 ≠ gb231) := ⟨h6_⟩
           have n7_ : Aside0 (gb231 ≠ gb214) := ⟨h7_⟩
           have n8_ : Aside0 (gb215 ≠ gb231) := ⟨h8_⟩
           have n9_ : Aside0 (gb231 ≠ gb215) := ⟨h9_⟩
           have n10_ : Aside0 (Below w.heap.size w w28) := ⟨h10_⟩
           clear BK214; clear BK215; clear HB; clear h0_ h1_ h2_ h3_ h4_ h5_ h6_ h7_ h8_ h9_ h10_; have HO222 := n0_; have BK214 := n1_; have BK215 := n2_; have BK231 := n3_; have GW231 := n4_; have GE231 := n5_; have NB214_231 := n6_; have NB231_214 := n7_; have NB215_231 := n8_; have NB231_215 := n9_; have HB := n10_; clear n0_ n1_ n2_ n3_ n4_ n5_ n6_ n7_ n8_ n9_ n10_
           have hHeld : w28.cell? ⟨gb214, 0, none⟩ = some (.int .i64 a1_0) ∧ w28.cell? ⟨gb214, 1, none⟩ = some (.int .i64 a1_1) ∧ w28.cell? ⟨gb214, 2, none⟩ = some (.slice A1_2 l1_2.length c1_2) ∧ w28.cell? ⟨gb214, 3, none⟩ = some (.int .i64 a1_3) := hS_
           obtain ⟨Ao29, co29, eo29⟩ := Kd.R_slice HO222.out
           (first | subst eo29 | (injection eo29 with f1_ f2_ f3_; have f4_ := f1_.symm; have f5_ := f3_.symm; clear f1_ f2_ f3_; subst f4_; subst f5_))
           refine norm_ (a' := ?_) ?_ ?_
           rotate_left
           ·simp only [putAll, Act.put, List.setIfInBounds_toArray, List.set_cons_zero, List.set_cons_succ]; rfl
           refine one_ (i := 6) (N := some 39) (Cmp.bb 17 16895) rfl rfl (one_of HT_.out (by kernel_rfl)) (by decide) (fun K hK => ?_)
           refine goes_ Try.func63 (by kernel_rfl) rfl #[.int .i64 a0, .slice Ao29 y220.length co29] (by rfl) rfl rfl Cmp.q ?_
           with_reducible refine (impl_DeriveKey.calls kj2 a0 (fun k_ => some k_ = (.slice Ao29 y220.length co29 : Value).ownBlock) _ _ y220 t223 _ ?side1 A21.out).mono ?_
           (case side1 => exact Kd.R_V (Kd.R_tight rfl (Kd.R_types (Kd.R_types (Kd.R_types (HO222.out) BK214.out (by decide)) BK215.out (by decide)) BK231.out (by decide))))
           rintro e w30 ⟨rfl, hb⟩; refine ⟨_, rfl, ?_⟩
           have n0_ := Aside0.mk (Kd.R_below (Cmp.rr HO222.out) hb)
           have n1_ := Aside0.mk (blk_below (Cmp.b BK214.out) hb)
           have n2_ := Aside0.mk (blk_below (Cmp.b BK215.out) hb)
           have n3_ := Aside0.mk (blk_below (Cmp.b BK231.out) hb)
           have n4_ := Aside0.mk (below_step (Cmp.g HB.out) hb)
           clear HO222; clear BK214; clear BK215; clear BK231; clear HB; have HO222 := n0_; have BK214 := n1_; have BK215 := n2_; have BK231 := n3_; have HB := n4_; clear n0_ n1_ n2_ n3_ n4_; (try clear hb); (try clear hb2); (try clear hk); (try clear hi)
           refine hK.out _ _ ⟨(blk_cell BK214.out 0).trans rfl, (blk_cell BK214.out 1).trans rfl, (blk_cell BK214.out 2).trans rfl, (blk_cell BK214.out 3).trans rfl⟩ (fun hHeld => ?_)
           clear hK K
           refine norm_ (a' := ?_) ?_ ?_
           rotate_left
           ·show Act.put _ (some 39) _ = _
            simp only [Act.put, Cmp.s, Cmp.z, Cmp.c, i64_w, i32_w]; rfl
           exact norm_ (by first | (simp only [putAll, Act.put, List.setIfInBounds_toArray, List.set_cons_zero, List.set_cons_succ]; done) | (simp only [putAll, Act.put, List.setIfInBounds_toArray, List.set_cons_zero, List.set_cons_succ]; rfl)) (hJ5_6_14 (.slice Ao29 y220.length co29, gb231) _ ⟨hHeld, (Cmp.rr HO222.out), (Cmp.b BK214.out), (Cmp.b BK215.out), (Cmp.b BK231.out), GW231.out, GE231.out, NB214_231.out, NB231_214.out, NB215_231.out, NB231_215.out, (Cmp.g HB.out)⟩)
         ·skip
          rintro v221 w29 ⟨hS_, h0_, h1_, h2_, h3_⟩
          have n0_ : Aside0 (Kd.R (Kd.int .i64) 3 w29 w.heap.size (fun _ => True) v221 y220) := ⟨h0_⟩
          have n1_ : Aside0 (w29.heap[gb214]? = some (.cells #[.int .i64 a1_0, .int .i64 a1_1, .slice A1_2 l1_2.length c1_2, .int .i64 a1_3] 49 (0, 0))) := ⟨h1_⟩
          have n2_ : Aside0 (w29.heap[gb215]? = some (.cells #[.slice none 0 0] 45 (0, 0))) := ⟨h2_⟩
          have n3_ : Aside0 (Below w.heap.size w w29) := ⟨h3_⟩
          clear BK214; clear BK215; clear HB; clear h0_ h1_ h2_ h3_; have HO222 := n0_; have BK214 := n1_; have BK215 := n2_; have HB := n3_; clear n0_ n1_ n2_ n3_
          have hHeld : w29.cell? ⟨gb214, 0, none⟩ = some (.int .i64 a1_0) ∧ w29.cell? ⟨gb214, 1, none⟩ = some (.int .i64 a1_1) ∧ w29.cell? ⟨gb214, 2, none⟩ = some (.slice A1_2 l1_2.length c1_2) ∧ w29.cell? ⟨gb214, 3, none⟩ = some (.int .i64 a1_3) := hS_
          refine norm_ (a' := ?_) ?_ ?_
          rotate_left
          ·simp only [putAll, Act.put, List.setIfInBounds_toArray, List.set_cons_zero, List.set_cons_succ]; rfl
          refine two_ (i := 9) (j := 14) (Ni := some 42) (Nj := some 6) (Cmp.bm 10 7) (Cmp.bb 17 16895) rfl rfl rfl rfl (two_of HT_.out (by kernel_rfl)) (by decide) (by decide) (fun K hK => ?_) (fun K hK => ?_)
          ·skip
           refine goes_ Try.func71 (by kernel_rfl) rfl #[.int .i64 t223, .slice A1_2 l1_2.length c1_2] (by rfl) rfl rfl Cmp.q ?_
           with_reducible refine (impl_Decrypt.calls kj2 t223 _ _ l1_2 t224 _ ?side1 ?side2 A22.out).mono ?_
           (case side1 => exact Cmp.rc (Kd.C_below HR1_2.out HB.out))
           (case side2 => exact HC1_2.out)
           rintro e w30 ⟨v225, rfl, ho0, hb⟩; refine ⟨_, rfl, ?_⟩
           have n0_ := Aside0.mk (Kd.R_below (Cmp.rr HO222.out) hb)
           have n1_ := Aside0.mk (Kd.R_lower ho0 (below_size (Cmp.g HB.out)))
           have n2_ := Aside0.mk (blk_below (Cmp.b BK214.out) hb)
           have n3_ := Aside0.mk (blk_below (Cmp.b BK215.out) hb)
           have n4_ := Aside0.mk (below_step (Cmp.g HB.out) hb)
           clear HO222; clear BK214; clear BK215; clear HB; have HO222 := n0_; have HO226 := n1_; have BK214 := n2_; have BK215 := n3_; have HB := n4_; clear n0_ n1_ n2_ n3_ n4_; (try clear hb); (try clear hb2); (try clear hk); (try clear hi); (try clear ho0)
           refine hK.out _ _ ⟨(blk_cell BK214.out 0).trans rfl, (blk_cell BK214.out 1).trans rfl, (blk_cell BK214.out 2).trans rfl, (blk_cell BK214.out 3).trans rfl⟩ (fun hHeld => ?_)
           clear hK K
           refine norm_ (a' := ?_) ?_ ?_
           rotate_left
           ·show Act.put _ (some 42) _ = _
            simp only [Act.put, Cmp.s, Cmp.z, Cmp.c, i64_w, i32_w]; rfl
           exact norm_ (by first | (simp only [putAll, Act.put, List.setIfInBounds_toArray, List.set_cons_zero, List.set_cons_succ]; done) | (simp only [putAll, Act.put, List.setIfInBounds_toArray, List.set_cons_zero, List.set_cons_succ]; rfl)) (hJ5_6_9 (v221, v225) _ ⟨hHeld, (Cmp.rr HO222.out), (Cmp.rr HO226.out), (Cmp.b BK214.out), (Cmp.b BK215.out), (Cmp.g HB.out)⟩)
          ·skip
           refine box_step ?hg (N := 6) ?hd (cs := #[.slice none 0 0]) (t := 45) ?hr ?_; (case hd => rfl); (case hg => rfl); (case hr => first | (go_simp; done) | (go_simp; rfl))
           intro gb231 hg w30 hbox hb
           have n0_ := Aside0.mk (Kd.R_below (Cmp.rr HO222.out) hb)
           have n1_ := Aside0.mk (blk_below (Cmp.b BK214.out) hb)
           have n2_ := Aside0.mk (blk_below (Cmp.b BK215.out) hb)
           have n3_ := Aside0.mk (below_step (Cmp.g HB.out) hb)
           have n4_ := Aside0.mk (hbox)
           have n5_ := Aside0.mk ((by rw [hg]; exact (below_size (Cmp.g HB.out)) : w.heap.size ≤ gb231))
           have n6_ := Aside0.mk ((by rw [hg]; exact (below_size (Cmp.g HB.out)) : w.heap.size ≤ gb231))
           have n7_ := Aside0.mk ((by rw [hg]; exact Nat.ne_of_lt (blk_lt (Cmp.b BK214.out)) : gb214 ≠ gb231))
           have n8_ := Aside0.mk ((by rw [hg]; exact Nat.ne_of_gt (blk_lt (Cmp.b BK214.out)) : gb231 ≠ gb214))
           have n9_ := Aside0.mk ((by rw [hg]; exact Nat.ne_of_lt (blk_lt (Cmp.b BK215.out)) : gb215 ≠ gb231))
           have n10_ := Aside0.mk ((by rw [hg]; exact Nat.ne_of_gt (blk_lt (Cmp.b BK215.out)) : gb231 ≠ gb215))
           clear HO222; clear BK214; clear BK215; clear HB; have HO222 := n0_; have BK214 := n1_; have BK215 := n2_; have HB := n3_; have BK231 := n4_; have GW231 := n5_; have GE231 := n6_; have NB214_231 := n7_; have NB231_214 := n8_; have NB215_231 := n9_; have NB231_215 := n10_; clear n0_ n1_ n2_ n3_ n4_ n5_ n6_ n7_ n8_ n9_ n10_; clear hb hbox hg
           refine hK.out _ _ ⟨(blk_cell BK214.out 0).trans rfl, (blk_cell BK214.out 1).trans rfl, (blk_cell BK214.out 2).trans rfl, (blk_cell BK214.out 3).trans rfl⟩ (fun hHeld => ?_)
           clear hK K
           refine norm_ (a' := ?_) ?_ ?_
           rotate_left
           ·show Act.put _ (some 6) _ = _
            simp only [Act.put, Cmp.s, Cmp.z, Cmp.c, i64_w, i32_w]; rfl
           exact norm_ (by first | (simp only [putAll, Act.put, List.setIfInBounds_toArray, List.set_cons_zero, List.set_cons_succ]; done) | (simp only [putAll, Act.put, List.setIfInBounds_toArray, List.set_cons_zero, List.set_cons_succ]; rfl)) (hJ5_6_14 (v221, gb231) _ ⟨hHeld, (Cmp.rr HO222.out), (Cmp.b BK214.out), (Cmp.b BK215.out), (Cmp.b BK231.out), GW231.out, GE231.out, NB214_231.out, NB231_214.out, NB215_231.out, NB231_215.out, (Cmp.g HB.out)⟩)
        ·skip
         rintro ⟨v221, gb231⟩ w30 ⟨hS_, h0_, h1_, h2_, h3_, h4_, h5_, h6_, h7_, h8_, h9_, h10_⟩
         have n0_ : Aside0 (Kd.R (Kd.int .i64) 3 w30 w.heap.size (fun _ => True) v221 y220) := ⟨h0_⟩
         have n1_ : Aside0 (w30.heap[gb214]? = some (.cells #[.int .i64 a1_0, .int .i64 a1_1, .slice A1_2 l1_2.length c1_2, .int .i64 a1_3] 49 (0, 0))) := ⟨h1_⟩
         have n2_ : Aside0 (w30.heap[gb215]? = some (.cells #[.slice none 0 0] 45 (0, 0))) := ⟨h2_⟩
         have n3_ : Aside0 (w30.heap[gb231]? = some (.cells #[.slice none 0 0] 45 (0, 0))) := ⟨h3_⟩
         have n4_ : Aside0 (w.heap.size ≤ gb231) := ⟨h4_⟩
         have n5_ : Aside0 (w.heap.size ≤ gb231) := ⟨h5_⟩
         have n6_ : Aside0 (gb214 ≠ gb231) := ⟨h6_⟩
         have n7_ : Aside0 (gb231 ≠ gb214) := ⟨h7_⟩
         have n8_ : Aside0 (gb215 ≠ gb231) := ⟨h8_⟩
         have n9_ : Aside0 (gb231 ≠ gb215) := ⟨h9_⟩
         have n10_ : Aside0 (Below w.heap.size w w30) := ⟨h10_⟩
         clear BK214; clear BK215; clear HB; clear h0_ h1_ h2_ h3_ h4_ h5_ h6_ h7_ h8_ h9_ h10_; have HO222 := n0_; have BK214 := n1_; have BK215 := n2_; have BK231 := n3_; have GW231 := n4_; have GE231 := n5_; have NB214_231 := n6_; have NB231_214 := n7_; have NB215_231 := n8_; have NB231_215 := n9_; have HB := n10_; clear n0_ n1_ n2_ n3_ n4_ n5_ n6_ n7_ n8_ n9_ n10_
         have hHeld : w30.cell? ⟨gb214, 0, none⟩ = some (.int .i64 a1_0) ∧ w30.cell? ⟨gb214, 1, none⟩ = some (.int .i64 a1_1) ∧ w30.cell? ⟨gb214, 2, none⟩ = some (.slice A1_2 l1_2.length c1_2) ∧ w30.cell? ⟨gb214, 3, none⟩ = some (.int .i64 a1_3) := hS_
         refine norm_ (a' := ?_) ?_ ?_
         rotate_left
         ·simp only [putAll, Act.put, List.setIfInBounds_toArray, List.set_cons_zero, List.set_cons_succ]; rfl
         refine one_ (i := 9) (N := some 42) (Cmp.bb 17 17407) rfl rfl (one_of HT_.out (by kernel_rfl)) (by decide) (fun K hK => ?_)
         refine goes_ Try.func71 (by kernel_rfl) rfl #[.int .i64 t223, .slice A1_2 l1_2.length c1_2] (by rfl) rfl rfl Cmp.q ?_
         with_reducible refine (impl_Decrypt.calls kj2 t223 _ _ l1_2 t224 _ ?side1 ?side2 A22.out).mono ?_
         (case side1 => exact Cmp.rc (Kd.C_below HR1_2.out HB.out))
         (case side2 => exact HC1_2.out)
         rintro e w31 ⟨v225, rfl, ho0, hb⟩; refine ⟨_, rfl, ?_⟩
         have n0_ := Aside0.mk (Kd.R_below (Cmp.rr HO222.out) hb)
         have n1_ := Aside0.mk (Kd.R_lower ho0 (below_size (Cmp.g HB.out)))
         have n2_ := Aside0.mk (blk_below (Cmp.b BK214.out) hb)
         have n3_ := Aside0.mk (blk_below (Cmp.b BK215.out) hb)
         have n4_ := Aside0.mk (blk_below (Cmp.b BK231.out) hb)
         have n5_ := Aside0.mk (below_step (Cmp.g HB.out) hb)
         clear HO222; clear BK214; clear BK215; clear BK231; clear HB; have HO222 := n0_; have HO226 := n1_; have BK214 := n2_; have BK215 := n3_; have BK231 := n4_; have HB := n5_; clear n0_ n1_ n2_ n3_ n4_ n5_; (try clear hb); (try clear hb2); (try clear hk); (try clear hi); (try clear ho0)
         refine hK.out _ _ ⟨(blk_cell BK214.out 0).trans rfl, (blk_cell BK214.out 1).trans rfl, (blk_cell BK214.out 2).trans rfl, (blk_cell BK214.out 3).trans rfl⟩ (fun hHeld => ?_)
         clear hK K
         refine norm_ (a' := ?_) ?_ ?_
         rotate_left
         ·show Act.put _ (some 42) _ = _
          simp only [Act.put, Cmp.s, Cmp.z, Cmp.c, i64_w, i32_w]; rfl
         exact norm_ (by first | (simp only [putAll, Act.put, List.setIfInBounds_toArray, List.set_cons_zero, List.set_cons_succ]; done) | (simp only [putAll, Act.put, List.setIfInBounds_toArray, List.set_cons_zero, List.set_cons_succ]; rfl)) (hJ5_6_9_14 (v221, v225, gb231) _ ⟨hHeld, (Cmp.rr HO222.out), (Cmp.rr HO226.out), (Cmp.b BK214.out), (Cmp.b BK215.out), (Cmp.b BK231.out), GW231.out, GE231.out, NB214_231.out, NB231_214.out, NB215_231.out, NB231_215.out, (Cmp.g HB.out)⟩)
       ·skip
        rintro ⟨v221, v225⟩ w30 ⟨hS_, h0_, h1_, h2_, h3_, h4_⟩
        have n0_ : Aside0 (Kd.R (Kd.int .i64) 3 w30 w.heap.size (fun _ => True) v221 y220) := ⟨h0_⟩
        have n1_ : Aside0 (Kd.R (Kd.int .u8) 5 w30 w.heap.size (fun _ => True) v225 t224) := ⟨h1_⟩
        have n2_ : Aside0 (w30.heap[gb214]? = some (.cells #[.int .i64 a1_0, .int .i64 a1_1, .slice A1_2 l1_2.length c1_2, .int .i64 a1_3] 49 (0, 0))) := ⟨h2_⟩
        have n3_ : Aside0 (w30.heap[gb215]? = some (.cells #[.slice none 0 0] 45 (0, 0))) := ⟨h3_⟩
        have n4_ : Aside0 (Below w.heap.size w w30) := ⟨h4_⟩
        clear BK214; clear BK215; clear HB; clear h0_ h1_ h2_ h3_ h4_; have HO222 := n0_; have HO226 := n1_; have BK214 := n2_; have BK215 := n3_; have HB := n4_; clear n0_ n1_ n2_ n3_ n4_
        have hHeld : w30.cell? ⟨gb214, 0, none⟩ = some (.int .i64 a1_0) ∧ w30.cell? ⟨gb214, 1, none⟩ = some (.int .i64 a1_1) ∧ w30.cell? ⟨gb214, 2, none⟩ = some (.slice A1_2 l1_2.length c1_2) ∧ w30.cell? ⟨gb214, 3, none⟩ = some (.int .i64 a1_3) := hS_
        obtain ⟨Ao31, co31, eo31⟩ := Kd.R_slice HO226.out
        (first | subst eo31 | (injection eo31 with f1_ f2_ f3_; have f4_ := f1_.symm; have f5_ := f3_.symm; clear f1_ f2_ f3_; subst f4_; subst f5_))
        refine norm_ (a' := ?_) ?_ ?_
        rotate_left
        ·simp only [putAll, Act.put, List.setIfInBounds_toArray, List.set_cons_zero, List.set_cons_succ]; rfl
        refine two_ (i := 10) (j := 14) (Ni := some 43) (Nj := some 6) (Cmp.bm 11 6) (Cmp.bb 17 17407) rfl rfl rfl rfl (two_of HT_.out (by kernel_rfl)) (by decide) (by decide) (fun K hK => ?_) (fun K hK => ?_)
        ·skip
         refine goes_ Try.func24 (by kernel_rfl) rfl #[.slice Ao31 t224.length co31] (by rfl) rfl rfl Cmp.q ?_
         with_reducible refine (impl_DecodeBundle.calls kj2 _ _ t224 t227 t230 _ ?side1 ?side2 A23.out).mono ?_
         (case side1 => exact Cmp.rc (Kd.R_reads' HO226.out).2.2)
         (case side2 => exact (Kd.R_reads' HO226.out).2.1)
         rintro e w32 ⟨v228, rfl, ho0, hb⟩; refine ⟨_, rfl, ?_⟩
         have n0_ := Aside0.mk (Kd.R_below (Cmp.rr HO222.out) hb)
         have n1_ := Aside0.mk (Kd.R_below (Cmp.rr HO226.out) hb)
         have n2_ := Aside0.mk (Kd.R_lower ho0 (below_size (Cmp.g HB.out)))
         have n3_ := Aside0.mk (blk_below (Cmp.b BK214.out) hb)
         have n4_ := Aside0.mk (blk_below (Cmp.b BK215.out) hb)
         have n5_ := Aside0.mk (below_step (Cmp.g HB.out) hb)
         clear HO222; clear HO226; clear BK214; clear BK215; clear HB; have HO222 := n0_; have HO226 := n1_; have HO229 := n2_; have BK214 := n3_; have BK215 := n4_; have HB := n5_; clear n0_ n1_ n2_ n3_ n4_ n5_; (try clear hb); (try clear hb2); (try clear hk); (try clear hi); (try clear ho0)
         refine hK.out _ _ ⟨(blk_cell BK214.out 0).trans rfl, (blk_cell BK214.out 1).trans rfl, (blk_cell BK214.out 2).trans rfl, (blk_cell BK214.out 3).trans rfl⟩ (fun hHeld => ?_)
         clear hK K
         refine norm_ (a' := ?_) ?_ ?_
         rotate_left
         ·show Act.put _ (some 43) _ = _
          simp only [Act.put, Cmp.s, Cmp.z, Cmp.c, i64_w, i32_w]; rfl
         refine Cmp.pu HT_ 11 32 (Cmp.bm 12 5) ?_; refine Cmp.pu HT_ 12 44 (Cmp.bm 13 4) ?_; refine Cmp.pu HT_ 13 45 (Cmp.bm 14 3) ?_
         exact norm_ (by first | (simp only [putAll, Act.put, List.setIfInBounds_toArray, List.set_cons_zero, List.set_cons_succ]; done) | (simp only [putAll, Act.put, List.setIfInBounds_toArray, List.set_cons_zero, List.set_cons_succ]; rfl)) (hJ5_6_9_10 (v221, .slice Ao31 t224.length co31, v228) _ ⟨hHeld, (Cmp.rr HO222.out), (Cmp.rr HO226.out), (Cmp.rr HO229.out), (Cmp.b BK214.out), (Cmp.b BK215.out), (Cmp.g HB.out)⟩)
        ·skip
         refine box_step ?hg (N := 6) ?hd (cs := #[.slice none 0 0]) (t := 45) ?hr ?_; (case hd => rfl); (case hg => rfl); (case hr => first | (go_simp; done) | (go_simp; rfl))
         intro gb231 hg w31 hbox hb
         have n0_ := Aside0.mk (Kd.R_below (Cmp.rr HO222.out) hb)
         have n1_ := Aside0.mk (Kd.R_below (Cmp.rr HO226.out) hb)
         have n2_ := Aside0.mk (blk_below (Cmp.b BK214.out) hb)
         have n3_ := Aside0.mk (blk_below (Cmp.b BK215.out) hb)
         have n4_ := Aside0.mk (below_step (Cmp.g HB.out) hb)
         have n5_ := Aside0.mk (hbox)
         have n6_ := Aside0.mk ((by rw [hg]; exact (below_size (Cmp.g HB.out)) : w.heap.size ≤ gb231))
         have n7_ := Aside0.mk ((by rw [hg]; exact (below_size (Cmp.g HB.out)) : w.heap.size ≤ gb231))
         have n8_ := Aside0.mk ((by rw [hg]; exact Nat.ne_of_lt (blk_lt (Cmp.b BK214.out)) : gb214 ≠ gb231))
         have n9_ := Aside0.mk ((by rw [hg]; exact Nat.ne_of_gt (blk_lt (Cmp.b BK214.out)) : gb231 ≠ gb214))
         have n10_ := Aside0.mk ((by rw [hg]; exact Nat.ne_of_lt (blk_lt (Cmp.b BK215.out)) : gb215 ≠ gb231))
         have n11_ := Aside0.mk ((by rw [hg]; exact Nat.ne_of_gt (blk_lt (Cmp.b BK215.out)) : gb231 ≠ gb215))
         clear HO222; clear HO226; clear BK214; clear BK215; clear HB; have HO222 := n0_; have HO226 := n1_; have BK214 := n2_; have BK215 := n3_; have HB := n4_; have BK231 := n5_; have GW231 := n6_; have GE231 := n7_; have NB214_231 := n8_; have NB231_214 := n9_; have NB215_231 := n10_; have NB231_215 := n11_; clear n0_ n1_ n2_ n3_ n4_ n5_ n6_ n7_ n8_ n9_ n10_ n11_; clear hb hbox hg
         refine hK.out _ _ ⟨(blk_cell BK214.out 0).trans rfl, (blk_cell BK214.out 1).trans rfl, (blk_cell BK214.out 2).trans rfl, (blk_cell BK214.out 3).trans rfl⟩ (fun hHeld => ?_)
         clear hK K
         refine norm_ (a' := ?_) ?_ ?_
         rotate_left
         ·show Act.put _ (some 6) _ = _
          simp only [Act.put, Cmp.s, Cmp.z, Cmp.c, i64_w, i32_w]; rfl
         exact norm_ (by first | (simp only [putAll, Act.put, List.setIfInBounds_toArray, List.set_cons_zero, List.set_cons_succ]; done) | (simp only [putAll, Act.put, List.setIfInBounds_toArray, List.set_cons_zero, List.set_cons_succ]; rfl)) (hJ5_6_9_14 (v221, _, gb231) _ ⟨hHeld, (Cmp.rr HO222.out), (Cmp.rr HO226.out), (Cmp.b BK214.out), (Cmp.b BK215.out), (Cmp.b BK231.out), GW231.out, GE231.out, NB214_231.out, NB231_214.out, NB215_231.out, NB231_215.out, (Cmp.g HB.out)⟩)
      ·skip
       rintro ⟨v221, v225, gb231⟩ w31 ⟨hS_, h0_, h1_, h2_, h3_, h4_, h5_, h6_, h7_, h8_, h9_, h10_, h11_⟩
       have n0_ : Aside0 (Kd.R (Kd.int .i64) 3 w31 w.heap.size (fun _ => True) v221 y220) := ⟨h0_⟩
       have n1_ : Aside0 (Kd.R (Kd.int .u8) 5 w31 w.heap.size (fun _ => True) v225 t224) := ⟨h1_⟩
       have n2_ : Aside0 (w31.heap[gb214]? = some (.cells #[.int .i64 a1_0, .int .i64 a1_1, .slice A1_2 l1_2.length c1_2, .int .i64 a1_3] 49 (0, 0))) := ⟨h2_⟩
       have n3_ : Aside0 (w31.heap[gb215]? = some (.cells #[.slice none 0 0] 45 (0, 0))) := ⟨h3_⟩
       have n4_ : Aside0 (w31.heap[gb231]? = some (.cells #[.slice none 0 0] 45 (0, 0))) := ⟨h4_⟩
       have n5_ : Aside0 (w.heap.size ≤ gb231) := ⟨h5_⟩
       have n6_ : Aside0 (w.heap.size ≤ gb231) := ⟨h6_⟩
       have n7_ : Aside0 (gb214 ≠ gb231) := ⟨h7_⟩
       have n8_ : Aside0 (gb231 ≠ gb214) := ⟨h8_⟩
       have n9_ : Aside0 (gb215 ≠ gb231) := ⟨h9_⟩
       have n10_ : Aside0 (gb231 ≠ gb215) := ⟨h10_⟩
       have n11_ : Aside0 (Below w.heap.size w w31) := ⟨h11_⟩
       clear BK214; clear BK215; clear HB; clear h0_ h1_ h2_ h3_ h4_ h5_ h6_ h7_ h8_ h9_ h10_ h11_; have HO222 := n0_; have HO226 := n1_; have BK214 := n2_; have BK215 := n3_; have BK231 := n4_; have GW231 := n5_; have GE231 := n6_; have NB214_231 := n7_; have NB231_214 := n8_; have NB215_231 := n9_; have NB231_215 := n10_; have HB := n11_; clear n0_ n1_ n2_ n3_ n4_ n5_ n6_ n7_ n8_ n9_ n10_ n11_
       have hHeld : w31.cell? ⟨gb214, 0, none⟩ = some (.int .i64 a1_0) ∧ w31.cell? ⟨gb214, 1, none⟩ = some (.int .i64 a1_1) ∧ w31.cell? ⟨gb214, 2, none⟩ = some (.slice A1_2 l1_2.length c1_2) ∧ w31.cell? ⟨gb214, 3, none⟩ = some (.int .i64 a1_3) := hS_
       obtain ⟨Ao32, co32, eo32⟩ := Kd.R_slice HO226.out
       (first | subst eo32 | (injection eo32 with f1_ f2_ f3_; have f4_ := f1_.symm; have f5_ := f3_.symm; clear f1_ f2_ f3_; subst f4_; subst f5_))
       refine norm_ (a' := ?_) ?_ ?_
       rotate_left
       ·simp only [putAll, Act.put, List.setIfInBounds_toArray, List.set_cons_zero, List.set_cons_succ]; rfl
       refine one_ (i := 10) (N := some 43) (Cmp.bb 17 18431) rfl rfl (one_of HT_.out (by kernel_rfl)) (by decide) (fun K hK => ?_)
       refine goes_ Try.func24 (by kernel_rfl) rfl #[.slice Ao32 t224.length co32] (by rfl) rfl rfl Cmp.q ?_
       with_reducible refine (impl_DecodeBundle.calls kj2 _ _ t224 t227 t230 _ ?side1 ?side2 A23.out).mono ?_
       (case side1 => exact Cmp.rc (Kd.R_reads' HO226.out).2.2)
       (case side2 => exact (Kd.R_reads' HO226.out).2.1)
       rintro e w33 ⟨v228, rfl, ho0, hb⟩; refine ⟨_, rfl, ?_⟩
       have n0_ := Aside0.mk (Kd.R_below (Cmp.rr HO222.out) hb)
       have n1_ := Aside0.mk (Kd.R_below (Cmp.rr HO226.out) hb)
       have n2_ := Aside0.mk (Kd.R_lower ho0 (below_size (Cmp.g HB.out)))
       have n3_ := Aside0.mk (blk_below (Cmp.b BK214.out) hb)
       have n4_ := Aside0.mk (blk_below (Cmp.b BK215.out) hb)
       have n5_ := Aside0.mk (blk_below (Cmp.b BK231.out) hb)
       have n6_ := Aside0.mk (below_step (Cmp.g HB.out) hb)
       clear HO222; clear HO226; clear BK214; clear BK215; clear BK231; clear HB; have HO222 := n0_; have HO226 := n1_; have HO229 := n2_; have BK214 := n3_; have BK215 := n4_; have BK231 := n5_; have HB := n6_; clear n0_ n1_ n2_ n3_ n4_ n5_ n6_; (try clear hb); (try clear hb2); (try clear hk); (try clear hi); (try clear ho0)
       refine hK.out _ _ ⟨(blk_cell BK214.out 0).trans rfl, (blk_cell BK214.out 1).trans rfl, (blk_cell BK214.out 2).trans rfl, (blk_cell BK214.out 3).trans rfl⟩ (fun hHeld => ?_)
       clear hK K
       refine norm_ (a' := ?_) ?_ ?_
       rotate_left
       ·show Act.put _ (some 43) _ = _
        simp only [Act.put, Cmp.s, Cmp.z, Cmp.c, i64_w, i32_w]; rfl
       refine Cmp.pu HT_ 11 32 (Cmp.bb 17 20479) ?_; refine Cmp.pu HT_ 12 44 (Cmp.bb 17 24575) ?_; refine Cmp.pu HT_ 13 45 (Cmp.bm 15 2) ?_
       exact norm_ (by first | (simp only [putAll, Act.put, List.setIfInBounds_toArray, List.set_cons_zero, List.set_cons_succ]; done) | (simp only [putAll, Act.put, List.setIfInBounds_toArray, List.set_cons_zero, List.set_cons_succ]; rfl)) (hJ5_6_9_10_14 (v221, .slice Ao32 t224.length co32, v228, gb231) _ ⟨hHeld, (Cmp.rr HO222.out), (Cmp.rr HO226.out), (Cmp.rr HO229.out), (Cmp.b BK214.out), (Cmp.b BK215.out), (Cmp.b BK231.out), GW231.out, GE231.out, NB214_231.out, NB231_214.out, NB215_231.out, NB231_215.out, (Cmp.g HB.out)⟩)
     ·skip
      rintro ⟨v221, v225, v228⟩ w32 ⟨hS_, h0_, h1_, h2_, h3_, h4_, h5_⟩
      have n0_ : Aside0 (Kd.R (Kd.int .i64) 3 w32 w.heap.size (fun _ => True) v221 y220) := ⟨h0_⟩
      have n1_ : Aside0 (Kd.R (Kd.int .u8) 5 w32 w.heap.size (fun _ => True) v225 t224) := ⟨h1_⟩
      have n2_ : Aside0 (Kd.R k94 94 w32 w.heap.size (fun _ => True) v228 t227) := ⟨h2_⟩
      have n3_ : Aside0 (w32.heap[gb214]? = some (.cells #[.int .i64 a1_0, .int .i64 a1_1, .slice A1_2 l1_2.length c1_2, .int .i64 a1_3] 49 (0, 0))) := ⟨h3_⟩
      have n4_ : Aside0 (w32.heap[gb215]? = some (.cells #[.slice none 0 0] 45 (0, 0))) := ⟨h4_⟩
      have n5_ : Aside0 (Below w.heap.size w w32) := ⟨h5_⟩
      clear BK214; clear BK215; clear HB; clear h0_ h1_ h2_ h3_ h4_ h5_; have HO222 := n0_; have HO226 := n1_; have HO229 := n2_; have BK214 := n3_; have BK215 := n4_; have HB := n5_; clear n0_ n1_ n2_ n3_ n4_ n5_
      have hHeld : w32.cell? ⟨gb214, 0, none⟩ = some (.int .i64 a1_0) ∧ w32.cell? ⟨gb214, 1, none⟩ = some (.int .i64 a1_1) ∧ w32.cell? ⟨gb214, 2, none⟩ = some (.slice A1_2 l1_2.length c1_2) ∧ w32.cell? ⟨gb214, 3, none⟩ = some (.int .i64 a1_3) := hS_
      refine norm_ (a' := ?_) ?_ ?_
      rotate_left
      ·simp only [putAll, Act.put, List.setIfInBounds_toArray, List.set_cons_zero, List.set_cons_succ]; rfl
      refine one_ (i := 14) (N := some 6) (Cmp.bm 15 2) rfl rfl (one_of HT_.out (by kernel_rfl)) (by decide) (fun K hK => ?_)
      refine box_step ?hg (N := 6) ?hd (cs := #[.slice none 0 0]) (t := 45) ?hr ?_; (case hd => rfl); (case hg => rfl); (case hr => first | (go_simp; done) | (go_simp; rfl))
      intro gb231 hg w33 hbox hb
      have n0_ := Aside0.mk (Kd.R_below (Cmp.rr HO222.out) hb)
      have n1_ := Aside0.mk (Kd.R_below (Cmp.rr HO226.out) hb)
      have n2_ := Aside0.mk (Kd.R_below (Cmp.rr HO229.out) hb)
      have n3_ := Aside0.mk (blk_below (Cmp.b BK214.out) hb)
      have n4_ := Aside0.mk (blk_below (Cmp.b BK215.out) hb)
      have n5_ := Aside0.mk (below_step (Cmp.g HB.out) hb)
      have n6_ := Aside0.mk (hbox)
      have n7_ := Aside0.mk ((by rw [hg]; exact (below_size (Cmp.g HB.out)) : w.heap.size ≤ gb231))
      have n8_ := Aside0.mk ((by rw [hg]; exact (below_size (Cmp.g HB.out)) : w.heap.size ≤ gb231))
      have n9_ := Aside0.mk ((by rw [hg]; exact Nat.ne_of_lt (blk_lt (Cmp.b BK214.out)) : gb214 ≠ gb231))
      have n10_ := Aside0.mk ((by rw [hg]; exact Nat.ne_of_gt (blk_lt (Cmp.b BK214.out)) : gb231 ≠ gb214))
      have n11_ := Aside0.mk ((by rw [hg]; exact Nat.ne_of_lt (blk_lt (Cmp.b BK215.out)) : gb215 ≠ gb231))
      have n12_ := Aside0.mk ((by rw [hg]; exact Nat.ne_of_gt (blk_lt (Cmp.b BK215.out)) : gb231 ≠ gb215))
      clear HO222; clear HO226; clear HO229; clear BK214; clear BK215; clear HB; have HO222 := n0_; have HO226 := n1_; have HO229 := n2_; have BK214 := n3_; have BK215 := n4_; have HB := n5_; have BK231 := n6_; have GW231 := n7_; have GE231 := n8_; have NB214_231 := n9_; have NB231_214 := n10_; have NB215_231 := n11_; have NB231_215 := n12_; clear n0_ n1_ n2_ n3_ n4_ n5_ n6_ n7_ n8_ n9_ n10_ n11_ n12_; clear hb hbox hg
      refine hK.out _ _ ⟨(blk_cell BK214.out 0).trans rfl, (blk_cell BK214.out 1).trans rfl, (blk_cell BK214.out 2).trans rfl, (blk_cell BK214.out 3).trans rfl⟩ (fun hHeld => ?_)
      clear hK K
      refine norm_ (a' := ?_) ?_ ?_
      rotate_left
      ·show Act.put _ (some 6) _ = _
       simp only [Act.put, Cmp.s, Cmp.z, Cmp.c, i64_w, i32_w]; rfl
      exact norm_ (by first | (simp only [putAll, Act.put, List.setIfInBounds_toArray, List.set_cons_zero, List.set_cons_succ]; done) | (simp only [putAll, Act.put, List.setIfInBounds_toArray, List.set_cons_zero, List.set_cons_succ]; rfl)) (hJ5_6_9_10_14 (v221, v225, v228, gb231) _ ⟨hHeld, (Cmp.rr HO222.out), (Cmp.rr HO226.out), (Cmp.rr HO229.out), (Cmp.b BK214.out), (Cmp.b BK215.out), (Cmp.b BK231.out), GW231.out, GE231.out, NB214_231.out, NB231_214.out, NB215_231.out, NB231_215.out, (Cmp.g HB.out)⟩)
    rintro ⟨v221, v225, v228, gb231⟩ w33 ⟨hS_, h0_, h1_, h2_, h3_, h4_, h5_, h6_, h7_, h8_, h9_, h10_, h11_, h12_⟩
    have n0_ : Aside0 (Kd.R (Kd.int .i64) 3 w33 w.heap.size (fun _ => True) v221 y220) := ⟨h0_⟩
    have n1_ : Aside0 (Kd.R (Kd.int .u8) 5 w33 w.heap.size (fun _ => True) v225 t224) := ⟨h1_⟩
    have n2_ : Aside0 (Kd.R k94 94 w33 w.heap.size (fun _ => True) v228 t227) := ⟨h2_⟩
    have n3_ : Aside0 (w33.heap[gb214]? = some (.cells #[.int .i64 a1_0, .int .i64 a1_1, .slice A1_2 l1_2.length c1_2, .int .i64 a1_3] 49 (0, 0))) := ⟨h3_⟩
    have n4_ : Aside0 (w33.heap[gb215]? = some (.cells #[.slice none 0 0] 45 (0, 0))) := ⟨h4_⟩
    have n5_ : Aside0 (w33.heap[gb231]? = some (.cells #[.slice none 0 0] 45 (0, 0))) := ⟨h5_⟩
    have n6_ : Aside0 (w.heap.size ≤ gb231) := ⟨h6_⟩
    have n7_ : Aside0 (w.heap.size ≤ gb231) := ⟨h7_⟩
    have n8_ : Aside0 (gb214 ≠ gb231) := ⟨h8_⟩
    have n9_ : Aside0 (gb231 ≠ gb214) := ⟨h9_⟩
    have n10_ : Aside0 (gb215 ≠ gb231) := ⟨h10_⟩
    have n11_ : Aside0 (gb231 ≠ gb215) := ⟨h11_⟩
    have n12_ : Aside0 (Below w.heap.size w w33) := ⟨h12_⟩
    clear BK214; clear BK215; clear HB; clear h0_ h1_ h2_ h3_ h4_ h5_ h6_ h7_ h8_ h9_ h10_ h11_ h12_; have HO222 := n0_; have HO226 := n1_; have HO229 := n2_; have BK214 := n3_; have BK215 := n4_; have BK231 := n5_; have GW231 := n6_; have GE231 := n7_; have NB214_231 := n8_; have NB231_214 := n9_; have NB215_231 := n10_; have NB231_215 := n11_; have HB := n12_; clear n0_ n1_ n2_ n3_ n4_ n5_ n6_ n7_ n8_ n9_ n10_ n11_ n12_
    have hHeld : w33.cell? ⟨gb214, 0, none⟩ = some (.int .i64 a1_0) ∧ w33.cell? ⟨gb214, 1, none⟩ = some (.int .i64 a1_1) ∧ w33.cell? ⟨gb214, 2, none⟩ = some (.slice A1_2 l1_2.length c1_2) ∧ w33.cell? ⟨gb214, 3, none⟩ = some (.int .i64 a1_3) := hS_
    obtain ⟨Ao34, co34, eo34⟩ := Kd.R_slice HO229.out
    (first | subst eo34 | (injection eo34 with f1_ f2_ f3_; have f4_ := f1_.symm; have f5_ := f3_.symm; clear f1_ f2_ f3_; subst f4_; subst f5_))
    refine norm_ (a' := ?_) ?_ ?_
    rotate_left
    ·simp only [putAll, Act.put, List.setIfInBounds_toArray, List.set_cons_zero, List.set_cons_succ]; rfl
    refine one_ (i := 15) (N := none) (Cmp.bm 16 1) rfl rfl (one_of HT_.out (by kernel_rfl)) (by decide) (fun K hK => ?_)
    have hs35 : w33.cell? ⟨gb231, 0, none⟩ = some (.slice none 0 0) := (blk_cell BK231.out 0).trans rfl
    have hfs35 := blk_frozen BK231.out 0; have hns35_0 := NB214_231.out; have hns35_1 := NB215_231.out; have hms35_0 := NB231_214.out; have hms35_1 := NB231_215.out
    refine skip_ (w1 := ?_) (by rfl) rfl ?_ ?_
    rotate_left
    ·go_simp; rfl
    refine hK.out _ _ ⟨((cell_far (p := ⟨gb231, _, none⟩) NB214_231.out _).trans (hHeld.1)), ((cell_far (p := ⟨gb231, _, none⟩) NB214_231.out _).trans (hHeld.2.1)), ((cell_far (p := ⟨gb231, _, none⟩) NB214_231.out _).trans (hHeld.2.2.1)), ((cell_far (p := ⟨gb231, _, none⟩) NB214_231.out _).trans (hHeld.2.2.2))⟩ (fun hHeld => ?_)
    clear hK K
    refine Cmp.pu HT_ 16 7 (Cmp.bm 17 0) ?_
    refine done_ (done_of HT_.out (by kernel_rfl)) ?_
    have hnb36 := NB231_214.out; have hnc36 := NB214_231.out; have hnb37 := NB231_215.out; have hnc37 := NB215_231.out
    have hcz38_0 : w33.cell? ⟨gb231, 0, none⟩ = some (.slice none 0 0) := (blk_cell BK231.out 0).trans rfl
    have hfz38_0 := blk_frozen BK231.out 0; have hnb39 := NB215_214.out; have hnc39 := NB214_215.out
    have hcz40_0 : w33.cell? ⟨gb215, 0, none⟩ = some (.slice none 0 0) := (blk_cell BK215.out 0).trans rfl
    have hfz40_0 := blk_frozen BK215.out 0
    try go_wp2
    refine bodyPost_ret (results_ct rfl _ _ gb215 45 #[.slice Ao34 t227.length co34] (0, 0) _ rfl (by (with_reducible repeat (first | refine blk_drewN ?_ _ | refine blk_drew ?_ | refine blk_alloc ?_ _)); refine blk_put (cs := #[.slice none 0 0]) ?_ 0 _ rfl; (with_reducible repeat (first | refine blk_drewN ?_ _ | refine blk_drew ?_ | refine blk_alloc ?_ _)); refine blk_far ?_ NB215_231.out _; (with_reducible repeat (first | refine blk_drewN ?_ _ | refine blk_drew ?_ | refine blk_alloc ?_ _)); exact BK215.out) Try.underlying45 rfl (by kernel_rfl)) rfl ?_
    exact ⟨_, by first | rfl | (simp [errW_none, errW_some] <;> rfl) | (simp [*, errW_none, errW_some] <;> rfl), by (with_reducible repeat (first | apply Kd.R_alloc | apply Kd.R_drewN | apply Kd.R_drew)); exact Kd.R_mono (Kd.R_far (p := ⟨gb215, 0, none⟩) (Kd.R_far (p := ⟨gb231, 0, none⟩) (Kd.R_types (Kd.R_types HO229.out BK231.out (by decide)) BK215.out (by decide)) (fun _ hk => hk.1.2) (.slice Ao34 t227.length co34)) (fun _ hk => hk.2) (.slice Ao34 t227.length co34)) (fun _ hk => trivial), Cmp.g HB.out⟩

end Go.Proofs.Ytpgjecknkmmnhaa.PFnExactOpenBundle

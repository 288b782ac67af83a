/- Printed functions of the program, out of print.sh, told more shortly. No condition. -/
import Derived.Test.YtgcipecdaimjfaaCmp
import Derived.Test.YtgcipecdaimjfaaPFnExactSealBundlex0
import Derived.Test.YtgcipecdaimjfaaPFnExactSealBundlex7
import Derived.Test.YtgcipecdaimjfaaPFnExactSealBundlex8
import Derived.Test.YtgcipecdaimjfaaPFnExactSealBundlex9
import Derived.Test.YtgcipecdaimjfaaPFnExactSealBundlex10
import Derived.Test.YtgcipecdaimjfaaPFnExactSealBundlex11
namespace Go.Proofs.Ytgcipecdaimjfaa.PFnExactSealBundle
open Go.Proofs.Ytgcipecdaimjfaa
open Go.RowKit Go.Proofs.YtgcipecdaimjfaaW.PrintWords Go.Proofs.YtgcipecdaimjfaaW.PrintLast Go.Proofs.YtgcipecdaimjfaaW.PrintMore
attribute [local go_sem] max2_int min2_int max_two min_two max_three min_three max_four min_four   -- for this text's walks alone
set_option linter.unusedVariables false
set_option linter.unusedSimpArgs false

/-! ### impl_SealBundle: function 30 -/
def impl_SealBundle.j0 : Nat → Int → Int → Int → Bool → List (S143) → Option (Int × Int × List Int × Int × Bool)
  | 0, _, _, _, _, _ => none
  | k + 1, x0, x1, x2, x28, x370000 => if x28 = true then (some (0, 0, ([] : List Int), 0, false)) else ((impl_DeriveKey.f k x0 (([223, x1, x2] : List Int))).bind fun t378 => ((impl_EncodeBundle.f k x370000).bind fun t379 => ((impl_Encrypt.f k t378 t379).bind fun t382 => ((impl_BundleMAC.f k x0 x1 x2 t382 0).bind fun t386 => (some (x1, x2, t382, t386, true))))))
def impl_SealBundle.f (k : Nat) (a0 : Int) (a1 : Int) (a2 : Int) (l3_0 : List (S143)) : Option (Int × Int × List Int × Int × Bool) := (impl_IsValidKey.f a0).bind fun t371 => (if t371 = true then ((impl_InRange.f a1 0 1000000).bind fun t372 => (if t372 = true then ((impl_InRange.f a2 0 1000000).bind fun t373 => (if t373 = true then ((impl_IsBundle.f k l3_0).bind fun t374 => (impl_SealBundle.j0 k a0 a1 a2 (!t374) l3_0)) else (impl_SealBundle.j0 k a0 a1 a2 true l3_0))) else (impl_SealBundle.j0 k a0 a1 a2 true l3_0))) else (impl_SealBundle.j0 k a0 a1 a2 true l3_0))
theorem impl_SealBundle.mono_l : ∀ k, (∀ y0 y1 y2 y3 y4, LeO (impl_SealBundle.j0 k y0 y1 y2 y3 y4) (impl_SealBundle.j0 (k + 1) y0 y1 y2 y3 y4))
  | 0 => fun _ _ _ _ _ r h => by simp [impl_SealBundle.j0] at h
  | k + 1 => by
    have ih0 := impl_SealBundle.mono_l k
    · intro y0 y1 y2 y3 y4
      unfold impl_SealBundle.j0
      repeat' first
      | (with_reducible exact ih0 _ _ _ _ _)
      | (with_reducible exact impl_BundleMAC.mono _ _ _ _ _ _)
      | (with_reducible exact impl_DeriveKey.mono _ _ _)
      | (with_reducible exact impl_EncodeBundle.mono _ _)
      | (with_reducible exact impl_Encrypt.mono _ _ _)
      | (with_reducible exact impl_IsBundle.mono _ _)
      | (with_reducible exact LeO.refl _)
      | (with_reducible exact LeO.none _)
      | (with_reducible refine LeO.ite ?_ ?_)
      | (with_reducible refine LeO.bind ?_ (fun _ => ?_))
      | exact ih0 _ _ _ _ _
      | exact impl_BundleMAC.mono _ _ _ _ _ _
      | exact impl_DeriveKey.mono _ _ _
      | exact impl_EncodeBundle.mono _ _
      | exact impl_Encrypt.mono _ _ _
      | exact impl_IsBundle.mono _ _
      | exact LeO.none _
      | refine LeO.ite ?_ ?_
      | refine LeO.bind ?_ (fun _ => ?_)
theorem impl_SealBundle.mono : ∀ a0 a1 a2 a3 k, LeO (impl_SealBundle.f k a0 a1 a2 a3) (impl_SealBundle.f (k + 1) a0 a1 a2 a3) := by
  intro a0 a1 a2 a3 k
  have ih0 := impl_SealBundle.mono_l k
  unfold impl_SealBundle.f
  repeat' first
      | (with_reducible exact ih0 _ _ _ _ _)
      | (with_reducible exact impl_BundleMAC.mono _ _ _ _ _ _)
      | (with_reducible exact impl_DeriveKey.mono _ _ _)
      | (with_reducible exact impl_EncodeBundle.mono _ _)
      | (with_reducible exact impl_Encrypt.mono _ _ _)
      | (with_reducible exact impl_IsBundle.mono _ _)
      | (with_reducible exact LeO.refl _)
      | (with_reducible exact LeO.none _)
      | (with_reducible refine LeO.ite ?_ ?_)
      | (with_reducible refine LeO.bind ?_ (fun _ => ?_))
      | exact ih0 _ _ _ _ _
      | exact impl_BundleMAC.mono _ _ _ _ _ _
      | exact impl_DeriveKey.mono _ _ _
      | exact impl_EncodeBundle.mono _ _
      | exact impl_Encrypt.mono _ _ _
      | exact impl_IsBundle.mono _ _
      | exact LeO.none _
      | refine LeO.ite ?_ ?_
      | refine LeO.bind ?_ (fun _ => ?_)
def impl_SealBundle.T3 : Bool × List (List Nat × List Nat) := (true, [([], []), ([], []), ([], []), ([], []), ([], []), ([3, 4], [3, 4]), ([2, 5], [2, 5]), ([], []), ([7, 6], [7]), ([6, 8, 8], [6, 8]), ([0, 1, 9], [0, 1, 9]), ([], []), ([11, 10, 9, 0, 1, 2, 3, 4, 5, 6, 7, 8, 9, 10, 11], [10, 11])])
def impl_SealBundle.B3 : List Nat := [0, 0, 0, 0, 0, 24, 60, 0, 252, 508, 1023, 0, 4095]
theorem impl_SealBundle.tab3 : rtab .any (opsOf Try.f30 3) = impl_SealBundle.T3 := by kernel_rfl
theorem impl_SealBundle.bits3 : waitsOk impl_SealBundle.T3.2 impl_SealBundle.B3 = true := by kernel_rfl
set_option maxHeartbeats 8000000 in
set_option maxRecDepth 100000 in
theorem impl_SealBundle.calls (k : Nat) (a0 : Int) (a1 : Int) (a2 : Int) (A3_0 : Option Addr) (c3_0 : Nat) (l3_0 : List (S143)) (r1 : Int) (r2 : Int) (r3 : List Int) (r4 : Int) (r5 : Bool) (w : World) (hr3_0 : Kd.C k143 w A3_0 l3_0.length l3_0) (hc3_0 : l3_0.length ≤ c3_0) (h : impl_SealBundle.f k a0 a1 a2 l3_0 = some (r1, r2, r3, r4, r5)) :
    Calls Try.prog 30 #[.int .i64 a0, .int .i64 a1, .int .i64 a2, .agg #[.slice A3_0 l3_0.length c3_0]] w fun e w' => ∃ v2_ : Value, e = .returned (.tuple #[.agg #[.int .i64 r1, .int .i64 r2, v2_, .int .i64 r4], .bool r5]) ∧ Kd.R (Kd.int .u8) 5 w' w.heap.size (fun _ => True) v2_ r3 ∧ Below w.heap.size w w' := by
 have hu71 := Try.underlying71; have hu66 := Try.underlying66; have HR3_0 := Aside0.mk hr3_0; have HC3_0 := Aside0.mk hc3_0; clear hr3_0 hc3_0
 have HB := Aside0.mk (Below.refl w.heap.size w)
 have H : ((impl_IsValidKey.f a0).bind fun t371 => (if t371 = true then ((impl_InRange.f a1 0 1000000).bind fun t372 => (if t372 = true then ((impl_InRange.f a2 0 1000000).bind fun t373 => (if t373 = true then ((impl_IsBundle.f k l3_0).bind fun t374 => (impl_SealBundle.j0 k a0 a1 a2 (!t374) l3_0)) else (impl_SealBundle.j0 k a0 a1 a2 true l3_0))) else (impl_SealBundle.j0 k a0 a1 a2 true l3_0))) else (impl_SealBundle.j0 k a0 a1 a2 true l3_0))) = some (r1, r2, r3, r4, r5) := h
 clear h; have HC5 := Aside0.mk H; clear H
 go_enter Try.func30, Try.ntmps30
 go_upto_region 1 with (first | ((with_reducible refine gate_dst (N := 7) rfl ?_); refine box_event ?hg (N := 7) ?hd (cs := #[.slice A3_0 l3_0.length c3_0]) (t := 71) ?hr ?_; (case hd => rfl); (case hg => rfl); (case hr => first | (go_simp; done) | (go_simp; rfl)); intro gb369 hg w6 hbox hb; have n0_ := Aside0.mk (below_step (Cmp.g HB.out) hb); have n1_ := Aside0.mk (hbox); have n2_ := Aside0.mk ((by rw [hg]; exact (below_size (Cmp.g HB.out)) : w.heap.size ≤ gb369)); have n3_ := Aside0.mk ((by rw [hg]; exact (below_size (Cmp.g HB.out)) : w.heap.size ≤ gb369)); clear HB; have HB := n0_; have BK369 := n1_; have GW369 := n2_; have GE369 := n3_; clear n0_ n1_ n2_ n3_; clear hb hbox hg) | ((with_reducible refine gate_dst (N := 8) rfl ?_); refine box_event ?hg (N := 8) ?hd (cs := #[.int .i64 0, .int .i64 0, .slice none 0 0, .int .i64 0]) (t := 66) ?hr ?_; (case hd => rfl); (case hg => rfl); (case hr => first | (go_simp; done) | (go_simp; rfl)); intro gb370 hg w7 hbox hb; have n0_ := Aside0.mk (blk_below (Cmp.b BK369.out) hb); have n1_ := Aside0.mk (below_step (Cmp.g HB.out) hb); have n2_ := Aside0.mk (hbox); have n3_ := Aside0.mk ((by rw [hg]; exact (below_size (Cmp.g HB.out)) : w.heap.size ≤ gb370)); have n4_ := Aside0.mk ((by rw [hg]; exact (below_size (Cmp.g HB.out)) : w.heap.size ≤ gb370)); have n5_ := Aside0.mk ((by rw [hg]; exact Nat.ne_of_lt (blk_lt (Cmp.b BK369.out)) : gb369 ≠ gb370)); have n6_ := Aside0.mk ((by rw [hg]; exact Nat.ne_of_gt (blk_lt (Cmp.b BK369.out)) : gb370 ≠ gb369)); clear BK369; clear HB; have BK369 := n0_; have HB := n1_; have BK370 := n2_; have GW370 := n3_; have GE370 := n4_; have NB369_370 := n5_; have NB370_369 := n6_; clear n0_ n1_ n2_ n3_ n4_ n5_ n6_; clear hb hbox hg))
 (try simp only [Act.put, List.setIfInBounds_toArray, List.set_cons_zero, List.set_cons_succ])
 go_cut [28] (fun v28 wc => ∃ (kq : Nat) (x28_4 : Bool), v28 = .bool x28_4 ∧ Aside0 (impl_SealBundle.j0 kq a0 a1 a2 x28_4 l3_0 = some (r1, r2, r3, r4, r5)) ∧ Aside0 (kq ≤ k) ∧ Aside0 (wc.heap[gb369]? = some (.cells #[(.slice A3_0 l3_0.length c3_0)] 71 (0, 0))) ∧ Aside0 (wc.heap[gb370]? = some (.cells #[.int .i64 0, .int .i64 0, (.slice none 0 0), .int .i64 0] 66 (0, 0))) ∧ Aside0 (Below w.heap.size w wc))
 case first =>
  have H := HC5.out; clear HC5; replace H := Option.bind_eq_some_iff.mp H; obtain ⟨t371, A80, H⟩ := H; (try dsimp only at H); have A8 := Aside0.mk A80; clear A80
  by_cases c9 : t371 = true
  ·subst c9; rw [if_pos rfl] at H; replace H := Option.bind_eq_some_iff.mp H; obtain ⟨t372, A100, H⟩ := H; (try dsimp only at H); have A10 := Aside0.mk A100; clear A100
   by_cases c11 : t372 = true
   ·subst c11; rw [if_pos rfl] at H; replace H := Option.bind_eq_some_iff.mp H; obtain ⟨t373, A120, H⟩ := H; (try dsimp only at H); have A12 := Aside0.mk A120; clear A120
    by_cases c13 : t373 = true
    ·subst c13; rw [if_pos rfl] at H; replace H := Option.bind_eq_some_iff.mp H; obtain ⟨t374, A140, H⟩ := H; (try dsimp only at H); have A14 := Aside0.mk A140; clear A140
     have H' := Aside0.mk H
     clear H
     go_wp2_with (first | ((with_reducible refine gate_callee (f := 90) rfl ?_); refine goesL_ (some 12) rfl rfl Try.func90 (by kernel_rfl) rfl #[.int .i64 a0] rfl Cmp.q ?_; (with_reducible refine (impl_IsValidKey.calls a0 true _ A8.out).mono ?_); rintro e w' ⟨rfl, ⟨nd, rfl⟩⟩; refine ⟨_, rfl, ?_⟩) | (go_at_call 59; (with_reducible refine (impl_InRange.calls a1 0 1000000 true _ A10.out).mono ?_); rintro e w' ⟨rfl, ⟨nd, rfl⟩⟩) | (go_at_call 59; (with_reducible refine (impl_InRange.calls a2 0 1000000 true _ A12.out).mono ?_); rintro e w' ⟨rfl, ⟨nd, rfl⟩⟩; have hnb15 := NB369_370.out; have hnc15 := NB370_369.out; have hcz16_0 : w7.cell? ⟨gb369, 0, none⟩ = some (.slice A3_0 l3_0.length c3_0) := (blk_cell BK369.out 0).trans rfl; have hfz16_0 := blk_frozen BK369.out 0) | (go_at_call 91; (with_reducible refine (impl_IsBundle.calls k _ _ l3_0 t374 _ ?side1 ?side2 A14.out).mono ?_); (case side1 => exact Cmp.rc (Kd.C_below HR3_0.out (Cmp.g HB.out))); (case side2 => exact HC3_0.out); rintro e w17 ⟨rfl, hb⟩; have n0_ := Aside0.mk (blk_below (Cmp.b BK369.out) hb); have n1_ := Aside0.mk (blk_below (Cmp.b BK370.out) hb); have n2_ := Aside0.mk (below_step (Cmp.g HB.out) hb); clear BK369; clear BK370; clear HB; have BK369 := n0_; have BK370 := n1_; have HB := n2_; clear n0_ n1_ n2_; (try clear hb); (try clear hb2); (try clear hk); (try clear hi)))
     go_meet
     case rel => exact ⟨_, (!t374), (by first | rfl | simp | simp [*]), H', ⟨by first | omega | exact Nat.le_refl _⟩, ⟨by (with_reducible repeat (first | refine blk_drewN ?_ _ | refine blk_drew ?_ | refine blk_alloc ?_ _)); exact BK369.out⟩, ⟨by (with_reducible repeat (first | refine blk_drewN ?_ _ | refine blk_drew ?_ | refine blk_alloc ?_ _)); exact BK370.out⟩, ⟨Cmp.g HB.out⟩⟩
    ·replace c13 := Bool.eq_false_iff.mpr c13
     subst c13
     have H1 : (impl_SealBundle.j0 k a0 a1 a2 true l3_0) = some (r1, r2, r3, r4, r5) := by rw [if_neg (show ¬ (false = true) by decide)] at H; exact H
     clear H; have H := H1; clear H1
     have H' := Aside0.mk H
     clear H
     go_wp2_with (first | ((with_reducible refine gate_callee (f := 90) rfl ?_); refine goesL_ (some 12) rfl rfl Try.func90 (by kernel_rfl) rfl #[.int .i64 a0] rfl Cmp.q ?_; (with_reducible refine (impl_IsValidKey.calls a0 true _ A8.out).mono ?_); rintro e w' ⟨rfl, ⟨nd, rfl⟩⟩; refine ⟨_, rfl, ?_⟩) | (go_at_call 59; (with_reducible refine (impl_InRange.calls a1 0 1000000 true _ A10.out).mono ?_); rintro e w' ⟨rfl, ⟨nd, rfl⟩⟩) | (go_at_call 59; (with_reducible refine (impl_InRange.calls a2 0 1000000 false _ A12.out).mono ?_); rintro e w' ⟨rfl, ⟨nd, rfl⟩⟩))
     go_meet
     case rel => exact ⟨_, (true), (by first | rfl | simp | simp [*]), H', ⟨by first | omega | exact Nat.le_refl _⟩, ⟨by (with_reducible repeat (first | refine blk_drewN ?_ _ | refine blk_drew ?_ | refine blk_alloc ?_ _)); exact BK369.out⟩, ⟨by (with_reducible repeat (first | refine blk_drewN ?_ _ | refine blk_drew ?_ | refine blk_alloc ?_ _)); exact BK370.out⟩, ⟨Cmp.g HB.out⟩⟩
   ·replace c11 := Bool.eq_false_iff.mpr c11
    subst c11
    have H1 : (impl_SealBundle.j0 k a0 a1 a2 true l3_0) = some (r1, r2, r3, r4, r5) := by rw [if_neg (show ¬ (false = true) by decide)] at H; exact H
    clear H; have H := H1; clear H1
    have H' := Aside0.mk H
    clear H
    go_wp2_with (first | ((with_reducible refine gate_callee (f := 90) rfl ?_); refine goesL_ (some 12) rfl rfl Try.func90 (by kernel_rfl) rfl #[.int .i64 a0] rfl Cmp.q ?_; (with_reducible refine (impl_IsValidKey.calls a0 true _ A8.out).mono ?_); rintro e w' ⟨rfl, ⟨nd, rfl⟩⟩; refine ⟨_, rfl, ?_⟩) | (go_at_call 59; (with_reducible refine (impl_InRange.calls a1 0 1000000 false _ A10.out).mono ?_); rintro e w' ⟨rfl, ⟨nd, rfl⟩⟩))
    go_meet
    case rel => exact ⟨_, (true), (by first | rfl | simp | simp [*]), H', ⟨by first | omega | exact Nat.le_refl _⟩, ⟨by (with_reducible repeat (first | refine blk_drewN ?_ _ | refine blk_drew ?_ | refine blk_alloc ?_ _)); exact BK369.out⟩, ⟨by (with_reducible repeat (first | refine blk_drewN ?_ _ | refine blk_drew ?_ | refine blk_alloc ?_ _)); exact BK370.out⟩, ⟨Cmp.g HB.out⟩⟩
  ·replace c9 := Bool.eq_false_iff.mpr c9
   subst c9
   have H1 : (impl_SealBundle.j0 k a0 a1 a2 true l3_0) = some (r1, r2, r3, r4, r5) := by rw [if_neg (show ¬ (false = true) by decide)] at H; exact H
   clear H; have H := H1; clear H1
   have H' := Aside0.mk H
   clear H
   go_wp2_with (first | ((with_reducible refine gate_callee (f := 90) rfl ?_); refine goesL_ (some 12) rfl rfl Try.func90 (by kernel_rfl) rfl #[.int .i64 a0] rfl Cmp.q ?_; (with_reducible refine (impl_IsValidKey.calls a0 false _ A8.out).mono ?_); rintro e w' ⟨rfl, ⟨nd, rfl⟩⟩; refine ⟨_, rfl, ?_⟩))
   go_meet
   case rel => exact ⟨_, (true), (by first | rfl | simp | simp [*]), H', ⟨by first | omega | exact Nat.le_refl _⟩, ⟨by (with_reducible repeat (first | refine blk_drewN ?_ _ | refine blk_drew ?_ | refine blk_alloc ?_ _)); exact BK369.out⟩, ⟨by (with_reducible repeat (first | refine blk_drewN ?_ _ | refine blk_drew ?_ | refine blk_alloc ?_ _)); exact BK370.out⟩, ⟨Cmp.g HB.out⟩⟩
 case rest =>
  clear HC5; (try clear c1); (try clear p2); (try clear c3); (try clear c9); (try clear c11); (try clear c13); (try clear c15); (try clear hcz16_0); (try clear hfz16_0)
  obtain ⟨kq, x28_4, rfl, HA, HJ4, BK369, BK370, HB⟩ := hcut
  cases kq with
  | zero => exact absurd HA.out (by simp [impl_SealBundle.j0])
  | succ kj4 =>
   have H := HA.out; clear HA
   simp only [impl_SealBundle.j0] at H
   by_cases c18 : x28_4 = true
   ·subst c18; rw [if_pos rfl] at H
    simp only [Option.some.injEq, Prod.mk.injEq] at H
    obtain ⟨rfl, rfl, rfl, rfl, rfl⟩ := H; have hnb19 := NB370_369.out; have hnc19 := NB369_370.out
    have hcz20_0 : wc.cell? ⟨gb370, 0, none⟩ = some (.int .i64 0) := (blk_cell BK370.out 0).trans rfl
    have hcz20_1 : wc.cell? ⟨gb370, 1, none⟩ = some (.int .i64 0) := (blk_cell BK370.out 1).trans rfl
    have hcz20_2 : wc.cell? ⟨gb370, 2, none⟩ = some (.slice none 0 0) := (blk_cell BK370.out 2).trans rfl
    have hcz20_3 : wc.cell? ⟨gb370, 3, none⟩ = some (.int .i64 0) := (blk_cell BK370.out 3).trans rfl
    have hfz20_0 := blk_frozen BK370.out 0; have hfz20_1 := blk_frozen BK370.out 1; have hfz20_2 := blk_frozen BK370.out 2; have hfz20_3 := blk_frozen BK370.out 3
    go_wp2
    refine bodyPost_ret (results_ct rfl _ _ gb370 66 #[.int .i64 0, .int .i64 0, .slice none 0 0, .int .i64 0] (0, 0) _ rfl (by (with_reducible repeat (first | refine blk_drewN ?_ _ | refine blk_drew ?_ | refine blk_alloc ?_ _)); refine blk_put (cs := #[.int .i64 0, .int .i64 0, .slice none 0 0, .int .i64 0]) ?_ 3 _ rfl; (with_reducible repeat (first | refine blk_drewN ?_ _ | refine blk_drew ?_ | refine blk_alloc ?_ _)); refine blk_put (cs := #[.int .i64 0, .int .i64 0, .slice none 0 0, .int .i64 0]) ?_ 2 _ rfl; (with_reducible repeat (first | refine blk_drewN ?_ _ | refine blk_drew ?_ | refine blk_alloc ?_ _)); refine blk_put (cs := #[.int .i64 0, .int .i64 0, .slice none 0 0, .int .i64 0]) ?_ 1 _ rfl; (with_reducible repeat (first | refine blk_drewN ?_ _ | refine blk_drew ?_ | refine blk_alloc ?_ _)); refine blk_put (cs := #[.int .i64 0, .int .i64 0, .slice none 0 0, .int .i64 0]) ?_ 0 _ rfl; (with_reducible repeat (first | refine blk_drewN ?_ _ | refine blk_drew ?_ | refine blk_alloc ?_ _)); exact BK370.out) Try.underlying66 rfl (by kernel_rfl)) rfl ?_
    exact ⟨_, by first | rfl | (simp [errW_none, errW_some] <;> rfl) | (simp [*, errW_none, errW_some] <;> rfl), by first | exact Kd.R_nil _ _ _ _ _ | exact Kd.N_nil _ _ _ _ _ | exact Kd.V_nil _ _ _ _ _ | exact Kd.Q_nil _ _ _ _ _ | exact Kd.S_nil _ _ _ _ _, Cmp.g HB.out⟩
   ·replace c18 := Bool.eq_false_iff.mpr c18
    subst c18
    have H1 : ((impl_DeriveKey.f kj4 a0 (([223, a1, a2] : List Int))).bind fun t378 => ((impl_EncodeBundle.f kj4 l3_0).bind fun t379 => ((impl_Encrypt.f kj4 t378 t379).bind fun t382 => ((impl_BundleMAC.f kj4 a0 a1 a2 t382 0).bind fun t386 => (some (a1, a2, t382, t386, true)))))) = some (r1, r2, r3, r4, r5) := by rw [if_neg (show ¬ (false = true) by decide)] at H; exact H
    clear H; have H := H1; clear H1
    obtain ⟨y375, hy375⟩ : ∃ y_ : List Int, y_ = (([223, a1, a2] : List Int)) := ⟨_, rfl⟩
    replace H : ((impl_DeriveKey.f kj4 a0 y375).bind fun t378 => ((impl_EncodeBundle.f kj4 l3_0).bind fun t379 => ((impl_Encrypt.f kj4 t378 t379).bind fun t382 => ((impl_BundleMAC.f kj4 a0 a1 a2 t382 0).bind fun t386 => (some (a1, a2, t382, t386, true)))))) = some (r1, r2, r3, r4, r5) := by first | (rw [hy375]; with_reducible exact H) | (have H2_ := (Option.bind_some _ _).symm.trans H; rw [hy375]; with_reducible exact H2_) | (have H2_ := (Option.bind_some _ _).symm.trans H; with_reducible exact H2_) | with_reducible exact H | (rw [hy375]; exact H) | exact H
    have Ny375 := Aside0.mk hy375; clear hy375; replace H := Option.bind_eq_some_iff.mp H; obtain ⟨t378, A210, H⟩ := H; (try dsimp only at H); have A21 := Aside0.mk A210; clear A210; replace H := Option.bind_eq_some_iff.mp H; obtain ⟨t379, A220, H⟩ := H; (try dsimp only at H); have A22 := Aside0.mk A220; clear A220; replace H := Option.bind_eq_some_iff.mp H; obtain ⟨t382, A230, H⟩ := H; (try dsimp only at H); have A23 := Aside0.mk A230; clear A230; replace H := Option.bind_eq_some_iff.mp H; obtain ⟨t386, A240, H⟩ := H; (try dsimp only at H); have A24 := Aside0.mk A240; clear A240
    simp only [Option.some.injEq, Prod.mk.injEq] at H
    obtain ⟨rfl, rfl, rfl, rfl, rfl⟩ := H
    try go_wp2
    have n0_ := Aside0.mk (blk_drew BK369.out); have n1_ := Aside0.mk (blk_drew BK370.out); have n2_ := Aside0.mk (below_drew1 HB.out); clear BK369; clear BK370; clear HB; have BK369 := n0_; have BK370 := n1_; have HB := n2_; clear n0_ n1_ n2_
    refine start_ (n := 13) (S := fun w' => w'.cell? ⟨gb369, 0, none⟩ = some (.slice A3_0 l3_0.length c3_0)) (ds := []) (Cmp.bm 0 13) (by kernel_rfl) rfl rfl ((blk_cell BK369.out 0).trans rfl) (fun hHeld => ?_); refine with_tabW impl_SealBundle.tab3 impl_SealBundle.bits3 (fun HT_ HW_ => ?_)
    generalize wc.drew = w25 at BK369 BK370 HB hHeld ⊢
    refine Cmp.pu HT_ 0 30 (Cmp.bm 1 12) ?_; refine Cmp.pu HT_ 1 31 (Cmp.bm 2 11) ?_; refine Cmp.pu HT_ 2 32 (Cmp.bm 3 10) ?_; refine Cmp.pu HT_ 3 33 (Cmp.bm 4 9) ?_; refine Cmp.pu HT_ 4 34 (Cmp.bm 5 8) ?_
    refine take_ (i := 7) (N := some 37) (v := ?_) (a' := ?_) (Cmp.bb 13 159) rfl rfl (take_ofW HT_.out HW_.out (by kernel_rfl)) (fun _ _ _ h => h) (Or.inl ⟨by rfl, ?_⟩) hHeld ?_ ?_
    rotate_left
    ·intro w' s0
     go_simp; with_reducible rfl
    rotate_left
    ·simp only [Act.put, Cmp.s, Cmp.z, Cmp.c, i64_w, i32_w]; rfl
    refine join_ (σ := Value × Value × Value × Nat) 1 (Cmp.bm 12 1) (fun s_ => [(35, s_.1), (36, .int .i64 t378), (38, s_.2.1), (39, s_.2.2.1), (10, .pointer (some ⟨s_.2.2.2, 0, none⟩)), (40, .agg #[.int .i64 a1, .int .i64 a2, s_.2.2.1, .int .i64 0])]) (fun s_ w' => (w'.cell? ⟨gb369, 0, none⟩ = some (.slice A3_0 l3_0.length c3_0)) ∧ (Kd.R (Kd.int .i64) 3 w' w.heap.size (fun _ => True) s_.1 y375) ∧ (Kd.R (Kd.int .u8) 5 w' w.heap.size (fun k_ => some k_ ≠ (s_.2.2.1 : Value).ownBlock) s_.2.1 t379) ∧ (Kd.R (Kd.int .u8) 5 w' w.heap.size (fun k_ => some k_ ≠ (s_.2.1 : Value).ownBlock) s_.2.2.1 t382) ∧ (w'.heap[gb369]? = some (.cells #[.slice A3_0 l3_0.length c3_0] 71 (0, 0))) ∧ (w'.heap[gb370]? = some (.cells #[.int .i64 0, .int .i64 0, .slice none 0 0, .int .i64 0] 66 (0, 0))) ∧ (w'.heap[s_.2.2.2]? = some (.cells #[.int .i64 0, .int .i64 0, .slice none 0 0, .int .i64 0] 66 (0, 0))) ∧ (w.heap.size ≤ s_.2.2.2) ∧ (w.heap.size ≤ s_.2.2.2) ∧ (gb369 ≠ s_.2.2.2) ∧ (s_.2.2.2 ≠ gb369) ∧ (gb370 ≠ s_.2.2.2) ∧ (s_.2.2.2 ≠ gb370) ∧ (Below w.heap.size w w')) ?_ ?_
    rotate_left
    ·intro hJ5_6_8_9_11
     refine join_ (σ := Value × Value × Value) 2 (Cmp.bm 11 2) (fun s_ => [(35, s_.1), (36, .int .i64 t378), (38, s_.2.1), (39, s_.2.2), (40, .agg #[.int .i64 a1, .int .i64 a2, s_.2.2, .int .i64 0])]) (fun s_ w' => (w'.cell? ⟨gb369, 0, none⟩ = some (.slice A3_0 l3_0.length c3_0)) ∧ (Kd.R (Kd.int .i64) 3 w' w.heap.size (fun _ => True) s_.1 y375) ∧ (Kd.R (Kd.int .u8) 5 w' w.heap.size (fun k_ => some k_ ≠ (s_.2.2 : Value).ownBlock) s_.2.1 t379) ∧ (Kd.R (Kd.int .u8) 5 w' w.heap.size (fun k_ => some k_ ≠ (s_.2.1 : Value).ownBlock) s_.2.2 t382) ∧ (w'.heap[gb369]? = some (.cells #[.slice A3_0 l3_0.length c3_0] 71 (0, 0))) ∧ (w'.heap[gb370]? = some (.cells #[.int .i64 0, .int .i64 0, .slice none 0 0, .int .i64 0] 66 (0, 0))) ∧ (Below w.heap.size w w')) ?_ ?_
     rotate_left
     ·intro hJ5_6_8_9
      refine join_ (σ := Value × Value × Nat) 3 (Cmp.bb 13 2559) (fun s_ => [(35, s_.1), (36, .int .i64 t378), (38, s_.2.1), (10, .pointer (some ⟨s_.2.2, 0, none⟩))]) (fun s_ w' => (w'.cell? ⟨gb369, 0, none⟩ = some (.slice A3_0 l3_0.length c3_0)) ∧ (Kd.R (Kd.int .i64) 3 w' w.heap.size (fun _ => True) s_.1 y375) ∧ (Kd.R (Kd.int .u8) 5 w' w.heap.size (fun _ => True) s_.2.1 t379) ∧ (w'.heap[gb369]? = some (.cells #[.slice A3_0 l3_0.length c3_0] 71 (0, 0))) ∧ (w'.heap[gb370]? = some (.cells #[.int .i64 0, .int .i64 0, .slice none 0 0, .int .i64 0] 66 (0, 0))) ∧ (w'.heap[s_.2.2]? = some (.cells #[.int .i64 0, .int .i64 0, .slice none 0 0, .int .i64 0] 66 (0, 0))) ∧ (w.heap.size ≤ s_.2.2) ∧ (w.heap.size ≤ s_.2.2) ∧ (gb369 ≠ s_.2.2) ∧ (s_.2.2 ≠ gb369) ∧ (gb370 ≠ s_.2.2) ∧ (s_.2.2 ≠ gb370) ∧ (Below w.heap.size w w')) ?_ ?_
      rotate_left
      ·intro hJ5_6_8_11
       refine join_ (σ := Value × Value) 4 (Cmp.bm 9 4) (fun s_ => [(35, s_.1), (36, .int .i64 t378), (38, s_.2)]) (fun s_ w' => (w'.cell? ⟨gb369, 0, none⟩ = some (.slice A3_0 l3_0.length c3_0)) ∧ (Kd.R (Kd.int .i64) 3 w' w.heap.size (fun _ => True) s_.1 y375) ∧ (Kd.R (Kd.int .u8) 5 w' w.heap.size (fun _ => True) s_.2 t379) ∧ (w'.heap[gb369]? = some (.cells #[.slice A3_0 l3_0.length c3_0] 71 (0, 0))) ∧ (w'.heap[gb370]? = some (.cells #[.int .i64 0, .int .i64 0, .slice none 0 0, .int .i64 0] 66 (0, 0))) ∧ (Below w.heap.size w w')) ?_ ?_
       rotate_left
       ·intro hJ5_6_8
        refine join_ (σ := Value × Nat) 4 (Cmp.bb 13 2303) (fun s_ => [(35, s_.1), (36, .int .i64 t378), (10, .pointer (some ⟨s_.2, 0, none⟩))]) (fun s_ w' => (w'.cell? ⟨gb369, 0, none⟩ = some (.slice A3_0 l3_0.length c3_0)) ∧ (Kd.R (Kd.int .i64) 3 w' w.heap.size (fun _ => True) s_.1 y375) ∧ (w'.heap[gb369]? = some (.cells #[.slice A3_0 l3_0.length c3_0] 71 (0, 0))) ∧ (w'.heap[gb370]? = some (.cells #[.int .i64 0, .int .i64 0, .slice none 0 0, .int .i64 0] 66 (0, 0))) ∧ (w'.heap[s_.2]? = some (.cells #[.int .i64 0, .int .i64 0, .slice none 0 0, .int .i64 0] 66 (0, 0))) ∧ (w.heap.size ≤ s_.2) ∧ (w.heap.size ≤ s_.2) ∧ (gb369 ≠ s_.2) ∧ (s_.2 ≠ gb369) ∧ (gb370 ≠ s_.2) ∧ (s_.2 ≠ gb370) ∧ (Below w.heap.size w w')) ?_ ?_
        rotate_left
        ·intro hJ5_6_11
         refine join_ (σ := Value) 5 (Cmp.bm 8 5) (fun s_ => [(35, s_), (36, .int .i64 t378)]) (fun s_ w' => (w'.cell? ⟨gb369, 0, none⟩ = some (.slice A3_0 l3_0.length c3_0)) ∧ (Kd.R (Kd.int .i64) 3 w' w.heap.size (fun _ => True) s_ y375) ∧ (w'.heap[gb369]? = some (.cells #[.slice A3_0 l3_0.length c3_0] 71 (0, 0))) ∧ (w'.heap[gb370]? = some (.cells #[.int .i64 0, .int .i64 0, .slice none 0 0, .int .i64 0] 66 (0, 0))) ∧ (Below w.heap.size w w')) ?_ ?_
         rotate_left
         ·intro hJ5_6
          refine join_ (σ := Value × Nat) 5 (Cmp.bb 13 2239) (fun s_ => [(35, s_.1), (10, .pointer (some ⟨s_.2, 0, none⟩))]) (fun s_ w' => (w'.cell? ⟨gb369, 0, none⟩ = some (.slice A3_0 l3_0.length c3_0)) ∧ (Kd.R (Kd.int .i64) 3 w' w.heap.size (fun _ => True) s_.1 y375) ∧ (w'.heap[gb369]? = some (.cells #[.slice A3_0 l3_0.length c3_0] 71 (0, 0))) ∧ (w'.heap[gb370]? = some (.cells #[.int .i64 0, .int .i64 0, .slice none 0 0, .int .i64 0] 66 (0, 0))) ∧ (w'.heap[s_.2]? = some (.cells #[.int .i64 0, .int .i64 0, .slice none 0 0, .int .i64 0] 66 (0, 0))) ∧ (w.heap.size ≤ s_.2) ∧ (w.heap.size ≤ s_.2) ∧ (gb369 ≠ s_.2) ∧ (s_.2 ≠ gb369) ∧ (gb370 ≠ s_.2) ∧ (s_.2 ≠ gb370) ∧ (Below w.heap.size w w')) ?_ ?_
          rotate_left
          ·intro hJ5_11
           refine join_ (σ := Value) 6 (Cmp.bb 13 191) (fun s_ => [(35, s_)]) (fun s_ w' => (w'.cell? ⟨gb369, 0, none⟩ = some (.slice A3_0 l3_0.length c3_0)) ∧ (Kd.R (Kd.int .i64) 3 w' w.heap.size (fun _ => True) s_ y375) ∧ (w'.heap[gb369]? = some (.cells #[.slice A3_0 l3_0.length c3_0] 71 (0, 0))) ∧ (w'.heap[gb370]? = some (.cells #[.int .i64 0, .int .i64 0, .slice none 0 0, .int .i64 0] 66 (0, 0))) ∧ (Below w.heap.size w w')) ?_ ?_
           rotate_left
           ·intro hJ5
            refine join_ (σ := Nat) 6 (Cmp.bb 13 2207) (fun s_ => [(10, .pointer (some ⟨s_, 0, none⟩))]) (fun s_ w' => (w'.cell? ⟨gb369, 0, none⟩ = some (.slice A3_0 l3_0.length c3_0)) ∧ (w'.heap[gb369]? = some (.cells #[.slice A3_0 l3_0.length c3_0] 71 (0, 0))) ∧ (w'.heap[gb370]? = some (.cells #[.int .i64 0, .int .i64 0, .slice none 0 0, .int .i64 0] 66 (0, 0))) ∧ (w'.heap[s_]? = some (.cells #[.int .i64 0, .int .i64 0, .slice none 0 0, .int .i64 0] 66 (0, 0))) ∧ (w.heap.size ≤ s_) ∧ (w.heap.size ≤ s_) ∧ (gb369 ≠ s_) ∧ (s_ ≠ gb369) ∧ (gb370 ≠ s_) ∧ (s_ ≠ gb370) ∧ (Below w.heap.size w w')) ?_ ?_
            rotate_left
            ·intro hJ11
             refine two_ (i := 5) (j := 11) (Ni := some 35) (Nj := some 10) (Cmp.bb 13 191) (Cmp.bb 13 2207) rfl rfl rfl rfl (two_of HT_.out (by kernel_rfl)) (by decide) (by decide) (fun K hK => ?_) (fun K hK => ?_)
             ·skip
              refine Kd.R_lit_step (Kd.int .i64) _ 3 ?hg (N := 35) ?hd (xs := ([223, a1, a2] : List Int)) (inner := [.int .i64 223, .int .i64 a1, .int .i64 a2]) (ok := fun _ => True) (okp := fun _ => True) ?hr ?hp (fun _ hk => hk) trivial (Below.refl _ _) (Nat.le_refl _) (by simp) ?_; (case hd => rfl); (case hg => rfl); (case hr => first | (go_simp; done) | (go_simp; rfl)); (case hp => exact (Reps.one (show Kd.M (Kd.int .i64) _ _ _ 223 [.int .i64 223] from rfl) (Reps.one (show Kd.M (Kd.int .i64) _ _ _ a1 [.int .i64 a1] from rfl) (Reps.one (show Kd.M (Kd.int .i64) _ _ _ a2 [.int .i64 a2] from rfl) (Reps.none _ _)))))
              intro v376 w26 ho27 hb hg_ hnew_
              clear hg_ hnew_
              (first | rw [← Ny375.out] at ho27 | (simp only [Int.reduceToNat] at ho27; rw [← Ny375.out] at ho27))
              have n0_ := Aside0.mk (Kd.R_lower ho27 (below_size (Cmp.g HB.out)))
              have n1_ := Aside0.mk (blk_below (Cmp.b BK369.out) hb)
              have n2_ := Aside0.mk (blk_below (Cmp.b BK370.out) hb)
              have n3_ := Aside0.mk (below_step (Cmp.g HB.out) hb)
              clear BK369; clear BK370; clear HB; have HO377 := n0_; have BK369 := n1_; have BK370 := n2_; have HB := n3_; clear n0_ n1_ n2_ n3_; clear hb ho27
              refine hK.out _ _ ((blk_cell BK369.out 0).trans rfl) (fun hHeld => ?_)
              clear hK K
              refine norm_ (a' := ?_) ?_ ?_
              rotate_left
              ·show Act.put _ (some 35) _ = _
               simp only [Act.put, Cmp.s, Cmp.z, Cmp.c, i64_w, i32_w]; rfl
              exact norm_ (by first | (simp only [putAll, Act.put, List.setIfInBounds_toArray, List.set_cons_zero, List.set_cons_succ]; done) | (simp only [putAll, Act.put, List.setIfInBounds_toArray, List.set_cons_zero, List.set_cons_succ]; rfl)) (hJ5 (v376) _ ⟨hHeld, (Cmp.rr HO377.out), (Cmp.b BK369.out), (Cmp.b BK370.out), (Cmp.g HB.out)⟩)
             ·skip
              refine box_step ?hg (N := 10) ?hd (cs := #[.int .i64 0, .int .i64 0, .slice none 0 0, .int .i64 0]) (t := 66) ?hr ?_; (case hd => rfl); (case hg => rfl); (case hr => first | (go_simp; done) | (go_simp; rfl))
              intro gb385 hg w26 hbox hb
              have n0_ := Aside0.mk (blk_below (Cmp.b BK369.out) hb)
              have n1_ := Aside0.mk (blk_below (Cmp.b BK370.out) hb)
              have n2_ := Aside0.mk (below_step (Cmp.g HB.out) hb)
              have n3_ := Aside0.mk (hbox)
              have n4_ := Aside0.mk ((by rw [hg]; exact (below_size (Cmp.g HB.out)) : w.heap.size ≤ gb385))
              have n5_ := Aside0.mk ((by rw [hg]; exact (below_size (Cmp.g HB.out)) : w.heap.size ≤ gb385))
              have n6_ := Aside0.mk ((by rw [hg]; exact Nat.ne_of_lt (blk_lt (Cmp.b BK369.out)) : gb369 ≠ gb385))
              have n7_ := Aside0.mk ((by rw [hg]; exact Nat.ne_of_gt (blk_lt (Cmp.b BK369.out)) : gb385 ≠ gb369))
              have n8_ := Aside0.mk ((by rw [hg]; exact Nat.ne_of_lt (blk_lt (Cmp.b BK370.out)) : gb370 ≠ gb385))
              have n9_ := Aside0.mk ((by rw [hg]; exact Nat.ne_of_gt (blk_lt (Cmp.b BK370.out)) : gb385 ≠ gb370))
              clear BK369; clear BK370; clear HB; have BK369 := n0_; have BK370 := n1_; have HB := n2_; have BK385 := n3_; have GW385 := n4_; have GE385 := n5_; have NB369_385 := n6_; have NB385_369 := n7_; have NB370_385 := n8_; have NB385_370 := n9_; clear n0_ n1_ n2_ n3_ n4_ n5_ n6_ n7_ n8_ n9_; clear hb hbox hg
              refine hK.out _ _ ((blk_cell BK369.out 0).trans rfl) (fun hHeld => ?_)
              clear hK K
              refine norm_ (a' := ?_) ?_ ?_
              rotate_left
              ·show Act.put _ (some 10) _ = _
               simp only [Act.put, Cmp.s, Cmp.z, Cmp.c, i64_w, i32_w]; rfl
              exact norm_ (by first | (simp only [putAll, Act.put, List.setIfInBounds_toArray, List.set_cons_zero, List.set_cons_succ]; done) | (simp only [putAll, Act.put, List.setIfInBounds_toArray, List.set_cons_zero, List.set_cons_succ]; rfl)) (hJ11 (gb385) _ ⟨hHeld, (Cmp.b BK369.out), (Cmp.b BK370.out), (Cmp.b BK385.out), GW385.out, GE385.out, NB369_385.out, NB385_369.out, NB370_385.out, NB385_370.out, (Cmp.g HB.out)⟩)
            ·skip
             rintro gb385 w27 ⟨hS_, h0_, h1_, h2_, h3_, h4_, h5_, h6_, h7_, h8_, h9_⟩
             have n0_ : Aside0 (w27.heap[gb369]? = some (.cells #[.slice A3_0 l3_0.length c3_0] 71 (0, 0))) := ⟨h0_⟩
             have n1_ : Aside0 (w27.heap[gb370]? = some (.cells #[.int .i64 0, .int .i64 0, .slice none 0 0, .int .i64 0] 66 (0, 0))) := ⟨h1_⟩
             have n2_ : Aside0 (w27.heap[gb385]? = some (.cells #[.int .i64 0, .int .i64 0, .slice none 0 0, .int .i64 0] 66 (0, 0))) := ⟨h2_⟩
             have n3_ : Aside0 (w.heap.size ≤ gb385) := ⟨h3_⟩
             have n4_ : Aside0 (w.heap.size ≤ gb385) := ⟨h4_⟩
             have n5_ : Aside0 (gb369 ≠ gb385) := ⟨h5_⟩
             have n6_ : Aside0 (gb385 ≠ gb369) := ⟨h6_⟩
             have n7_ : Aside0 (gb370 ≠ gb385) := ⟨h7_⟩
             have n8_ : Aside0 (gb385 ≠ gb370) := ⟨h8_⟩
             have n9_ : Aside0 (Below w.heap.size w w27) := ⟨h9_⟩
             clear BK369; clear BK370; clear HB; clear h0_ h1_ h2_ h3_ h4_ h5_ h6_ h7_ h8_ h9_; have BK369 := n0_; have BK370 := n1_; have BK385 := n2_; have GW385 := n3_; have GE385 := n4_; have NB369_385 := n5_; have NB385_369 := n6_; have NB370_385 := n7_; have NB385_370 := n8_; have HB := n9_; clear n0_ n1_ n2_ n3_ n4_ n5_ n6_ n7_ n8_ n9_
             have hHeld : w27.cell? ⟨gb369, 0, none⟩ = some (.slice A3_0 l3_0.length c3_0) := hS_
             refine norm_ (a' := ?_) ?_ ?_
             rotate_left
             ·simp only [putAll, Act.put, List.setIfInBounds_toArray, List.set_cons_zero, List.set_cons_succ]; rfl
             refine one_ (i := 5) (N := some 35) (Cmp.bb 13 2239) rfl rfl (one_of HT_.out (by kernel_rfl)) (by decide) (fun K hK => ?_)
             refine Kd.R_lit_step (Kd.int .i64) _ 3 ?hg (N := 35) ?hd (xs := ([223, a1, a2] : List Int)) (inner := [.int .i64 223, .int .i64 a1, .int .i64 a2]) (ok := fun _ => True) (okp := fun _ => True) ?hr ?hp (fun _ hk => hk) trivial (Below.refl _ _) (Nat.le_refl _) (by simp) ?_; (case hd => rfl); (case hg => rfl); (case hr => first | (go_simp; done) | (go_simp; rfl)); (case hp => exact (Reps.one (show Kd.M (Kd.int .i64) _ _ _ 223 [.int .i64 223] from rfl) (Reps.one (show Kd.M (Kd.int .i64) _ _ _ a1 [.int .i64 a1] from rfl) (Reps.one (show Kd.M (Kd.int .i64) _ _ _ a2 [.int .i64 a2] from rfl) (Reps.none _ _)))))
             intro v376 w28 ho29 hb hg_ hnew_
             clear hg_ hnew_
             (first | rw [← Ny375.out] at ho29 | (simp only [Int.reduceToNat] at ho29; rw [← Ny375.out] at ho29))
             have n0_ := Aside0.mk (Kd.R_lower ho29 (below_size (Cmp.g HB.out)))
             have n1_ := Aside0.mk (blk_below (Cmp.b BK369.out) hb)
             have n2_ := Aside0.mk (blk_below (Cmp.b BK370.out) hb)
             have n3_ := Aside0.mk (blk_below (Cmp.b BK385.out) hb)
             have n4_ := Aside0.mk (below_step (Cmp.g HB.out) hb)
             clear BK369; clear BK370; clear BK385; clear HB; have HO377 := n0_; have BK369 := n1_; have BK370 := n2_; have BK385 := n3_; have HB := n4_; clear n0_ n1_ n2_ n3_ n4_; clear hb ho29
             refine hK.out _ _ ((blk_cell BK369.out 0).trans rfl) (fun hHeld => ?_)
             clear hK K
             refine norm_ (a' := ?_) ?_ ?_
             rotate_left
             ·show Act.put _ (some 35) _ = _
              simp only [Act.put, Cmp.s, Cmp.z, Cmp.c, i64_w, i32_w]; rfl
             exact norm_ (by first | (simp only [putAll, Act.put, List.setIfInBounds_toArray, List.set_cons_zero, List.set_cons_succ]; done) | (simp only [putAll, Act.put, List.setIfInBounds_toArray, List.set_cons_zero, List.set_cons_succ]; rfl)) (hJ5_11 (v376, gb385) _ ⟨hHeld, (Cmp.rr HO377.out), (Cmp.b BK369.out), (Cmp.b BK370.out), (Cmp.b BK385.out), GW385.out, GE385.out, NB369_385.out, NB385_369.out, NB370_385.out, NB385_370.out, (Cmp.g HB.out)⟩)
           ·skip
            rintro v376 w28 ⟨hS_, h0_, h1_, h2_, h3_⟩
            have n0_ : Aside0 (Kd.R (Kd.int .i64) 3 w28 w.heap.size (fun _ => True) v376 y375) := ⟨h0_⟩
            have n1_ : Aside0 (w28.heap[gb369]? = some (.cells #[.slice A3_0 l3_0.length c3_0] 71 (0, 0))) := ⟨h1_⟩
            have n2_ : Aside0 (w28.heap[gb370]? = some (.cells #[.int .i64 0, .int .i64 0, .slice none 0 0, .int .i64 0] 66 (0, 0))) := ⟨h2_⟩
            have n3_ : Aside0 (Below w.heap.size w w28) := ⟨h3_⟩
            clear BK369; clear BK370; clear HB; clear h0_ h1_ h2_ h3_; have HO377 := n0_; have BK369 := n1_; have BK370 := n2_; have HB := n3_; clear n0_ n1_ n2_ n3_
            have hHeld : w28.cell? ⟨gb369, 0, none⟩ = some (.slice A3_0 l3_0.length c3_0) := hS_
            obtain ⟨Ao29, co29, eo29⟩ := Kd.R_slice HO377.out
            (first | subst eo29 | (injection eo29 with f1_ f2_ f3_; have f4_ := f1_.symm; have f5_ := f3_.symm; clear f1_ f2_ f3_; subst f4_; subst f5_))
            refine norm_ (a' := ?_) ?_ ?_
            rotate_left
            ·simp only [putAll, Act.put, List.setIfInBounds_toArray, List.set_cons_zero, List.set_cons_succ]; rfl
            refine two_ (i := 6) (j := 11) (Ni := some 36) (Nj := some 10) (Cmp.bm 8 5) (Cmp.bb 13 2239) rfl rfl rfl rfl (two_of HT_.out (by kernel_rfl)) (by decide) (by decide) (fun K hK => ?_) (fun K hK => ?_)
            ·skip
             refine goes_ Try.func93 (by kernel_rfl) rfl #[.int .i64 a0, .slice Ao29 y375.length co29] (by rfl) rfl rfl Cmp.q ?_
             with_reducible refine (impl_DeriveKey.calls kj4 a0 (fun k_ => some k_ = (.slice Ao29 y375.length co29 : Value).ownBlock) _ _ y375 t378 _ ?side1 A21.out).mono ?_
             (case side1 => exact Kd.R_V (Kd.R_tight rfl (Kd.R_types (Kd.R_types (HO377.out) BK369.out (by decide)) BK370.out (by decide))))
             rintro e w30 ⟨rfl, hb⟩; refine ⟨_, rfl, ?_⟩
             have n0_ := Aside0.mk (Kd.R_below (Cmp.rr HO377.out) hb)
             have n1_ := Aside0.mk (blk_below (Cmp.b BK369.out) hb)
             have n2_ := Aside0.mk (blk_below (Cmp.b BK370.out) hb)
             have n3_ := Aside0.mk (below_step (Cmp.g HB.out) hb)
             clear HO377; clear BK369; clear BK370; clear HB; have HO377 := n0_; have BK369 := n1_; have BK370 := n2_; have HB := n3_; clear n0_ n1_ n2_ n3_; (try clear hb); (try clear hb2); (try clear hk); (try clear hi)
             refine hK.out _ _ ((blk_cell BK369.out 0).trans rfl) (fun hHeld => ?_)
             clear hK K
             refine norm_ (a' := ?_) ?_ ?_
             rotate_left
             ·show Act.put _ (some 36) _ = _
              simp only [Act.put, Cmp.s, Cmp.z, Cmp.c, i64_w, i32_w]; rfl
             exact norm_ (by first | (simp only [putAll, Act.put, List.setIfInBounds_toArray, List.set_cons_zero, List.set_cons_succ]; done) | (simp only [putAll, Act.put, List.setIfInBounds_toArray, List.set_cons_zero, List.set_cons_succ]; rfl)) (hJ5_6 (.slice Ao29 y375.length co29) _ ⟨hHeld, (Cmp.rr HO377.out), (Cmp.b BK369.out), (Cmp.b BK370.out), (Cmp.g HB.out)⟩)
            ·skip
             refine box_step ?hg (N := 10) ?hd (cs := #[.int .i64 0, .int .i64 0, .slice none 0 0, .int .i64 0]) (t := 66) ?hr ?_; (case hd => rfl); (case hg => rfl); (case hr => first | (go_simp; done) | (go_simp; rfl))
             intro gb385 hg w29 hbox hb
             have n0_ := Aside0.mk (Kd.R_below (Cmp.rr HO377.out) hb)
             have n1_ := Aside0.mk (blk_below (Cmp.b BK369.out) hb)
             have n2_ := Aside0.mk (blk_below (Cmp.b BK370.out) hb)
             have n3_ := Aside0.mk (below_step (Cmp.g HB.out) hb)
             have n4_ := Aside0.mk (hbox)
             have n5_ := Aside0.mk ((by rw [hg]; exact (below_size (Cmp.g HB.out)) : w.heap.size ≤ gb385))
             have n6_ := Aside0.mk ((by rw [hg]; exact (below_size (Cmp.g HB.out)) : w.heap.size ≤ gb385))
             have n7_ := Aside0.mk ((by rw [hg]; exact Nat.ne_of_lt (blk_lt (Cmp.b BK369.out)) : gb369 ≠ gb385))
             have n8_ := Aside0.mk ((by rw [hg]; exact Nat.ne_of_gt (blk_lt (Cmp.b BK369.out)) : gb385 ≠ gb369))
             have n9_ := Aside0.mk ((by rw [hg]; exact Nat.ne_of_lt (blk_lt (Cmp.b BK370.out)) : gb370 ≠ gb385))
             have n10_ := Aside0.mk ((by rw [hg]; exact Nat.ne_of_gt (blk_lt (Cmp.b BK370.out)) : gb385 ≠ gb370))
             clear HO377; clear BK369; clear BK370; clear HB; have HO377 := n0_; have BK369 := n1_; have BK370 := n2_; have HB := n3_; have BK385 := n4_; have GW385 := n5_; have GE385 := n6_; have NB369_385 := n7_; have NB385_369 := n8_; have NB370_385 := n9_; have NB385_370 := n10_; clear n0_ n1_ n2_ n3_ n4_ n5_ n6_ n7_ n8_ n9_ n10_; clear hb hbox hg
             refine hK.out _ _ ((blk_cell BK369.out 0).trans rfl) (fun hHeld => ?_)
             clear hK K
             refine norm_ (a' := ?_) ?_ ?_
             rotate_left
             ·show Act.put _ (some 10) _ = _
              simp only [Act.put, Cmp.s, Cmp.z, Cmp.c, i64_w, i32_w]; rfl
             exact norm_ (by first | (simp only [putAll, Act.put, List.setIfInBounds_toArray, List.set_cons_zero, List.set_cons_succ]; done) | (simp only [putAll, Act.put, List.setIfInBounds_toArray, List.set_cons_zero, List.set_cons_succ]; rfl)) (hJ5_11 (_, gb385) _ ⟨hHeld, (Cmp.rr HO377.out), (Cmp.b BK369.out), (Cmp.b BK370.out), (Cmp.b BK385.out), GW385.out, GE385.out, NB369_385.out, NB385_369.out, NB370_385.out, NB385_370.out, (Cmp.g HB.out)⟩)
          ·skip
           rintro ⟨v376, gb385⟩ w29 ⟨hS_, h0_, h1_, h2_, h3_, h4_, h5_, h6_, h7_, h8_, h9_, h10_⟩
           have n0_ : Aside0 (Kd.R (Kd.int .i64) 3 w29 w.heap.size (fun _ => True) v376 y375) := ⟨h0_⟩
           have n1_ : Aside0 (w29.heap[gb369]? = some (.cells #[.slice A3_0 l3_0.length c3_0] 71 (0, 0))) := ⟨h1_⟩
           have n2_ : Aside0 (w29.heap[gb370]? = some (.cells #[.int .i64 0, .int .i64 0, .slice none 0 0, .int .i64 0] 66 (0, 0))) := ⟨h2_⟩
           have n3_ : Aside0 (w29.heap[gb385]? = some (.cells #[.int .i64 0, .int .i64 0, .slice none 0 0, .int .i64 0] 66 (0, 0))) := ⟨h3_⟩
           have n4_ : Aside0 (w.heap.size ≤ gb385) := ⟨h4_⟩
           have n5_ : Aside0 (w.heap.size ≤ gb385) := ⟨h5_⟩
           have n6_ : Aside0 (gb369 ≠ gb385) := ⟨h6_⟩
           have n7_ : Aside0 (gb385 ≠ gb369) := ⟨h7_⟩
           have n8_ : Aside0 (gb370 ≠ gb385) := ⟨h8_⟩
           have n9_ : Aside0 (gb385 ≠ gb370) := ⟨h9_⟩
           have n10_ : Aside0 (Below w.heap.size w w29) := ⟨h10_⟩
           clear BK369; clear BK370; clear HB; clear h0_ h1_ h2_ h3_ h4_ h5_ h6_ h7_ h8_ h9_ h10_; have HO377 := n0_; have BK369 := n1_; have BK370 := n2_; have BK385 := n3_; have GW385 := n4_; have GE385 := n5_; have NB369_385 := n6_; have NB385_369 := n7_; have NB370_385 := n8_; have NB385_370 := n9_; have HB := n10_; clear n0_ n1_ n2_ n3_ n4_ n5_ n6_ n7_ n8_ n9_ n10_
           have hHeld : w29.cell? ⟨gb369, 0, none⟩ = some (.slice A3_0 l3_0.length c3_0) := hS_
           obtain ⟨Ao30, co30, eo30⟩ := Kd.R_slice HO377.out
           (first | subst eo30 | (injection eo30 with f1_ f2_ f3_; have f4_ := f1_.symm; have f5_ := f3_.symm; clear f1_ f2_ f3_; subst f4_; subst f5_))
           refine norm_ (a' := ?_) ?_ ?_
           rotate_left
           ·simp only [putAll, Act.put, List.setIfInBounds_toArray, List.set_cons_zero, List.set_cons_succ]; rfl
           refine one_ (i := 6) (N := some 36) (Cmp.bb 13 2303) rfl rfl (one_of HT_.out (by kernel_rfl)) (by decide) (fun K hK => ?_)
           refine goes_ Try.func93 (by kernel_rfl) rfl #[.int .i64 a0, .slice Ao30 y375.length co30] (by rfl) rfl rfl Cmp.q ?_
           with_reducible refine (impl_DeriveKey.calls kj4 a0 (fun k_ => some k_ = (.slice Ao30 y375.length co30 : Value).ownBlock) _ _ y375 t378 _ ?side1 A21.out).mono ?_
           (case side1 => exact Kd.R_V (Kd.R_tight rfl (Kd.R_types (Kd.R_types (Kd.R_types (HO377.out) BK369.out (by decide)) BK370.out (by decide)) BK385.out (by decide))))
           rintro e w31 ⟨rfl, hb⟩; refine ⟨_, rfl, ?_⟩
           have n0_ := Aside0.mk (Kd.R_below (Cmp.rr HO377.out) hb)
           have n1_ := Aside0.mk (blk_below (Cmp.b BK369.out) hb)
           have n2_ := Aside0.mk (blk_below (Cmp.b BK370.out) hb)
           have n3_ := Aside0.mk (blk_below (Cmp.b BK385.out) hb)
           have n4_ := Aside0.mk (below_step (Cmp.g HB.out) hb)
           clear HO377; clear BK369; clear BK370; clear BK385; clear HB; have HO377 := n0_; have BK369 := n1_; have BK370 := n2_; have BK385 := n3_; have HB := n4_; clear n0_ n1_ n2_ n3_ n4_; (try clear hb); (try clear hb2); (try clear hk); (try clear hi)
           refine hK.out _ _ ((blk_cell BK369.out 0).trans rfl) (fun hHeld => ?_)
           clear hK K
           refine norm_ (a' := ?_) ?_ ?_
           rotate_left
           ·show Act.put _ (some 36) _ = _
            simp only [Act.put, Cmp.s, Cmp.z, Cmp.c, i64_w, i32_w]; rfl
           exact norm_ (by first | (simp only [putAll, Act.put, List.setIfInBounds_toArray, List.set_cons_zero, List.set_cons_succ]; done) | (simp only [putAll, Act.put, List.setIfInBounds_toArray, List.set_cons_zero, List.set_cons_succ]; rfl)) (hJ5_6_11 (.slice Ao30 y375.length co30, gb385) _ ⟨hHeld, (Cmp.rr HO377.out), (Cmp.b BK369.out), (Cmp.b BK370.out), (Cmp.b BK385.out), GW385.out, GE385.out, NB369_385.out, NB385_369.out, NB370_385.out, NB385_370.out, (Cmp.g HB.out)⟩)
         ·skip
          rintro v376 w30 ⟨hS_, h0_, h1_, h2_, h3_⟩
          have n0_ : Aside0 (Kd.R (Kd.int .i64) 3 w30 w.heap.size (fun _ => True) v376 y375) := ⟨h0_⟩
          have n1_ : Aside0 (w30.heap[gb369]? = some (.cells #[.slice A3_0 l3_0.length c3_0] 71 (0, 0))) := ⟨h1_⟩
          have n2_ : Aside0 (w30.heap[gb370]? = some (.cells #[.int .i64 0, .int .i64 0, .slice none 0 0, .int .i64 0] 66 (0, 0))) := ⟨h2_⟩
          have n3_ : Aside0 (Below w.heap.size w w30) := ⟨h3_⟩
          clear BK369; clear BK370; clear HB; clear h0_ h1_ h2_ h3_; have HO377 := n0_; have BK369 := n1_; have BK370 := n2_; have HB := n3_; clear n0_ n1_ n2_ n3_
          have hHeld : w30.cell? ⟨gb369, 0, none⟩ = some (.slice A3_0 l3_0.length c3_0) := hS_
          refine norm_ (a' := ?_) ?_ ?_
          rotate_left
          ·simp only [putAll, Act.put, List.setIfInBounds_toArray, List.set_cons_zero, List.set_cons_succ]; rfl
          refine two_ (i := 8) (j := 11) (Ni := some 38) (Nj := some 10) (Cmp.bm 9 4) (Cmp.bb 13 2303) rfl rfl rfl rfl (two_of HT_.out (by kernel_rfl)) (by decide) (by decide) (fun K hK => ?_) (fun K hK => ?_)
          ·skip
           refine goes_ Try.func49 (by kernel_rfl) rfl #[.agg #[.slice A3_0 l3_0.length c3_0]] (by rfl) rfl rfl Cmp.q ?_
           with_reducible refine (impl_EncodeBundle.calls kj4 _ _ l3_0 t379 _ ?side1 ?side2 A22.out).mono ?_
           (case side1 => exact Cmp.rc (Kd.C_below HR3_0.out HB.out))
           (case side2 => exact HC3_0.out)
           rintro e w31 ⟨v380, rfl, ho0, hb⟩; refine ⟨_, rfl, ?_⟩
           have n0_ := Aside0.mk (Kd.R_below (Cmp.rr HO377.out) hb)
           have n1_ := Aside0.mk (Kd.R_lower ho0 (below_size (Cmp.g HB.out)))
           have n2_ := Aside0.mk (blk_below (Cmp.b BK369.out) hb)
           have n3_ := Aside0.mk (blk_below (Cmp.b BK370.out) hb)
           have n4_ := Aside0.mk (below_step (Cmp.g HB.out) hb)
           clear HO377; clear BK369; clear BK370; clear HB; have HO377 := n0_; have HO381 := n1_; have BK369 := n2_; have BK370 := n3_; have HB := n4_; clear n0_ n1_ n2_ n3_ n4_; (try clear hb); (try clear hb2); (try clear hk); (try clear hi); (try clear ho0)
           refine hK.out _ _ ((blk_cell BK369.out 0).trans rfl) (fun hHeld => ?_)
           clear hK K
           refine norm_ (a' := ?_) ?_ ?_
           rotate_left
           ·show Act.put _ (some 38) _ = _
            simp only [Act.put, Cmp.s, Cmp.z, Cmp.c, i64_w, i32_w]; rfl
           exact norm_ (by first | (simp only [putAll, Act.put, List.setIfInBounds_toArray, List.set_cons_zero, List.set_cons_succ]; done) | (simp only [putAll, Act.put, List.setIfInBounds_toArray, List.set_cons_zero, List.set_cons_succ]; rfl)) (hJ5_6_8 (v376, v380) _ ⟨hHeld, (Cmp.rr HO377.out), (Cmp.rr HO381.out), (Cmp.b BK369.out), (Cmp.b BK370.out), (Cmp.g HB.out)⟩)
          ·skip
           refine box_step ?hg (N := 10) ?hd (cs := #[.int .i64 0, .int .i64 0, .slice none 0 0, .int .i64 0]) (t := 66) ?hr ?_; (case hd => rfl); (case hg => rfl); (case hr => first | (go_simp; done) | (go_simp; rfl))
           intro gb385 hg w31 hbox hb
           have n0_ := Aside0.mk (Kd.R_below (Cmp.rr HO377.out) hb)
           have n1_ := Aside0.mk (blk_below (Cmp.b BK369.out) hb)
           have n2_ := Aside0.mk (blk_below (Cmp.b BK370.out) hb)
           have n3_ := Aside0.mk (below_step (Cmp.g HB.out) hb)
           have n4_ := Aside0.mk (hbox)
           have n5_ := Aside0.mk ((by rw [hg]; exact (below_size (Cmp.g HB.out)) : w.heap.size ≤ gb385))
           have n6_ := Aside0.mk ((by rw [hg]; exact (below_size (Cmp.g HB.out)) : w.heap.size ≤ gb385))
           have n7_ := Aside0.mk ((by rw [hg]; exact Nat.ne_of_lt (blk_lt (Cmp.b BK369.out)) : gb369 ≠ gb385))
           have n8_ := Aside0.mk ((by rw [hg]; exact Nat.ne_of_gt (blk_lt (Cmp.b BK369.out)) : gb385 ≠ gb369))
           have n9_ := Aside0.mk ((by rw [hg]; exact Nat.ne_of_lt (blk_lt (Cmp.b BK370.out)) : gb370 ≠ gb385))
           have n10_ := Aside0.mk ((by rw [hg]; exact Nat.ne_of_gt (blk_lt (Cmp.b BK370.out)) : gb385 ≠ gb370))
           clear HO377; clear BK369; clear BK370; clear HB; have HO377 := n0_; have BK369 := n1_; have BK370 := n2_; have HB := n3_; have BK385 := n4_; have GW385 := n5_; have GE385 := n6_; have NB369_385 := n7_; have NB385_369 := n8_; have NB370_385 := n9_; have NB385_370 := n10_; clear n0_ n1_ n2_ n3_ n4_ n5_ n6_ n7_ n8_ n9_ n10_; clear hb hbox hg
           refine hK.out _ _ ((blk_cell BK369.out 0).trans rfl) (fun hHeld => ?_)
           clear hK K
           refine norm_ (a' := ?_) ?_ ?_
           rotate_left
           ·show Act.put _ (some 10) _ = _
            simp only [Act.put, Cmp.s, Cmp.z, Cmp.c, i64_w, i32_w]; rfl
           exact norm_ (by first | (simp only [putAll, Act.put, List.setIfInBounds_toArray, List.set_cons_zero, List.set_cons_succ]; done) | (simp only [putAll, Act.put, List.setIfInBounds_toArray, List.set_cons_zero, List.set_cons_succ]; rfl)) (hJ5_6_11 (v376, gb385) _ ⟨hHeld, (Cmp.rr HO377.out), (Cmp.b BK369.out), (Cmp.b BK370.out), (Cmp.b BK385.out), GW385.out, GE385.out, NB369_385.out, NB385_369.out, NB370_385.out, NB385_370.out, (Cmp.g HB.out)⟩)
        ·skip
         rintro ⟨v376, gb385⟩ w31 ⟨hS_, h0_, h1_, h2_, h3_, h4_, h5_, h6_, h7_, h8_, h9_, h10_⟩
         have n0_ : Aside0 (Kd.R (Kd.int .i64) 3 w31 w.heap.size (fun _ => True) v376 y375) := ⟨h0_⟩
         have n1_ : Aside0 (w31.heap[gb369]? = some (.cells #[.slice A3_0 l3_0.length c3_0] 71 (0, 0))) := ⟨h1_⟩
         have n2_ : Aside0 (w31.heap[gb370]? = some (.cells #[.int .i64 0, .int .i64 0, .slice none 0 0, .int .i64 0] 66 (0, 0))) := ⟨h2_⟩
         have n3_ : Aside0 (w31.heap[gb385]? = some (.cells #[.int .i64 0, .int .i64 0, .slice none 0 0, .int .i64 0] 66 (0, 0))) := ⟨h3_⟩
         have n4_ : Aside0 (w.heap.size ≤ gb385) := ⟨h4_⟩
         have n5_ : Aside0 (w.heap.size ≤ gb385) := ⟨h5_⟩
         have n6_ : Aside0 (gb369 ≠ gb385) := ⟨h6_⟩
         have n7_ : Aside0 (gb385 ≠ gb369) := ⟨h7_⟩
         have n8_ : Aside0 (gb370 ≠ gb385) := ⟨h8_⟩
         have n9_ : Aside0 (gb385 ≠ gb370) := ⟨h9_⟩
         have n10_ : Aside0 (Below w.heap.size w w31) := ⟨h10_⟩
         clear BK369; clear BK370; clear HB; clear h0_ h1_ h2_ h3_ h4_ h5_ h6_ h7_ h8_ h9_ h10_; have HO377 := n0_; have BK369 := n1_; have BK370 := n2_; have BK385 := n3_; have GW385 := n4_; have GE385 := n5_; have NB369_385 := n6_; have NB385_369 := n7_; have NB370_385 := n8_; have NB385_370 := n9_; have HB := n10_; clear n0_ n1_ n2_ n3_ n4_ n5_ n6_ n7_ n8_ n9_ n10_
         have hHeld : w31.cell? ⟨gb369, 0, none⟩ = some (.slice A3_0 l3_0.length c3_0) := hS_
         refine norm_ (a' := ?_) ?_ ?_
         rotate_left
         ·simp only [putAll, Act.put, List.setIfInBounds_toArray, List.set_cons_zero, List.set_cons_succ]; rfl
         refine one_ (i := 8) (N := some 38) (Cmp.bb 13 2559) rfl rfl (one_of HT_.out (by kernel_rfl)) (by decide) (fun K hK => ?_)
         refine goes_ Try.func49 (by kernel_rfl) rfl #[.agg #[.slice A3_0 l3_0.length c3_0]] (by rfl) rfl rfl Cmp.q ?_
         with_reducible refine (impl_EncodeBundle.calls kj4 _ _ l3_0 t379 _ ?side1 ?side2 A22.out).mono ?_
         (case side1 => exact Cmp.rc (Kd.C_below HR3_0.out HB.out))
         (case side2 => exact HC3_0.out)
         rintro e w32 ⟨v380, rfl, ho0, hb⟩; refine ⟨_, rfl, ?_⟩
         have n0_ := Aside0.mk (Kd.R_below (Cmp.rr HO377.out) hb)
         have n1_ := Aside0.mk (Kd.R_lower ho0 (below_size (Cmp.g HB.out)))
         have n2_ := Aside0.mk (blk_below (Cmp.b BK369.out) hb)
         have n3_ := Aside0.mk (blk_below (Cmp.b BK370.out) hb)
         have n4_ := Aside0.mk (blk_below (Cmp.b BK385.out) hb)
         have n5_ := Aside0.mk (below_step (Cmp.g HB.out) hb)
         clear HO377; clear BK369; clear BK370; clear BK385; clear HB; have HO377 := n0_; have HO381 := n1_; have BK369 := n2_; have BK370 := n3_; have BK385 := n4_; have HB := n5_; clear n0_ n1_ n2_ n3_ n4_ n5_; (try clear hb); (try clear hb2); (try clear hk); (try clear hi); (try clear ho0)
         refine hK.out _ _ ((blk_cell BK369.out 0).trans rfl) (fun hHeld => ?_)
         clear hK K
         refine norm_ (a' := ?_) ?_ ?_
         rotate_left
         ·show Act.put _ (some 38) _ = _
          simp only [Act.put, Cmp.s, Cmp.z, Cmp.c, i64_w, i32_w]; rfl
         exact norm_ (by first | (simp only [putAll, Act.put, List.setIfInBounds_toArray, List.set_cons_zero, List.set_cons_succ]; done) | (simp only [putAll, Act.put, List.setIfInBounds_toArray, List.set_cons_zero, List.set_cons_succ]; rfl)) (hJ5_6_8_11 (v376, v380, gb385) _ ⟨hHeld, (Cmp.rr HO377.out), (Cmp.rr HO381.out), (Cmp.b BK369.out), (Cmp.b BK370.out), (Cmp.b BK385.out), GW385.out, GE385.out, NB369_385.out, NB385_369.out, NB370_385.out, NB385_370.out, (Cmp.g HB.out)⟩)
       ·skip
        rintro ⟨v376, v380⟩ w31 ⟨hS_, h0_, h1_, h2_, h3_, h4_⟩
        have n0_ : Aside0 (Kd.R (Kd.int .i64) 3 w31 w.heap.size (fun _ => True) v376 y375) := ⟨h0_⟩
        have n1_ : Aside0 (Kd.R (Kd.int .u8) 5 w31 w.heap.size (fun _ => True) v380 t379) := ⟨h1_⟩
        have n2_ : Aside0 (w31.heap[gb369]? = some (.cells #[.slice A3_0 l3_0.length c3_0] 71 (0, 0))) := ⟨h2_⟩
        have n3_ : Aside0 (w31.heap[gb370]? = some (.cells #[.int .i64 0, .int .i64 0, .slice none 0 0, .int .i64 0] 66 (0, 0))) := ⟨h3_⟩
        have n4_ : Aside0 (Below w.heap.size w w31) := ⟨h4_⟩
        clear BK369; clear BK370; clear HB; clear h0_ h1_ h2_ h3_ h4_; have HO377 := n0_; have HO381 := n1_; have BK369 := n2_; have BK370 := n3_; have HB := n4_; clear n0_ n1_ n2_ n3_ n4_
        have hHeld : w31.cell? ⟨gb369, 0, none⟩ = some (.slice A3_0 l3_0.length c3_0) := hS_
        obtain ⟨Ao32, co32, eo32⟩ := Kd.R_slice HO381.out
        (first | subst eo32 | (injection eo32 with f1_ f2_ f3_; have f4_ := f1_.symm; have f5_ := f3_.symm; clear f1_ f2_ f3_; subst f4_; subst f5_))
        refine norm_ (a' := ?_) ?_ ?_
        rotate_left
        ·simp only [putAll, Act.put, List.setIfInBounds_toArray, List.set_cons_zero, List.set_cons_succ]; rfl
        refine two_ (i := 9) (j := 11) (Ni := some 39) (Nj := some 10) (Cmp.bm 10 3) (Cmp.bb 13 2559) rfl rfl rfl rfl (two_of HT_.out (by kernel_rfl)) (by decide) (by decide) (fun K hK => ?_) (fun K hK => ?_)
        ·skip
         refine goes_ Try.func92 (by kernel_rfl) rfl #[.int .i64 t378, .slice Ao32 t379.length co32] (by rfl) rfl rfl Cmp.q ?_
         with_reducible refine (impl_Encrypt.calls kj4 t378 _ _ t379 t382 _ ?side1 ?side2 A23.out).mono ?_
         (case side1 => exact Cmp.rc (Kd.R_reads' HO381.out).2.2)
         (case side2 => exact (Kd.R_reads' HO381.out).2.1)
         rintro e w33 ⟨v383, rfl, ho0, hb⟩; refine ⟨_, rfl, ?_⟩
         have n0_ := Aside0.mk (Kd.R_below (Cmp.rr HO377.out) hb)
         have n1_ := Aside0.mk (Kd.R_elder' (Cmp.rr HO381.out) (Kd.R_base ho0) hb)
         have n2_ := Aside0.mk (Kd.R_lower (Kd.R_new' ho0 (Kd.R_lt (Cmp.rr HO381.out))) (below_size (Cmp.g HB.out)))
         have n3_ := Aside0.mk (blk_below (Cmp.b BK369.out) hb)
         have n4_ := Aside0.mk (blk_below (Cmp.b BK370.out) hb)
         have n5_ := Aside0.mk (below_step (Cmp.g HB.out) hb)
         clear HO377; clear HO381; clear BK369; clear BK370; clear HB; have HO377 := n0_; have HO381 := n1_; have HO384 := n2_; have BK369 := n3_; have BK370 := n4_; have HB := n5_; clear n0_ n1_ n2_ n3_ n4_ n5_; (try clear hb); (try clear hb2); (try clear hk); (try clear hi); (try clear ho0)
         obtain ⟨Ao34, co34, eo34⟩ := Kd.R_slice HO384.out
         (first | subst eo34 | (injection eo34 with f1_ f2_ f3_; have f4_ := f1_.symm; have f5_ := f3_.symm; clear f1_ f2_ f3_; subst f4_; subst f5_))
         refine hK.out _ _ ((blk_cell BK369.out 0).trans rfl) (fun hHeld => ?_)
         clear hK K
         refine norm_ (a' := ?_) ?_ ?_
         rotate_left
         ·show Act.put _ (some 39) _ = _
          simp only [Act.put, Cmp.s, Cmp.z, Cmp.c, i64_w, i32_w]; rfl
         refine Cmp.pu HT_ 10 40 (Cmp.bm 11 2) ?_
         exact norm_ (by first | (simp only [putAll, Act.put, List.setIfInBounds_toArray, List.set_cons_zero, List.set_cons_succ]; done) | (simp only [putAll, Act.put, List.setIfInBounds_toArray, List.set_cons_zero, List.set_cons_succ]; rfl)) (hJ5_6_8_9 (v376, .slice Ao32 t379.length co32, .slice Ao34 t382.length co34) _ ⟨hHeld, (Cmp.rr HO377.out), (by (with_reducible repeat (first | apply Kd.R_alloc | apply Kd.R_drewN | apply Kd.R_drew)); exact Kd.R_mono HO381.out (fun _ hk => hk.2)), (by (with_reducible repeat (first | apply Kd.R_alloc | apply Kd.R_drewN | apply Kd.R_drew)); exact Kd.R_mono HO384.out (fun _ hk => hk.2)), (Cmp.b BK369.out), (Cmp.b BK370.out), (Cmp.g HB.out)⟩)
        ·skip
         refine box_step ?hg (N := 10) ?hd (cs := #[.int .i64 0, .int .i64 0, .slice none 0 0, .int .i64 0]) (t := 66) ?hr ?_; (case hd => rfl); (case hg => rfl); (case hr => first | (go_simp; done) | (go_simp; rfl))
         intro gb385 hg w32 hbox hb
         have n0_ := Aside0.mk (Kd.R_below (Cmp.rr HO377.out) hb)
         have n1_ := Aside0.mk (Kd.R_below (Cmp.rr HO381.out) hb)
         have n2_ := Aside0.mk (blk_below (Cmp.b BK369.out) hb)
         have n3_ := Aside0.mk (blk_below (Cmp.b BK370.out) hb)
         have n4_ := Aside0.mk (below_step (Cmp.g HB.out) hb)
         have n5_ := Aside0.mk (hbox)
         have n6_ := Aside0.mk ((by rw [hg]; exact (below_size (Cmp.g HB.out)) : w.heap.size ≤ gb385))
         have n7_ := Aside0.mk ((by rw [hg]; exact (below_size (Cmp.g HB.out)) : w.heap.size ≤ gb385))
         have n8_ := Aside0.mk ((by rw [hg]; exact Nat.ne_of_lt (blk_lt (Cmp.b BK369.out)) : gb369 ≠ gb385))
         have n9_ := Aside0.mk ((by rw [hg]; exact Nat.ne_of_gt (blk_lt (Cmp.b BK369.out)) : gb385 ≠ gb369))
         have n10_ := Aside0.mk ((by rw [hg]; exact Nat.ne_of_lt (blk_lt (Cmp.b BK370.out)) : gb370 ≠ gb385))
         have n11_ := Aside0.mk ((by rw [hg]; exact Nat.ne_of_gt (blk_lt (Cmp.b BK370.out)) : gb385 ≠ gb370))
         clear HO377; clear HO381; clear BK369; clear BK370; clear HB; have HO377 := n0_; have HO381 := n1_; have BK369 := n2_; have BK370 := n3_; have HB := n4_; have BK385 := n5_; have GW385 := n6_; have GE385 := n7_; have NB369_385 := n8_; have NB385_369 := n9_; have NB370_385 := n10_; have NB385_370 := n11_; clear n0_ n1_ n2_ n3_ n4_ n5_ n6_ n7_ n8_ n9_ n10_ n11_; clear hb hbox hg
         refine hK.out _ _ ((blk_cell BK369.out 0).trans rfl) (fun hHeld => ?_)
         clear hK K
         refine norm_ (a' := ?_) ?_ ?_
         rotate_left
         ·show Act.put _ (some 10) _ = _
          simp only [Act.put, Cmp.s, Cmp.z, Cmp.c, i64_w, i32_w]; rfl
         exact norm_ (by first | (simp only [putAll, Act.put, List.setIfInBounds_toArray, List.set_cons_zero, List.set_cons_succ]; done) | (simp only [putAll, Act.put, List.setIfInBounds_toArray, List.set_cons_zero, List.set_cons_succ]; rfl)) (hJ5_6_8_11 (v376, _, gb385) _ ⟨hHeld, (Cmp.rr HO377.out), (Cmp.rr HO381.out), (Cmp.b BK369.out), (Cmp.b BK370.out), (Cmp.b BK385.out), GW385.out, GE385.out, NB369_385.out, NB385_369.out, NB370_385.out, NB385_370.out, (Cmp.g HB.out)⟩)
      ·skip
       rintro ⟨v376, v380, gb385⟩ w32 ⟨hS_, h0_, h1_, h2_, h3_, h4_, h5_, h6_, h7_, h8_, h9_, h10_, h11_⟩
       have n0_ : Aside0 (Kd.R (Kd.int .i64) 3 w32 w.heap.size (fun _ => True) v376 y375) := ⟨h0_⟩
       have n1_ : Aside0 (Kd.R (Kd.int .u8) 5 w32 w.heap.size (fun _ => True) v380 t379) := ⟨h1_⟩
       have n2_ : Aside0 (w32.heap[gb369]? = some (.cells #[.slice A3_0 l3_0.length c3_0] 71 (0, 0))) := ⟨h2_⟩
       have n3_ : Aside0 (w32.heap[gb370]? = some (.cells #[.int .i64 0, .int .i64 0, .slice none 0 0, .int .i64 0] 66 (0, 0))) := ⟨h3_⟩
       have n4_ : Aside0 (w32.heap[gb385]? = some (.cells #[.int .i64 0, .int .i64 0, .slice none 0 0, .int .i64 0] 66 (0, 0))) := ⟨h4_⟩
       have n5_ : Aside0 (w.heap.size ≤ gb385) := ⟨h5_⟩
       have n6_ : Aside0 (w.heap.size ≤ gb385) := ⟨h6_⟩
       have n7_ : Aside0 (gb369 ≠ gb385) := ⟨h7_⟩
       have n8_ : Aside0 (gb385 ≠ gb369) := ⟨h8_⟩
       have n9_ : Aside0 (gb370 ≠ gb385) := ⟨h9_⟩
       have n10_ : Aside0 (gb385 ≠ gb370) := ⟨h10_⟩
       have n11_ : Aside0 (Below w.heap.size w w32) := ⟨h11_⟩
       clear BK369; clear BK370; clear HB; clear h0_ h1_ h2_ h3_ h4_ h5_ h6_ h7_ h8_ h9_ h10_ h11_; have HO377 := n0_; have HO381 := n1_; have BK369 := n2_; have BK370 := n3_; have BK385 := n4_; have GW385 := n5_; have GE385 := n6_; have NB369_385 := n7_; have NB385_369 := n8_; have NB370_385 := n9_; have NB385_370 := n10_; have HB := n11_; clear n0_ n1_ n2_ n3_ n4_ n5_ n6_ n7_ n8_ n9_ n10_ n11_
       have hHeld : w32.cell? ⟨gb369, 0, none⟩ = some (.slice A3_0 l3_0.length c3_0) := hS_
       obtain ⟨Ao33, co33, eo33⟩ := Kd.R_slice HO381.out
       (first | subst eo33 | (injection eo33 with f1_ f2_ f3_; have f4_ := f1_.symm; have f5_ := f3_.symm; clear f1_ f2_ f3_; subst f4_; subst f5_))
       refine norm_ (a' := ?_) ?_ ?_
       rotate_left
       ·simp only [putAll, Act.put, List.setIfInBounds_toArray, List.set_cons_zero, List.set_cons_succ]; rfl
       refine one_ (i := 9) (N := some 39) (Cmp.bb 13 3071) rfl rfl (one_of HT_.out (by kernel_rfl)) (by decide) (fun K hK => ?_)
       refine goes_ Try.func92 (by kernel_rfl) rfl #[.int .i64 t378, .slice Ao33 t379.length co33] (by rfl) rfl rfl Cmp.q ?_
       with_reducible refine (impl_Encrypt.calls kj4 t378 _ _ t379 t382 _ ?side1 ?side2 A23.out).mono ?_
       (case side1 => exact Cmp.rc (Kd.R_reads' HO381.out).2.2)
       (case side2 => exact (Kd.R_reads' HO381.out).2.1)
       rintro e w34 ⟨v383, rfl, ho0, hb⟩; refine ⟨_, rfl, ?_⟩
       have n0_ := Aside0.mk (Kd.R_below (Cmp.rr HO377.out) hb)
       have n1_ := Aside0.mk (Kd.R_elder' (Cmp.rr HO381.out) (Kd.R_base ho0) hb)
       have n2_ := Aside0.mk (Kd.R_lower (Kd.R_new' ho0 (Kd.R_lt (Cmp.rr HO381.out))) (below_size (Cmp.g HB.out)))
       have n3_ := Aside0.mk (blk_below (Cmp.b BK369.out) hb)
       have n4_ := Aside0.mk (blk_below (Cmp.b BK370.out) hb)
       have n5_ := Aside0.mk (blk_below (Cmp.b BK385.out) hb)
       have n6_ := Aside0.mk (below_step (Cmp.g HB.out) hb)
       clear HO377; clear HO381; clear BK369; clear BK370; clear BK385; clear HB; have HO377 := n0_; have HO381 := n1_; have HO384 := n2_; have BK369 := n3_; have BK370 := n4_; have BK385 := n5_; have HB := n6_; clear n0_ n1_ n2_ n3_ n4_ n5_ n6_; (try clear hb); (try clear hb2); (try clear hk); (try clear hi); (try clear ho0)
       obtain ⟨Ao35, co35, eo35⟩ := Kd.R_slice HO384.out
       (first | subst eo35 | (injection eo35 with f1_ f2_ f3_; have f4_ := f1_.symm; have f5_ := f3_.symm; clear f1_ f2_ f3_; subst f4_; subst f5_))
       refine hK.out _ _ ((blk_cell BK369.out 0).trans rfl) (fun hHeld => ?_)
       clear hK K
       refine norm_ (a' := ?_) ?_ ?_
       rotate_left
       ·show Act.put _ (some 39) _ = _
        simp only [Act.put, Cmp.s, Cmp.z, Cmp.c, i64_w, i32_w]; rfl
       refine Cmp.pu HT_ 10 40 (Cmp.bm 12 1) ?_
       exact norm_ (by first | (simp only [putAll, Act.put, List.setIfInBounds_toArray, List.set_cons_zero, List.set_cons_succ]; done) | (simp only [putAll, Act.put, List.setIfInBounds_toArray, List.set_cons_zero, List.set_cons_succ]; rfl)) (hJ5_6_8_9_11 (v376, .slice Ao33 t379.length co33, .slice Ao35 t382.length co35, gb385) _ ⟨hHeld, (Cmp.rr HO377.out), (by (with_reducible repeat (first | apply Kd.R_alloc | apply Kd.R_drewN | apply Kd.R_drew)); exact Kd.R_mono HO381.out (fun _ hk => hk.2)), (by (with_reducible repeat (first | apply Kd.R_alloc | apply Kd.R_drewN | apply Kd.R_drew)); exact Kd.R_mono HO384.out (fun _ hk => hk.2)), (Cmp.b BK369.out), (Cmp.b BK370.out), (Cmp.b BK385.out), GW385.out, GE385.out, NB369_385.out, NB385_369.out, NB370_385.out, NB385_370.out, (Cmp.g HB.out)⟩)
     ·skip
      rintro ⟨v376, v380, v383⟩ w34 ⟨hS_, h0_, h1_, h2_, h3_, h4_, h5_⟩
      have n0_ : Aside0 (Kd.R (Kd.int .i64) 3 w34 w.heap.size (fun _ => True) v376 y375) := ⟨h0_⟩
      have n1_ : Aside0 (Kd.R (Kd.int .u8) 5 w34 w.heap.size (fun k_ => some k_ ≠ (v383 : Value).ownBlock) v380 t379) := ⟨h1_⟩
      have n2_ : Aside0 (Kd.R (Kd.int .u8) 5 w34 w.heap.size (fun k_ => some k_ ≠ (v380 : Value).ownBlock) v383 t382) := ⟨h2_⟩
      have n3_ : Aside0 (w34.heap[gb369]? = some (.cells #[.slice A3_0 l3_0.length c3_0] 71 (0, 0))) := ⟨h3_⟩
      have n4_ : Aside0 (w34.heap[gb370]? = some (.cells #[.int .i64 0, .int .i64 0, .slice none 0 0, .int .i64 0] 66 (0, 0))) := ⟨h4_⟩
      have n5_ : Aside0 (Below w.heap.size w w34) := ⟨h5_⟩
      clear BK369; clear BK370; clear HB; clear h0_ h1_ h2_ h3_ h4_ h5_; have HO377 := n0_; have HO381 := n1_; have HO384 := n2_; have BK369 := n3_; have BK370 := n4_; have HB := n5_; clear n0_ n1_ n2_ n3_ n4_ n5_
      have hHeld : w34.cell? ⟨gb369, 0, none⟩ = some (.slice A3_0 l3_0.length c3_0) := hS_
      obtain ⟨Ao35, co35, eo35⟩ := Kd.R_slice HO384.out
      (first | subst eo35 | (injection eo35 with f1_ f2_ f3_; have f4_ := f1_.symm; have f5_ := f3_.symm; clear f1_ f2_ f3_; subst f4_; subst f5_))
      refine norm_ (a' := ?_) ?_ ?_
      rotate_left
      ·simp only [putAll, Act.put, List.setIfInBounds_toArray, List.set_cons_zero, List.set_cons_succ]; rfl
      refine one_ (i := 11) (N := some 10) (Cmp.bm 12 1) rfl rfl (one_of HT_.out (by kernel_rfl)) (by decide) (fun K hK => ?_)
      refine box_step ?hg (N := 10) ?hd (cs := #[.int .i64 0, .int .i64 0, .slice none 0 0, .int .i64 0]) (t := 66) ?hr ?_; (case hd => rfl); (case hg => rfl); (case hr => first | (go_simp; done) | (go_simp; rfl))
      intro gb385 hg w36 hbox hb
      have n0_ := Aside0.mk (Kd.R_below (Cmp.rr HO377.out) hb)
      have n1_ := Aside0.mk (Kd.R_below (Cmp.rr HO381.out) hb)
      have n2_ := Aside0.mk (Kd.R_below (Cmp.rr HO384.out) hb)
      have n3_ := Aside0.mk (blk_below (Cmp.b BK369.out) hb)
      have n4_ := Aside0.mk (blk_below (Cmp.b BK370.out) hb)
      have n5_ := Aside0.mk (below_step (Cmp.g HB.out) hb)
      have n6_ := Aside0.mk (hbox)
      have n7_ := Aside0.mk ((by rw [hg]; exact (below_size (Cmp.g HB.out)) : w.heap.size ≤ gb385))
      have n8_ := Aside0.mk ((by rw [hg]; exact (below_size (Cmp.g HB.out)) : w.heap.size ≤ gb385))
      have n9_ := Aside0.mk ((by rw [hg]; exact Nat.ne_of_lt (blk_lt (Cmp.b BK369.out)) : gb369 ≠ gb385))
      have n10_ := Aside0.mk ((by rw [hg]; exact Nat.ne_of_gt (blk_lt (Cmp.b BK369.out)) : gb385 ≠ gb369))
      have n11_ := Aside0.mk ((by rw [hg]; exact Nat.ne_of_lt (blk_lt (Cmp.b BK370.out)) : gb370 ≠ gb385))
      have n12_ := Aside0.mk ((by rw [hg]; exact Nat.ne_of_gt (blk_lt (Cmp.b BK370.out)) : gb385 ≠ gb370))
      clear HO377; clear HO381; clear HO384; clear BK369; clear BK370; clear HB; have HO377 := n0_; have HO381 := n1_; have HO384 := n2_; have BK369 := n3_; have BK370 := n4_; have HB := n5_; have BK385 := n6_; have GW385 := n7_; have GE385 := n8_; have NB369_385 := n9_; have NB385_369 := n10_; have NB370_385 := n11_; have NB385_370 := n12_; clear n0_ n1_ n2_ n3_ n4_ n5_ n6_ n7_ n8_ n9_ n10_ n11_ n12_; clear hb hbox hg
      refine hK.out _ _ ((blk_cell BK369.out 0).trans rfl) (fun hHeld => ?_)
      clear hK K
      refine norm_ (a' := ?_) ?_ ?_
      rotate_left
      ·show Act.put _ (some 10) _ = _
       simp only [Act.put, Cmp.s, Cmp.z, Cmp.c, i64_w, i32_w]; rfl
      exact norm_ (by first | (simp only [putAll, Act.put, List.setIfInBounds_toArray, List.set_cons_zero, List.set_cons_succ]; done) | (simp only [putAll, Act.put, List.setIfInBounds_toArray, List.set_cons_zero, List.set_cons_succ]; rfl)) (hJ5_6_8_9_11 (v376, v380, .slice Ao35 t382.length co35, gb385) _ ⟨hHeld, (Cmp.rr HO377.out), (Cmp.rr HO381.out), (Cmp.rr HO384.out), (Cmp.b BK369.out), (Cmp.b BK370.out), (Cmp.b BK385.out), GW385.out, GE385.out, NB369_385.out, NB385_369.out, NB370_385.out, NB385_370.out, (Cmp.g HB.out)⟩)
    rintro ⟨v376, v380, v383, gb385⟩ w35 ⟨hS_, h0_, h1_, h2_, h3_, h4_, h5_, h6_, h7_, h8_, h9_, h10_, h11_, h12_⟩
    have n0_ : Aside0 (Kd.R (Kd.int .i64) 3 w35 w.heap.size (fun _ => True) v376 y375) := ⟨h0_⟩
    have n1_ : Aside0 (Kd.R (Kd.int .u8) 5 w35 w.heap.size (fun k_ => some k_ ≠ (v383 : Value).ownBlock) v380 t379) := ⟨h1_⟩
    have n2_ : Aside0 (Kd.R (Kd.int .u8) 5 w35 w.heap.size (fun k_ => some k_ ≠ (v380 : Value).ownBlock) v383 t382) := ⟨h2_⟩
    have n3_ : Aside0 (w35.heap[gb369]? = some (.cells #[.slice A3_0 l3_0.length c3_0] 71 (0, 0))) := ⟨h3_⟩
    have n4_ : Aside0 (w35.heap[gb370]? = some (.cells #[.int .i64 0, .int .i64 0, .slice none 0 0, .int .i64 0] 66 (0, 0))) := ⟨h4_⟩
    have n5_ : Aside0 (w35.heap[gb385]? = some (.cells #[.int .i64 0, .int .i64 0, .slice none 0 0, .int .i64 0] 66 (0, 0))) := ⟨h5_⟩
    have n6_ : Aside0 (w.heap.size ≤ gb385) := ⟨h6_⟩
    have n7_ : Aside0 (w.heap.size ≤ gb385) := ⟨h7_⟩
    have n8_ : Aside0 (gb369 ≠ gb385) := ⟨h8_⟩
    have n9_ : Aside0 (gb385 ≠ gb369) := ⟨h9_⟩
    have n10_ : Aside0 (gb370 ≠ gb385) := ⟨h10_⟩
    have n11_ : Aside0 (gb385 ≠ gb370) := ⟨h11_⟩
    have n12_ : Aside0 (Below w.heap.size w w35) := ⟨h12_⟩
    clear BK369; clear BK370; clear HB; clear h0_ h1_ h2_ h3_ h4_ h5_ h6_ h7_ h8_ h9_ h10_ h11_ h12_; have HO377 := n0_; have HO381 := n1_; have HO384 := n2_; have BK369 := n3_; have BK370 := n4_; have BK385 := n5_; have GW385 := n6_; have GE385 := n7_; have NB369_385 := n8_; have NB385_369 := n9_; have NB370_385 := n10_; have NB385_370 := n11_; have HB := n12_; clear n0_ n1_ n2_ n3_ n4_ n5_ n6_ n7_ n8_ n9_ n10_ n11_ n12_
    have hHeld : w35.cell? ⟨gb369, 0, none⟩ = some (.slice A3_0 l3_0.length c3_0) := hS_
    obtain ⟨Ao36, co36, eo36⟩ := Kd.R_slice HO384.out
    (first | subst eo36 | (injection eo36 with f1_ f2_ f3_; have f4_ := f1_.symm; have f5_ := f3_.symm; clear f1_ f2_ f3_; subst f4_; subst f5_))
    refine norm_ (a' := ?_) ?_ ?_
    rotate_left
    ·simp only [putAll, Act.put, List.setIfInBounds_toArray, List.set_cons_zero, List.set_cons_succ]; rfl
    refine one_ (i := 12) (N := none) (Cmp.bm 13 0) rfl rfl (one_of HT_.out (by kernel_rfl)) (by decide) (fun K hK => ?_)
    have hs37 : w35.cell? ⟨gb385, 0, none⟩ = some (.int .i64 0) := (blk_cell BK385.out 0).trans rfl
    have hfs37 := blk_frozen BK385.out 0; have hns37_0 := NB369_385.out; have hns37_1 := NB370_385.out; have hms37_0 := NB385_369.out; have hms37_1 := NB385_370.out
    have hs38 : w35.cell? ⟨gb385, 1, none⟩ = some (.int .i64 0) := (blk_cell BK385.out 1).trans rfl
    have hfs38 := blk_frozen BK385.out 1; have hns38_0 := NB369_385.out; have hns38_1 := NB370_385.out; have hms38_0 := NB385_369.out; have hms38_1 := NB385_370.out
    have hs39 : w35.cell? ⟨gb385, 2, none⟩ = some (.slice none 0 0) := (blk_cell BK385.out 2).trans rfl
    have hfs39 := blk_frozen BK385.out 2; have hns39_0 := NB369_385.out; have hns39_1 := NB370_385.out; have hms39_0 := NB385_369.out; have hms39_1 := NB385_370.out
    have hs40 : w35.cell? ⟨gb385, 3, none⟩ = some (.int .i64 0) := (blk_cell BK385.out 3).trans rfl
    have hfs40 := blk_frozen BK385.out 3; have hns40_0 := NB369_385.out; have hns40_1 := NB370_385.out; have hms40_0 := NB385_369.out; have hms40_1 := NB385_370.out
    refine skip_ (w1 := ?_) (by rfl) rfl ?_ ?_
    rotate_left
    ·go_simp; rfl
    refine hK.out _ _ (((cell_far (p := ⟨gb385, _, none⟩) NB369_385.out _).trans (((cell_far (p := ⟨gb385, _, none⟩) NB369_385.out _).trans (((cell_far (p := ⟨gb385, _, none⟩) NB369_385.out _).trans (((cell_far (p := ⟨gb385, _, none⟩) NB369_385.out _).trans (hHeld))))))))) (fun hHeld => ?_)
    clear hK K
    refine done_ (done_of HT_.out (by kernel_rfl)) ?_
    have hnb41 := NB385_369.out; have hnc41 := NB369_385.out; have hnb42 := NB385_370.out; have hnc42 := NB370_385.out
    have hcz43_0 : w35.cell? ⟨gb385, 0, none⟩ = some (.int .i64 0) := (blk_cell BK385.out 0).trans rfl
    have hcz43_1 : w35.cell? ⟨gb385, 1, none⟩ = some (.int .i64 0) := (blk_cell BK385.out 1).trans rfl
    have hcz43_2 : w35.cell? ⟨gb385, 2, none⟩ = some (.slice none 0 0) := (blk_cell BK385.out 2).trans rfl
    have hcz43_3 : w35.cell? ⟨gb385, 3, none⟩ = some (.int .i64 0) := (blk_cell BK385.out 3).trans rfl
    have hfz43_0 := blk_frozen BK385.out 0; have hfz43_1 := blk_frozen BK385.out 1; have hfz43_2 := blk_frozen BK385.out 2; have hfz43_3 := blk_frozen BK385.out 3
    try go_wp2_with (first | ((with_reducible refine gate_callee (f := 94) rfl ?_); refine goesL_ (some 43) rfl rfl Try.func94 (by kernel_rfl) rfl #[.int .i64 a0, .agg #[.int .i64 a1, .int .i64 a2, .slice Ao36 t382.length co36, .int .i64 0]] rfl Cmp.q ?_; (with_reducible refine (impl_BundleMAC.calls kj4 a0 a1 a2 _ _ t382 0 t386 _ ?side1 ?side2 A24.out).mono ?_); (case side1 => refine (Kd.R_reads' (e := 5) (base := w.heap.size) (ok := fun k_ => some k_ ≠ (v380 : Value).ownBlock) (n := t382.length) (c := co36) ?_).2.2; exact (by (with_reducible repeat (first | apply Kd.R_alloc | apply Kd.R_drewN | apply Kd.R_drew)); exact (Kd.R_mono (Kd.R_far (p := ⟨gb385, 3, none⟩) (Kd.R_far (p := ⟨gb385, 2, none⟩) (Kd.R_far (p := ⟨gb385, 1, none⟩) (Kd.R_far (p := ⟨gb385, 0, none⟩) (Kd.R_types HO384.out BK385.out (by decide)) (fun _ hk => hk.2) (.int .i64 a1)) (fun _ hk => hk.2) (.int .i64 a2)) (fun _ hk => hk.2) (.slice Ao36 t382.length co36)) (fun _ hk => hk.2) (.int .i64 0)) (fun _ h_ => h_.1)))); (case side2 => exact (Kd.R_reads' HO384.out).2.1); rintro e w44 ⟨rfl, hb⟩; refine ⟨_, rfl, ?_⟩; have n0_ := Aside0.mk (Kd.R_below (by (with_reducible repeat (first | apply Kd.R_alloc | apply Kd.R_drewN | apply Kd.R_drew)); exact (Kd.R_mono (Kd.R_far (p := ⟨gb385, 3, none⟩) (Kd.R_far (p := ⟨gb385, 2, none⟩) (Kd.R_far (p := ⟨gb385, 1, none⟩) (Kd.R_far (p := ⟨gb385, 0, none⟩) (Kd.R_types HO377.out BK385.out (by decide)) (fun _ hk => hk.2) (.int .i64 a1)) (fun _ hk => hk.2) (.int .i64 a2)) (fun _ hk => hk.2) (.slice Ao36 t382.length co36)) (fun _ hk => hk.2) (.int .i64 0)) (fun _ h_ => h_.1))) hb); have n1_ := Aside0.mk (Kd.R_below (by (with_reducible repeat (first | apply Kd.R_alloc | apply Kd.R_drewN | apply Kd.R_drew)); exact (Kd.R_mono (Kd.R_far (p := ⟨gb385, 3, none⟩) (Kd.R_far (p := ⟨gb385, 2, none⟩) (Kd.R_far (p := ⟨gb385, 1, none⟩) (Kd.R_far (p := ⟨gb385, 0, none⟩) (Kd.R_types HO381.out BK385.out (by decide)) (fun _ hk => hk.2) (.int .i64 a1)) (fun _ hk => hk.2) (.int .i64 a2)) (fun _ hk => hk.2) (.slice Ao36 t382.length co36)) (fun _ hk => hk.2) (.int .i64 0)) (fun _ h_ => h_.1))) hb); have n2_ := Aside0.mk (Kd.R_below (by (with_reducible repeat (first | apply Kd.R_alloc | apply Kd.R_drewN | apply Kd.R_drew)); exact (Kd.R_mono (Kd.R_far (p := ⟨gb385, 3, none⟩) (Kd.R_far (p := ⟨gb385, 2, none⟩) (Kd.R_far (p := ⟨gb385, 1, none⟩) (Kd.R_far (p := ⟨gb385, 0, none⟩) (Kd.R_types HO384.out BK385.out (by decide)) (fun _ hk => hk.2) (.int .i64 a1)) (fun _ hk => hk.2) (.int .i64 a2)) (fun _ hk => hk.2) (.slice Ao36 t382.length co36)) (fun _ hk => hk.2) (.int .i64 0)) (fun _ h_ => h_.1))) hb); have n3_ := Aside0.mk (blk_below (g := gb369) (o := .cells #[.slice A3_0 l3_0.length c3_0] 71 (0, 0)) (by (with_reducible repeat (first | refine blk_drewN ?_ _ | refine blk_drew ?_ | refine blk_alloc ?_ _)); refine blk_far ?_ NB369_385.out _; (with_reducible repeat (first | refine blk_drewN ?_ _ | refine blk_drew ?_ | refine blk_alloc ?_ _)); refine blk_far ?_ NB369_385.out _; (with_reducible repeat (first | refine blk_drewN ?_ _ | refine blk_drew ?_ | refine blk_alloc ?_ _)); refine blk_far ?_ NB369_385.out _; (with_reducible repeat (first | refine blk_drewN ?_ _ | refine blk_drew ?_ | refine blk_alloc ?_ _)); refine blk_far ?_ NB369_385.out _; (with_reducible repeat (first | refine blk_drewN ?_ _ | refine blk_drew ?_ | refine blk_alloc ?_ _)); exact BK369.out) hb); have n4_ := Aside0.mk (blk_below (g := gb370) (o := .cells #[.int .i64 0, .int .i64 0, .slice none 0 0, .int .i64 0] 66 (0, 0)) (by (with_reducible repeat (first | refine blk_drewN ?_ _ | refine blk_drew ?_ | refine blk_alloc ?_ _)); refine blk_far ?_ NB370_385.out _; (with_reducible repeat (first | refine blk_drewN ?_ _ | refine blk_drew ?_ | refine blk_alloc ?_ _)); refine blk_far ?_ NB370_385.out _; (with_reducible repeat (first | refine blk_drewN ?_ _ | refine blk_drew ?_ | refine blk_alloc ?_ _)); refine blk_far ?_ NB370_385.out _; (with_reducible repeat (first | refine blk_drewN ?_ _ | refine blk_drew ?_ | refine blk_alloc ?_ _)); refine blk_far ?_ NB370_385.out _; (with_reducible repeat (first | refine blk_drewN ?_ _ | refine blk_drew ?_ | refine blk_alloc ?_ _)); exact BK370.out) hb); have n5_ := Aside0.mk (blk_below (g := gb385) (o := .cells #[.int .i64 a1, .int .i64 a2, .slice Ao36 t382.length co36, .int .i64 0] 66 (0, 0)) (by (with_reducible repeat (first | refine blk_drewN ?_ _ | refine blk_drew ?_ | refine blk_alloc ?_ _)); refine blk_put (cs := #[.int .i64 a1, .int .i64 a2, .slice Ao36 t382.length co36, .int .i64 0]) ?_ 3 _ rfl; (with_reducible repeat (first | refine blk_drewN ?_ _ | refine blk_drew ?_ | refine blk_alloc ?_ _)); refine blk_put (cs := #[.int .i64 a1, .int .i64 a2, .slice none 0 0, .int .i64 0]) ?_ 2 _ rfl; (with_reducible repeat (first | refine blk_drewN ?_ _ | refine blk_drew ?_ | refine blk_alloc ?_ _)); refine blk_put (cs := #[.int .i64 a1, .int .i64 0, .slice none 0 0, .int .i64 0]) ?_ 1 _ rfl; (with_reducible repeat (first | refine blk_drewN ?_ _ | refine blk_drew ?_ | refine blk_alloc ?_ _)); refine blk_put (cs := #[.int .i64 0, .int .i64 0, .slice none 0 0, .int .i64 0]) ?_ 0 _ rfl; (with_reducible repeat (first | refine blk_drewN ?_ _ | refine blk_drew ?_ | refine blk_alloc ?_ _)); exact BK385.out) hb); have n6_ := Aside0.mk (below_step (Cmp.g HB.out) hb); clear HO377; clear HO381; clear HO384; clear BK369; clear BK370; clear BK385; clear HB; have HO377 := n0_; have HO381 := n1_; have HO384 := n2_; have BK369 := n3_; have BK370 := n4_; have BK385 := n5_; have HB := n6_; clear n0_ n1_ n2_ n3_ n4_ n5_ n6_; (try clear hb); (try clear hb2); (try clear hk); (try clear hi); have hcz45_0 : w44.cell? ⟨gb385, 0, none⟩ = some (.int .i64 a1) := (blk_cell BK385.out 0).trans rfl; have hcz45_1 : w44.cell? ⟨gb385, 1, none⟩ = some (.int .i64 a2) := (blk_cell BK385.out 1).trans rfl; have hcz45_2 : w44.cell? ⟨gb385, 2, none⟩ = some (.slice Ao36 t382.length co36) := (blk_cell BK385.out 2).trans rfl; have hcz45_3 : w44.cell? ⟨gb385, 3, none⟩ = some (.int .i64 0) := (blk_cell BK385.out 3).trans rfl; have hfz45_0 := blk_frozen BK385.out 0; have hfz45_1 := blk_frozen BK385.out 1; have hfz45_2 := blk_frozen BK385.out 2; have hfz45_3 := blk_frozen BK385.out 3; have hnb46 := NB370_369.out; have hnc46 := NB369_370.out; have hcz47_0 : w44.cell? ⟨gb370, 0, none⟩ = some (.int .i64 0) := (blk_cell BK370.out 0).trans rfl; have hcz47_1 : w44.cell? ⟨gb370, 1, none⟩ = some (.int .i64 0) := (blk_cell BK370.out 1).trans rfl; have hcz47_2 : w44.cell? ⟨gb370, 2, none⟩ = some (.slice none 0 0) := (blk_cell BK370.out 2).trans rfl; have hcz47_3 : w44.cell? ⟨gb370, 3, none⟩ = some (.int .i64 0) := (blk_cell BK370.out 3).trans rfl; have hfz47_0 := blk_frozen BK370.out 0; have hfz47_1 := blk_frozen BK370.out 1; have hfz47_2 := blk_frozen BK370.out 2; have hfz47_3 := blk_frozen BK370.out 3))
    refine bodyPost_ret (results_ct rfl _ _ gb370 66 #[.int .i64 a1, .int .i64 a2, .slice Ao36 t382.length co36, .int .i64 t386] (0, 0) _ rfl (by (with_reducible repeat (first | refine blk_drewN ?_ _ | refine blk_drew ?_ | refine blk_alloc ?_ _)); refine blk_put (cs := #[.int .i64 a1, .int .i64 a2, .slice Ao36 t382.length co36, .int .i64 0]) ?_ 3 _ rfl; (with_reducible repeat (first | refine blk_drewN ?_ _ | refine blk_drew ?_ | refine blk_alloc ?_ _)); refine blk_put (cs := #[.int .i64 a1, .int .i64 a2, .slice none 0 0, .int .i64 0]) ?_ 2 _ rfl; (with_reducible repeat (first | refine blk_drewN ?_ _ | refine blk_drew ?_ | refine blk_alloc ?_ _)); refine blk_put (cs := #[.int .i64 a1, .int .i64 0, .slice none 0 0, .int .i64 0]) ?_ 1 _ rfl; (with_reducible repeat (first | refine blk_drewN ?_ _ | refine blk_drew ?_ | refine blk_alloc ?_ _)); refine blk_put (cs := #[.int .i64 0, .int .i64 0, .slice none 0 0, .int .i64 0]) ?_ 0 _ rfl; (with_reducible repeat (first | refine blk_drewN ?_ _ | refine blk_drew ?_ | refine blk_alloc ?_ _)); refine blk_far ?_ NB370_385.out _; (with_reducible repeat (first | refine blk_drewN ?_ _ | refine blk_drew ?_ | refine blk_alloc ?_ _)); exact BK370.out) Try.underlying66 rfl (by kernel_rfl)) rfl ?_
    exact ⟨_, by first | rfl | (simp [errW_none, errW_some] <;> rfl) | (simp [*, errW_none, errW_some] <;> rfl), by (with_reducible repeat (first | apply Kd.R_alloc | apply Kd.R_drewN | apply Kd.R_drew)); exact Kd.R_mono (Kd.R_far (p := ⟨gb370, 3, none⟩) (Kd.R_far (p := ⟨gb370, 2, none⟩) (Kd.R_far (p := ⟨gb370, 1, none⟩) (Kd.R_far (p := ⟨gb370, 0, none⟩) (Kd.R_far (p := ⟨gb385, 3, none⟩) (Kd.R_types (Kd.R_types HO384.out BK385.out (by decide)) BK370.out (by decide)) (fun _ hk => hk.1.2) (.int .i64 t386)) (fun _ hk => hk.2) (.int .i64 a1)) (fun _ hk => hk.2) (.int .i64 a2)) (fun _ hk => hk.2) (.slice Ao36 t382.length co36)) (fun _ hk => hk.2) (.int .i64 t386)) (fun _ hk => trivial), Cmp.g HB.out⟩

end Go.Proofs.Ytgcipecdaimjfaa.PFnExactSealBundle

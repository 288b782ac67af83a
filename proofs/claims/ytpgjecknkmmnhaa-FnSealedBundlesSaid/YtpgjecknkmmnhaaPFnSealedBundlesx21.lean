/- Printed functions of the program, out of print.sh, told more shortly. No condition. -/
import Derived.Test.YtpgjecknkmmnhaaCmp
import Derived.Test.YtpgjecknkmmnhaaPFnSealedBundlesx0
import Derived.Test.YtpgjecknkmmnhaaPFnSealedBundlesx9
import Derived.Test.YtpgjecknkmmnhaaPFnSealedBundlesx11
import Derived.Test.YtpgjecknkmmnhaaPFnSealedBundlesx12
import Derived.Test.YtpgjecknkmmnhaaPFnSealedBundlesx13
import Derived.Test.YtpgjecknkmmnhaaPFnSealedBundlesx20
namespace Go.Proofs.Ytpgjecknkmmnhaa.PFnSealedBundles
open Go.Proofs.Ytpgjecknkmmnhaa
open Go.RowKit Go.Proofs.YtpgjecknkmmnhaaW.PrintWords Go.Proofs.YtpgjecknkmmnhaaW.PrintLast Go.Proofs.YtpgjecknkmmnhaaW.PrintMore
attribute [local go_sem] max2_int min2_int max_two min_two max_three min_three max_four min_four   -- for this text's walks alone
set_option linter.unusedVariables false
set_option linter.unusedSimpArgs false
/-! ### impl_OpenBundle: function 23 -/
def impl_OpenBundle.j0 : Nat → Int → Bool → Int → Int → List Int → Int → Option ((List (S94)) × Bool)
  | 0, _, _, _, _, _, _ => none
  | k + 1, x0, x30, x646000, x646001, x646002, x646003 => if x30 = true then (some (([] : List (S94)), false)) else ((impl_DeriveKey.f k x0 (([223, x646000, x646001] : List Int))).bind fun t654 => ((impl_Decrypt.f k t654 x646002).bind fun t655 => ((impl_DecodeBundle.f k t655).bind fun bt658 => (some (bt658.1, bt658.2)))))
def impl_OpenBundle.f (k : Nat) (a0 : Int) (a1_0 : Int) (a1_1 : Int) (l1_2 : List Int) (a1_3 : Int) : Option ((List (S94)) × Bool) := (impl_IsValidKey.f a0).bind fun t647 => (if t647 = true then ((impl_InRange.f a1_0 0 1000000).bind fun t648 => (if t648 = true then ((impl_InRange.f a1_1 0 1000000).bind fun t649 => (if t649 = true then ((impl_BundleMAC.f k a0 a1_0 a1_1 l1_2 a1_3).bind fun t650 => (impl_OpenBundle.j0 k a0 (a1_3 != t650) a1_0 a1_1 l1_2 a1_3)) else (impl_OpenBundle.j0 k a0 true a1_0 a1_1 l1_2 a1_3))) else (impl_OpenBundle.j0 k a0 true a1_0 a1_1 l1_2 a1_3))) else (impl_OpenBundle.j0 k a0 true a1_0 a1_1 l1_2 a1_3))
theorem impl_OpenBundle.mono_l : ∀ k, (∀ y0 y1 y2 y3 y4 y5, LeO (impl_OpenBundle.j0 k y0 y1 y2 y3 y4 y5) (impl_OpenBundle.j0 (k + 1) y0 y1 y2 y3 y4 y5))
 | 0 => fun _ _ _ _ _ _ r h => by simp [impl_OpenBundle.j0] at h
 | k + 1 => by
    have ih0 := impl_OpenBundle.mono_l k
    · intro y0 y1 y2 y3 y4 y5
      unfold impl_OpenBundle.j0
      repeat' first
 | (with_reducible exact ih0 _ _ _ _ _ _)
 | (with_reducible exact impl_BundleMAC.mono _ _ _ _ _ _)
 | (with_reducible exact impl_DecodeBundle.mono _ _)
 | (with_reducible exact impl_Decrypt.mono _ _ _)
 | (with_reducible exact impl_DeriveKey.mono _ _ _)
 | (with_reducible exact LeO.refl _)
 | (with_reducible exact LeO.none _)
 | (with_reducible refine LeO.ite ?_ ?_)
 | (with_reducible refine LeO.bind ?_ (fun _ => ?_))
theorem impl_OpenBundle.mono : ∀ a0 a1 a2 a3 a4 k, LeO (impl_OpenBundle.f k a0 a1 a2 a3 a4) (impl_OpenBundle.f (k + 1) a0 a1 a2 a3 a4) := by
  intro a0 a1 a2 a3 a4 k
  have ih0 := impl_OpenBundle.mono_l k
  unfold impl_OpenBundle.f
  repeat' first
 | (with_reducible exact ih0 _ _ _ _ _ _)
 | (with_reducible exact impl_BundleMAC.mono _ _ _ _ _ _)
 | (with_reducible exact impl_DecodeBundle.mono _ _)
 | (with_reducible exact impl_Decrypt.mono _ _ _)
 | (with_reducible exact impl_DeriveKey.mono _ _ _)
 | (with_reducible exact LeO.refl _)
 | (with_reducible exact LeO.none _)
 | (with_reducible refine LeO.ite ?_ ?_)
 | (with_reducible refine LeO.bind ?_ (fun _ => ?_))
def impl_OpenBundle.T1 : Bool × List (List Nat × List Nat) := (true, [([], []), ([0], [0]), ([1], [1]), ([2, 1], [2]), ([3], [3]), ([4, 3], [3, 4]), ([5, 3, 3], [3, 5]), ([6, 3], [3, 6]), ([3, 7], [3, 7]), ([8, 6], [8]), ([9], [9]), ([10, 9], [9, 10]), ([11, 9, 9], [9, 11]), ([12, 9], [9, 12]), ([9, 13], [9, 13]), ([14, 12], [14]), ([15], [15]), ([16, 15], [15, 16]), ([15], [15]), ([15], [15]), ([18, 19, 15, 15], [15, 18, 19]), ([17, 20, 15], [15, 17, 20]), ([15, 21], [15, 21])])
def impl_OpenBundle.B1 : List Nat := [0, 1, 3, 7, 15, 31, 63, 127, 255, 511, 1023, 2047, 4095, 8191, 16383, 32767, 65535, 131071, 65535, 65535, 851967, 2097151, 4194303]
theorem impl_OpenBundle.tab1 : rtab .any (opsOf Try.f23 1) = impl_OpenBundle.T1 := by kernel_rfl
theorem impl_OpenBundle.bits1 : waitsOk impl_OpenBundle.T1.2 impl_OpenBundle.B1 = true := by kernel_rfl
def impl_OpenBundle.T3 : Bool × List (List Nat × List Nat) := (true, [([], []), ([], []), ([1], [1]), ([], []), ([3], [3]), ([2, 4], [2, 4]), ([0, 5], [0, 5]), ([], []), ([7], [7]), ([6, 8, 6], [6, 8]), ([9, 9], [9]), ([10], [10]), ([11], [11]), ([11], [11]), ([], []), ([14, 12, 10, 0, 1, 2, 3, 4, 5, 6, 7, 8, 9, 10, 11, 12, 14], [12, 14]), ([13, 15, 0, 1, 2, 3, 4, 5, 6, 7, 8, 9, 10, 11, 12, 13, 14, 15], [13])])
def impl_OpenBundle.B3 : List Nat := [0, 0, 2, 0, 8, 30, 63, 0, 128, 511, 1023, 2047, 4095, 4095, 0, 24575, 65535]
theorem impl_OpenBundle.tab3 : rtab .any (opsOf Try.f23 3) = impl_OpenBundle.T3 := by kernel_rfl
theorem impl_OpenBundle.bits3 : waitsOk impl_OpenBundle.T3.2 impl_OpenBundle.B3 = true := by kernel_rfl
set_option maxHeartbeats 8000000 in
set_option maxRecDepth 100000 in
theorem impl_OpenBundle.calls (k : Nat) (a0 : Int) (a1_0 : Int) (a1_1 : Int) (A1_2 : Option Addr) (c1_2 : Nat) (l1_2 : List Int) (a1_3 : Int) (r1 : List (S94)) (r2 : Bool) (w : World) (hr1_2 : Kd.C (Kd.int .u8) w A1_2 l1_2.length l1_2) (hc1_2 : l1_2.length ≤ c1_2) (h : impl_OpenBundle.f k a0 a1_0 a1_1 l1_2 a1_3 = some (r1, r2)) :
    Calls Try.prog 23 #[.int .i64 a0, .agg #[.int .i64 a1_0, .int .i64 a1_1, .slice A1_2 l1_2.length c1_2, .int .i64 a1_3]] w fun e w' => ∃ v0_ : Value, e = .returned (.tuple #[.agg #[v0_], .bool r2]) ∧ Kd.R k94 94 w' w.heap.size (fun _ => True) v0_ r1 ∧ Below w.heap.size w w' := by
 have hu49 := Try.underlying49; have hu45 := Try.underlying45; have Do := Cmp.A hr1_2; have HC1_2 := Cmp.A hc1_2; clear hr1_2 hc1_2
 have HB := Cmp.A (Below.refl w.heap.size w)
 have H : ((impl_IsValidKey.f a0).bind fun Dz => (if Dz = true then ((impl_InRange.f a1_0 0 1000000).bind fun E0 => (if E0 = true then ((impl_InRange.f a1_1 0 1000000).bind fun E1 => (if E1 = true then ((impl_BundleMAC.f k a0 a1_0 a1_1 l1_2 a1_3).bind fun Ds => (impl_OpenBundle.j0 k a0 (a1_3 != Ds) a1_0 a1_1 l1_2 a1_3)) else (impl_OpenBundle.j0 k a0 true a1_0 a1_1 l1_2 a1_3))) else (impl_OpenBundle.j0 k a0 true a1_0 a1_1 l1_2 a1_3))) else (impl_OpenBundle.j0 k a0 true a1_0 a1_1 l1_2 a1_3))) = some (r1, r2) := h
 clear h; have HC3 := Cmp.A H; clear H
 go_enter Try.func23, Try.ntmps23
 go_upto_region 1 with (first | ((with_reducible refine gate_dst (N := 3) rfl ?_); refine box_event ?hg (N := 3) ?hd (cs := #[.int .i64 a1_0, .int .i64 a1_1, .slice A1_2 l1_2.length c1_2, .int .i64 a1_3]) (t := 49) ?hr ?_; (case hd => rfl); (case hg => rfl); (case hr => first | (go_simp; done) | (go_simp; rfl)); intro D1 hg w4 hbox hb; have D0 := Cmp.A (hbox); have Eu := Cmp.gw hg HB; have Es := Cmp.gw hg HB; replace HB := Cmp.bs HB hb; clear hb hbox hg) | ((with_reducible refine gate_dst (N := 4) rfl ?_); refine box_event ?hg (N := 4) ?hd (cs := #[.slice none 0 0]) (t := 45) ?hr ?_; (case hd => rfl); (case hg => rfl); (case hr => first | (go_simp; done) | (go_simp; rfl)); intro D4 hg w5 hbox hb; have D2 := Cmp.A (hbox); have Ev := Cmp.gw hg HB; have Et := Cmp.gw hg HB; have Di := Cmp.nl hg D0; have Dj := Cmp.ng hg D0; replace D0 := Cmp.be D0 hb; replace HB := Cmp.bs HB hb; clear hb hbox hg))
 (try simp only [Act.put, List.setIfInBounds_toArray, List.set_cons_zero, List.set_cons_succ])
 go_cut [30] (fun v30 wc => ∃ (kq : Nat) (Dn : Bool), v30 = .bool Dn ∧ Aside0 (impl_OpenBundle.j0 kq a0 Dn a1_0 a1_1 l1_2 a1_3 = some (r1, r2)) ∧ Aside0 (kq ≤ k) ∧ Aside0 (wc.heap[D1]? = some (.cells #[.int .i64 a1_0, .int .i64 a1_1, (.slice A1_2 l1_2.length c1_2), .int .i64 a1_3] 49 (0, 0))) ∧ Aside0 (wc.heap[D4]? = some (.cells #[(.slice none 0 0)] 45 (0, 0))) ∧ Aside0 (Below w.heap.size w wc))
 case first =>
  have H := HC3.out; clear HC3; replace H := Option.bind_eq_some_iff.mp H; obtain ⟨Dz, Eq, H⟩ := H; (try dsimp only at H); have A6 := Cmp.A Eq; clear Eq
  by_cases c7 : Dz = true
  ·subst c7; rw [if_pos rfl] at H; replace H := Option.bind_eq_some_iff.mp H; obtain ⟨E0, Er, H⟩ := H; (try dsimp only at H); have A8 := Cmp.A Er; clear Er
   by_cases c9 : E0 = true
   ·subst c9; rw [if_pos rfl] at H; replace H := Option.bind_eq_some_iff.mp H; obtain ⟨E1, E2, H⟩ := H; (try dsimp only at H); have Em := Cmp.A E2; clear E2
    by_cases c11 : E1 = true
    ·subst c11; rw [if_pos rfl] at H; replace H := Option.bind_eq_some_iff.mp H; obtain ⟨Ds, E3, H⟩ := H; (try dsimp only at H); have F4 := Cmp.A E3; clear E3
     have H' := Cmp.A H
     clear H
     try go_wp2
     replace D0 := Cmp.A (blk_drew D0.out); replace D2 := Cmp.A (blk_drew D2.out); replace HB := Cmp.A (below_drew1 HB.out)
     refine start_ (n := 23) (S := fun w' => w'.cell? ⟨D1, 0, none⟩ = some (.int .i64 a1_0) ∧ w'.cell? ⟨D1, 1, none⟩ = some (.int .i64 a1_1) ∧ w'.cell? ⟨D1, 2, none⟩ = some (.slice A1_2 l1_2.length c1_2) ∧ w'.cell? ⟨D1, 3, none⟩ = some (.int .i64 a1_3)) (ds := []) (Cmp.bm 0 23) (by kernel_rfl) rfl rfl ⟨(Cmp.c0 D0 :), (Cmp.c1 D0 :), (Cmp.c2 D0 :), (Cmp.c3 D0 :)⟩ (fun hHeld => ?_); refine with_tabW impl_OpenBundle.tab1 impl_OpenBundle.bits1 (fun HT_ HW_ => ?_)
     generalize w5.drew = w13 at D0 D2 HB hHeld ⊢
     refine Cmp.pu HT_ 0 8 (Cmp.bm 1 22) ?_
     refine one_ (i := 1) (N := some 9) (Cmp.bm 2 21) rfl rfl (one_of HT_.out (by kernel_rfl)) (by decide) (fun K hK => ?_)
     refine goes_ Try.func59 (by kernel_rfl) rfl #[.int .i64 a0] (by rfl) rfl rfl Cmp.q ?_
     with_reducible refine (impl_IsValidKey.calls a0 true _ A6.out).mono ?_
     rintro e w' ⟨rfl, ⟨nd, rfl⟩⟩; refine ⟨_, rfl, ?_⟩
     refine hK.out _ _ ⟨(Cmp.c0 D0 :), (Cmp.c1 D0 :), (Cmp.c2 D0 :), (Cmp.c3 D0 :)⟩ (fun hHeld => ?_)
     clear hK K
     refine Cmp.no ?_
     refine Cmp.pu HT_ 2 10 (Cmp.bm 3 20) ?_; refine Cmp.pu HT_ 3 11 (Cmp.bm 4 19) ?_; refine Cmp.pu HT_ 4 12 (Cmp.bm 5 18) ?_; refine Cmp.tk HT_ HW_ hHeld 5 13 (Cmp.bm 6 17) ?_
     refine one_ (i := 6) (N := some 14) (Cmp.bm 7 16) rfl rfl (one_of HT_.out (by kernel_rfl)) (by decide) (fun K hK => ?_)
     refine goes_ Try.func60 (by kernel_rfl) rfl #[.int .i64 a1_0, .int .i64 0, .int .i64 1000000] (by rfl) rfl rfl Cmp.q ?_
     with_reducible refine (impl_InRange.calls a1_0 0 1000000 true _ A8.out).mono ?_
     rintro e w' ⟨rfl, ⟨nd, rfl⟩⟩; refine ⟨_, rfl, ?_⟩
     refine hK.out _ _ ⟨(Cmp.c0 D0 :), (Cmp.c1 D0 :), (Cmp.c2 D0 :), (Cmp.c3 D0 :)⟩ (fun hHeld => ?_)
     clear hK K
     refine Cmp.no ?_
     refine Cmp.pu HT_ 7 15 (Cmp.bm 8 15) ?_; refine Cmp.pu HT_ 8 16 (Cmp.bm 9 14) ?_; refine Cmp.pu HT_ 9 17 (Cmp.bm 10 13) ?_; refine Cmp.pu HT_ 10 18 (Cmp.bm 11 12) ?_; refine Cmp.tk HT_ HW_ hHeld 11 19 (Cmp.bm 12 11) ?_
     refine one_ (i := 12) (N := some 20) (Cmp.bm 13 10) rfl rfl (one_of HT_.out (by kernel_rfl)) (by decide) (fun K hK => ?_)
     refine goes_ Try.func60 (by kernel_rfl) rfl #[.int .i64 a1_1, .int .i64 0, .int .i64 1000000] (by rfl) rfl rfl Cmp.q ?_
     with_reducible refine (impl_InRange.calls a1_1 0 1000000 true _ Em.out).mono ?_
     rintro e w' ⟨rfl, ⟨nd, rfl⟩⟩; refine ⟨_, rfl, ?_⟩
     refine hK.out _ _ ⟨(Cmp.c0 D0 :), (Cmp.c1 D0 :), (Cmp.c2 D0 :), (Cmp.c3 D0 :)⟩ (fun hHeld => ?_)
     clear hK K
     refine Cmp.no ?_
     refine Cmp.pu HT_ 13 21 (Cmp.bm 14 9) ?_; refine Cmp.pu HT_ 14 22 (Cmp.bm 15 8) ?_; refine Cmp.pu HT_ 15 23 (Cmp.bm 16 7) ?_; refine Cmp.pu HT_ 16 24 (Cmp.bm 17 6) ?_; refine Cmp.pu HT_ 18 26 (Cmp.bb 23 393215) ?_; refine Cmp.tk HT_ HW_ hHeld 17 25 (Cmp.bm 19 4) ?_; refine Cmp.tk HT_ HW_ hHeld 19 27 (Cmp.bm 20 3) ?_
     refine one_ (i := 20) (N := some 28) (Cmp.bm 21 2) rfl rfl (one_of HT_.out (by kernel_rfl)) (by decide) (fun K hK => ?_)
     refine goes_ Try.func64 (by kernel_rfl) rfl #[.int .i64 a0, .agg #[.int .i64 a1_0, .int .i64 a1_1, .slice A1_2 l1_2.length c1_2, .int .i64 a1_3]] (by rfl) rfl rfl Cmp.q ?_
     with_reducible refine (impl_BundleMAC.calls k a0 a1_0 a1_1 _ _ l1_2 a1_3 Ds _ ?side1 ?side2 F4.out).mono ?_
     (case side1 => exact Cmp.rc (Kd.C_below Do.out (Cmp.g HB.out)))
     (case side2 => exact HC1_2.out)
     rintro e w14 ⟨rfl, hb⟩; refine ⟨_, rfl, ?_⟩
     replace D0 := Cmp.be D0 hb; replace D2 := Cmp.be D2 hb; replace HB := Cmp.A (below_step (Cmp.g HB.out) hb); (try clear hb); (try clear hb2); (try clear hk); (try clear hi)
     refine hK.out _ _ ⟨(Cmp.c0 D0 :), (Cmp.c1 D0 :), (Cmp.c2 D0 :), (Cmp.c3 D0 :)⟩ (fun hHeld => ?_)
     clear hK K
     refine Cmp.no ?_
     refine Cmp.pu HT_ 21 29 (Cmp.bm 22 1) ?_; refine Cmp.pu HT_ 22 30 (Cmp.bm 23 0) ?_
     refine done_ (done_of HT_.out (by kernel_rfl)) ?_
     try go_wp2
     go_meet
     case rel => exact ⟨_, ((a1_3 != Ds)), (by first | rfl | simp | simp [*]), H', ⟨by first | omega | exact Nat.le_refl _⟩, Cmp.bq D0, Cmp.bq D2, ⟨Cmp.g HB.out⟩⟩
    ·replace c11 := Bool.eq_false_iff.mpr c11
     subst c11
     have H1 : (impl_OpenBundle.j0 k a0 true a1_0 a1_1 l1_2 a1_3) = some (r1, r2) := by rw [if_neg (show ¬ (false = true) by decide)] at H; exact H
     clear H; have H := H1; clear H1
     have H' := Cmp.A H
     clear H
     try go_wp2
     replace D0 := Cmp.A (blk_drew D0.out); replace D2 := Cmp.A (blk_drew D2.out); replace HB := Cmp.A (below_drew1 HB.out)
     refine start_ (n := 23) (S := fun w' => w'.cell? ⟨D1, 0, none⟩ = some (.int .i64 a1_0) ∧ w'.cell? ⟨D1, 1, none⟩ = some (.int .i64 a1_1) ∧ w'.cell? ⟨D1, 2, none⟩ = some (.slice A1_2 l1_2.length c1_2) ∧ w'.cell? ⟨D1, 3, none⟩ = some (.int .i64 a1_3)) (ds := []) (Cmp.bm 0 23) (by kernel_rfl) rfl rfl ⟨(Cmp.c0 D0 :), (Cmp.c1 D0 :), (Cmp.c2 D0 :), (Cmp.c3 D0 :)⟩ (fun hHeld => ?_); refine with_tabW impl_OpenBundle.tab1 impl_OpenBundle.bits1 (fun HT_ HW_ => ?_)
     generalize w5.drew = w15 at D0 D2 HB hHeld ⊢
     refine Cmp.pu HT_ 0 8 (Cmp.bm 1 22) ?_
     refine one_ (i := 1) (N := some 9) (Cmp.bm 2 21) rfl rfl (one_of HT_.out (by kernel_rfl)) (by decide) (fun K hK => ?_)
     refine goes_ Try.func59 (by kernel_rfl) rfl #[.int .i64 a0] (by rfl) rfl rfl Cmp.q ?_
     with_reducible refine (impl_IsValidKey.calls a0 true _ A6.out).mono ?_
     rintro e w' ⟨rfl, ⟨nd, rfl⟩⟩; refine ⟨_, rfl, ?_⟩
     refine hK.out _ _ ⟨(Cmp.c0 D0 :), (Cmp.c1 D0 :), (Cmp.c2 D0 :), (Cmp.c3 D0 :)⟩ (fun hHeld => ?_)
     clear hK K
     refine Cmp.no ?_
     refine Cmp.pu HT_ 2 10 (Cmp.bm 3 20) ?_; refine Cmp.pu HT_ 3 11 (Cmp.bm 4 19) ?_; refine Cmp.pu HT_ 4 12 (Cmp.bm 5 18) ?_; refine Cmp.tk HT_ HW_ hHeld 5 13 (Cmp.bm 6 17) ?_
     refine one_ (i := 6) (N := some 14) (Cmp.bm 7 16) rfl rfl (one_of HT_.out (by kernel_rfl)) (by decide) (fun K hK => ?_)
     refine goes_ Try.func60 (by kernel_rfl) rfl #[.int .i64 a1_0, .int .i64 0, .int .i64 1000000] (by rfl) rfl rfl Cmp.q ?_
     with_reducible refine (impl_InRange.calls a1_0 0 1000000 true _ A8.out).mono ?_
     rintro e w' ⟨rfl, ⟨nd, rfl⟩⟩; refine ⟨_, rfl, ?_⟩
     refine hK.out _ _ ⟨(Cmp.c0 D0 :), (Cmp.c1 D0 :), (Cmp.c2 D0 :), (Cmp.c3 D0 :)⟩ (fun hHeld => ?_)
     clear hK K
     refine Cmp.no ?_
     refine Cmp.pu HT_ 7 15 (Cmp.bm 8 15) ?_; refine Cmp.pu HT_ 8 16 (Cmp.bm 9 14) ?_; refine Cmp.pu HT_ 9 17 (Cmp.bm 10 13) ?_; refine Cmp.pu HT_ 10 18 (Cmp.bm 11 12) ?_; refine Cmp.tk HT_ HW_ hHeld 11 19 (Cmp.bm 12 11) ?_
     refine one_ (i := 12) (N := some 20) (Cmp.bm 13 10) rfl rfl (one_of HT_.out (by kernel_rfl)) (by decide) (fun K hK => ?_)
     refine goes_ Try.func60 (by kernel_rfl) rfl #[.int .i64 a1_1, .int .i64 0, .int .i64 1000000] (by rfl) rfl rfl Cmp.q ?_
     with_reducible refine (impl_InRange.calls a1_1 0 1000000 false _ Em.out).mono ?_
     rintro e w' ⟨rfl, ⟨nd, rfl⟩⟩; refine ⟨_, rfl, ?_⟩
     refine hK.out _ _ ⟨(Cmp.c0 D0 :), (Cmp.c1 D0 :), (Cmp.c2 D0 :), (Cmp.c3 D0 :)⟩ (fun hHeld => ?_)
     clear hK K
     refine Cmp.no ?_
     refine Cmp.pu HT_ 13 21 (Cmp.bm 14 9) ?_; refine Cmp.pu HT_ 14 22 (Cmp.bm 15 8) ?_; refine Cmp.pu HT_ 15 23 (Cmp.bm 16 7) ?_; refine Cmp.pv HT_ 16 24 (Cmp.bm 17 6) ?_; refine Cmp.pv HT_ 17 25 (Cmp.bm 18 5) ?_; refine Cmp.pv HT_ 18 26 (Cmp.bm 19 4) ?_; refine Cmp.pv HT_ 19 27 (Cmp.bm 20 3) ?_; refine Cmp.pv HT_ 20 28 (Cmp.bm 21 2) ?_; refine Cmp.pv HT_ 21 29 (Cmp.bm 22 1) ?_; refine Cmp.pu HT_ 22 30 (Cmp.bm 23 0) ?_
     refine done_ (done_of HT_.out (by kernel_rfl)) ?_
     try go_wp2
     go_meet
     case rel => exact ⟨_, (true), (by first | rfl | simp | simp [*]), H', ⟨by first | omega | exact Nat.le_refl _⟩, Cmp.bq D0, Cmp.bq D2, ⟨Cmp.g HB.out⟩⟩
   ·replace c9 := Bool.eq_false_iff.mpr c9
    subst c9
    have H1 : (impl_OpenBundle.j0 k a0 true a1_0 a1_1 l1_2 a1_3) = some (r1, r2) := by rw [if_neg (show ¬ (false = true) by decide)] at H; exact H
    clear H; have H := H1; clear H1
    have H' := Cmp.A H
    clear H
    try go_wp2
    replace D0 := Cmp.A (blk_drew D0.out); replace D2 := Cmp.A (blk_drew D2.out); replace HB := Cmp.A (below_drew1 HB.out)
    refine start_ (n := 23) (S := fun w' => w'.cell? ⟨D1, 0, none⟩ = some (.int .i64 a1_0) ∧ w'.cell? ⟨D1, 1, none⟩ = some (.int .i64 a1_1) ∧ w'.cell? ⟨D1, 2, none⟩ = some (.slice A1_2 l1_2.length c1_2) ∧ w'.cell? ⟨D1, 3, none⟩ = some (.int .i64 a1_3)) (ds := []) (Cmp.bm 0 23) (by kernel_rfl) rfl rfl ⟨(Cmp.c0 D0 :), (Cmp.c1 D0 :), (Cmp.c2 D0 :), (Cmp.c3 D0 :)⟩ (fun hHeld => ?_); refine with_tabW impl_OpenBundle.tab1 impl_OpenBundle.bits1 (fun HT_ HW_ => ?_)
    generalize w5.drew = w16 at D0 D2 HB hHeld ⊢
    refine Cmp.pu HT_ 0 8 (Cmp.bm 1 22) ?_
    refine one_ (i := 1) (N := some 9) (Cmp.bm 2 21) rfl rfl (one_of HT_.out (by kernel_rfl)) (by decide) (fun K hK => ?_)
    refine goes_ Try.func59 (by kernel_rfl) rfl #[.int .i64 a0] (by rfl) rfl rfl Cmp.q ?_
    with_reducible refine (impl_IsValidKey.calls a0 true _ A6.out).mono ?_
    rintro e w' ⟨rfl, ⟨nd, rfl⟩⟩; refine ⟨_, rfl, ?_⟩
    refine hK.out _ _ ⟨(Cmp.c0 D0 :), (Cmp.c1 D0 :), (Cmp.c2 D0 :), (Cmp.c3 D0 :)⟩ (fun hHeld => ?_)
    clear hK K
    refine Cmp.no ?_
    refine Cmp.pu HT_ 2 10 (Cmp.bm 3 20) ?_; refine Cmp.pu HT_ 3 11 (Cmp.bm 4 19) ?_; refine Cmp.pu HT_ 4 12 (Cmp.bm 5 18) ?_; refine Cmp.tk HT_ HW_ hHeld 5 13 (Cmp.bm 6 17) ?_
    refine one_ (i := 6) (N := some 14) (Cmp.bm 7 16) rfl rfl (one_of HT_.out (by kernel_rfl)) (by decide) (fun K hK => ?_)
    refine goes_ Try.func60 (by kernel_rfl) rfl #[.int .i64 a1_0, .int .i64 0, .int .i64 1000000] (by rfl) rfl rfl Cmp.q ?_
    with_reducible refine (impl_InRange.calls a1_0 0 1000000 false _ A8.out).mono ?_
    rintro e w' ⟨rfl, ⟨nd, rfl⟩⟩; refine ⟨_, rfl, ?_⟩
    refine hK.out _ _ ⟨(Cmp.c0 D0 :), (Cmp.c1 D0 :), (Cmp.c2 D0 :), (Cmp.c3 D0 :)⟩ (fun hHeld => ?_)
    clear hK K
    refine Cmp.no ?_
    refine Cmp.pu HT_ 7 15 (Cmp.bm 8 15) ?_; refine Cmp.pu HT_ 8 16 (Cmp.bm 9 14) ?_; refine Cmp.pu HT_ 9 17 (Cmp.bm 10 13) ?_; refine Cmp.pv HT_ 10 18 (Cmp.bm 11 12) ?_; refine Cmp.pv HT_ 11 19 (Cmp.bm 12 11) ?_; refine Cmp.pv HT_ 12 20 (Cmp.bm 13 10) ?_; refine Cmp.pv HT_ 13 21 (Cmp.bm 14 9) ?_; refine Cmp.pu HT_ 14 22 (Cmp.bm 15 8) ?_; refine Cmp.pu HT_ 15 23 (Cmp.bm 16 7) ?_; refine Cmp.pv HT_ 16 24 (Cmp.bm 17 6) ?_; refine Cmp.pv HT_ 17 25 (Cmp.bm 18 5) ?_; refine Cmp.pv HT_ 18 26 (Cmp.bm 19 4) ?_; refine Cmp.pv HT_ 19 27 (Cmp.bm 20 3) ?_; refine Cmp.pv HT_ 20 28 (Cmp.bm 21 2) ?_; refine Cmp.pv HT_ 21 29 (Cmp.bm 22 1) ?_; refine Cmp.pu HT_ 22 30 (Cmp.bm 23 0) ?_
    refine done_ (done_of HT_.out (by kernel_rfl)) ?_
    try go_wp2
    go_meet
    case rel => exact ⟨_, (true), (by first | rfl | simp | simp [*]), H', ⟨by first | omega | exact Nat.le_refl _⟩, Cmp.bq D0, Cmp.bq D2, ⟨Cmp.g HB.out⟩⟩
  ·replace c7 := Bool.eq_false_iff.mpr c7
   subst c7
   have H1 : (impl_OpenBundle.j0 k a0 true a1_0 a1_1 l1_2 a1_3) = some (r1, r2) := by rw [if_neg (show ¬ (false = true) by decide)] at H; exact H
   clear H; have H := H1; clear H1
   have H' := Cmp.A H
   clear H
   try go_wp2
   replace D0 := Cmp.A (blk_drew D0.out); replace D2 := Cmp.A (blk_drew D2.out); replace HB := Cmp.A (below_drew1 HB.out)
   refine start_ (n := 23) (S := fun w' => True) (ds := []) (Cmp.bm 0 23) (by kernel_rfl) rfl rfl trivial (fun hHeld => ?_); refine with_tabW impl_OpenBundle.tab1 impl_OpenBundle.bits1 (fun HT_ HW_ => ?_)
   generalize w5.drew = w17 at D0 D2 HB hHeld ⊢
   refine Cmp.pu HT_ 0 8 (Cmp.bm 1 22) ?_
   refine one_ (i := 1) (N := some 9) (Cmp.bm 2 21) rfl rfl (one_of HT_.out (by kernel_rfl)) (by decide) (fun K hK => ?_)
   refine goes_ Try.func59 (by kernel_rfl) rfl #[.int .i64 a0] (by rfl) rfl rfl Cmp.q ?_
   with_reducible refine (impl_IsValidKey.calls a0 false _ A6.out).mono ?_
   rintro e w' ⟨rfl, ⟨nd, rfl⟩⟩; refine ⟨_, rfl, ?_⟩
   refine hK.out _ _ trivial (fun hHeld => ?_)
   clear hK K
   refine Cmp.no ?_
   refine Cmp.pu HT_ 2 10 (Cmp.bm 3 20) ?_; refine Cmp.pu HT_ 3 11 (Cmp.bm 4 19) ?_; refine Cmp.pv HT_ 4 12 (Cmp.bm 5 18) ?_; refine Cmp.pv HT_ 5 13 (Cmp.bm 6 17) ?_; refine Cmp.pv HT_ 6 14 (Cmp.bm 7 16) ?_; refine Cmp.pv HT_ 7 15 (Cmp.bm 8 15) ?_; refine Cmp.pu HT_ 8 16 (Cmp.bm 9 14) ?_; refine Cmp.pu HT_ 9 17 (Cmp.bm 10 13) ?_; refine Cmp.pv HT_ 10 18 (Cmp.bm 11 12) ?_; refine Cmp.pv HT_ 11 19 (Cmp.bm 12 11) ?_; refine Cmp.pv HT_ 12 20 (Cmp.bm 13 10) ?_; refine Cmp.pv HT_ 13 21 (Cmp.bm 14 9) ?_; refine Cmp.pu HT_ 14 22 (Cmp.bm 15 8) ?_; refine Cmp.pu HT_ 15 23 (Cmp.bm 16 7) ?_; refine Cmp.pv HT_ 16 24 (Cmp.bm 17 6) ?_; refine Cmp.pv HT_ 17 25 (Cmp.bm 18 5) ?_; refine Cmp.pv HT_ 18 26 (Cmp.bm 19 4) ?_; refine Cmp.pv HT_ 19 27 (Cmp.bm 20 3) ?_; refine Cmp.pv HT_ 20 28 (Cmp.bm 21 2) ?_; refine Cmp.pv HT_ 21 29 (Cmp.bm 22 1) ?_; refine Cmp.pu HT_ 22 30 (Cmp.bm 23 0) ?_
   refine done_ (done_of HT_.out (by kernel_rfl)) ?_
   try go_wp2
   go_meet
   case rel => exact ⟨_, (true), (by first | rfl | simp | simp [*]), H', ⟨by first | omega | exact Nat.le_refl _⟩, Cmp.bq D0, Cmp.bq D2, ⟨Cmp.g HB.out⟩⟩
 case rest =>
  clear HC3; (try clear c1); (try clear p2); (try clear c5); (try clear c6); (try clear c7); (try clear c9); (try clear c11)
  obtain ⟨kq, Dn, rfl, HA, HJ2, D0, D2, HB⟩ := hcut
  cases kq with
  | zero => exact absurd HA.out (by simp [impl_OpenBundle.j0])
  | succ kj2 =>
   have H := HA.out; clear HA
   simp only [impl_OpenBundle.j0] at H
   by_cases c18 : Dn = true
   ·subst c18; rw [if_pos rfl] at H
    simp only [Option.some.injEq, Prod.mk.injEq] at H
    obtain ⟨rfl, rfl⟩ := H; have Ew := Dj.out; have F0 := Di.out
    have Eg : wc.cell? ⟨D4, 0, none⟩ = some (.slice none 0 0) := (blk_cell D2.out 0).trans rfl
    have Ej := blk_frozen D2.out 0
    go_wp2
    refine bodyPost_ret (results_ct rfl _ _ D4 45 #[.slice none 0 0] (0, 0) _ rfl (Cmp.bw D2.out) Try.underlying45 rfl (by kernel_rfl)) rfl ?_
    exact ⟨_, by first | rfl | (simp [errW_none, errW_some] <;> rfl) | (simp [*, errW_none, errW_some] <;> rfl), by first | exact Kd.R_nil _ _ _ _ _ | exact Kd.N_nil _ _ _ _ _ | exact Kd.V_nil _ _ _ _ _ | exact Kd.Q_nil _ _ _ _ _ | exact Kd.S_nil _ _ _ _ _, Cmp.g HB.out⟩
   ·replace c18 := Bool.eq_false_iff.mpr c18
    subst c18
    have H1 : ((impl_DeriveKey.f kj2 a0 (([223, a1_0, a1_1] : List Int))).bind fun Dh => ((impl_Decrypt.f kj2 Dh l1_2).bind fun Df => ((impl_DecodeBundle.f kj2 Df).bind fun bt658 => (some (bt658.1, bt658.2))))) = some (r1, r2) := by rw [if_neg (show ¬ (false = true) by decide)] at H; exact H
    clear H; have H := H1; clear H1
    obtain ⟨De, hy651⟩ : ∃ y_ : List Int, y_ = (([223, a1_0, a1_1] : List Int)) := ⟨_, rfl⟩
    replace H : ((impl_DeriveKey.f kj2 a0 De).bind fun Dh => ((impl_Decrypt.f kj2 Dh l1_2).bind fun Df => ((impl_DecodeBundle.f kj2 Df).bind fun bt658 => (some (bt658.1, bt658.2))))) = some (r1, r2) := Cmp.hy hy651 H
    have Dm := Cmp.A hy651; clear hy651; replace H := Option.bind_eq_some_iff.mp H; obtain ⟨Dh, E4, H⟩ := H; (try dsimp only at H); have En := Cmp.A E4; clear E4; replace H := Option.bind_eq_some_iff.mp H; obtain ⟨Df, E5, H⟩ := H; (try dsimp only at H); have Eo := Cmp.A E5; clear E5; replace H := Option.bind_eq_some_iff.mp H; obtain ⟨⟨Dk, Dl⟩, E6, H⟩ := H; (try dsimp only at H); have Ep := Cmp.A E6; clear E6
    simp only [Option.some.injEq, Prod.mk.injEq] at H
    obtain ⟨rfl, rfl⟩ := H
    try go_wp2
    replace D0 := Cmp.A (blk_drew D0.out); replace D2 := Cmp.A (blk_drew D2.out); replace HB := Cmp.A (below_drew1 HB.out)
    refine start_ (n := 17) (S := fun w' => w'.cell? ⟨D1, 0, none⟩ = some (.int .i64 a1_0) ∧ w'.cell? ⟨D1, 1, none⟩ = some (.int .i64 a1_1) ∧ w'.cell? ⟨D1, 2, none⟩ = some (.slice A1_2 l1_2.length c1_2) ∧ w'.cell? ⟨D1, 3, none⟩ = some (.int .i64 a1_3)) (ds := []) (Cmp.bm 0 17) (by kernel_rfl) rfl rfl ⟨(Cmp.c0 D0 :), (Cmp.c1 D0 :), (Cmp.c2 D0 :), (Cmp.c3 D0 :)⟩ (fun hHeld => ?_); refine with_tabW impl_OpenBundle.tab3 impl_OpenBundle.bits3 (fun HT_ HW_ => ?_)
    generalize wc.drew = w24 at D0 D2 HB hHeld ⊢
    refine Cmp.pu HT_ 0 33 (Cmp.bm 1 16) ?_; refine Cmp.pu HT_ 1 34 (Cmp.bm 2 15) ?_; refine Cmp.pu HT_ 3 36 (Cmp.bb 17 11) ?_; refine Cmp.pu HT_ 7 40 (Cmp.bb 17 139) ?_; refine Cmp.tk HT_ HW_ hHeld 2 35 (Cmp.bb 17 143) ?_; refine Cmp.tk HT_ HW_ hHeld 4 37 (Cmp.bb 17 159) ?_; refine Cmp.tk HT_ HW_ hHeld 8 41 (Cmp.bb 17 415) ?_
    refine join_ (σ := Value × Value × Value × Nat) 2 (Cmp.bm 15 2) (fun s_ => [(38, s_.1), (39, .int .i64 Dh), (42, s_.2.1), (43, .tuple #[.agg #[s_.2.2.1], .bool Dl]), (6, .pointer (some ⟨s_.2.2.2, 0, none⟩)), (32, .tuple #[.agg #[s_.2.2.1], .bool Dl]), (44, .agg #[s_.2.2.1]), (45, .bool Dl)]) (fun s_ w' => (w'.cell? ⟨D1, 0, none⟩ = some (.int .i64 a1_0) ∧ w'.cell? ⟨D1, 1, none⟩ = some (.int .i64 a1_1) ∧ w'.cell? ⟨D1, 2, none⟩ = some (.slice A1_2 l1_2.length c1_2) ∧ w'.cell? ⟨D1, 3, none⟩ = some (.int .i64 a1_3)) ∧ (Kd.R (Kd.int .i64) 3 w' w.heap.size (fun _ => True) s_.1 De) ∧ (Kd.R (Kd.int .u8) 5 w' w.heap.size (fun _ => True) s_.2.1 Df) ∧ (Kd.R k94 94 w' w.heap.size (fun _ => True) s_.2.2.1 Dk) ∧ (w'.heap[D1]? = some (.cells #[.int .i64 a1_0, .int .i64 a1_1, .slice A1_2 l1_2.length c1_2, .int .i64 a1_3] 49 (0, 0))) ∧ (w'.heap[D4]? = some (.cells #[.slice none 0 0] 45 (0, 0))) ∧ (w'.heap[s_.2.2.2]? = some (.cells #[.slice none 0 0] 45 (0, 0))) ∧ (w.heap.size ≤ s_.2.2.2) ∧ (w.heap.size ≤ s_.2.2.2) ∧ (D1 ≠ s_.2.2.2) ∧ (s_.2.2.2 ≠ D1) ∧ (D4 ≠ s_.2.2.2) ∧ (s_.2.2.2 ≠ D4) ∧ (Below w.heap.size w w')) ?_ ?_
    rotate_left
    ·intro hJ5_6_9_10_14
     refine join_ (σ := Value × Value × Value) 3 (Cmp.bm 14 3) (fun s_ => [(38, s_.1), (39, .int .i64 Dh), (42, s_.2.1), (43, .tuple #[.agg #[s_.2.2], .bool Dl]), (32, .tuple #[.agg #[s_.2.2], .bool Dl]), (44, .agg #[s_.2.2]), (45, .bool Dl)]) (fun s_ w' => (w'.cell? ⟨D1, 0, none⟩ = some (.int .i64 a1_0) ∧ w'.cell? ⟨D1, 1, none⟩ = some (.int .i64 a1_1) ∧ w'.cell? ⟨D1, 2, none⟩ = some (.slice A1_2 l1_2.length c1_2) ∧ w'.cell? ⟨D1, 3, none⟩ = some (.int .i64 a1_3)) ∧ (Kd.R (Kd.int .i64) 3 w' w.heap.size (fun _ => True) s_.1 De) ∧ (Kd.R (Kd.int .u8) 5 w' w.heap.size (fun _ => True) s_.2.1 Df) ∧ (Kd.R k94 94 w' w.heap.size (fun _ => True) s_.2.2 Dk) ∧ (w'.heap[D1]? = some (.cells #[.int .i64 a1_0, .int .i64 a1_1, .slice A1_2 l1_2.length c1_2, .int .i64 a1_3] 49 (0, 0))) ∧ (w'.heap[D4]? = some (.cells #[.slice none 0 0] 45 (0, 0))) ∧ (Below w.heap.size w w')) ?_ ?_
     rotate_left
     ·intro hJ5_6_9_10
      refine join_ (σ := Value × Value × Nat) 6 (Cmp.bb 17 17407) (fun s_ => [(38, s_.1), (39, .int .i64 Dh), (42, s_.2.1), (6, .pointer (some ⟨s_.2.2, 0, none⟩))]) (fun s_ w' => (w'.cell? ⟨D1, 0, none⟩ = some (.int .i64 a1_0) ∧ w'.cell? ⟨D1, 1, none⟩ = some (.int .i64 a1_1) ∧ w'.cell? ⟨D1, 2, none⟩ = some (.slice A1_2 l1_2.length c1_2) ∧ w'.cell? ⟨D1, 3, none⟩ = some (.int .i64 a1_3)) ∧ (Kd.R (Kd.int .i64) 3 w' w.heap.size (fun _ => True) s_.1 De) ∧ (Kd.R (Kd.int .u8) 5 w' w.heap.size (fun _ => True) s_.2.1 Df) ∧ (w'.heap[D1]? = some (.cells #[.int .i64 a1_0, .int .i64 a1_1, .slice A1_2 l1_2.length c1_2, .int .i64 a1_3] 49 (0, 0))) ∧ (w'.heap[D4]? = some (.cells #[.slice none 0 0] 45 (0, 0))) ∧ (w'.heap[s_.2.2]? = some (.cells #[.slice none 0 0] 45 (0, 0))) ∧ (w.heap.size ≤ s_.2.2) ∧ (w.heap.size ≤ s_.2.2) ∧ (D1 ≠ s_.2.2) ∧ (s_.2.2 ≠ D1) ∧ (D4 ≠ s_.2.2) ∧ (s_.2.2 ≠ D4) ∧ (Below w.heap.size w w')) ?_ ?_
      rotate_left
      ·intro hJ5_6_9_14
       refine join_ (σ := Value × Value) 7 (Cmp.bm 10 7) (fun s_ => [(38, s_.1), (39, .int .i64 Dh), (42, s_.2)]) (fun s_ w' => (w'.cell? ⟨D1, 0, none⟩ = some (.int .i64 a1_0) ∧ w'.cell? ⟨D1, 1, none⟩ = some (.int .i64 a1_1) ∧ w'.cell? ⟨D1, 2, none⟩ = some (.slice A1_2 l1_2.length c1_2) ∧ w'.cell? ⟨D1, 3, none⟩ = some (.int .i64 a1_3)) ∧ (Kd.R (Kd.int .i64) 3 w' w.heap.size (fun _ => True) s_.1 De) ∧ (Kd.R (Kd.int .u8) 5 w' w.heap.size (fun _ => True) s_.2 Df) ∧ (w'.heap[D1]? = some (.cells #[.int .i64 a1_0, .int .i64 a1_1, .slice A1_2 l1_2.length c1_2, .int .i64 a1_3] 49 (0, 0))) ∧ (w'.heap[D4]? = some (.cells #[.slice none 0 0] 45 (0, 0))) ∧ (Below w.heap.size w w')) ?_ ?_
       rotate_left
       ·intro hJ5_6_9
        refine join_ (σ := Value × Nat) 7 (Cmp.bb 17 16895) (fun s_ => [(38, s_.1), (39, .int .i64 Dh), (6, .pointer (some ⟨s_.2, 0, none⟩))]) (fun s_ w' => (w'.cell? ⟨D1, 0, none⟩ = some (.int .i64 a1_0) ∧ w'.cell? ⟨D1, 1, none⟩ = some (.int .i64 a1_1) ∧ w'.cell? ⟨D1, 2, none⟩ = some (.slice A1_2 l1_2.length c1_2) ∧ w'.cell? ⟨D1, 3, none⟩ = some (.int .i64 a1_3)) ∧ (Kd.R (Kd.int .i64) 3 w' w.heap.size (fun _ => True) s_.1 De) ∧ (w'.heap[D1]? = some (.cells #[.int .i64 a1_0, .int .i64 a1_1, .slice A1_2 l1_2.length c1_2, .int .i64 a1_3] 49 (0, 0))) ∧ (w'.heap[D4]? = some (.cells #[.slice none 0 0] 45 (0, 0))) ∧ (w'.heap[s_.2]? = some (.cells #[.slice none 0 0] 45 (0, 0))) ∧ (w.heap.size ≤ s_.2) ∧ (w.heap.size ≤ s_.2) ∧ (D1 ≠ s_.2) ∧ (s_.2 ≠ D1) ∧ (D4 ≠ s_.2) ∧ (s_.2 ≠ D4) ∧ (Below w.heap.size w w')) ?_ ?_
        rotate_left
        ·intro hJ5_6_14
         refine join_ (σ := Value) 8 (Cmp.bm 9 8) (fun s_ => [(38, s_), (39, .int .i64 Dh)]) (fun s_ w' => (w'.cell? ⟨D1, 0, none⟩ = some (.int .i64 a1_0) ∧ w'.cell? ⟨D1, 1, none⟩ = some (.int .i64 a1_1) ∧ w'.cell? ⟨D1, 2, none⟩ = some (.slice A1_2 l1_2.length c1_2) ∧ w'.cell? ⟨D1, 3, none⟩ = some (.int .i64 a1_3)) ∧ (Kd.R (Kd.int .i64) 3 w' w.heap.size (fun _ => True) s_ De) ∧ (w'.heap[D1]? = some (.cells #[.int .i64 a1_0, .int .i64 a1_1, .slice A1_2 l1_2.length c1_2, .int .i64 a1_3] 49 (0, 0))) ∧ (w'.heap[D4]? = some (.cells #[.slice none 0 0] 45 (0, 0))) ∧ (Below w.heap.size w w')) ?_ ?_
         rotate_left
         ·intro hJ5_6
          refine join_ (σ := Value × Nat) 8 (Cmp.bb 17 16831) (fun s_ => [(38, s_.1), (6, .pointer (some ⟨s_.2, 0, none⟩))]) (fun s_ w' => (w'.cell? ⟨D1, 0, none⟩ = some (.int .i64 a1_0) ∧ w'.cell? ⟨D1, 1, none⟩ = some (.int .i64 a1_1) ∧ w'.cell? ⟨D1, 2, none⟩ = some (.slice A1_2 l1_2.length c1_2) ∧ w'.cell? ⟨D1, 3, none⟩ = some (.int .i64 a1_3)) ∧ (Kd.R (Kd.int .i64) 3 w' w.heap.size (fun _ => True) s_.1 De) ∧ (w'.heap[D1]? = some (.cells #[.int .i64 a1_0, .int .i64 a1_1, .slice A1_2 l1_2.length c1_2, .int .i64 a1_3] 49 (0, 0))) ∧ (w'.heap[D4]? = some (.cells #[.slice none 0 0] 45 (0, 0))) ∧ (w'.heap[s_.2]? = some (.cells #[.slice none 0 0] 45 (0, 0))) ∧ (w.heap.size ≤ s_.2) ∧ (w.heap.size ≤ s_.2) ∧ (D1 ≠ s_.2) ∧ (s_.2 ≠ D1) ∧ (D4 ≠ s_.2) ∧ (s_.2 ≠ D4) ∧ (Below w.heap.size w w')) ?_ ?_
          rotate_left
          ·intro hJ5_14
           refine join_ (σ := Value) 9 (Cmp.bb 17 447) (fun s_ => [(38, s_)]) (fun s_ w' => (w'.cell? ⟨D1, 0, none⟩ = some (.int .i64 a1_0) ∧ w'.cell? ⟨D1, 1, none⟩ = some (.int .i64 a1_1) ∧ w'.cell? ⟨D1, 2, none⟩ = some (.slice A1_2 l1_2.length c1_2) ∧ w'.cell? ⟨D1, 3, none⟩ = some (.int .i64 a1_3)) ∧ (Kd.R (Kd.int .i64) 3 w' w.heap.size (fun _ => True) s_ De) ∧ (w'.heap[D1]? = some (.cells #[.int .i64 a1_0, .int .i64 a1_1, .slice A1_2 l1_2.length c1_2, .int .i64 a1_3] 49 (0, 0))) ∧ (w'.heap[D4]? = some (.cells #[.slice none 0 0] 45 (0, 0))) ∧ (Below w.heap.size w w')) ?_ ?_
           rotate_left
           ·intro hJ5
            refine join_ (σ := Nat) 9 (Cmp.bb 17 16799) (fun s_ => [(6, .pointer (some ⟨s_, 0, none⟩))]) (fun s_ w' => (w'.cell? ⟨D1, 0, none⟩ = some (.int .i64 a1_0) ∧ w'.cell? ⟨D1, 1, none⟩ = some (.int .i64 a1_1) ∧ w'.cell? ⟨D1, 2, none⟩ = some (.slice A1_2 l1_2.length c1_2) ∧ w'.cell? ⟨D1, 3, none⟩ = some (.int .i64 a1_3)) ∧ (w'.heap[D1]? = some (.cells #[.int .i64 a1_0, .int .i64 a1_1, .slice A1_2 l1_2.length c1_2, .int .i64 a1_3] 49 (0, 0))) ∧ (w'.heap[D4]? = some (.cells #[.slice none 0 0] 45 (0, 0))) ∧ (w'.heap[s_]? = some (.cells #[.slice none 0 0] 45 (0, 0))) ∧ (w.heap.size ≤ s_) ∧ (w.heap.size ≤ s_) ∧ (D1 ≠ s_) ∧ (s_ ≠ D1) ∧ (D4 ≠ s_) ∧ (s_ ≠ D4) ∧ (Below w.heap.size w w')) ?_ ?_
            rotate_left
            ·intro hJ14
             refine two_ (i := 5) (j := 14) (Ni := some 38) (Nj := some 6) (Cmp.bb 17 447) (Cmp.bb 17 16799) rfl rfl rfl rfl (two_of HT_.out (by kernel_rfl)) (by decide) (by decide) (fun K hK => ?_) (fun K hK => ?_)
             ·skip
              refine Kd.R_lit_step (Kd.int .i64) _ 3 ?hg (N := 38) ?hd (xs := ([223, a1_0, a1_1] : List Int)) (inner := [.int .i64 223, .int .i64 a1_0, .int .i64 a1_1]) (ok := fun _ => True) (okp := fun _ => True) ?hr ?hp (fun _ hk => hk) trivial (Below.refl _ _) (Nat.le_refl _) (by simp) ?_; (case hd => rfl); (case hg => rfl); (case hr => first | (go_simp; done) | (go_simp; rfl)); (case hp => exact (Reps.one (Cmp.mi 223) (Reps.one (Cmp.mi a1_0) (Reps.one (Cmp.mi a1_1) (Reps.none _ _)))))
              intro v652 w25 Dq hb hg_ hnew_
              clear hg_ hnew_
              (first | rw [← Dm.out] at Dq | (simp only [Int.reduceToNat] at Dq; rw [← Dm.out] at Dq))
              have D6 := Cmp.A (Kd.R_lower Dq (below_size (Cmp.g HB.out))); replace D0 := Cmp.be D0 hb; replace D2 := Cmp.be D2 hb; replace HB := Cmp.A (below_step (Cmp.g HB.out) hb); clear hb Dq
              refine hK.out _ _ ⟨(Cmp.c0 D0 :), (Cmp.c1 D0 :), (Cmp.c2 D0 :), (Cmp.c3 D0 :)⟩ (fun hHeld => ?_)
              clear hK K
              refine Cmp.no ?_
              exact norm_ Cmp.na (hJ5 (v652) _ ⟨hHeld, (Cmp.rr D6.out), (Cmp.b D0.out), (Cmp.b D2.out), (Cmp.g HB.out)⟩)
             ·skip
              refine box_step ?hg (N := 6) ?hd (cs := #[.slice none 0 0]) (t := 45) ?hr ?_; (case hd => rfl); (case hg => rfl); (case hr => first | (go_simp; done) | (go_simp; rfl))
              intro D3 hg w25 hbox hb
              have Da := Cmp.A (hbox); have Dd := Cmp.A ((by rw [hg]; exact (below_size (Cmp.g HB.out)) : w.heap.size ≤ D3)); have Dc := Cmp.A ((by rw [hg]; exact (below_size (Cmp.g HB.out)) : w.heap.size ≤ D3)); have D5 := Cmp.A ((by rw [hg]; exact Nat.ne_of_lt (blk_lt (g := D1) (o := .cells #[.int .i64 a1_0, .int .i64 a1_1, .slice A1_2 l1_2.length c1_2, .int .i64 a1_3] 49 (0, 0)) (Cmp.b D0.out)) : D1 ≠ D3)); have D8 := Cmp.A ((by rw [hg]; exact Nat.ne_of_gt (blk_lt (g := D1) (o := .cells #[.int .i64 a1_0, .int .i64 a1_1, .slice A1_2 l1_2.length c1_2, .int .i64 a1_3] 49 (0, 0)) (Cmp.b D0.out)) : D3 ≠ D1)); have D7 := Cmp.A ((by rw [hg]; exact Nat.ne_of_lt (blk_lt (g := D4) (o := .cells #[.slice none 0 0] 45 (0, 0)) (Cmp.b D2.out)) : D4 ≠ D3)); have D9 := Cmp.A ((by rw [hg]; exact Nat.ne_of_gt (blk_lt (g := D4) (o := .cells #[.slice none 0 0] 45 (0, 0)) (Cmp.b D2.out)) : D3 ≠ D4)); replace D0 := Cmp.be D0 hb; replace D2 := Cmp.be D2 hb; replace HB := Cmp.A (below_step (Cmp.g HB.out) hb); clear hb hbox hg
              refine hK.out _ _ ⟨(Cmp.c0 D0 :), (Cmp.c1 D0 :), (Cmp.c2 D0 :), (Cmp.c3 D0 :)⟩ (fun hHeld => ?_)
              clear hK K
              refine Cmp.no ?_
              exact norm_ Cmp.na (hJ14 (D3) _ ⟨hHeld, (Cmp.b D0.out), (Cmp.b D2.out), (Cmp.b Da.out), Dd.out, Dc.out, D5.out, D8.out, D7.out, D9.out, (Cmp.g HB.out)⟩)
            ·skip
             rintro D3 w26 ⟨hS_, h0_, h1_, h2_, h3_, h4_, h5_, h6_, h7_, h8_, h9_⟩
             have n0_ : Aside0 (w26.heap[D1]? = some (.cells #[.int .i64 a1_0, .int .i64 a1_1, .slice A1_2 l1_2.length c1_2, .int .i64 a1_3] 49 (0, 0))) := ⟨h0_⟩
             have n1_ : Aside0 (w26.heap[D4]? = some (.cells #[.slice none 0 0] 45 (0, 0))) := ⟨h1_⟩
             have n2_ : Aside0 (w26.heap[D3]? = some (.cells #[.slice none 0 0] 45 (0, 0))) := ⟨h2_⟩
             have n3_ : Aside0 (w.heap.size ≤ D3) := ⟨h3_⟩
             have n4_ : Aside0 (w.heap.size ≤ D3) := ⟨h4_⟩
             have n5_ : Aside0 (D1 ≠ D3) := ⟨h5_⟩
             have n6_ : Aside0 (D3 ≠ D1) := ⟨h6_⟩
             have n7_ : Aside0 (D4 ≠ D3) := ⟨h7_⟩
             have n8_ : Aside0 (D3 ≠ D4) := ⟨h8_⟩
             have n9_ : Aside0 (Below w.heap.size w w26) := ⟨h9_⟩
             clear D0; clear D2; clear HB; clear h0_ h1_ h2_ h3_ h4_ h5_ h6_ h7_ h8_ h9_; have D0 := n0_; have D2 := n1_; have Da := n2_; have Dd := n3_; have Dc := n4_; have D5 := n5_; have D8 := n6_; have D7 := n7_; have D9 := n8_; have HB := n9_; clear n0_ n1_ n2_ n3_ n4_ n5_ n6_ n7_ n8_ n9_
             have hHeld : w26.cell? ⟨D1, 0, none⟩ = some (.int .i64 a1_0) ∧ w26.cell? ⟨D1, 1, none⟩ = some (.int .i64 a1_1) ∧ w26.cell? ⟨D1, 2, none⟩ = some (.slice A1_2 l1_2.length c1_2) ∧ w26.cell? ⟨D1, 3, none⟩ = some (.int .i64 a1_3) := hS_
             refine norm_ (a' := ?_) ?_ ?_
             rotate_left
             ·simp only [putAll, Act.put, List.setIfInBounds_toArray, List.set_cons_zero, List.set_cons_succ]; rfl
             refine one_ (i := 5) (N := some 38) (Cmp.bb 17 16831) rfl rfl (one_of HT_.out (by kernel_rfl)) (by decide) (fun K hK => ?_)
             refine Kd.R_lit_step (Kd.int .i64) _ 3 ?hg (N := 38) ?hd (xs := ([223, a1_0, a1_1] : List Int)) (inner := [.int .i64 223, .int .i64 a1_0, .int .i64 a1_1]) (ok := fun _ => True) (okp := fun _ => True) ?hr ?hp (fun _ hk => hk) trivial (Below.refl _ _) (Nat.le_refl _) (by simp) ?_; (case hd => rfl); (case hg => rfl); (case hr => first | (go_simp; done) | (go_simp; rfl)); (case hp => exact (Reps.one (Cmp.mi 223) (Reps.one (Cmp.mi a1_0) (Reps.one (Cmp.mi a1_1) (Reps.none _ _)))))
             intro v652 w27 Dr hb hg_ hnew_
             clear hg_ hnew_
             (first | rw [← Dm.out] at Dr | (simp only [Int.reduceToNat] at Dr; rw [← Dm.out] at Dr))
             have D6 := Cmp.A (Kd.R_lower Dr (below_size (Cmp.g HB.out))); replace D0 := Cmp.be D0 hb; replace D2 := Cmp.be D2 hb; replace Da := Cmp.be Da hb; replace HB := Cmp.A (below_step (Cmp.g HB.out) hb); clear hb Dr
             refine hK.out _ _ ⟨(Cmp.c0 D0 :), (Cmp.c1 D0 :), (Cmp.c2 D0 :), (Cmp.c3 D0 :)⟩ (fun hHeld => ?_)
             clear hK K
             refine Cmp.no ?_
             exact norm_ Cmp.na (hJ5_14 (v652, D3) _ ⟨hHeld, (Cmp.rr D6.out), (Cmp.b D0.out), (Cmp.b D2.out), (Cmp.b Da.out), Dd.out, Dc.out, D5.out, D8.out, D7.out, D9.out, (Cmp.g HB.out)⟩)
           ·skip
            rintro v652 w27 ⟨hS_, h0_, h1_, h2_, h3_⟩
            have n0_ : Aside0 (Kd.R (Kd.int .i64) 3 w27 w.heap.size (fun _ => True) v652 De) := ⟨h0_⟩
            have n1_ : Aside0 (w27.heap[D1]? = some (.cells #[.int .i64 a1_0, .int .i64 a1_1, .slice A1_2 l1_2.length c1_2, .int .i64 a1_3] 49 (0, 0))) := ⟨h1_⟩
            have n2_ : Aside0 (w27.heap[D4]? = some (.cells #[.slice none 0 0] 45 (0, 0))) := ⟨h2_⟩
            have n3_ : Aside0 (Below w.heap.size w w27) := ⟨h3_⟩
            clear D0; clear D2; clear HB; clear h0_ h1_ h2_ h3_; have D6 := n0_; have D0 := n1_; have D2 := n2_; have HB := n3_; clear n0_ n1_ n2_ n3_
            have hHeld : w27.cell? ⟨D1, 0, none⟩ = some (.int .i64 a1_0) ∧ w27.cell? ⟨D1, 1, none⟩ = some (.int .i64 a1_1) ∧ w27.cell? ⟨D1, 2, none⟩ = some (.slice A1_2 l1_2.length c1_2) ∧ w27.cell? ⟨D1, 3, none⟩ = some (.int .i64 a1_3) := hS_
            obtain ⟨Dt, Dw, Eb⟩ := Kd.R_slice D6.out
            (first | subst Eb | (injection Eb with f1_ f2_ f3_; have f4_ := f1_.symm; have f5_ := f3_.symm; clear f1_ f2_ f3_; subst f4_; subst f5_))
            refine norm_ (a' := ?_) ?_ ?_
            rotate_left
            ·simp only [putAll, Act.put, List.setIfInBounds_toArray, List.set_cons_zero, List.set_cons_succ]; rfl
            refine two_ (i := 6) (j := 14) (Ni := some 39) (Nj := some 6) (Cmp.bm 9 8) (Cmp.bb 17 16831) rfl rfl rfl rfl (two_of HT_.out (by kernel_rfl)) (by decide) (by decide) (fun K hK => ?_) (fun K hK => ?_)
            ·skip
             refine goes_ Try.func63 (by kernel_rfl) rfl #[.int .i64 a0, .slice Dt De.length Dw] (by rfl) rfl rfl Cmp.q ?_
             with_reducible refine (impl_DeriveKey.calls kj2 a0 (fun k_ => some k_ = (.slice Dt De.length Dw : Value).ownBlock) _ _ De Dh _ ?side1 En.out).mono ?_
             (case side1 => exact Kd.R_V (Kd.R_tight rfl (Kd.R_types (Kd.R_types (D6.out) D0.out (by decide)) D2.out (by decide))))
             rintro e w29 ⟨rfl, hb⟩; refine ⟨_, rfl, ?_⟩
             replace D6 := Cmp.A (Kd.R_below (Cmp.rr D6.out) hb); replace D0 := Cmp.be D0 hb; replace D2 := Cmp.be D2 hb; replace HB := Cmp.A (below_step (Cmp.g HB.out) hb); (try clear hb); (try clear hb2); (try clear hk); (try clear hi)
             refine hK.out _ _ ⟨(Cmp.c0 D0 :), (Cmp.c1 D0 :), (Cmp.c2 D0 :), (Cmp.c3 D0 :)⟩ (fun hHeld => ?_)
             clear hK K
             refine Cmp.no ?_
             exact norm_ Cmp.na (hJ5_6 (.slice Dt De.length Dw) _ ⟨hHeld, (Cmp.rr D6.out), (Cmp.b D0.out), (Cmp.b D2.out), (Cmp.g HB.out)⟩)
            ·skip
             refine box_step ?hg (N := 6) ?hd (cs := #[.slice none 0 0]) (t := 45) ?hr ?_; (case hd => rfl); (case hg => rfl); (case hr => first | (go_simp; done) | (go_simp; rfl))
             intro D3 hg w28 hbox hb
             have Da := Cmp.A (hbox); have Dd := Cmp.A ((by rw [hg]; exact (below_size (Cmp.g HB.out)) : w.heap.size ≤ D3)); have Dc := Cmp.A ((by rw [hg]; exact (below_size (Cmp.g HB.out)) : w.heap.size ≤ D3)); have D5 := Cmp.A ((by rw [hg]; exact Nat.ne_of_lt (blk_lt (g := D1) (o := .cells #[.int .i64 a1_0, .int .i64 a1_1, .slice A1_2 l1_2.length c1_2, .int .i64 a1_3] 49 (0, 0)) (Cmp.b D0.out)) : D1 ≠ D3)); have D8 := Cmp.A ((by rw [hg]; exact Nat.ne_of_gt (blk_lt (g := D1) (o := .cells #[.int .i64 a1_0, .int .i64 a1_1, .slice A1_2 l1_2.length c1_2, .int .i64 a1_3] 49 (0, 0)) (Cmp.b D0.out)) : D3 ≠ D1)); have D7 := Cmp.A ((by rw [hg]; exact Nat.ne_of_lt (blk_lt (g := D4) (o := .cells #[.slice none 0 0] 45 (0, 0)) (Cmp.b D2.out)) : D4 ≠ D3)); have D9 := Cmp.A ((by rw [hg]; exact Nat.ne_of_gt (blk_lt (g := D4) (o := .cells #[.slice none 0 0] 45 (0, 0)) (Cmp.b D2.out)) : D3 ≠ D4)); replace D6 := Cmp.A (Kd.R_below (Cmp.rr D6.out) hb); replace D0 := Cmp.be D0 hb; replace D2 := Cmp.be D2 hb; replace HB := Cmp.A (below_step (Cmp.g HB.out) hb); clear hb hbox hg
             refine hK.out _ _ ⟨(Cmp.c0 D0 :), (Cmp.c1 D0 :), (Cmp.c2 D0 :), (Cmp.c3 D0 :)⟩ (fun hHeld => ?_)
             clear hK K
             refine Cmp.no ?_
             exact norm_ Cmp.na (hJ5_14 (_, D3) _ ⟨hHeld, (Cmp.rr D6.out), (Cmp.b D0.out), (Cmp.b D2.out), (Cmp.b Da.out), Dd.out, Dc.out, D5.out, D8.out, D7.out, D9.out, (Cmp.g HB.out)⟩)
          ·skip
           rintro ⟨v652, D3⟩ w28 ⟨hS_, h0_, h1_, h2_, h3_, h4_, h5_, h6_, h7_, h8_, h9_, h10_⟩
           have n0_ : Aside0 (Kd.R (Kd.int .i64) 3 w28 w.heap.size (fun _ => True) v652 De) := ⟨h0_⟩
           have n1_ : Aside0 (w28.heap[D1]? = some (.cells #[.int .i64 a1_0, .int .i64 a1_1, .slice A1_2 l1_2.length c1_2, .int .i64 a1_3] 49 (0, 0))) := ⟨h1_⟩
           have n2_ : Aside0 (w28.heap[D4]? = some (.cells #[.slice none 0 0] 45 (0, 0))) := ⟨h2_⟩
           have n3_ : Aside0 (w28.heap[D3]? = some (.cells #[.slice none 0 0] 45 (0, 0))) := ⟨h3_⟩
           have n4_ : Aside0 (w.heap.size ≤ D3) := ⟨h4_⟩
           have n5_ : Aside0 (w.heap.size ≤ D3) := ⟨h5_⟩
           have n6_ : Aside0 (D1 ≠ D3) := ⟨h6_⟩
           have n7_ : Aside0 (D3 ≠ D1) := ⟨h7_⟩
           have n8_ : Aside0 (D4 ≠ D3) := ⟨h8_⟩
           have n9_ : Aside0 (D3 ≠ D4) := ⟨h9_⟩
           have n10_ : Aside0 (Below w.heap.size w w28) := ⟨h10_⟩
           clear D0; clear D2; clear HB; clear h0_ h1_ h2_ h3_ h4_ h5_ h6_ h7_ h8_ h9_ h10_; have D6 := n0_; have D0 := n1_; have D2 := n2_; have Da := n3_; have Dd := n4_; have Dc := n5_; have D5 := n6_; have D8 := n7_; have D7 := n8_; have D9 := n9_; have HB := n10_; clear n0_ n1_ n2_ n3_ n4_ n5_ n6_ n7_ n8_ n9_ n10_
           have hHeld : w28.cell? ⟨D1, 0, none⟩ = some (.int .i64 a1_0) ∧ w28.cell? ⟨D1, 1, none⟩ = some (.int .i64 a1_1) ∧ w28.cell? ⟨D1, 2, none⟩ = some (.slice A1_2 l1_2.length c1_2) ∧ w28.cell? ⟨D1, 3, none⟩ = some (.int .i64 a1_3) := hS_
           obtain ⟨Du, Dx, Ec⟩ := Kd.R_slice D6.out
           (first | subst Ec | (injection Ec with f1_ f2_ f3_; have f4_ := f1_.symm; have f5_ := f3_.symm; clear f1_ f2_ f3_; subst f4_; subst f5_))
           refine norm_ (a' := ?_) ?_ ?_
           rotate_left
           ·simp only [putAll, Act.put, List.setIfInBounds_toArray, List.set_cons_zero, List.set_cons_succ]; rfl
           refine one_ (i := 6) (N := some 39) (Cmp.bb 17 16895) rfl rfl (one_of HT_.out (by kernel_rfl)) (by decide) (fun K hK => ?_)
           refine goes_ Try.func63 (by kernel_rfl) rfl #[.int .i64 a0, .slice Du De.length Dx] (by rfl) rfl rfl Cmp.q ?_
           with_reducible refine (impl_DeriveKey.calls kj2 a0 (fun k_ => some k_ = (.slice Du De.length Dx : Value).ownBlock) _ _ De Dh _ ?side1 En.out).mono ?_
           (case side1 => exact Kd.R_V (Kd.R_tight rfl (Kd.R_types (Kd.R_types (Kd.R_types (D6.out) D0.out (by decide)) D2.out (by decide)) Da.out (by decide))))
           rintro e w30 ⟨rfl, hb⟩; refine ⟨_, rfl, ?_⟩
           replace D6 := Cmp.A (Kd.R_below (Cmp.rr D6.out) hb); replace D0 := Cmp.be D0 hb; replace D2 := Cmp.be D2 hb; replace Da := Cmp.be Da hb; replace HB := Cmp.A (below_step (Cmp.g HB.out) hb); (try clear hb); (try clear hb2); (try clear hk); (try clear hi)
           refine hK.out _ _ ⟨(Cmp.c0 D0 :), (Cmp.c1 D0 :), (Cmp.c2 D0 :), (Cmp.c3 D0 :)⟩ (fun hHeld => ?_)
           clear hK K
           refine Cmp.no ?_
           exact norm_ Cmp.na (hJ5_6_14 (.slice Du De.length Dx, D3) _ ⟨hHeld, (Cmp.rr D6.out), (Cmp.b D0.out), (Cmp.b D2.out), (Cmp.b Da.out), Dd.out, Dc.out, D5.out, D8.out, D7.out, D9.out, (Cmp.g HB.out)⟩)
         ·skip
          rintro v652 w29 ⟨hS_, h0_, h1_, h2_, h3_⟩
          have n0_ : Aside0 (Kd.R (Kd.int .i64) 3 w29 w.heap.size (fun _ => True) v652 De) := ⟨h0_⟩
          have n1_ : Aside0 (w29.heap[D1]? = some (.cells #[.int .i64 a1_0, .int .i64 a1_1, .slice A1_2 l1_2.length c1_2, .int .i64 a1_3] 49 (0, 0))) := ⟨h1_⟩
          have n2_ : Aside0 (w29.heap[D4]? = some (.cells #[.slice none 0 0] 45 (0, 0))) := ⟨h2_⟩
          have n3_ : Aside0 (Below w.heap.size w w29) := ⟨h3_⟩
          clear D0; clear D2; clear HB; clear h0_ h1_ h2_ h3_; have D6 := n0_; have D0 := n1_; have D2 := n2_; have HB := n3_; clear n0_ n1_ n2_ n3_
          have hHeld : w29.cell? ⟨D1, 0, none⟩ = some (.int .i64 a1_0) ∧ w29.cell? ⟨D1, 1, none⟩ = some (.int .i64 a1_1) ∧ w29.cell? ⟨D1, 2, none⟩ = some (.slice A1_2 l1_2.length c1_2) ∧ w29.cell? ⟨D1, 3, none⟩ = some (.int .i64 a1_3) := hS_
          refine norm_ (a' := ?_) ?_ ?_
          rotate_left
          ·simp only [putAll, Act.put, List.setIfInBounds_toArray, List.set_cons_zero, List.set_cons_succ]; rfl
          refine two_ (i := 9) (j := 14) (Ni := some 42) (Nj := some 6) (Cmp.bm 10 7) (Cmp.bb 17 16895) rfl rfl rfl rfl (two_of HT_.out (by kernel_rfl)) (by decide) (by decide) (fun K hK => ?_) (fun K hK => ?_)
          ·skip
           refine goes_ Try.func71 (by kernel_rfl) rfl #[.int .i64 Dh, .slice A1_2 l1_2.length c1_2] (by rfl) rfl rfl Cmp.q ?_
           with_reducible refine (impl_Decrypt.calls kj2 Dh _ _ l1_2 Df _ ?side1 ?side2 Eo.out).mono ?_
           (case side1 => exact Cmp.rc (Kd.C_below Do.out HB.out))
           (case side2 => exact HC1_2.out)
           rintro e w30 ⟨v656, rfl, Dp, hb⟩; refine ⟨_, rfl, ?_⟩
           have Db := Cmp.A (Kd.R_lower Dp (below_size (Cmp.g HB.out))); replace D6 := Cmp.A (Kd.R_below (Cmp.rr D6.out) hb); replace D0 := Cmp.be D0 hb; replace D2 := Cmp.be D2 hb; replace HB := Cmp.A (below_step (Cmp.g HB.out) hb); (try clear hb); (try clear hb2); (try clear hk); (try clear hi); (try clear Dp)
           refine hK.out _ _ ⟨(Cmp.c0 D0 :), (Cmp.c1 D0 :), (Cmp.c2 D0 :), (Cmp.c3 D0 :)⟩ (fun hHeld => ?_)
           clear hK K
           refine Cmp.no ?_
           exact norm_ Cmp.na (hJ5_6_9 (v652, v656) _ ⟨hHeld, (Cmp.rr D6.out), (Cmp.rr Db.out), (Cmp.b D0.out), (Cmp.b D2.out), (Cmp.g HB.out)⟩)
          ·skip
           refine box_step ?hg (N := 6) ?hd (cs := #[.slice none 0 0]) (t := 45) ?hr ?_; (case hd => rfl); (case hg => rfl); (case hr => first | (go_simp; done) | (go_simp; rfl))
           intro D3 hg w30 hbox hb
           have Da := Cmp.A (hbox); have Dd := Cmp.A ((by rw [hg]; exact (below_size (Cmp.g HB.out)) : w.heap.size ≤ D3)); have Dc := Cmp.A ((by rw [hg]; exact (below_size (Cmp.g HB.out)) : w.heap.size ≤ D3)); have D5 := Cmp.A ((by rw [hg]; exact Nat.ne_of_lt (blk_lt (g := D1) (o := .cells #[.int .i64 a1_0, .int .i64 a1_1, .slice A1_2 l1_2.length c1_2, .int .i64 a1_3] 49 (0, 0)) (Cmp.b D0.out)) : D1 ≠ D3)); have D8 := Cmp.A ((by rw [hg]; exact Nat.ne_of_gt (blk_lt (g := D1) (o := .cells #[.int .i64 a1_0, .int .i64 a1_1, .slice A1_2 l1_2.length c1_2, .int .i64 a1_3] 49 (0, 0)) (Cmp.b D0.out)) : D3 ≠ D1)); have D7 := Cmp.A ((by rw [hg]; exact Nat.ne_of_lt (blk_lt (g := D4) (o := .cells #[.slice none 0 0] 45 (0, 0)) (Cmp.b D2.out)) : D4 ≠ D3)); have D9 := Cmp.A ((by rw [hg]; exact Nat.ne_of_gt (blk_lt (g := D4) (o := .cells #[.slice none 0 0] 45 (0, 0)) (Cmp.b D2.out)) : D3 ≠ D4)); replace D6 := Cmp.A (Kd.R_below (Cmp.rr D6.out) hb); replace D0 := Cmp.be D0 hb; replace D2 := Cmp.be D2 hb; replace HB := Cmp.A (below_step (Cmp.g HB.out) hb); clear hb hbox hg
           refine hK.out _ _ ⟨(Cmp.c0 D0 :), (Cmp.c1 D0 :), (Cmp.c2 D0 :), (Cmp.c3 D0 :)⟩ (fun hHeld => ?_)
           clear hK K
           refine Cmp.no ?_
           exact norm_ Cmp.na (hJ5_6_14 (v652, D3) _ ⟨hHeld, (Cmp.rr D6.out), (Cmp.b D0.out), (Cmp.b D2.out), (Cmp.b Da.out), Dd.out, Dc.out, D5.out, D8.out, D7.out, D9.out, (Cmp.g HB.out)⟩)
        ·skip
         rintro ⟨v652, D3⟩ w30 ⟨hS_, h0_, h1_, h2_, h3_, h4_, h5_, h6_, h7_, h8_, h9_, h10_⟩
         have n0_ : Aside0 (Kd.R (Kd.int .i64) 3 w30 w.heap.size (fun _ => True) v652 De) := ⟨h0_⟩
         have n1_ : Aside0 (w30.heap[D1]? = some (.cells #[.int .i64 a1_0, .int .i64 a1_1, .slice A1_2 l1_2.length c1_2, .int .i64 a1_3] 49 (0, 0))) := ⟨h1_⟩
         have n2_ : Aside0 (w30.heap[D4]? = some (.cells #[.slice none 0 0] 45 (0, 0))) := ⟨h2_⟩
         have n3_ : Aside0 (w30.heap[D3]? = some (.cells #[.slice none 0 0] 45 (0, 0))) := ⟨h3_⟩
         have n4_ : Aside0 (w.heap.size ≤ D3) := ⟨h4_⟩
         have n5_ : Aside0 (w.heap.size ≤ D3) := ⟨h5_⟩
         have n6_ : Aside0 (D1 ≠ D3) := ⟨h6_⟩
         have n7_ : Aside0 (D3 ≠ D1) := ⟨h7_⟩
         have n8_ : Aside0 (D4 ≠ D3) := ⟨h8_⟩
         have n9_ : Aside0 (D3 ≠ D4) := ⟨h9_⟩
         have n10_ : Aside0 (Below w.heap.size w w30) := ⟨h10_⟩
         clear D0; clear D2; clear HB; clear h0_ h1_ h2_ h3_ h4_ h5_ h6_ h7_ h8_ h9_ h10_; have D6 := n0_; have D0 := n1_; have D2 := n2_; have Da := n3_; have Dd := n4_; have Dc := n5_; have D5 := n6_; have D8 := n7_; have D7 := n8_; have D9 := n9_; have HB := n10_; clear n0_ n1_ n2_ n3_ n4_ n5_ n6_ n7_ n8_ n9_ n10_
         have hHeld : w30.cell? ⟨D1, 0, none⟩ = some (.int .i64 a1_0) ∧ w30.cell? ⟨D1, 1, none⟩ = some (.int .i64 a1_1) ∧ w30.cell? ⟨D1, 2, none⟩ = some (.slice A1_2 l1_2.length c1_2) ∧ w30.cell? ⟨D1, 3, none⟩ = some (.int .i64 a1_3) := hS_
         refine norm_ (a' := ?_) ?_ ?_
         rotate_left
         ·simp only [putAll, Act.put, List.setIfInBounds_toArray, List.set_cons_zero, List.set_cons_succ]; rfl
         refine one_ (i := 9) (N := some 42) (Cmp.bb 17 17407) rfl rfl (one_of HT_.out (by kernel_rfl)) (by decide) (fun K hK => ?_)
         refine goes_ Try.func71 (by kernel_rfl) rfl #[.int .i64 Dh, .slice A1_2 l1_2.length c1_2] (by rfl) rfl rfl Cmp.q ?_
         with_reducible refine (impl_Decrypt.calls kj2 Dh _ _ l1_2 Df _ ?side1 ?side2 Eo.out).mono ?_
         (case side1 => exact Cmp.rc (Kd.C_below Do.out HB.out))
         (case side2 => exact HC1_2.out)
         rintro e w31 ⟨v656, rfl, Dp, hb⟩; refine ⟨_, rfl, ?_⟩
         have Db := Cmp.A (Kd.R_lower Dp (below_size (Cmp.g HB.out))); replace D6 := Cmp.A (Kd.R_below (Cmp.rr D6.out) hb); replace D0 := Cmp.be D0 hb; replace D2 := Cmp.be D2 hb; replace Da := Cmp.be Da hb; replace HB := Cmp.A (below_step (Cmp.g HB.out) hb); (try clear hb); (try clear hb2); (try clear hk); (try clear hi); (try clear Dp)
         refine hK.out _ _ ⟨(Cmp.c0 D0 :), (Cmp.c1 D0 :), (Cmp.c2 D0 :), (Cmp.c3 D0 :)⟩ (fun hHeld => ?_)
         clear hK K
         refine Cmp.no ?_
         exact norm_ Cmp.na (hJ5_6_9_14 (v652, v656, D3) _ ⟨hHeld, (Cmp.rr D6.out), (Cmp.rr Db.out), (Cmp.b D0.out), (Cmp.b D2.out), (Cmp.b Da.out), Dd.out, Dc.out, D5.out, D8.out, D7.out, D9.out, (Cmp.g HB.out)⟩)
       ·skip
        rintro ⟨v652, v656⟩ w30 ⟨hS_, h0_, h1_, h2_, h3_, h4_⟩
        have n0_ : Aside0 (Kd.R (Kd.int .i64) 3 w30 w.heap.size (fun _ => True) v652 De) := ⟨h0_⟩
        have n1_ : Aside0 (Kd.R (Kd.int .u8) 5 w30 w.heap.size (fun _ => True) v656 Df) := ⟨h1_⟩
        have n2_ : Aside0 (w30.heap[D1]? = some (.cells #[.int .i64 a1_0, .int .i64 a1_1, .slice A1_2 l1_2.length c1_2, .int .i64 a1_3] 49 (0, 0))) := ⟨h2_⟩
        have n3_ : Aside0 (w30.heap[D4]? = some (.cells #[.slice none 0 0] 45 (0, 0))) := ⟨h3_⟩
        have n4_ : Aside0 (Below w.heap.size w w30) := ⟨h4_⟩
        clear D0; clear D2; clear HB; clear h0_ h1_ h2_ h3_ h4_; have D6 := n0_; have Db := n1_; have D0 := n2_; have D2 := n3_; have HB := n4_; clear n0_ n1_ n2_ n3_ n4_
        have hHeld : w30.cell? ⟨D1, 0, none⟩ = some (.int .i64 a1_0) ∧ w30.cell? ⟨D1, 1, none⟩ = some (.int .i64 a1_1) ∧ w30.cell? ⟨D1, 2, none⟩ = some (.slice A1_2 l1_2.length c1_2) ∧ w30.cell? ⟨D1, 3, none⟩ = some (.int .i64 a1_3) := hS_
        obtain ⟨E7, E9, Ed⟩ := Kd.R_slice Db.out
        (first | subst Ed | (injection Ed with f1_ f2_ f3_; have f4_ := f1_.symm; have f5_ := f3_.symm; clear f1_ f2_ f3_; subst f4_; subst f5_))
        refine norm_ (a' := ?_) ?_ ?_
        rotate_left
        ·simp only [putAll, Act.put, List.setIfInBounds_toArray, List.set_cons_zero, List.set_cons_succ]; rfl
        refine two_ (i := 10) (j := 14) (Ni := some 43) (Nj := some 6) (Cmp.bm 11 6) (Cmp.bb 17 17407) rfl rfl rfl rfl (two_of HT_.out (by kernel_rfl)) (by decide) (by decide) (fun K hK => ?_) (fun K hK => ?_)
        ·skip
         refine goes_ Try.func24 (by kernel_rfl) rfl #[.slice E7 Df.length E9] (by rfl) rfl rfl Cmp.q ?_
         with_reducible refine (impl_DecodeBundle.calls kj2 _ _ Df Dk Dl _ ?side1 ?side2 Ep.out).mono ?_
         (case side1 => exact Cmp.rc (Kd.R_reads' Db.out).2.2)
         (case side2 => exact (Kd.R_reads' Db.out).2.1)
         rintro e w32 ⟨v659, rfl, Dp, hb⟩; refine ⟨_, rfl, ?_⟩
         have Dg := Cmp.A (Kd.R_lower Dp (below_size (Cmp.g HB.out))); replace D6 := Cmp.A (Kd.R_below (Cmp.rr D6.out) hb); replace Db := Cmp.A (Kd.R_below (Cmp.rr Db.out) hb); replace D0 := Cmp.be D0 hb; replace D2 := Cmp.be D2 hb; replace HB := Cmp.A (below_step (Cmp.g HB.out) hb); (try clear hb); (try clear hb2); (try clear hk); (try clear hi); (try clear Dp)
         refine hK.out _ _ ⟨(Cmp.c0 D0 :), (Cmp.c1 D0 :), (Cmp.c2 D0 :), (Cmp.c3 D0 :)⟩ (fun hHeld => ?_)
         clear hK K
         refine Cmp.no ?_
         refine Cmp.pu HT_ 11 32 (Cmp.bm 12 5) ?_; refine Cmp.pu HT_ 12 44 (Cmp.bm 13 4) ?_; refine Cmp.pu HT_ 13 45 (Cmp.bm 14 3) ?_
         exact norm_ Cmp.na (hJ5_6_9_10 (v652, .slice E7 Df.length E9, v659) _ ⟨hHeld, (Cmp.rr D6.out), (Cmp.rr Db.out), (Cmp.rr Dg.out), (Cmp.b D0.out), (Cmp.b D2.out), (Cmp.g HB.out)⟩)
        ·skip
         refine box_step ?hg (N := 6) ?hd (cs := #[.slice none 0 0]) (t := 45) ?hr ?_; (case hd => rfl); (case hg => rfl); (case hr => first | (go_simp; done) | (go_simp; rfl))
         intro D3 hg w31 hbox hb
         have Da := Cmp.A (hbox); have Dd := Cmp.A ((by rw [hg]; exact (below_size (Cmp.g HB.out)) : w.heap.size ≤ D3)); have Dc := Cmp.A ((by rw [hg]; exact (below_size (Cmp.g HB.out)) : w.heap.size ≤ D3)); have D5 := Cmp.A ((by rw [hg]; exact Nat.ne_of_lt (blk_lt (g := D1) (o := .cells #[.int .i64 a1_0, .int .i64 a1_1, .slice A1_2 l1_2.length c1_2, .int .i64 a1_3] 49 (0, 0)) (Cmp.b D0.out)) : D1 ≠ D3)); have D8 := Cmp.A ((by rw [hg]; exact Nat.ne_of_gt (blk_lt (g := D1) (o := .cells #[.int .i64 a1_0, .int .i64 a1_1, .slice A1_2 l1_2.length c1_2, .int .i64 a1_3] 49 (0, 0)) (Cmp.b D0.out)) : D3 ≠ D1)); have D7 := Cmp.A ((by rw [hg]; exact Nat.ne_of_lt (blk_lt (g := D4) (o := .cells #[.slice none 0 0] 45 (0, 0)) (Cmp.b D2.out)) : D4 ≠ D3)); have D9 := Cmp.A ((by rw [hg]; exact Nat.ne_of_gt (blk_lt (g := D4) (o := .cells #[.slice none 0 0] 45 (0, 0)) (Cmp.b D2.out)) : D3 ≠ D4)); replace D6 := Cmp.A (Kd.R_below (Cmp.rr D6.out) hb); replace Db := Cmp.A (Kd.R_below (Cmp.rr Db.out) hb); replace D0 := Cmp.be D0 hb; replace D2 := Cmp.be D2 hb; replace HB := Cmp.A (below_step (Cmp.g HB.out) hb); clear hb hbox hg
         refine hK.out _ _ ⟨(Cmp.c0 D0 :), (Cmp.c1 D0 :), (Cmp.c2 D0 :), (Cmp.c3 D0 :)⟩ (fun hHeld => ?_)
         clear hK K
         refine Cmp.no ?_
         exact norm_ Cmp.na (hJ5_6_9_14 (v652, _, D3) _ ⟨hHeld, (Cmp.rr D6.out), (Cmp.rr Db.out), (Cmp.b D0.out), (Cmp.b D2.out), (Cmp.b Da.out), Dd.out, Dc.out, D5.out, D8.out, D7.out, D9.out, (Cmp.g HB.out)⟩)
      ·skip
       rintro ⟨v652, v656, D3⟩ w31 ⟨hS_, h0_, h1_, h2_, h3_, h4_, h5_, h6_, h7_, h8_, h9_, h10_, h11_⟩
       have n0_ : Aside0 (Kd.R (Kd.int .i64) 3 w31 w.heap.size (fun _ => True) v652 De) := ⟨h0_⟩
       have n1_ : Aside0 (Kd.R (Kd.int .u8) 5 w31 w.heap.size (fun _ => True) v656 Df) := ⟨h1_⟩
       have n2_ : Aside0 (w31.heap[D1]? = some (.cells #[.int .i64 a1_0, .int .i64 a1_1, .slice A1_2 l1_2.length c1_2, .int .i64 a1_3] 49 (0, 0))) := ⟨h2_⟩
       have n3_ : Aside0 (w31.heap[D4]? = some (.cells #[.slice none 0 0] 45 (0, 0))) := ⟨h3_⟩
       have n4_ : Aside0 (w31.heap[D3]? = some (.cells #[.slice none 0 0] 45 (0, 0))) := ⟨h4_⟩
       have n5_ : Aside0 (w.heap.size ≤ D3) := ⟨h5_⟩
       have n6_ : Aside0 (w.heap.size ≤ D3) := ⟨h6_⟩
       have n7_ : Aside0 (D1 ≠ D3) := ⟨h7_⟩
       have n8_ : Aside0 (D3 ≠ D1) := ⟨h8_⟩
       have n9_ : Aside0 (D4 ≠ D3) := ⟨h9_⟩
       have n10_ : Aside0 (D3 ≠ D4) := ⟨h10_⟩
       have n11_ : Aside0 (Below w.heap.size w w31) := ⟨h11_⟩
       clear D0; clear D2; clear HB; clear h0_ h1_ h2_ h3_ h4_ h5_ h6_ h7_ h8_ h9_ h10_ h11_; have D6 := n0_; have Db := n1_; have D0 := n2_; have D2 := n3_; have Da := n4_; have Dd := n5_; have Dc := n6_; have D5 := n7_; have D8 := n8_; have D7 := n9_; have D9 := n10_; have HB := n11_; clear n0_ n1_ n2_ n3_ n4_ n5_ n6_ n7_ n8_ n9_ n10_ n11_
       have hHeld : w31.cell? ⟨D1, 0, none⟩ = some (.int .i64 a1_0) ∧ w31.cell? ⟨D1, 1, none⟩ = some (.int .i64 a1_1) ∧ w31.cell? ⟨D1, 2, none⟩ = some (.slice A1_2 l1_2.length c1_2) ∧ w31.cell? ⟨D1, 3, none⟩ = some (.int .i64 a1_3) := hS_
       obtain ⟨E8, Ea, Ee⟩ := Kd.R_slice Db.out
       (first | subst Ee | (injection Ee with f1_ f2_ f3_; have f4_ := f1_.symm; have f5_ := f3_.symm; clear f1_ f2_ f3_; subst f4_; subst f5_))
       refine norm_ (a' := ?_) ?_ ?_
       rotate_left
       ·simp only [putAll, Act.put, List.setIfInBounds_toArray, List.set_cons_zero, List.set_cons_succ]; rfl
       refine one_ (i := 10) (N := some 43) (Cmp.bb 17 18431) rfl rfl (one_of HT_.out (by kernel_rfl)) (by decide) (fun K hK => ?_)
       refine goes_ Try.func24 (by kernel_rfl) rfl #[.slice E8 Df.length Ea] (by rfl) rfl rfl Cmp.q ?_
       with_reducible refine (impl_DecodeBundle.calls kj2 _ _ Df Dk Dl _ ?side1 ?side2 Ep.out).mono ?_
       (case side1 => exact Cmp.rc (Kd.R_reads' Db.out).2.2)
       (case side2 => exact (Kd.R_reads' Db.out).2.1)
       rintro e w33 ⟨v659, rfl, Dp, hb⟩; refine ⟨_, rfl, ?_⟩
       have Dg := Cmp.A (Kd.R_lower Dp (below_size (Cmp.g HB.out))); replace D6 := Cmp.A (Kd.R_below (Cmp.rr D6.out) hb); replace Db := Cmp.A (Kd.R_below (Cmp.rr Db.out) hb); replace D0 := Cmp.be D0 hb; replace D2 := Cmp.be D2 hb; replace Da := Cmp.be Da hb; replace HB := Cmp.A (below_step (Cmp.g HB.out) hb); (try clear hb); (try clear hb2); (try clear hk); (try clear hi); (try clear Dp)
       refine hK.out _ _ ⟨(Cmp.c0 D0 :), (Cmp.c1 D0 :), (Cmp.c2 D0 :), (Cmp.c3 D0 :)⟩ (fun hHeld => ?_)
       clear hK K
       refine Cmp.no ?_
       refine Cmp.pu HT_ 11 32 (Cmp.bb 17 20479) ?_; refine Cmp.pu HT_ 12 44 (Cmp.bb 17 24575) ?_; refine Cmp.pu HT_ 13 45 (Cmp.bm 15 2) ?_
       exact norm_ Cmp.na (hJ5_6_9_10_14 (v652, .slice E8 Df.length Ea, v659, D3) _ ⟨hHeld, (Cmp.rr D6.out), (Cmp.rr Db.out), (Cmp.rr Dg.out), (Cmp.b D0.out), (Cmp.b D2.out), (Cmp.b Da.out), Dd.out, Dc.out, D5.out, D8.out, D7.out, D9.out, (Cmp.g HB.out)⟩)
     ·skip
      rintro ⟨v652, v656, v659⟩ w32 ⟨hS_, h0_, h1_, h2_, h3_, h4_, h5_⟩
      have n0_ : Aside0 (Kd.R (Kd.int .i64) 3 w32 w.heap.size (fun _ => True) v652 De) := ⟨h0_⟩
      have n1_ : Aside0 (Kd.R (Kd.int .u8) 5 w32 w.heap.size (fun _ => True) v656 Df) := ⟨h1_⟩
      have n2_ : Aside0 (Kd.R k94 94 w32 w.heap.size (fun _ => True) v659 Dk) := ⟨h2_⟩
      have n3_ : Aside0 (w32.heap[D1]? = some (.cells #[.int .i64 a1_0, .int .i64 a1_1, .slice A1_2 l1_2.length c1_2, .int .i64 a1_3] 49 (0, 0))) := ⟨h3_⟩
      have n4_ : Aside0 (w32.heap[D4]? = some (.cells #[.slice none 0 0] 45 (0, 0))) := ⟨h4_⟩
      have n5_ : Aside0 (Below w.heap.size w w32) := ⟨h5_⟩
      clear D0; clear D2; clear HB; clear h0_ h1_ h2_ h3_ h4_ h5_; have D6 := n0_; have Db := n1_; have Dg := n2_; have D0 := n3_; have D2 := n4_; have HB := n5_; clear n0_ n1_ n2_ n3_ n4_ n5_
      have hHeld : w32.cell? ⟨D1, 0, none⟩ = some (.int .i64 a1_0) ∧ w32.cell? ⟨D1, 1, none⟩ = some (.int .i64 a1_1) ∧ w32.cell? ⟨D1, 2, none⟩ = some (.slice A1_2 l1_2.length c1_2) ∧ w32.cell? ⟨D1, 3, none⟩ = some (.int .i64 a1_3) := hS_
      refine norm_ (a' := ?_) ?_ ?_
      rotate_left
      ·simp only [putAll, Act.put, List.setIfInBounds_toArray, List.set_cons_zero, List.set_cons_succ]; rfl
      refine one_ (i := 14) (N := some 6) (Cmp.bm 15 2) rfl rfl (one_of HT_.out (by kernel_rfl)) (by decide) (fun K hK => ?_)
      refine box_step ?hg (N := 6) ?hd (cs := #[.slice none 0 0]) (t := 45) ?hr ?_; (case hd => rfl); (case hg => rfl); (case hr => first | (go_simp; done) | (go_simp; rfl))
      intro D3 hg w33 hbox hb
      have Da := Cmp.A (hbox); have Dd := Cmp.A ((by rw [hg]; exact (below_size (Cmp.g HB.out)) : w.heap.size ≤ D3)); have Dc := Cmp.A ((by rw [hg]; exact (below_size (Cmp.g HB.out)) : w.heap.size ≤ D3)); have D5 := Cmp.A ((by rw [hg]; exact Nat.ne_of_lt (blk_lt (g := D1) (o := .cells #[.int .i64 a1_0, .int .i64 a1_1, .slice A1_2 l1_2.length c1_2, .int .i64 a1_3] 49 (0, 0)) (Cmp.b D0.out)) : D1 ≠ D3)); have D8 := Cmp.A ((by rw [hg]; exact Nat.ne_of_gt (blk_lt (g := D1) (o := .cells #[.int .i64 a1_0, .int .i64 a1_1, .slice A1_2 l1_2.length c1_2, .int .i64 a1_3] 49 (0, 0)) (Cmp.b D0.out)) : D3 ≠ D1)); have D7 := Cmp.A ((by rw [hg]; exact Nat.ne_of_lt (blk_lt (g := D4) (o := .cells #[.slice none 0 0] 45 (0, 0)) (Cmp.b D2.out)) : D4 ≠ D3)); have D9 := Cmp.A ((by rw [hg]; exact Nat.ne_of_gt (blk_lt (g := D4) (o := .cells #[.slice none 0 0] 45 (0, 0)) (Cmp.b D2.out)) : D3 ≠ D4)); replace D6 := Cmp.A (Kd.R_below (Cmp.rr D6.out) hb); replace Db := Cmp.A (Kd.R_below (Cmp.rr Db.out) hb); replace Dg := Cmp.A (Kd.R_below (Cmp.rr Dg.out) hb); replace D0 := Cmp.be D0 hb; replace D2 := Cmp.be D2 hb; replace HB := Cmp.A (below_step (Cmp.g HB.out) hb); clear hb hbox hg
      refine hK.out _ _ ⟨(Cmp.c0 D0 :), (Cmp.c1 D0 :), (Cmp.c2 D0 :), (Cmp.c3 D0 :)⟩ (fun hHeld => ?_)
      clear hK K
      refine Cmp.no ?_
      exact norm_ Cmp.na (hJ5_6_9_10_14 (v652, v656, v659, D3) _ ⟨hHeld, (Cmp.rr D6.out), (Cmp.rr Db.out), (Cmp.rr Dg.out), (Cmp.b D0.out), (Cmp.b D2.out), (Cmp.b Da.out), Dd.out, Dc.out, D5.out, D8.out, D7.out, D9.out, (Cmp.g HB.out)⟩)
    rintro ⟨v652, v656, v659, D3⟩ w33 ⟨hS_, h0_, h1_, h2_, h3_, h4_, h5_, h6_, h7_, h8_, h9_, h10_, h11_, h12_⟩
    have n0_ : Aside0 (Kd.R (Kd.int .i64) 3 w33 w.heap.size (fun _ => True) v652 De) := ⟨h0_⟩
    have n1_ : Aside0 (Kd.R (Kd.int .u8) 5 w33 w.heap.size (fun _ => True) v656 Df) := ⟨h1_⟩
    have n2_ : Aside0 (Kd.R k94 94 w33 w.heap.size (fun _ => True) v659 Dk) := ⟨h2_⟩
    have n3_ : Aside0 (w33.heap[D1]? = some (.cells #[.int .i64 a1_0, .int .i64 a1_1, .slice A1_2 l1_2.length c1_2, .int .i64 a1_3] 49 (0, 0))) := ⟨h3_⟩
    have n4_ : Aside0 (w33.heap[D4]? = some (.cells #[.slice none 0 0] 45 (0, 0))) := ⟨h4_⟩
    have n5_ : Aside0 (w33.heap[D3]? = some (.cells #[.slice none 0 0] 45 (0, 0))) := ⟨h5_⟩
    have n6_ : Aside0 (w.heap.size ≤ D3) := ⟨h6_⟩
    have n7_ : Aside0 (w.heap.size ≤ D3) := ⟨h7_⟩
    have n8_ : Aside0 (D1 ≠ D3) := ⟨h8_⟩
    have n9_ : Aside0 (D3 ≠ D1) := ⟨h9_⟩
    have n10_ : Aside0 (D4 ≠ D3) := ⟨h10_⟩
    have n11_ : Aside0 (D3 ≠ D4) := ⟨h11_⟩
    have n12_ : Aside0 (Below w.heap.size w w33) := ⟨h12_⟩
    clear D0; clear D2; clear HB; clear h0_ h1_ h2_ h3_ h4_ h5_ h6_ h7_ h8_ h9_ h10_ h11_ h12_; have D6 := n0_; have Db := n1_; have Dg := n2_; have D0 := n3_; have D2 := n4_; have Da := n5_; have Dd := n6_; have Dc := n7_; have D5 := n8_; have D8 := n9_; have D7 := n10_; have D9 := n11_; have HB := n12_; clear n0_ n1_ n2_ n3_ n4_ n5_ n6_ n7_ n8_ n9_ n10_ n11_ n12_
    have hHeld : w33.cell? ⟨D1, 0, none⟩ = some (.int .i64 a1_0) ∧ w33.cell? ⟨D1, 1, none⟩ = some (.int .i64 a1_1) ∧ w33.cell? ⟨D1, 2, none⟩ = some (.slice A1_2 l1_2.length c1_2) ∧ w33.cell? ⟨D1, 3, none⟩ = some (.int .i64 a1_3) := hS_
    obtain ⟨Dv, Dy, Ef⟩ := Kd.R_slice Dg.out
    (first | subst Ef | (injection Ef with f1_ f2_ f3_; have f4_ := f1_.symm; have f5_ := f3_.symm; clear f1_ f2_ f3_; subst f4_; subst f5_))
    refine norm_ (a' := ?_) ?_ ?_
    rotate_left
    ·simp only [putAll, Act.put, List.setIfInBounds_toArray, List.set_cons_zero, List.set_cons_succ]; rfl
    refine one_ (i := 15) (N := none) (Cmp.bm 16 1) rfl rfl (one_of HT_.out (by kernel_rfl)) (by decide) (fun K hK => ?_)
    have hs35 : w33.cell? ⟨D3, 0, none⟩ = some (.slice none 0 0) := (blk_cell Da.out 0).trans rfl
    have hfs35 := blk_frozen Da.out 0; have hns35_0 := D5.out; have hns35_1 := D7.out; have hms35_0 := D8.out; have hms35_1 := D9.out
    refine skip_ (w1 := ?_) (by rfl) rfl ?_ ?_
    rotate_left
    ·go_simp; rfl
    refine hK.out _ _ ⟨((cell_far (p := ⟨D3, _, none⟩) D5.out _).trans (hHeld.1)), ((cell_far (p := ⟨D3, _, none⟩) D5.out _).trans (hHeld.2.1)), ((cell_far (p := ⟨D3, _, none⟩) D5.out _).trans (hHeld.2.2.1)), ((cell_far (p := ⟨D3, _, none⟩) D5.out _).trans (hHeld.2.2.2))⟩ (fun hHeld => ?_)
    clear hK K
    refine Cmp.pu HT_ 16 7 (Cmp.bm 17 0) ?_
    refine done_ (done_of HT_.out (by kernel_rfl)) ?_
    have Ex := D8.out; have F1 := D5.out; have Ey := D9.out; have F2 := D7.out
    have Eh := Cmp.c0 Da
    have Ek := blk_frozen Da.out 0; have Ez := Dj.out; have F3 := Di.out
    have Ei := Cmp.c0 D2
    have El := blk_frozen D2.out 0
    try go_wp2
    refine bodyPost_ret (results_ct rfl _ _ D4 45 #[.slice Dv Dk.length Dy] (0, 0) _ rfl (Cmp.bw D2.out) Try.underlying45 rfl (by kernel_rfl)) rfl ?_
    exact ⟨_, by first | rfl | (simp [errW_none, errW_some] <;> rfl) | (simp [*, errW_none, errW_some] <;> rfl), by (with_reducible repeat (first | apply Kd.R_alloc | apply Kd.R_drewN | apply Kd.R_drew)); exact Kd.R_mono (Kd.R_far (p := ⟨D4, 0, none⟩) (Kd.R_far (p := ⟨D3, 0, none⟩) (Kd.R_types (Kd.R_types Dg.out Da.out (by decide)) D2.out (by decide)) (fun _ hk => hk.1.2) (.slice Dv Dk.length Dy)) (fun _ hk => hk.2) (.slice Dv Dk.length Dy)) (fun _ hk => trivial), Cmp.g HB.out⟩
end Go.Proofs.Ytpgjecknkmmnhaa.PFnSealedBundles

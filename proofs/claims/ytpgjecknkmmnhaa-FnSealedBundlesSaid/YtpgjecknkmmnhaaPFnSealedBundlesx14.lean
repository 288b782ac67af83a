/- Printed functions of the program, out of print.sh, told more shortly. No condition. -/
import Derived.Test.YtpgjecknkmmnhaaCmp
import Derived.Test.YtpgjecknkmmnhaaPFnSealedBundlesx0
import Derived.Test.YtpgjecknkmmnhaaPFnSealedBundlesx9
import Derived.Test.YtpgjecknkmmnhaaPFnSealedBundlesx10
import Derived.Test.YtpgjecknkmmnhaaPFnSealedBundlesx11
import Derived.Test.YtpgjecknkmmnhaaPFnSealedBundlesx12
import Derived.Test.YtpgjecknkmmnhaaPFnSealedBundlesx13
namespace Go.Proofs.Ytpgjecknkmmnhaa.PFnSealedBundles
open Go.Proofs.Ytpgjecknkmmnhaa
open Go.RowKit Go.Proofs.YtpgjecknkmmnhaaW.PrintWords Go.Proofs.YtpgjecknkmmnhaaW.PrintLast Go.Proofs.YtpgjecknkmmnhaaW.PrintMore
attribute [local go_sem] max2_int min2_int max_two min_two max_three min_three max_four min_four   -- for this text's walks alone
set_option linter.unusedVariables false
set_option linter.unusedSimpArgs false
/-! ### impl_SealBundle: function 21 -/
def impl_SealBundle.j0 : Nat → Int → Int → Int → Bool → List (S94) → Option (Int × Int × List Int × Int × Bool)
  | 0, _, _, _, _, _ => none
  | k + 1, x0, x1, x2, x28, x462000 => if x28 = true then (some (0, 0, ([] : List Int), 0, false)) else ((impl_DeriveKey.f k x0 (([223, x1, x2] : List Int))).bind fun t470 => ((impl_EncodeBundle.f k x462000).bind fun t471 => ((impl_Encrypt.f k t470 t471).bind fun t474 => ((impl_BundleMAC.f k x0 x1 x2 t474 0).bind fun t478 => (some (x1, x2, t474, t478, true))))))
def impl_SealBundle.f (k : Nat) (a0 : Int) (a1 : Int) (a2 : Int) (l3_0 : List (S94)) : Option (Int × Int × List Int × Int × Bool) := (impl_IsValidKey.f a0).bind fun t463 => (if t463 = true then ((impl_InRange.f a1 0 1000000).bind fun t464 => (if t464 = true then ((impl_InRange.f a2 0 1000000).bind fun t465 => (if t465 = true then ((impl_IsBundle.f k l3_0).bind fun t466 => (impl_SealBundle.j0 k a0 a1 a2 (!t466) l3_0)) else (impl_SealBundle.j0 k a0 a1 a2 true l3_0))) else (impl_SealBundle.j0 k a0 a1 a2 true l3_0))) else (impl_SealBundle.j0 k a0 a1 a2 true l3_0))
theorem impl_SealBundle.mono_l : ∀ k, (∀ y0 y1 y2 y3 y4, LeO (impl_SealBundle.j0 k y0 y1 y2 y3 y4) (impl_SealBundle.j0 (k + 1) y0 y1 y2 y3 y4))
 | 0 => fun _ _ _ _ _ r h => by simp [impl_SealBundle.j0] at h
 | k + 1 => by
    have ih0 := impl_SealBundle.mono_l k
    · intro y0 y1 y2 y3 y4
      unfold impl_SealBundle.j0
      repeat' first
 | (with_reducible exact ih0 _ _ _ _ _)
 | (with_reducible exact impl_BundleMAC.mono _ _ _ _ _ _)
 | (with_reducible exact impl_DeriveKey.mono _ _ _)
 | (with_reducible exact impl_EncodeBundle.mono _ _)
 | (with_reducible exact impl_Encrypt.mono _ _ _)
 | (with_reducible exact impl_IsBundle.mono _ _)
 | (with_reducible exact LeO.refl _)
 | (with_reducible exact LeO.none _)
 | (with_reducible refine LeO.ite ?_ ?_)
 | (with_reducible refine LeO.bind ?_ (fun _ => ?_))
theorem impl_SealBundle.mono : ∀ a0 a1 a2 a3 k, LeO (impl_SealBundle.f k a0 a1 a2 a3) (impl_SealBundle.f (k + 1) a0 a1 a2 a3) := by
  intro a0 a1 a2 a3 k
  have ih0 := impl_SealBundle.mono_l k
  unfold impl_SealBundle.f
  repeat' first
 | (with_reducible exact ih0 _ _ _ _ _)
 | (with_reducible exact impl_BundleMAC.mono _ _ _ _ _ _)
 | (with_reducible exact impl_DeriveKey.mono _ _ _)
 | (with_reducible exact impl_EncodeBundle.mono _ _)
 | (with_reducible exact impl_Encrypt.mono _ _ _)
 | (with_reducible exact impl_IsBundle.mono _ _)
 | (with_reducible exact LeO.refl _)
 | (with_reducible exact LeO.none _)
 | (with_reducible refine LeO.ite ?_ ?_)
 | (with_reducible refine LeO.bind ?_ (fun _ => ?_))
def impl_SealBundle.T3 : Bool × List (List Nat × List Nat) := (true, [([], []), ([], []), ([], []), ([], []), ([], []), ([3, 4], [3, 4]), ([2, 5], [2, 5]), ([], []), ([7, 6], [7]), ([6, 8, 8], [6, 8]), ([0, 1, 9], [0, 1, 9]), ([], []), ([11, 10, 9, 0, 1, 2, 3, 4, 5, 6, 7, 8, 9, 10, 11], [10, 11])])
def impl_SealBundle.B3 : List Nat := [0, 0, 0, 0, 0, 24, 60, 0, 252, 508, 1023, 0, 4095]
theorem impl_SealBundle.tab3 : rtab .any (opsOf Try.f21 3) = impl_SealBundle.T3 := by kernel_rfl
theorem impl_SealBundle.bits3 : waitsOk impl_SealBundle.T3.2 impl_SealBundle.B3 = true := by kernel_rfl
set_option maxHeartbeats 8000000 in
set_option maxRecDepth 100000 in
theorem impl_SealBundle.calls (k : Nat) (a0 : Int) (a1 : Int) (a2 : Int) (A3_0 : Option Addr) (c3_0 : Nat) (l3_0 : List (S94)) (r1 : Int) (r2 : Int) (r3 : List Int) (r4 : Int) (r5 : Bool) (w : World) (hr3_0 : Kd.C k94 w A3_0 l3_0.length l3_0) (hc3_0 : l3_0.length ≤ c3_0) (h : impl_SealBundle.f k a0 a1 a2 l3_0 = some (r1, r2, r3, r4, r5)) :
    Calls Try.prog 21 #[.int .i64 a0, .int .i64 a1, .int .i64 a2, .agg #[.slice A3_0 l3_0.length c3_0]] w fun e w' => ∃ v2_ : Value, e = .returned (.tuple #[.agg #[.int .i64 r1, .int .i64 r2, v2_, .int .i64 r4], .bool r5]) ∧ Kd.R (Kd.int .u8) 5 w' w.heap.size (fun _ => True) v2_ r3 ∧ Below w.heap.size w w' := by
 have hu45 := Try.underlying45; have hu49 := Try.underlying49; have Dr := Cmp.A hr3_0; have HC3_0 := Cmp.A hc3_0; clear hr3_0 hc3_0
 have HB := Cmp.A (Below.refl w.heap.size w)
 have H : ((impl_IsValidKey.f a0).bind fun E4 => (if E4 = true then ((impl_InRange.f a1 0 1000000).bind fun E5 => (if E5 = true then ((impl_InRange.f a2 0 1000000).bind fun E6 => (if E6 = true then ((impl_IsBundle.f k l3_0).bind fun Dx => (impl_SealBundle.j0 k a0 a1 a2 (!Dx) l3_0)) else (impl_SealBundle.j0 k a0 a1 a2 true l3_0))) else (impl_SealBundle.j0 k a0 a1 a2 true l3_0))) else (impl_SealBundle.j0 k a0 a1 a2 true l3_0))) = some (r1, r2, r3, r4, r5) := h
 clear h; have HC5 := Cmp.A H; clear H
 go_enter Try.func21, Try.ntmps21
 go_upto_region 1 with (first | ((with_reducible refine gate_dst (N := 7) rfl ?_); refine box_event ?hg (N := 7) ?hd (cs := #[.slice A3_0 l3_0.length c3_0]) (t := 45) ?hr ?_; (case hd => rfl); (case hg => rfl); (case hr => first | (go_simp; done) | (go_simp; rfl)); intro D3 hg w6 hbox hb; have D0 := Cmp.A (hbox); have Fu := Cmp.gw hg HB; have Fs := Cmp.gw hg HB; replace HB := Cmp.bs HB hb; clear hb hbox hg) | ((with_reducible refine gate_dst (N := 8) rfl ?_); refine box_event ?hg (N := 8) ?hd (cs := #[.int .i64 0, .int .i64 0, .slice none 0 0, .int .i64 0]) (t := 49) ?hr ?_; (case hd => rfl); (case hg => rfl); (case hr => first | (go_simp; done) | (go_simp; rfl)); intro D4 hg w7 hbox hb; have D1 := Cmp.A (hbox); have Fv := Cmp.gw hg HB; have Ft := Cmp.gw hg HB; have Dj := Cmp.nl hg D0; have Dk := Cmp.ng hg D0; replace D0 := Cmp.be D0 hb; replace HB := Cmp.bs HB hb; clear hb hbox hg))
 (try simp only [Act.put, List.setIfInBounds_toArray, List.set_cons_zero, List.set_cons_succ])
 go_cut [28] (fun v28 wc => ∃ (kq : Nat) (Dp : Bool), v28 = .bool Dp ∧ Aside0 (impl_SealBundle.j0 kq a0 a1 a2 Dp l3_0 = some (r1, r2, r3, r4, r5)) ∧ Aside0 (kq ≤ k) ∧ Aside0 (wc.heap[D3]? = some (.cells #[(.slice A3_0 l3_0.length c3_0)] 45 (0, 0))) ∧ Aside0 (wc.heap[D4]? = some (.cells #[.int .i64 0, .int .i64 0, (.slice none 0 0), .int .i64 0] 49 (0, 0))) ∧ Aside0 (Below w.heap.size w wc))
 case first =>
  have H := HC5.out; clear HC5; replace H := Option.bind_eq_some_iff.mp H; obtain ⟨E4, Fr, H⟩ := H; (try dsimp only at H); have A8 := Cmp.A Fr; clear Fr
  by_cases c9 : E4 = true
  ·subst c9; rw [if_pos rfl] at H; replace H := Option.bind_eq_some_iff.mp H; obtain ⟨E5, E7, H⟩ := H; (try dsimp only at H); have Fk := Cmp.A E7; clear E7
   by_cases c11 : E5 = true
   ·subst c11; rw [if_pos rfl] at H; replace H := Option.bind_eq_some_iff.mp H; obtain ⟨E6, E8, H⟩ := H; (try dsimp only at H); have Fn := Cmp.A E8; clear E8
    by_cases c13 : E6 = true
    ·subst c13; rw [if_pos rfl] at H; replace H := Option.bind_eq_some_iff.mp H; obtain ⟨Dx, E9, H⟩ := H; (try dsimp only at H); have G6 := Cmp.A E9; clear E9
     have H' := Cmp.A H
     clear H
     go_wp2_with (first | ((with_reducible refine gate_callee (f := 59) rfl ?_); refine goesL_ (some 12) rfl rfl Try.func59 (by kernel_rfl) rfl #[.int .i64 a0] rfl Cmp.q ?_; (with_reducible refine (impl_IsValidKey.calls a0 true _ A8.out).mono ?_); rintro e w' ⟨rfl, ⟨nd, rfl⟩⟩; refine ⟨_, rfl, ?_⟩) | (go_at_call 60; (with_reducible refine (impl_InRange.calls a1 0 1000000 true _ Fk.out).mono ?_); rintro e w' ⟨rfl, ⟨nd, rfl⟩⟩) | (go_at_call 60; (with_reducible refine (impl_InRange.calls a2 0 1000000 true _ Fn.out).mono ?_); rintro e w' ⟨rfl, ⟨nd, rfl⟩⟩; have Fw := Dj.out; have G1 := Dk.out; have Dv := Cmp.c0 D0; have Dw := blk_frozen D0.out 0) | (go_at_call 61; (with_reducible refine (impl_IsBundle.calls k _ _ l3_0 Dx _ ?side1 ?side2 G6.out).mono ?_); (case side1 => exact Cmp.rc (Kd.C_below Dr.out (Cmp.g HB.out))); (case side2 => exact HC3_0.out); rintro e w17 ⟨rfl, hb⟩; replace D0 := Cmp.be D0 hb; replace D1 := Cmp.be D1 hb; replace HB := Cmp.bs HB hb; (try clear hb); (try clear hb2); (try clear hk); (try clear hi)))
     go_meet
     case rel => exact ⟨_, (!Dx), (by first | rfl | simp | simp [*]), H', ⟨by first | omega | exact Nat.le_refl _⟩, Cmp.bq D0, Cmp.bq D1, ⟨Cmp.g HB.out⟩⟩
    ·replace c13 := Bool.eq_false_iff.mpr c13
     subst c13
     have H1 : (impl_SealBundle.j0 k a0 a1 a2 true l3_0) = some (r1, r2, r3, r4, r5) := by rw [if_neg (show ¬ (false = true) by decide)] at H; exact H
     clear H; have H := H1; clear H1
     have H' := Cmp.A H
     clear H
     go_wp2_with (first | ((with_reducible refine gate_callee (f := 59) rfl ?_); refine goesL_ (some 12) rfl rfl Try.func59 (by kernel_rfl) rfl #[.int .i64 a0] rfl Cmp.q ?_; (with_reducible refine (impl_IsValidKey.calls a0 true _ A8.out).mono ?_); rintro e w' ⟨rfl, ⟨nd, rfl⟩⟩; refine ⟨_, rfl, ?_⟩) | (go_at_call 60; (with_reducible refine (impl_InRange.calls a1 0 1000000 true _ Fk.out).mono ?_); rintro e w' ⟨rfl, ⟨nd, rfl⟩⟩) | (go_at_call 60; (with_reducible refine (impl_InRange.calls a2 0 1000000 false _ Fn.out).mono ?_); rintro e w' ⟨rfl, ⟨nd, rfl⟩⟩))
     go_meet
     case rel => exact ⟨_, (true), (by first | rfl | simp | simp [*]), H', ⟨by first | omega | exact Nat.le_refl _⟩, Cmp.bq D0, Cmp.bq D1, ⟨Cmp.g HB.out⟩⟩
   ·replace c11 := Bool.eq_false_iff.mpr c11
    subst c11
    have H1 : (impl_SealBundle.j0 k a0 a1 a2 true l3_0) = some (r1, r2, r3, r4, r5) := by rw [if_neg (show ¬ (false = true) by decide)] at H; exact H
    clear H; have H := H1; clear H1
    have H' := Cmp.A H
    clear H
    go_wp2_with (first | ((with_reducible refine gate_callee (f := 59) rfl ?_); refine goesL_ (some 12) rfl rfl Try.func59 (by kernel_rfl) rfl #[.int .i64 a0] rfl Cmp.q ?_; (with_reducible refine (impl_IsValidKey.calls a0 true _ A8.out).mono ?_); rintro e w' ⟨rfl, ⟨nd, rfl⟩⟩; refine ⟨_, rfl, ?_⟩) | (go_at_call 60; (with_reducible refine (impl_InRange.calls a1 0 1000000 false _ Fk.out).mono ?_); rintro e w' ⟨rfl, ⟨nd, rfl⟩⟩))
    go_meet
    case rel => exact ⟨_, (true), (by first | rfl | simp | simp [*]), H', ⟨by first | omega | exact Nat.le_refl _⟩, Cmp.bq D0, Cmp.bq D1, ⟨Cmp.g HB.out⟩⟩
  ·replace c9 := Bool.eq_false_iff.mpr c9
   subst c9
   have H1 : (impl_SealBundle.j0 k a0 a1 a2 true l3_0) = some (r1, r2, r3, r4, r5) := by rw [if_neg (show ¬ (false = true) by decide)] at H; exact H
   clear H; have H := H1; clear H1
   have H' := Cmp.A H
   clear H
   go_wp2_with (first | ((with_reducible refine gate_callee (f := 59) rfl ?_); refine goesL_ (some 12) rfl rfl Try.func59 (by kernel_rfl) rfl #[.int .i64 a0] rfl Cmp.q ?_; (with_reducible refine (impl_IsValidKey.calls a0 false _ A8.out).mono ?_); rintro e w' ⟨rfl, ⟨nd, rfl⟩⟩; refine ⟨_, rfl, ?_⟩))
   go_meet
   case rel => exact ⟨_, (true), (by first | rfl | simp | simp [*]), H', ⟨by first | omega | exact Nat.le_refl _⟩, Cmp.bq D0, Cmp.bq D1, ⟨Cmp.g HB.out⟩⟩
 case rest =>
  clear HC5; (try clear c1); (try clear c2); (try clear p2); (try clear c3); (try clear c5); (try clear c9); (try clear c11); (try clear c13); (try clear c15); (try clear Dv); (try clear Dw)
  obtain ⟨kq, Dp, rfl, HA, HJ4, D0, D1, HB⟩ := hcut
  cases kq with
  | zero => exact absurd HA.out (by simp [impl_SealBundle.j0])
  | succ kj4 =>
   have H := HA.out; clear HA
   simp only [impl_SealBundle.j0] at H
   by_cases c18 : Dp = true
   ·subst c18; rw [if_pos rfl] at H
    simp only [Option.some.injEq, Prod.mk.injEq] at H
    obtain ⟨rfl, rfl, rfl, rfl, rfl⟩ := H; have Fx := Dk.out; have G2 := Dj.out
    have Eo : wc.cell? ⟨D4, 0, none⟩ = some (.int .i64 0) := (blk_cell D1.out 0).trans rfl
    have Ep : wc.cell? ⟨D4, 1, none⟩ = some (.int .i64 0) := (blk_cell D1.out 1).trans rfl
    have Eq : wc.cell? ⟨D4, 2, none⟩ = some (.slice none 0 0) := (blk_cell D1.out 2).trans rfl
    have Er : wc.cell? ⟨D4, 3, none⟩ = some (.int .i64 0) := (blk_cell D1.out 3).trans rfl
    obtain ⟨F4, F5, F6, F7⟩ := Cmp.f4 D1
    go_wp2
    refine bodyPost_ret (results_ct rfl _ _ D4 49 #[.int .i64 0, .int .i64 0, .slice none 0 0, .int .i64 0] (0, 0) _ rfl (Cmp.bw D1.out) Try.underlying49 rfl (by kernel_rfl)) rfl ?_
    exact ⟨_, by first | rfl | (simp [errW_none, errW_some] <;> rfl) | (simp [*, errW_none, errW_some] <;> rfl), by first | exact Kd.R_nil _ _ _ _ _ | exact Kd.N_nil _ _ _ _ _ | exact Kd.V_nil _ _ _ _ _ | exact Kd.Q_nil _ _ _ _ _ | exact Kd.S_nil _ _ _ _ _, Cmp.g HB.out⟩
   ·replace c18 := Bool.eq_false_iff.mpr c18
    subst c18
    have H1 : ((impl_DeriveKey.f kj4 a0 (([223, a1, a2] : List Int))).bind fun Di => ((impl_EncodeBundle.f kj4 l3_0).bind fun Dh => ((impl_Encrypt.f kj4 Di Dh).bind fun Df => ((impl_BundleMAC.f kj4 a0 a1 a2 Df 0).bind fun Dn => (some (a1, a2, Df, Dn, true)))))) = some (r1, r2, r3, r4, r5) := by rw [if_neg (show ¬ (false = true) by decide)] at H; exact H
    clear H; have H := H1; clear H1
    obtain ⟨Dg, hy467⟩ : ∃ y_ : List Int, y_ = (([223, a1, a2] : List Int)) := ⟨_, rfl⟩
    replace H : ((impl_DeriveKey.f kj4 a0 Dg).bind fun Di => ((impl_EncodeBundle.f kj4 l3_0).bind fun Dh => ((impl_Encrypt.f kj4 Di Dh).bind fun Df => ((impl_BundleMAC.f kj4 a0 a1 a2 Df 0).bind fun Dn => (some (a1, a2, Df, Dn, true)))))) = some (r1, r2, r3, r4, r5) := Cmp.hy hy467 H
    have Do := Cmp.A hy467; clear hy467; replace H := Option.bind_eq_some_iff.mp H; obtain ⟨Di, Ea, H⟩ := H; (try dsimp only at H); have Fo := Cmp.A Ea; clear Ea; replace H := Option.bind_eq_some_iff.mp H; obtain ⟨Dh, Eb, H⟩ := H; (try dsimp only at H); have Fp := Cmp.A Eb; clear Eb; replace H := Option.bind_eq_some_iff.mp H; obtain ⟨Df, Ec, H⟩ := H; (try dsimp only at H); have Fq := Cmp.A Ec; clear Ec; replace H := Option.bind_eq_some_iff.mp H; obtain ⟨Dn, Ed, H⟩ := H; (try dsimp only at H); have G7 := Cmp.A Ed; clear Ed
    simp only [Option.some.injEq, Prod.mk.injEq] at H
    obtain ⟨rfl, rfl, rfl, rfl, rfl⟩ := H
    try go_wp2
    replace D0 := Cmp.A (blk_drew D0.out); replace D1 := Cmp.A (blk_drew D1.out); replace HB := Cmp.A (below_drew1 HB.out)
    refine start_ (n := 13) (S := fun w' => w'.cell? ⟨D3, 0, none⟩ = some (.slice A3_0 l3_0.length c3_0)) (ds := []) (Cmp.bm 0 13) (by kernel_rfl) rfl rfl (Cmp.c0 D0 :) (fun hHeld => ?_); refine with_tabW impl_SealBundle.tab3 impl_SealBundle.bits3 (fun HT_ HW_ => ?_)
    generalize wc.drew = w25 at D0 D1 HB hHeld ⊢
    refine Cmp.pu HT_ 0 30 (Cmp.bm 1 12) ?_; refine Cmp.pu HT_ 1 31 (Cmp.bm 2 11) ?_; refine Cmp.pu HT_ 2 32 (Cmp.bm 3 10) ?_; refine Cmp.pu HT_ 3 33 (Cmp.bm 4 9) ?_; refine Cmp.pu HT_ 4 34 (Cmp.bm 5 8) ?_
    refine take_ (i := 7) (N := some 37) (v := ?_) (a' := ?_) (Cmp.bb 13 159) rfl rfl (take_ofW HT_.out HW_.out (by kernel_rfl)) (fun _ _ _ h => h) (Or.inl ⟨by rfl, ?_⟩) hHeld ?_ ?_
    rotate_left
    ·intro w' s0
     go_simp; with_reducible rfl
    rotate_left
    ·simp only [Act.put, Cmp.s, Cmp.z, Cmp.c, i64_w, i32_w]; rfl
    refine join_ (σ := Value × Value × Value × Nat) 1 (Cmp.bm 12 1) (fun s_ => [(35, s_.1), (36, .int .i64 Di), (38, s_.2.1), (39, s_.2.2.1), (10, .pointer (some ⟨s_.2.2.2, 0, none⟩)), (40, .agg #[.int .i64 a1, .int .i64 a2, s_.2.2.1, .int .i64 0])]) (fun s_ w' => (w'.cell? ⟨D3, 0, none⟩ = some (.slice A3_0 l3_0.length c3_0)) ∧ (Kd.R (Kd.int .i64) 3 w' w.heap.size (fun _ => True) s_.1 Dg) ∧ (Kd.R (Kd.int .u8) 5 w' w.heap.size (fun k_ => some k_ ≠ (s_.2.2.1 : Value).ownBlock) s_.2.1 Dh) ∧ (Kd.R (Kd.int .u8) 5 w' w.heap.size (fun k_ => some k_ ≠ (s_.2.1 : Value).ownBlock) s_.2.2.1 Df) ∧ (w'.heap[D3]? = some (.cells #[.slice A3_0 l3_0.length c3_0] 45 (0, 0))) ∧ (w'.heap[D4]? = some (.cells #[.int .i64 0, .int .i64 0, .slice none 0 0, .int .i64 0] 49 (0, 0))) ∧ (w'.heap[s_.2.2.2]? = some (.cells #[.int .i64 0, .int .i64 0, .slice none 0 0, .int .i64 0] 49 (0, 0))) ∧ (w.heap.size ≤ s_.2.2.2) ∧ (w.heap.size ≤ s_.2.2.2) ∧ (D3 ≠ s_.2.2.2) ∧ (s_.2.2.2 ≠ D3) ∧ (D4 ≠ s_.2.2.2) ∧ (s_.2.2.2 ≠ D4) ∧ (Below w.heap.size w w')) ?_ ?_
    rotate_left
    ·intro hJ5_6_8_9_11
     refine join_ (σ := Value × Value × Value) 2 (Cmp.bm 11 2) (fun s_ => [(35, s_.1), (36, .int .i64 Di), (38, s_.2.1), (39, s_.2.2), (40, .agg #[.int .i64 a1, .int .i64 a2, s_.2.2, .int .i64 0])]) (fun s_ w' => (w'.cell? ⟨D3, 0, none⟩ = some (.slice A3_0 l3_0.length c3_0)) ∧ (Kd.R (Kd.int .i64) 3 w' w.heap.size (fun _ => True) s_.1 Dg) ∧ (Kd.R (Kd.int .u8) 5 w' w.heap.size (fun k_ => some k_ ≠ (s_.2.2 : Value).ownBlock) s_.2.1 Dh) ∧ (Kd.R (Kd.int .u8) 5 w' w.heap.size (fun k_ => some k_ ≠ (s_.2.1 : Value).ownBlock) s_.2.2 Df) ∧ (w'.heap[D3]? = some (.cells #[.slice A3_0 l3_0.length c3_0] 45 (0, 0))) ∧ (w'.heap[D4]? = some (.cells #[.int .i64 0, .int .i64 0, .slice none 0 0, .int .i64 0] 49 (0, 0))) ∧ (Below w.heap.size w w')) ?_ ?_
     rotate_left
     ·intro hJ5_6_8_9
      refine join_ (σ := Value × Value × Nat) 3 (Cmp.bb 13 2559) (fun s_ => [(35, s_.1), (36, .int .i64 Di), (38, s_.2.1), (10, .pointer (some ⟨s_.2.2, 0, none⟩))]) (fun s_ w' => (w'.cell? ⟨D3, 0, none⟩ = some (.slice A3_0 l3_0.length c3_0)) ∧ (Kd.R (Kd.int .i64) 3 w' w.heap.size (fun _ => True) s_.1 Dg) ∧ (Kd.R (Kd.int .u8) 5 w' w.heap.size (fun _ => True) s_.2.1 Dh) ∧ (w'.heap[D3]? = some (.cells #[.slice A3_0 l3_0.length c3_0] 45 (0, 0))) ∧ (w'.heap[D4]? = some (.cells #[.int .i64 0, .int .i64 0, .slice none 0 0, .int .i64 0] 49 (0, 0))) ∧ (w'.heap[s_.2.2]? = some (.cells #[.int .i64 0, .int .i64 0, .slice none 0 0, .int .i64 0] 49 (0, 0))) ∧ (w.heap.size ≤ s_.2.2) ∧ (w.heap.size ≤ s_.2.2) ∧ (D3 ≠ s_.2.2) ∧ (s_.2.2 ≠ D3) ∧ (D4 ≠ s_.2.2) ∧ (s_.2.2 ≠ D4) ∧ (Below w.heap.size w w')) ?_ ?_
      rotate_left
      ·intro hJ5_6_8_11
       refine join_ (σ := Value × Value) 4 (Cmp.bm 9 4) (fun s_ => [(35, s_.1), (36, .int .i64 Di), (38, s_.2)]) (fun s_ w' => (w'.cell? ⟨D3, 0, none⟩ = some (.slice A3_0 l3_0.length c3_0)) ∧ (Kd.R (Kd.int .i64) 3 w' w.heap.size (fun _ => True) s_.1 Dg) ∧ (Kd.R (Kd.int .u8) 5 w' w.heap.size (fun _ => True) s_.2 Dh) ∧ (w'.heap[D3]? = some (.cells #[.slice A3_0 l3_0.length c3_0] 45 (0, 0))) ∧ (w'.heap[D4]? = some (.cells #[.int .i64 0, .int .i64 0, .slice none 0 0, .int .i64 0] 49 (0, 0))) ∧ (Below w.heap.size w w')) ?_ ?_
       rotate_left
       ·intro hJ5_6_8
        refine join_ (σ := Value × Nat) 4 (Cmp.bb 13 2303) (fun s_ => [(35, s_.1), (36, .int .i64 Di), (10, .pointer (some ⟨s_.2, 0, none⟩))]) (fun s_ w' => (w'.cell? ⟨D3, 0, none⟩ = some (.slice A3_0 l3_0.length c3_0)) ∧ (Kd.R (Kd.int .i64) 3 w' w.heap.size (fun _ => True) s_.1 Dg) ∧ (w'.heap[D3]? = some (.cells #[.slice A3_0 l3_0.length c3_0] 45 (0, 0))) ∧ (w'.heap[D4]? = some (.cells #[.int .i64 0, .int .i64 0, .slice none 0 0, .int .i64 0] 49 (0, 0))) ∧ (w'.heap[s_.2]? = some (.cells #[.int .i64 0, .int .i64 0, .slice none 0 0, .int .i64 0] 49 (0, 0))) ∧ (w.heap.size ≤ s_.2) ∧ (w.heap.size ≤ s_.2) ∧ (D3 ≠ s_.2) ∧ (s_.2 ≠ D3) ∧ (D4 ≠ s_.2) ∧ (s_.2 ≠ D4) ∧ (Below w.heap.size w w')) ?_ ?_
        rotate_left
        ·intro hJ5_6_11
         refine join_ (σ := Value) 5 (Cmp.bm 8 5) (fun s_ => [(35, s_), (36, .int .i64 Di)]) (fun s_ w' => (w'.cell? ⟨D3, 0, none⟩ = some (.slice A3_0 l3_0.length c3_0)) ∧ (Kd.R (Kd.int .i64) 3 w' w.heap.size (fun _ => True) s_ Dg) ∧ (w'.heap[D3]? = some (.cells #[.slice A3_0 l3_0.length c3_0] 45 (0, 0))) ∧ (w'.heap[D4]? = some (.cells #[.int .i64 0, .int .i64 0, .slice none 0 0, .int .i64 0] 49 (0, 0))) ∧ (Below w.heap.size w w')) ?_ ?_
         rotate_left
         ·intro hJ5_6
          refine join_ (σ := Value × Nat) 5 (Cmp.bb 13 2239) (fun s_ => [(35, s_.1), (10, .pointer (some ⟨s_.2, 0, none⟩))]) (fun s_ w' => (w'.cell? ⟨D3, 0, none⟩ = some (.slice A3_0 l3_0.length c3_0)) ∧ (Kd.R (Kd.int .i64) 3 w' w.heap.size (fun _ => True) s_.1 Dg) ∧ (w'.heap[D3]? = some (.cells #[.slice A3_0 l3_0.length c3_0] 45 (0, 0))) ∧ (w'.heap[D4]? = some (.cells #[.int .i64 0, .int .i64 0, .slice none 0 0, .int .i64 0] 49 (0, 0))) ∧ (w'.heap[s_.2]? = some (.cells #[.int .i64 0, .int .i64 0, .slice none 0 0, .int .i64 0] 49 (0, 0))) ∧ (w.heap.size ≤ s_.2) ∧ (w.heap.size ≤ s_.2) ∧ (D3 ≠ s_.2) ∧ (s_.2 ≠ D3) ∧ (D4 ≠ s_.2) ∧ (s_.2 ≠ D4) ∧ (Below w.heap.size w w')) ?_ ?_
          rotate_left
          ·intro hJ5_11
           refine join_ (σ := Value) 6 (Cmp.bb 13 191) (fun s_ => [(35, s_)]) (fun s_ w' => (w'.cell? ⟨D3, 0, none⟩ = some (.slice A3_0 l3_0.length c3_0)) ∧ (Kd.R (Kd.int .i64) 3 w' w.heap.size (fun _ => True) s_ Dg) ∧ (w'.heap[D3]? = some (.cells #[.slice A3_0 l3_0.length c3_0] 45 (0, 0))) ∧ (w'.heap[D4]? = some (.cells #[.int .i64 0, .int .i64 0, .slice none 0 0, .int .i64 0] 49 (0, 0))) ∧ (Below w.heap.size w w')) ?_ ?_
           rotate_left
           ·intro hJ5
            refine join_ (σ := Nat) 6 (Cmp.bb 13 2207) (fun s_ => [(10, .pointer (some ⟨s_, 0, none⟩))]) (fun s_ w' => (w'.cell? ⟨D3, 0, none⟩ = some (.slice A3_0 l3_0.length c3_0)) ∧ (w'.heap[D3]? = some (.cells #[.slice A3_0 l3_0.length c3_0] 45 (0, 0))) ∧ (w'.heap[D4]? = some (.cells #[.int .i64 0, .int .i64 0, .slice none 0 0, .int .i64 0] 49 (0, 0))) ∧ (w'.heap[s_]? = some (.cells #[.int .i64 0, .int .i64 0, .slice none 0 0, .int .i64 0] 49 (0, 0))) ∧ (w.heap.size ≤ s_) ∧ (w.heap.size ≤ s_) ∧ (D3 ≠ s_) ∧ (s_ ≠ D3) ∧ (D4 ≠ s_) ∧ (s_ ≠ D4) ∧ (Below w.heap.size w w')) ?_ ?_
            rotate_left
            ·intro hJ11
             refine two_ (i := 5) (j := 11) (Ni := some 35) (Nj := some 10) (Cmp.bb 13 191) (Cmp.bb 13 2207) rfl rfl rfl rfl (two_of HT_.out (by kernel_rfl)) (by decide) (by decide) (fun K hK => ?_) (fun K hK => ?_)
             ·skip
              refine Kd.R_lit_step (Kd.int .i64) _ 3 ?hg (N := 35) ?hd (xs := ([223, a1, a2] : List Int)) (inner := [.int .i64 223, .int .i64 a1, .int .i64 a2]) (ok := fun _ => True) (okp := fun _ => True) ?hr ?hp (fun _ hk => hk) trivial (Below.refl _ _) (Nat.le_refl _) (by simp) ?_; (case hd => rfl); (case hg => rfl); (case hr => first | (go_simp; done) | (go_simp; rfl)); (case hp => exact (Reps.one (Cmp.mi 223) (Reps.one (Cmp.mi a1) (Reps.one (Cmp.mi a2) (Reps.none _ _)))))
              intro v468 w26 Dt hb hg_ hnew_
              clear hg_ hnew_
              (first | rw [← Do.out] at Dt | (simp only [Int.reduceToNat] at Dt; rw [← Do.out] at Dt))
              have D7 := Cmp.A (Kd.R_lower Dt (below_size (Cmp.g HB.out))); replace D0 := Cmp.be D0 hb; replace D1 := Cmp.be D1 hb; replace HB := Cmp.A (below_step (Cmp.g HB.out) hb); clear hb Dt
              refine hK.out _ _ (Cmp.c0 D0 :) (fun hHeld => ?_)
              clear hK K
              refine Cmp.no ?_
              exact norm_ Cmp.na (hJ5 (v468) _ ⟨hHeld, (Cmp.rr D7.out), (Cmp.b D0.out), (Cmp.b D1.out), (Cmp.g HB.out)⟩)
             ·skip
              refine box_step ?hg (N := 10) ?hd (cs := #[.int .i64 0, .int .i64 0, .slice none 0 0, .int .i64 0]) (t := 49) ?hr ?_; (case hd => rfl); (case hg => rfl); (case hr => first | (go_simp; done) | (go_simp; rfl))
              intro D2 hg w26 hbox hb
              have D6 := Cmp.A (hbox); have Dd := Cmp.A ((by rw [hg]; exact (below_size (Cmp.g HB.out)) : w.heap.size ≤ D2)); have Dc := Cmp.A ((by rw [hg]; exact (below_size (Cmp.g HB.out)) : w.heap.size ≤ D2)); have D5 := Cmp.A ((by rw [hg]; exact Nat.ne_of_lt (blk_lt (g := D3) (o := .cells #[.slice A3_0 l3_0.length c3_0] 45 (0, 0)) (Cmp.b D0.out)) : D3 ≠ D2)); have D9 := Cmp.A ((by rw [hg]; exact Nat.ne_of_gt (blk_lt (g := D3) (o := .cells #[.slice A3_0 l3_0.length c3_0] 45 (0, 0)) (Cmp.b D0.out)) : D2 ≠ D3)); have D8 := Cmp.A ((by rw [hg]; exact Nat.ne_of_lt (blk_lt (g := D4) (o := .cells #[.int .i64 0, .int .i64 0, .slice none 0 0, .int .i64 0] 49 (0, 0)) (Cmp.b D1.out)) : D4 ≠ D2)); have Da := Cmp.A ((by rw [hg]; exact Nat.ne_of_gt (blk_lt (g := D4) (o := .cells #[.int .i64 0, .int .i64 0, .slice none 0 0, .int .i64 0] 49 (0, 0)) (Cmp.b D1.out)) : D2 ≠ D4)); replace D0 := Cmp.be D0 hb; replace D1 := Cmp.be D1 hb; replace HB := Cmp.A (below_step (Cmp.g HB.out) hb); clear hb hbox hg
              refine hK.out _ _ (Cmp.c0 D0 :) (fun hHeld => ?_)
              clear hK K
              refine Cmp.no ?_
              exact norm_ Cmp.na (hJ11 (D2) _ ⟨hHeld, (Cmp.b D0.out), (Cmp.b D1.out), (Cmp.b D6.out), Dd.out, Dc.out, D5.out, D9.out, D8.out, Da.out, (Cmp.g HB.out)⟩)
            ·skip
             rintro D2 w27 ⟨hS_, h0_, h1_, h2_, h3_, h4_, h5_, h6_, h7_, h8_, h9_⟩
             have n0_ : Aside0 (w27.heap[D3]? = some (.cells #[.slice A3_0 l3_0.length c3_0] 45 (0, 0))) := ⟨h0_⟩
             have n1_ : Aside0 (w27.heap[D4]? = some (.cells #[.int .i64 0, .int .i64 0, .slice none 0 0, .int .i64 0] 49 (0, 0))) := ⟨h1_⟩
             have n2_ : Aside0 (w27.heap[D2]? = some (.cells #[.int .i64 0, .int .i64 0, .slice none 0 0, .int .i64 0] 49 (0, 0))) := ⟨h2_⟩
             have n3_ : Aside0 (w.heap.size ≤ D2) := ⟨h3_⟩
             have n4_ : Aside0 (w.heap.size ≤ D2) := ⟨h4_⟩
             have n5_ : Aside0 (D3 ≠ D2) := ⟨h5_⟩
             have n6_ : Aside0 (D2 ≠ D3) := ⟨h6_⟩
             have n7_ : Aside0 (D4 ≠ D2) := ⟨h7_⟩
             have n8_ : Aside0 (D2 ≠ D4) := ⟨h8_⟩
             have n9_ : Aside0 (Below w.heap.size w w27) := ⟨h9_⟩
             clear D0; clear D1; clear HB; clear h0_ h1_ h2_ h3_ h4_ h5_ h6_ h7_ h8_ h9_; have D0 := n0_; have D1 := n1_; have D6 := n2_; have Dd := n3_; have Dc := n4_; have D5 := n5_; have D9 := n6_; have D8 := n7_; have Da := n8_; have HB := n9_; clear n0_ n1_ n2_ n3_ n4_ n5_ n6_ n7_ n8_ n9_
             have hHeld : w27.cell? ⟨D3, 0, none⟩ = some (.slice A3_0 l3_0.length c3_0) := hS_
             refine norm_ (a' := ?_) ?_ ?_
             rotate_left
             ·simp only [putAll, Act.put, List.setIfInBounds_toArray, List.set_cons_zero, List.set_cons_succ]; rfl
             refine one_ (i := 5) (N := some 35) (Cmp.bb 13 2239) rfl rfl (one_of HT_.out (by kernel_rfl)) (by decide) (fun K hK => ?_)
             refine Kd.R_lit_step (Kd.int .i64) _ 3 ?hg (N := 35) ?hd (xs := ([223, a1, a2] : List Int)) (inner := [.int .i64 223, .int .i64 a1, .int .i64 a2]) (ok := fun _ => True) (okp := fun _ => True) ?hr ?hp (fun _ hk => hk) trivial (Below.refl _ _) (Nat.le_refl _) (by simp) ?_; (case hd => rfl); (case hg => rfl); (case hr => first | (go_simp; done) | (go_simp; rfl)); (case hp => exact (Reps.one (Cmp.mi 223) (Reps.one (Cmp.mi a1) (Reps.one (Cmp.mi a2) (Reps.none _ _)))))
             intro v468 w28 Du hb hg_ hnew_
             clear hg_ hnew_
             (first | rw [← Do.out] at Du | (simp only [Int.reduceToNat] at Du; rw [← Do.out] at Du))
             have D7 := Cmp.A (Kd.R_lower Du (below_size (Cmp.g HB.out))); replace D0 := Cmp.be D0 hb; replace D1 := Cmp.be D1 hb; replace D6 := Cmp.be D6 hb; replace HB := Cmp.A (below_step (Cmp.g HB.out) hb); clear hb Du
             refine hK.out _ _ (Cmp.c0 D0 :) (fun hHeld => ?_)
             clear hK K
             refine Cmp.no ?_
             exact norm_ Cmp.na (hJ5_11 (v468, D2) _ ⟨hHeld, (Cmp.rr D7.out), (Cmp.b D0.out), (Cmp.b D1.out), (Cmp.b D6.out), Dd.out, Dc.out, D5.out, D9.out, D8.out, Da.out, (Cmp.g HB.out)⟩)
           ·skip
            rintro v468 w28 ⟨hS_, h0_, h1_, h2_, h3_⟩
            have n0_ : Aside0 (Kd.R (Kd.int .i64) 3 w28 w.heap.size (fun _ => True) v468 Dg) := ⟨h0_⟩
            have n1_ : Aside0 (w28.heap[D3]? = some (.cells #[.slice A3_0 l3_0.length c3_0] 45 (0, 0))) := ⟨h1_⟩
            have n2_ : Aside0 (w28.heap[D4]? = some (.cells #[.int .i64 0, .int .i64 0, .slice none 0 0, .int .i64 0] 49 (0, 0))) := ⟨h2_⟩
            have n3_ : Aside0 (Below w.heap.size w w28) := ⟨h3_⟩
            clear D0; clear D1; clear HB; clear h0_ h1_ h2_ h3_; have D7 := n0_; have D0 := n1_; have D1 := n2_; have HB := n3_; clear n0_ n1_ n2_ n3_
            have hHeld : w28.cell? ⟨D3, 0, none⟩ = some (.slice A3_0 l3_0.length c3_0) := hS_
            obtain ⟨Dy, E1, Ei⟩ := Kd.R_slice D7.out
            (first | subst Ei | (injection Ei with f1_ f2_ f3_; have f4_ := f1_.symm; have f5_ := f3_.symm; clear f1_ f2_ f3_; subst f4_; subst f5_))
            refine norm_ (a' := ?_) ?_ ?_
            rotate_left
            ·simp only [putAll, Act.put, List.setIfInBounds_toArray, List.set_cons_zero, List.set_cons_succ]; rfl
            refine two_ (i := 6) (j := 11) (Ni := some 36) (Nj := some 10) (Cmp.bm 8 5) (Cmp.bb 13 2239) rfl rfl rfl rfl (two_of HT_.out (by kernel_rfl)) (by decide) (by decide) (fun K hK => ?_) (fun K hK => ?_)
            ·skip
             refine goes_ Try.func63 (by kernel_rfl) rfl #[.int .i64 a0, .slice Dy Dg.length E1] (by rfl) rfl rfl Cmp.q ?_
             with_reducible refine (impl_DeriveKey.calls kj4 a0 (fun k_ => some k_ = (.slice Dy Dg.length E1 : Value).ownBlock) _ _ Dg Di _ ?side1 Fo.out).mono ?_
             (case side1 => exact Kd.R_V (Kd.R_tight rfl (Kd.R_types (Kd.R_types (D7.out) D0.out (by decide)) D1.out (by decide))))
             rintro e w30 ⟨rfl, hb⟩; refine ⟨_, rfl, ?_⟩
             replace D7 := Cmp.A (Kd.R_below (Cmp.rr D7.out) hb); replace D0 := Cmp.be D0 hb; replace D1 := Cmp.be D1 hb; replace HB := Cmp.A (below_step (Cmp.g HB.out) hb); (try clear hb); (try clear hb2); (try clear hk); (try clear hi)
             refine hK.out _ _ (Cmp.c0 D0 :) (fun hHeld => ?_)
             clear hK K
             refine Cmp.no ?_
             exact norm_ Cmp.na (hJ5_6 (.slice Dy Dg.length E1) _ ⟨hHeld, (Cmp.rr D7.out), (Cmp.b D0.out), (Cmp.b D1.out), (Cmp.g HB.out)⟩)
            ·skip
             refine box_step ?hg (N := 10) ?hd (cs := #[.int .i64 0, .int .i64 0, .slice none 0 0, .int .i64 0]) (t := 49) ?hr ?_; (case hd => rfl); (case hg => rfl); (case hr => first | (go_simp; done) | (go_simp; rfl))
             intro D2 hg w29 hbox hb
             have D6 := Cmp.A (hbox); have Dd := Cmp.A ((by rw [hg]; exact (below_size (Cmp.g HB.out)) : w.heap.size ≤ D2)); have Dc := Cmp.A ((by rw [hg]; exact (below_size (Cmp.g HB.out)) : w.heap.size ≤ D2)); have D5 := Cmp.A ((by rw [hg]; exact Nat.ne_of_lt (blk_lt (g := D3) (o := .cells #[.slice A3_0 l3_0.length c3_0] 45 (0, 0)) (Cmp.b D0.out)) : D3 ≠ D2)); have D9 := Cmp.A ((by rw [hg]; exact Nat.ne_of_gt (blk_lt (g := D3) (o := .cells #[.slice A3_0 l3_0.length c3_0] 45 (0, 0)) (Cmp.b D0.out)) : D2 ≠ D3)); have D8 := Cmp.A ((by rw [hg]; exact Nat.ne_of_lt (blk_lt (g := D4) (o := .cells #[.int .i64 0, .int .i64 0, .slice none 0 0, .int .i64 0] 49 (0, 0)) (Cmp.b D1.out)) : D4 ≠ D2)); have Da := Cmp.A ((by rw [hg]; exact Nat.ne_of_gt (blk_lt (g := D4) (o := .cells #[.int .i64 0, .int .i64 0, .slice none 0 0, .int .i64 0] 49 (0, 0)) (Cmp.b D1.out)) : D2 ≠ D4)); replace D7 := Cmp.A (Kd.R_below (Cmp.rr D7.out) hb); replace D0 := Cmp.be D0 hb; replace D1 := Cmp.be D1 hb; replace HB := Cmp.A (below_step (Cmp.g HB.out) hb); clear hb hbox hg
             refine hK.out _ _ (Cmp.c0 D0 :) (fun hHeld => ?_)
             clear hK K
             refine Cmp.no ?_
             exact norm_ Cmp.na (hJ5_11 (_, D2) _ ⟨hHeld, (Cmp.rr D7.out), (Cmp.b D0.out), (Cmp.b D1.out), (Cmp.b D6.out), Dd.out, Dc.out, D5.out, D9.out, D8.out, Da.out, (Cmp.g HB.out)⟩)
          ·skip
           rintro ⟨v468, D2⟩ w29 ⟨hS_, h0_, h1_, h2_, h3_, h4_, h5_, h6_, h7_, h8_, h9_, h10_⟩
           have n0_ : Aside0 (Kd.R (Kd.int .i64) 3 w29 w.heap.size (fun _ => True) v468 Dg) := ⟨h0_⟩
           have n1_ : Aside0 (w29.heap[D3]? = some (.cells #[.slice A3_0 l3_0.length c3_0] 45 (0, 0))) := ⟨h1_⟩
           have n2_ : Aside0 (w29.heap[D4]? = some (.cells #[.int .i64 0, .int .i64 0, .slice none 0 0, .int .i64 0] 49 (0, 0))) := ⟨h2_⟩
           have n3_ : Aside0 (w29.heap[D2]? = some (.cells #[.int .i64 0, .int .i64 0, .slice none 0 0, .int .i64 0] 49 (0, 0))) := ⟨h3_⟩
           have n4_ : Aside0 (w.heap.size ≤ D2) := ⟨h4_⟩
           have n5_ : Aside0 (w.heap.size ≤ D2) := ⟨h5_⟩
           have n6_ : Aside0 (D3 ≠ D2) := ⟨h6_⟩
           have n7_ : Aside0 (D2 ≠ D3) := ⟨h7_⟩
           have n8_ : Aside0 (D4 ≠ D2) := ⟨h8_⟩
           have n9_ : Aside0 (D2 ≠ D4) := ⟨h9_⟩
           have n10_ : Aside0 (Below w.heap.size w w29) := ⟨h10_⟩
           clear D0; clear D1; clear HB; clear h0_ h1_ h2_ h3_ h4_ h5_ h6_ h7_ h8_ h9_ h10_; have D7 := n0_; have D0 := n1_; have D1 := n2_; have D6 := n3_; have Dd := n4_; have Dc := n5_; have D5 := n6_; have D9 := n7_; have D8 := n8_; have Da := n9_; have HB := n10_; clear n0_ n1_ n2_ n3_ n4_ n5_ n6_ n7_ n8_ n9_ n10_
           have hHeld : w29.cell? ⟨D3, 0, none⟩ = some (.slice A3_0 l3_0.length c3_0) := hS_
           obtain ⟨Dz, E2, Ej⟩ := Kd.R_slice D7.out
           (first | subst Ej | (injection Ej with f1_ f2_ f3_; have f4_ := f1_.symm; have f5_ := f3_.symm; clear f1_ f2_ f3_; subst f4_; subst f5_))
           refine norm_ (a' := ?_) ?_ ?_
           rotate_left
           ·simp only [putAll, Act.put, List.setIfInBounds_toArray, List.set_cons_zero, List.set_cons_succ]; rfl
           refine one_ (i := 6) (N := some 36) (Cmp.bb 13 2303) rfl rfl (one_of HT_.out (by kernel_rfl)) (by decide) (fun K hK => ?_)
           refine goes_ Try.func63 (by kernel_rfl) rfl #[.int .i64 a0, .slice Dz Dg.length E2] (by rfl) rfl rfl Cmp.q ?_
           with_reducible refine (impl_DeriveKey.calls kj4 a0 (fun k_ => some k_ = (.slice Dz Dg.length E2 : Value).ownBlock) _ _ Dg Di _ ?side1 Fo.out).mono ?_
           (case side1 => exact Kd.R_V (Kd.R_tight rfl (Kd.R_types (Kd.R_types (Kd.R_types (D7.out) D0.out (by decide)) D1.out (by decide)) D6.out (by decide))))
           rintro e w31 ⟨rfl, hb⟩; refine ⟨_, rfl, ?_⟩
           replace D7 := Cmp.A (Kd.R_below (Cmp.rr D7.out) hb); replace D0 := Cmp.be D0 hb; replace D1 := Cmp.be D1 hb; replace D6 := Cmp.be D6 hb; replace HB := Cmp.A (below_step (Cmp.g HB.out) hb); (try clear hb); (try clear hb2); (try clear hk); (try clear hi)
           refine hK.out _ _ (Cmp.c0 D0 :) (fun hHeld => ?_)
           clear hK K
           refine Cmp.no ?_
           exact norm_ Cmp.na (hJ5_6_11 (.slice Dz Dg.length E2, D2) _ ⟨hHeld, (Cmp.rr D7.out), (Cmp.b D0.out), (Cmp.b D1.out), (Cmp.b D6.out), Dd.out, Dc.out, D5.out, D9.out, D8.out, Da.out, (Cmp.g HB.out)⟩)
         ·skip
          rintro v468 w30 ⟨hS_, h0_, h1_, h2_, h3_⟩
          have n0_ : Aside0 (Kd.R (Kd.int .i64) 3 w30 w.heap.size (fun _ => True) v468 Dg) := ⟨h0_⟩
          have n1_ : Aside0 (w30.heap[D3]? = some (.cells #[.slice A3_0 l3_0.length c3_0] 45 (0, 0))) := ⟨h1_⟩
          have n2_ : Aside0 (w30.heap[D4]? = some (.cells #[.int .i64 0, .int .i64 0, .slice none 0 0, .int .i64 0] 49 (0, 0))) := ⟨h2_⟩
          have n3_ : Aside0 (Below w.heap.size w w30) := ⟨h3_⟩
          clear D0; clear D1; clear HB; clear h0_ h1_ h2_ h3_; have D7 := n0_; have D0 := n1_; have D1 := n2_; have HB := n3_; clear n0_ n1_ n2_ n3_
          have hHeld : w30.cell? ⟨D3, 0, none⟩ = some (.slice A3_0 l3_0.length c3_0) := hS_
          refine norm_ (a' := ?_) ?_ ?_
          rotate_left
          ·simp only [putAll, Act.put, List.setIfInBounds_toArray, List.set_cons_zero, List.set_cons_succ]; rfl
          refine two_ (i := 8) (j := 11) (Ni := some 38) (Nj := some 10) (Cmp.bm 9 4) (Cmp.bb 13 2303) rfl rfl rfl rfl (two_of HT_.out (by kernel_rfl)) (by decide) (by decide) (fun K hK => ?_) (fun K hK => ?_)
          ·skip
           refine goes_ Try.func25 (by kernel_rfl) rfl #[.agg #[.slice A3_0 l3_0.length c3_0]] (by rfl) rfl rfl Cmp.q ?_
           with_reducible refine (impl_EncodeBundle.calls kj4 _ _ l3_0 Dh _ ?side1 ?side2 Fp.out).mono ?_
           (case side1 => exact Cmp.rc (Kd.C_below Dr.out HB.out))
           (case side2 => exact HC3_0.out)
           rintro e w31 ⟨v472, rfl, Dq, hb⟩; refine ⟨_, rfl, ?_⟩
           have Db := Cmp.A (Kd.R_lower Dq (below_size (Cmp.g HB.out))); replace D7 := Cmp.A (Kd.R_below (Cmp.rr D7.out) hb); replace D0 := Cmp.be D0 hb; replace D1 := Cmp.be D1 hb; replace HB := Cmp.A (below_step (Cmp.g HB.out) hb); (try clear hb); (try clear hb2); (try clear hk); (try clear hi); (try clear Dq)
           refine hK.out _ _ (Cmp.c0 D0 :) (fun hHeld => ?_)
           clear hK K
           refine Cmp.no ?_
           exact norm_ Cmp.na (hJ5_6_8 (v468, v472) _ ⟨hHeld, (Cmp.rr D7.out), (Cmp.rr Db.out), (Cmp.b D0.out), (Cmp.b D1.out), (Cmp.g HB.out)⟩)
          ·skip
           refine box_step ?hg (N := 10) ?hd (cs := #[.int .i64 0, .int .i64 0, .slice none 0 0, .int .i64 0]) (t := 49) ?hr ?_; (case hd => rfl); (case hg => rfl); (case hr => first | (go_simp; done) | (go_simp; rfl))
           intro D2 hg w31 hbox hb
           have D6 := Cmp.A (hbox); have Dd := Cmp.A ((by rw [hg]; exact (below_size (Cmp.g HB.out)) : w.heap.size ≤ D2)); have Dc := Cmp.A ((by rw [hg]; exact (below_size (Cmp.g HB.out)) : w.heap.size ≤ D2)); have D5 := Cmp.A ((by rw [hg]; exact Nat.ne_of_lt (blk_lt (g := D3) (o := .cells #[.slice A3_0 l3_0.length c3_0] 45 (0, 0)) (Cmp.b D0.out)) : D3 ≠ D2)); have D9 := Cmp.A ((by rw [hg]; exact Nat.ne_of_gt (blk_lt (g := D3) (o := .cells #[.slice A3_0 l3_0.length c3_0] 45 (0, 0)) (Cmp.b D0.out)) : D2 ≠ D3)); have D8 := Cmp.A ((by rw [hg]; exact Nat.ne_of_lt (blk_lt (g := D4) (o := .cells #[.int .i64 0, .int .i64 0, .slice none 0 0, .int .i64 0] 49 (0, 0)) (Cmp.b D1.out)) : D4 ≠ D2)); have Da := Cmp.A ((by rw [hg]; exact Nat.ne_of_gt (blk_lt (g := D4) (o := .cells #[.int .i64 0, .int .i64 0, .slice none 0 0, .int .i64 0] 49 (0, 0)) (Cmp.b D1.out)) : D2 ≠ D4)); replace D7 := Cmp.A (Kd.R_below (Cmp.rr D7.out) hb); replace D0 := Cmp.be D0 hb; replace D1 := Cmp.be D1 hb; replace HB := Cmp.A (below_step (Cmp.g HB.out) hb); clear hb hbox hg
           refine hK.out _ _ (Cmp.c0 D0 :) (fun hHeld => ?_)
           clear hK K
           refine Cmp.no ?_
           exact norm_ Cmp.na (hJ5_6_11 (v468, D2) _ ⟨hHeld, (Cmp.rr D7.out), (Cmp.b D0.out), (Cmp.b D1.out), (Cmp.b D6.out), Dd.out, Dc.out, D5.out, D9.out, D8.out, Da.out, (Cmp.g HB.out)⟩)
        ·skip
         rintro ⟨v468, D2⟩ w31 ⟨hS_, h0_, h1_, h2_, h3_, h4_, h5_, h6_, h7_, h8_, h9_, h10_⟩
         have n0_ : Aside0 (Kd.R (Kd.int .i64) 3 w31 w.heap.size (fun _ => True) v468 Dg) := ⟨h0_⟩
         have n1_ : Aside0 (w31.heap[D3]? = some (.cells #[.slice A3_0 l3_0.length c3_0] 45 (0, 0))) := ⟨h1_⟩
         have n2_ : Aside0 (w31.heap[D4]? = some (.cells #[.int .i64 0, .int .i64 0, .slice none 0 0, .int .i64 0] 49 (0, 0))) := ⟨h2_⟩
         have n3_ : Aside0 (w31.heap[D2]? = some (.cells #[.int .i64 0, .int .i64 0, .slice none 0 0, .int .i64 0] 49 (0, 0))) := ⟨h3_⟩
         have n4_ : Aside0 (w.heap.size ≤ D2) := ⟨h4_⟩
         have n5_ : Aside0 (w.heap.size ≤ D2) := ⟨h5_⟩
         have n6_ : Aside0 (D3 ≠ D2) := ⟨h6_⟩
         have n7_ : Aside0 (D2 ≠ D3) := ⟨h7_⟩
         have n8_ : Aside0 (D4 ≠ D2) := ⟨h8_⟩
         have n9_ : Aside0 (D2 ≠ D4) := ⟨h9_⟩
         have n10_ : Aside0 (Below w.heap.size w w31) := ⟨h10_⟩
         clear D0; clear D1; clear HB; clear h0_ h1_ h2_ h3_ h4_ h5_ h6_ h7_ h8_ h9_ h10_; have D7 := n0_; have D0 := n1_; have D1 := n2_; have D6 := n3_; have Dd := n4_; have Dc := n5_; have D5 := n6_; have D9 := n7_; have D8 := n8_; have Da := n9_; have HB := n10_; clear n0_ n1_ n2_ n3_ n4_ n5_ n6_ n7_ n8_ n9_ n10_
         have hHeld : w31.cell? ⟨D3, 0, none⟩ = some (.slice A3_0 l3_0.length c3_0) := hS_
         refine norm_ (a' := ?_) ?_ ?_
         rotate_left
         ·simp only [putAll, Act.put, List.setIfInBounds_toArray, List.set_cons_zero, List.set_cons_succ]; rfl
         refine one_ (i := 8) (N := some 38) (Cmp.bb 13 2559) rfl rfl (one_of HT_.out (by kernel_rfl)) (by decide) (fun K hK => ?_)
         refine goes_ Try.func25 (by kernel_rfl) rfl #[.agg #[.slice A3_0 l3_0.length c3_0]] (by rfl) rfl rfl Cmp.q ?_
         with_reducible refine (impl_EncodeBundle.calls kj4 _ _ l3_0 Dh _ ?side1 ?side2 Fp.out).mono ?_
         (case side1 => exact Cmp.rc (Kd.C_below Dr.out HB.out))
         (case side2 => exact HC3_0.out)
         rintro e w32 ⟨v472, rfl, Dq, hb⟩; refine ⟨_, rfl, ?_⟩
         have Db := Cmp.A (Kd.R_lower Dq (below_size (Cmp.g HB.out))); replace D7 := Cmp.A (Kd.R_below (Cmp.rr D7.out) hb); replace D0 := Cmp.be D0 hb; replace D1 := Cmp.be D1 hb; replace D6 := Cmp.be D6 hb; replace HB := Cmp.A (below_step (Cmp.g HB.out) hb); (try clear hb); (try clear hb2); (try clear hk); (try clear hi); (try clear Dq)
         refine hK.out _ _ (Cmp.c0 D0 :) (fun hHeld => ?_)
         clear hK K
         refine Cmp.no ?_
         exact norm_ Cmp.na (hJ5_6_8_11 (v468, v472, D2) _ ⟨hHeld, (Cmp.rr D7.out), (Cmp.rr Db.out), (Cmp.b D0.out), (Cmp.b D1.out), (Cmp.b D6.out), Dd.out, Dc.out, D5.out, D9.out, D8.out, Da.out, (Cmp.g HB.out)⟩)
       ·skip
        rintro ⟨v468, v472⟩ w31 ⟨hS_, h0_, h1_, h2_, h3_, h4_⟩
        have n0_ : Aside0 (Kd.R (Kd.int .i64) 3 w31 w.heap.size (fun _ => True) v468 Dg) := ⟨h0_⟩
        have n1_ : Aside0 (Kd.R (Kd.int .u8) 5 w31 w.heap.size (fun _ => True) v472 Dh) := ⟨h1_⟩
        have n2_ : Aside0 (w31.heap[D3]? = some (.cells #[.slice A3_0 l3_0.length c3_0] 45 (0, 0))) := ⟨h2_⟩
        have n3_ : Aside0 (w31.heap[D4]? = some (.cells #[.int .i64 0, .int .i64 0, .slice none 0 0, .int .i64 0] 49 (0, 0))) := ⟨h3_⟩
        have n4_ : Aside0 (Below w.heap.size w w31) := ⟨h4_⟩
        clear D0; clear D1; clear HB; clear h0_ h1_ h2_ h3_ h4_; have D7 := n0_; have Db := n1_; have D0 := n2_; have D1 := n3_; have HB := n4_; clear n0_ n1_ n2_ n3_ n4_
        have hHeld : w31.cell? ⟨D3, 0, none⟩ = some (.slice A3_0 l3_0.length c3_0) := hS_
        obtain ⟨Ee, Eg, Ek⟩ := Kd.R_slice Db.out
        (first | subst Ek | (injection Ek with f1_ f2_ f3_; have f4_ := f1_.symm; have f5_ := f3_.symm; clear f1_ f2_ f3_; subst f4_; subst f5_))
        refine norm_ (a' := ?_) ?_ ?_
        rotate_left
        ·simp only [putAll, Act.put, List.setIfInBounds_toArray, List.set_cons_zero, List.set_cons_succ]; rfl
        refine two_ (i := 9) (j := 11) (Ni := some 39) (Nj := some 10) (Cmp.bm 10 3) (Cmp.bb 13 2559) rfl rfl rfl rfl (two_of HT_.out (by kernel_rfl)) (by decide) (by decide) (fun K hK => ?_) (fun K hK => ?_)
        ·skip
         refine goes_ Try.func62 (by kernel_rfl) rfl #[.int .i64 Di, .slice Ee Dh.length Eg] (by rfl) rfl rfl Cmp.q ?_
         with_reducible refine (impl_Encrypt.calls kj4 Di _ _ Dh Df _ ?side1 ?side2 Fq.out).mono ?_
         (case side1 => exact Cmp.rc (Kd.R_reads' Db.out).2.2)
         (case side2 => exact (Kd.R_reads' Db.out).2.1)
         rintro e w33 ⟨v475, rfl, Dq, hb⟩; refine ⟨_, rfl, ?_⟩
         have De := Cmp.A (Kd.R_lower (Kd.R_new' Dq (Kd.R_lt (Cmp.rr Db.out))) (below_size (Cmp.g HB.out))); replace D7 := Cmp.A (Kd.R_below (Cmp.rr D7.out) hb); replace Db := Cmp.A (Kd.R_elder' (Cmp.rr Db.out) (Kd.R_base Dq) hb); replace D0 := Cmp.be D0 hb; replace D1 := Cmp.be D1 hb; replace HB := Cmp.A (below_step (Cmp.g HB.out) hb); (try clear hb); (try clear hb2); (try clear hk); (try clear hi); (try clear Dq)
         obtain ⟨Fl, Fm, Em⟩ := Kd.R_slice De.out
         (first | subst Em | (injection Em with f1_ f2_ f3_; have f4_ := f1_.symm; have f5_ := f3_.symm; clear f1_ f2_ f3_; subst f4_; subst f5_))
         refine hK.out _ _ (Cmp.c0 D0 :) (fun hHeld => ?_)
         clear hK K
         refine Cmp.no ?_
         refine Cmp.pu HT_ 10 40 (Cmp.bm 11 2) ?_
         exact norm_ Cmp.na (hJ5_6_8_9 (v468, .slice Ee Dh.length Eg, .slice Fl Df.length Fm) _ ⟨hHeld, (Cmp.rr D7.out), (Cmp.rm Db.out (fun _ hk => hk.2)), (Cmp.rm De.out (fun _ hk => hk.2)), (Cmp.b D0.out), (Cmp.b D1.out), (Cmp.g HB.out)⟩)
        ·skip
         refine box_step ?hg (N := 10) ?hd (cs := #[.int .i64 0, .int .i64 0, .slice none 0 0, .int .i64 0]) (t := 49) ?hr ?_; (case hd => rfl); (case hg => rfl); (case hr => first | (go_simp; done) | (go_simp; rfl))
         intro D2 hg w32 hbox hb
         have D6 := Cmp.A (hbox); have Dd := Cmp.A ((by rw [hg]; exact (below_size (Cmp.g HB.out)) : w.heap.size ≤ D2)); have Dc := Cmp.A ((by rw [hg]; exact (below_size (Cmp.g HB.out)) : w.heap.size ≤ D2)); have D5 := Cmp.A ((by rw [hg]; exact Nat.ne_of_lt (blk_lt (g := D3) (o := .cells #[.slice A3_0 l3_0.length c3_0] 45 (0, 0)) (Cmp.b D0.out)) : D3 ≠ D2)); have D9 := Cmp.A ((by rw [hg]; exact Nat.ne_of_gt (blk_lt (g := D3) (o := .cells #[.slice A3_0 l3_0.length c3_0] 45 (0, 0)) (Cmp.b D0.out)) : D2 ≠ D3)); have D8 := Cmp.A ((by rw [hg]; exact Nat.ne_of_lt (blk_lt (g := D4) (o := .cells #[.int .i64 0, .int .i64 0, .slice none 0 0, .int .i64 0] 49 (0, 0)) (Cmp.b D1.out)) : D4 ≠ D2)); have Da := Cmp.A ((by rw [hg]; exact Nat.ne_of_gt (blk_lt (g := D4) (o := .cells #[.int .i64 0, .int .i64 0, .slice none 0 0, .int .i64 0] 49 (0, 0)) (Cmp.b D1.out)) : D2 ≠ D4)); replace D7 := Cmp.A (Kd.R_below (Cmp.rr D7.out) hb); replace Db := Cmp.A (Kd.R_below (Cmp.rr Db.out) hb); replace D0 := Cmp.be D0 hb; replace D1 := Cmp.be D1 hb; replace HB := Cmp.A (below_step (Cmp.g HB.out) hb); clear hb hbox hg
         refine hK.out _ _ (Cmp.c0 D0 :) (fun hHeld => ?_)
         clear hK K
         refine Cmp.no ?_
         exact norm_ Cmp.na (hJ5_6_8_11 (v468, _, D2) _ ⟨hHeld, (Cmp.rr D7.out), (Cmp.rr Db.out), (Cmp.b D0.out), (Cmp.b D1.out), (Cmp.b D6.out), Dd.out, Dc.out, D5.out, D9.out, D8.out, Da.out, (Cmp.g HB.out)⟩)
      ·skip
       rintro ⟨v468, v472, D2⟩ w32 ⟨hS_, h0_, h1_, h2_, h3_, h4_, h5_, h6_, h7_, h8_, h9_, h10_, h11_⟩
       have n0_ : Aside0 (Kd.R (Kd.int .i64) 3 w32 w.heap.size (fun _ => True) v468 Dg) := ⟨h0_⟩
       have n1_ : Aside0 (Kd.R (Kd.int .u8) 5 w32 w.heap.size (fun _ => True) v472 Dh) := ⟨h1_⟩
       have n2_ : Aside0 (w32.heap[D3]? = some (.cells #[.slice A3_0 l3_0.length c3_0] 45 (0, 0))) := ⟨h2_⟩
       have n3_ : Aside0 (w32.heap[D4]? = some (.cells #[.int .i64 0, .int .i64 0, .slice none 0 0, .int .i64 0] 49 (0, 0))) := ⟨h3_⟩
       have n4_ : Aside0 (w32.heap[D2]? = some (.cells #[.int .i64 0, .int .i64 0, .slice none 0 0, .int .i64 0] 49 (0, 0))) := ⟨h4_⟩
       have n5_ : Aside0 (w.heap.size ≤ D2) := ⟨h5_⟩
       have n6_ : Aside0 (w.heap.size ≤ D2) := ⟨h6_⟩
       have n7_ : Aside0 (D3 ≠ D2) := ⟨h7_⟩
       have n8_ : Aside0 (D2 ≠ D3) := ⟨h8_⟩
       have n9_ : Aside0 (D4 ≠ D2) := ⟨h9_⟩
       have n10_ : Aside0 (D2 ≠ D4) := ⟨h10_⟩
       have n11_ : Aside0 (Below w.heap.size w w32) := ⟨h11_⟩
       clear D0; clear D1; clear HB; clear h0_ h1_ h2_ h3_ h4_ h5_ h6_ h7_ h8_ h9_ h10_ h11_; have D7 := n0_; have Db := n1_; have D0 := n2_; have D1 := n3_; have D6 := n4_; have Dd := n5_; have Dc := n6_; have D5 := n7_; have D9 := n8_; have D8 := n9_; have Da := n10_; have HB := n11_; clear n0_ n1_ n2_ n3_ n4_ n5_ n6_ n7_ n8_ n9_ n10_ n11_
       have hHeld : w32.cell? ⟨D3, 0, none⟩ = some (.slice A3_0 l3_0.length c3_0) := hS_
       obtain ⟨Ef, Eh, El⟩ := Kd.R_slice Db.out
       (first | subst El | (injection El with f1_ f2_ f3_; have f4_ := f1_.symm; have f5_ := f3_.symm; clear f1_ f2_ f3_; subst f4_; subst f5_))
       refine norm_ (a' := ?_) ?_ ?_
       rotate_left
       ·simp only [putAll, Act.put, List.setIfInBounds_toArray, List.set_cons_zero, List.set_cons_succ]; rfl
       refine one_ (i := 9) (N := some 39) (Cmp.bb 13 3071) rfl rfl (one_of HT_.out (by kernel_rfl)) (by decide) (fun K hK => ?_)
       refine goes_ Try.func62 (by kernel_rfl) rfl #[.int .i64 Di, .slice Ef Dh.length Eh] (by rfl) rfl rfl Cmp.q ?_
       with_reducible refine (impl_Encrypt.calls kj4 Di _ _ Dh Df _ ?side1 ?side2 Fq.out).mono ?_
       (case side1 => exact Cmp.rc (Kd.R_reads' Db.out).2.2)
       (case side2 => exact (Kd.R_reads' Db.out).2.1)
       rintro e w34 ⟨v475, rfl, Dq, hb⟩; refine ⟨_, rfl, ?_⟩
       have De := Cmp.A (Kd.R_lower (Kd.R_new' Dq (Kd.R_lt (Cmp.rr Db.out))) (below_size (Cmp.g HB.out))); replace D7 := Cmp.A (Kd.R_below (Cmp.rr D7.out) hb); replace Db := Cmp.A (Kd.R_elder' (Cmp.rr Db.out) (Kd.R_base Dq) hb); replace D0 := Cmp.be D0 hb; replace D1 := Cmp.be D1 hb; replace D6 := Cmp.be D6 hb; replace HB := Cmp.A (below_step (Cmp.g HB.out) hb); (try clear hb); (try clear hb2); (try clear hk); (try clear hi); (try clear Dq)
       obtain ⟨E0, E3, Ds⟩ := Kd.R_slice De.out
       (first | subst Ds | (injection Ds with f1_ f2_ f3_; have f4_ := f1_.symm; have f5_ := f3_.symm; clear f1_ f2_ f3_; subst f4_; subst f5_))
       refine hK.out _ _ (Cmp.c0 D0 :) (fun hHeld => ?_)
       clear hK K
       refine Cmp.no ?_
       refine Cmp.pu HT_ 10 40 (Cmp.bm 12 1) ?_
       exact norm_ Cmp.na (hJ5_6_8_9_11 (v468, .slice Ef Dh.length Eh, .slice E0 Df.length E3, D2) _ ⟨hHeld, (Cmp.rr D7.out), (Cmp.rm Db.out (fun _ hk => hk.2)), (Cmp.rm De.out (fun _ hk => hk.2)), (Cmp.b D0.out), (Cmp.b D1.out), (Cmp.b D6.out), Dd.out, Dc.out, D5.out, D9.out, D8.out, Da.out, (Cmp.g HB.out)⟩)
     ·skip
      rintro ⟨v468, v472, v475⟩ w34 ⟨hS_, h0_, h1_, h2_, h3_, h4_, h5_⟩
      have n0_ : Aside0 (Kd.R (Kd.int .i64) 3 w34 w.heap.size (fun _ => True) v468 Dg) := ⟨h0_⟩
      have n1_ : Aside0 (Kd.R (Kd.int .u8) 5 w34 w.heap.size (fun k_ => some k_ ≠ (v475 : Value).ownBlock) v472 Dh) := ⟨h1_⟩
      have n2_ : Aside0 (Kd.R (Kd.int .u8) 5 w34 w.heap.size (fun k_ => some k_ ≠ (v472 : Value).ownBlock) v475 Df) := ⟨h2_⟩
      have n3_ : Aside0 (w34.heap[D3]? = some (.cells #[.slice A3_0 l3_0.length c3_0] 45 (0, 0))) := ⟨h3_⟩
      have n4_ : Aside0 (w34.heap[D4]? = some (.cells #[.int .i64 0, .int .i64 0, .slice none 0 0, .int .i64 0] 49 (0, 0))) := ⟨h4_⟩
      have n5_ : Aside0 (Below w.heap.size w w34) := ⟨h5_⟩
      clear D0; clear D1; clear HB; clear h0_ h1_ h2_ h3_ h4_ h5_; have D7 := n0_; have Db := n1_; have De := n2_; have D0 := n3_; have D1 := n4_; have HB := n5_; clear n0_ n1_ n2_ n3_ n4_ n5_
      have hHeld : w34.cell? ⟨D3, 0, none⟩ = some (.slice A3_0 l3_0.length c3_0) := hS_
      obtain ⟨E0, E3, Ds⟩ := Kd.R_slice De.out
      (first | subst Ds | (injection Ds with f1_ f2_ f3_; have f4_ := f1_.symm; have f5_ := f3_.symm; clear f1_ f2_ f3_; subst f4_; subst f5_))
      refine norm_ (a' := ?_) ?_ ?_
      rotate_left
      ·simp only [putAll, Act.put, List.setIfInBounds_toArray, List.set_cons_zero, List.set_cons_succ]; rfl
      refine one_ (i := 11) (N := some 10) (Cmp.bm 12 1) rfl rfl (one_of HT_.out (by kernel_rfl)) (by decide) (fun K hK => ?_)
      refine box_step ?hg (N := 10) ?hd (cs := #[.int .i64 0, .int .i64 0, .slice none 0 0, .int .i64 0]) (t := 49) ?hr ?_; (case hd => rfl); (case hg => rfl); (case hr => first | (go_simp; done) | (go_simp; rfl))
      intro D2 hg w36 hbox hb
      have D6 := Cmp.A (hbox); have Dd := Cmp.A ((by rw [hg]; exact (below_size (Cmp.g HB.out)) : w.heap.size ≤ D2)); have Dc := Cmp.A ((by rw [hg]; exact (below_size (Cmp.g HB.out)) : w.heap.size ≤ D2)); have D5 := Cmp.A ((by rw [hg]; exact Nat.ne_of_lt (blk_lt (g := D3) (o := .cells #[.slice A3_0 l3_0.length c3_0] 45 (0, 0)) (Cmp.b D0.out)) : D3 ≠ D2)); have D9 := Cmp.A ((by rw [hg]; exact Nat.ne_of_gt (blk_lt (g := D3) (o := .cells #[.slice A3_0 l3_0.length c3_0] 45 (0, 0)) (Cmp.b D0.out)) : D2 ≠ D3)); have D8 := Cmp.A ((by rw [hg]; exact Nat.ne_of_lt (blk_lt (g := D4) (o := .cells #[.int .i64 0, .int .i64 0, .slice none 0 0, .int .i64 0] 49 (0, 0)) (Cmp.b D1.out)) : D4 ≠ D2)); have Da := Cmp.A ((by rw [hg]; exact Nat.ne_of_gt (blk_lt (g := D4) (o := .cells #[.int .i64 0, .int .i64 0, .slice none 0 0, .int .i64 0] 49 (0, 0)) (Cmp.b D1.out)) : D2 ≠ D4)); replace D7 := Cmp.A (Kd.R_below (Cmp.rr D7.out) hb); replace Db := Cmp.A (Kd.R_below (Cmp.rr Db.out) hb); replace De := Cmp.A (Kd.R_below (Cmp.rr De.out) hb); replace D0 := Cmp.be D0 hb; replace D1 := Cmp.be D1 hb; replace HB := Cmp.A (below_step (Cmp.g HB.out) hb); clear hb hbox hg
      refine hK.out _ _ (Cmp.c0 D0 :) (fun hHeld => ?_)
      clear hK K
      refine Cmp.no ?_
      exact norm_ Cmp.na (hJ5_6_8_9_11 (v468, v472, .slice E0 Df.length E3, D2) _ ⟨hHeld, (Cmp.rr D7.out), (Cmp.rr Db.out), (Cmp.rr De.out), (Cmp.b D0.out), (Cmp.b D1.out), (Cmp.b D6.out), Dd.out, Dc.out, D5.out, D9.out, D8.out, Da.out, (Cmp.g HB.out)⟩)
    rintro ⟨v468, v472, v475, D2⟩ w35 ⟨hS_, h0_, h1_, h2_, h3_, h4_, h5_, h6_, h7_, h8_, h9_, h10_, h11_, h12_⟩
    have n0_ : Aside0 (Kd.R (Kd.int .i64) 3 w35 w.heap.size (fun _ => True) v468 Dg) := ⟨h0_⟩
    have n1_ : Aside0 (Kd.R (Kd.int .u8) 5 w35 w.heap.size (fun k_ => some k_ ≠ (v475 : Value).ownBlock) v472 Dh) := ⟨h1_⟩
    have n2_ : Aside0 (Kd.R (Kd.int .u8) 5 w35 w.heap.size (fun k_ => some k_ ≠ (v472 : Value).ownBlock) v475 Df) := ⟨h2_⟩
    have n3_ : Aside0 (w35.heap[D3]? = some (.cells #[.slice A3_0 l3_0.length c3_0] 45 (0, 0))) := ⟨h3_⟩
    have n4_ : Aside0 (w35.heap[D4]? = some (.cells #[.int .i64 0, .int .i64 0, .slice none 0 0, .int .i64 0] 49 (0, 0))) := ⟨h4_⟩
    have n5_ : Aside0 (w35.heap[D2]? = some (.cells #[.int .i64 0, .int .i64 0, .slice none 0 0, .int .i64 0] 49 (0, 0))) := ⟨h5_⟩
    have n6_ : Aside0 (w.heap.size ≤ D2) := ⟨h6_⟩
    have n7_ : Aside0 (w.heap.size ≤ D2) := ⟨h7_⟩
    have n8_ : Aside0 (D3 ≠ D2) := ⟨h8_⟩
    have n9_ : Aside0 (D2 ≠ D3) := ⟨h9_⟩
    have n10_ : Aside0 (D4 ≠ D2) := ⟨h10_⟩
    have n11_ : Aside0 (D2 ≠ D4) := ⟨h11_⟩
    have n12_ : Aside0 (Below w.heap.size w w35) := ⟨h12_⟩
    clear D0; clear D1; clear HB; clear h0_ h1_ h2_ h3_ h4_ h5_ h6_ h7_ h8_ h9_ h10_ h11_ h12_; have D7 := n0_; have Db := n1_; have De := n2_; have D0 := n3_; have D1 := n4_; have D6 := n5_; have Dd := n6_; have Dc := n7_; have D5 := n8_; have D9 := n9_; have D8 := n10_; have Da := n11_; have HB := n12_; clear n0_ n1_ n2_ n3_ n4_ n5_ n6_ n7_ n8_ n9_ n10_ n11_ n12_
    have hHeld : w35.cell? ⟨D3, 0, none⟩ = some (.slice A3_0 l3_0.length c3_0) := hS_
    obtain ⟨Dm, Dl, En⟩ := Kd.R_slice De.out
    (first | subst En | (injection En with f1_ f2_ f3_; have f4_ := f1_.symm; have f5_ := f3_.symm; clear f1_ f2_ f3_; subst f4_; subst f5_))
    refine norm_ (a' := ?_) ?_ ?_
    rotate_left
    ·simp only [putAll, Act.put, List.setIfInBounds_toArray, List.set_cons_zero, List.set_cons_succ]; rfl
    refine one_ (i := 12) (N := none) (Cmp.bm 13 0) rfl rfl (one_of HT_.out (by kernel_rfl)) (by decide) (fun K hK => ?_)
    have hs37 : w35.cell? ⟨D2, 0, none⟩ = some (.int .i64 0) := (blk_cell D6.out 0).trans rfl
    have hfs37 := blk_frozen D6.out 0; have hns37_0 := D5.out; have hns37_1 := D8.out; have hms37_0 := D9.out; have hms37_1 := Da.out
    have hs38 : w35.cell? ⟨D2, 1, none⟩ = some (.int .i64 0) := (blk_cell D6.out 1).trans rfl
    have hfs38 := blk_frozen D6.out 1; have hns38_0 := D5.out; have hns38_1 := D8.out; have hms38_0 := D9.out; have hms38_1 := Da.out
    have hs39 : w35.cell? ⟨D2, 2, none⟩ = some (.slice none 0 0) := (blk_cell D6.out 2).trans rfl
    have hfs39 := blk_frozen D6.out 2; have hns39_0 := D5.out; have hns39_1 := D8.out; have hms39_0 := D9.out; have hms39_1 := Da.out
    have hs40 : w35.cell? ⟨D2, 3, none⟩ = some (.int .i64 0) := (blk_cell D6.out 3).trans rfl
    have hfs40 := blk_frozen D6.out 3; have hns40_0 := D5.out; have hns40_1 := D8.out; have hms40_0 := D9.out; have hms40_1 := Da.out
    refine skip_ (w1 := ?_) (by rfl) rfl ?_ ?_
    rotate_left
    ·go_simp; rfl
    refine hK.out _ _ (((cell_far (p := ⟨D2, _, none⟩) D5.out _).trans (((cell_far (p := ⟨D2, _, none⟩) D5.out _).trans (((cell_far (p := ⟨D2, _, none⟩) D5.out _).trans (((cell_far (p := ⟨D2, _, none⟩) D5.out _).trans (hHeld))))))))) (fun hHeld => ?_)
    clear hK K
    refine done_ (done_of HT_.out (by kernel_rfl)) ?_
    have Fy := D9.out; have G3 := D5.out; have Fz := Da.out; have G4 := D8.out
    obtain ⟨Es, Et, Eu, Ev⟩ := Cmp.q4 D6
    obtain ⟨F8, F9, Fa, Fb⟩ := Cmp.f4 D6
    try go_wp2_with (first | ((with_reducible refine gate_callee (f := 64) rfl ?_); refine goesL_ (some 43) rfl rfl Try.func64 (by kernel_rfl) rfl #[.int .i64 a0, .agg #[.int .i64 a1, .int .i64 a2, .slice Dm Df.length Dl, .int .i64 0]] rfl Cmp.q ?_; (with_reducible refine (impl_BundleMAC.calls kj4 a0 a1 a2 _ _ Df 0 Dn _ ?side1 ?side2 G7.out).mono ?_); (case side1 => refine (Kd.R_reads' (e := 5) (base := w.heap.size) (ok := fun k_ => some k_ ≠ (v472 : Value).ownBlock) (n := Df.length) (c := Dl) ?_).2.2; exact (Cmp.rm (Kd.R_far (p := ⟨D2, 3, none⟩) (Kd.R_far (p := ⟨D2, 2, none⟩) (Kd.R_far (p := ⟨D2, 1, none⟩) (Kd.R_far (p := ⟨D2, 0, none⟩) (Kd.R_types De.out D6.out (by decide)) (fun _ hk => hk.2) (.int .i64 a1)) (fun _ hk => hk.2) (.int .i64 a2)) (fun _ hk => hk.2) (.slice Dm Df.length Dl)) (fun _ hk => hk.2) (.int .i64 0)) (fun _ h_ => h_.1))); (case side2 => exact (Kd.R_reads' De.out).2.1); rintro e w44 ⟨rfl, hb⟩; refine ⟨_, rfl, ?_⟩; replace D7 := Cmp.A (Kd.R_below (Cmp.rm (Kd.R_far (p := ⟨D2, 3, none⟩) (Kd.R_far (p := ⟨D2, 2, none⟩) (Kd.R_far (p := ⟨D2, 1, none⟩) (Kd.R_far (p := ⟨D2, 0, none⟩) (Kd.R_types D7.out D6.out (by decide)) (fun _ hk => hk.2) (.int .i64 a1)) (fun _ hk => hk.2) (.int .i64 a2)) (fun _ hk => hk.2) (.slice Dm Df.length Dl)) (fun _ hk => hk.2) (.int .i64 0)) (fun _ h_ => h_.1)) hb); replace Db := Cmp.A (Kd.R_below (Cmp.rm (Kd.R_far (p := ⟨D2, 3, none⟩) (Kd.R_far (p := ⟨D2, 2, none⟩) (Kd.R_far (p := ⟨D2, 1, none⟩) (Kd.R_far (p := ⟨D2, 0, none⟩) (Kd.R_types Db.out D6.out (by decide)) (fun _ hk => hk.2) (.int .i64 a1)) (fun _ hk => hk.2) (.int .i64 a2)) (fun _ hk => hk.2) (.slice Dm Df.length Dl)) (fun _ hk => hk.2) (.int .i64 0)) (fun _ h_ => h_.1)) hb); replace De := Cmp.A (Kd.R_below (Cmp.rm (Kd.R_far (p := ⟨D2, 3, none⟩) (Kd.R_far (p := ⟨D2, 2, none⟩) (Kd.R_far (p := ⟨D2, 1, none⟩) (Kd.R_far (p := ⟨D2, 0, none⟩) (Kd.R_types De.out D6.out (by decide)) (fun _ hk => hk.2) (.int .i64 a1)) (fun _ hk => hk.2) (.int .i64 a2)) (fun _ hk => hk.2) (.slice Dm Df.length Dl)) (fun _ hk => hk.2) (.int .i64 0)) (fun _ h_ => h_.1)) hb); replace D0 := Cmp.A (blk_below (g := D3) (o := .cells #[.slice A3_0 l3_0.length c3_0] 45 (0, 0)) (Cmp.bw D0.out) hb); replace D1 := Cmp.A (blk_below (g := D4) (o := .cells #[.int .i64 0, .int .i64 0, .slice none 0 0, .int .i64 0] 49 (0, 0)) (Cmp.bw D1.out) hb); replace D6 := Cmp.A (blk_below (g := D2) (o := .cells #[.int .i64 a1, .int .i64 a2, .slice Dm Df.length Dl, .int .i64 0] 49 (0, 0)) (Cmp.bw D6.out) hb); replace HB := Cmp.bs HB hb; (try clear hb); (try clear hb2); (try clear hk); (try clear hi); obtain ⟨Ew, Ex, Ey, Ez⟩ := Cmp.q4 D6; obtain ⟨Fc, Fd, Fe, Ff⟩ := Cmp.f4 D6; have G0 := Dk.out; have G5 := Dj.out; obtain ⟨F0, F1, F2, F3⟩ := Cmp.q4 D1; obtain ⟨Fg, Fh, Fi, Fj⟩ := Cmp.f4 D1))
    refine bodyPost_ret (results_ct rfl _ _ D4 49 #[.int .i64 a1, .int .i64 a2, .slice Dm Df.length Dl, .int .i64 Dn] (0, 0) _ rfl (Cmp.bw D1.out) Try.underlying49 rfl (by kernel_rfl)) rfl ?_
    exact ⟨_, by first | rfl | (simp [errW_none, errW_some] <;> rfl) | (simp [*, errW_none, errW_some] <;> rfl), by (with_reducible repeat (first | apply Kd.R_alloc | apply Kd.R_drewN | apply Kd.R_drew)); exact Kd.R_mono (Kd.R_far (p := ⟨D4, 3, none⟩) (Kd.R_far (p := ⟨D4, 2, none⟩) (Kd.R_far (p := ⟨D4, 1, none⟩) (Kd.R_far (p := ⟨D4, 0, none⟩) (Kd.R_far (p := ⟨D2, 3, none⟩) (Kd.R_types (Kd.R_types De.out D6.out (by decide)) D1.out (by decide)) (fun _ hk => hk.1.2) (.int .i64 Dn)) (fun _ hk => hk.2) (.int .i64 a1)) (fun _ hk => hk.2) (.int .i64 a2)) (fun _ hk => hk.2) (.slice Dm Df.length Dl)) (fun _ hk => hk.2) (.int .i64 Dn)) (fun _ hk => trivial), Cmp.g HB.out⟩
end Go.Proofs.Ytpgjecknkmmnhaa.PFnSealedBundles

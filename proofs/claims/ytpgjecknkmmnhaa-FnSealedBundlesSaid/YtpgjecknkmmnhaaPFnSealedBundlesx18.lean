/- Printed functions of the program, out of print.sh, told more shortly. No condition. -/
import Derived.Test.YtpgjecknkmmnhaaCmp
import Derived.Test.YtpgjecknkmmnhaaPFnSealedBundlesx0
import Derived.Test.YtpgjecknkmmnhaaPFnSealedBundlesx3
import Derived.Test.YtpgjecknkmmnhaaPFnSealedBundlesx15
import Derived.Test.YtpgjecknkmmnhaaPFnSealedBundlesx16
import Derived.Test.YtpgjecknkmmnhaaPFnSealedBundlesx17
namespace Go.Proofs.Ytpgjecknkmmnhaa.PFnSealedBundles
open Go.Proofs.Ytpgjecknkmmnhaa
open Go.RowKit Go.Proofs.YtpgjecknkmmnhaaW.PrintWords Go.Proofs.YtpgjecknkmmnhaaW.PrintLast Go.Proofs.YtpgjecknkmmnhaaW.PrintMore
attribute [local go_sem] max2_int min2_int max_two min_two max_three min_three max_four min_four   -- for this text's walks alone
set_option linter.unusedVariables false
set_option linter.unusedSimpArgs false
/-! ### spec_SealBundle: function 22 -/
def spec_SealBundle.j0 : Nat → Int → Int → Int → Bool → List (S94) → Option (Int × Int × List Int × Int × Bool)
  | 0, _, _, _, _, _ => none
  | k + 1, x0, x1, x2, x20, x588000 => if x20 = true then (some (0, 0, ([] : List Int), 0, false)) else ((spec_l18Key.f k x0 x1 x2).bind fun t591 => ((spec_EncodeBundle.f k x588000).bind fun t592 => ((spec_Encrypt.f k t591 t592).bind fun t595 => ((spec_BundleMAC.f k x0 x1 x2 t595 0).bind fun t599 => (some (x1, x2, t595, t599, true))))))
def spec_SealBundle.f (k : Nat) (a0 : Int) (a1 : Int) (a2 : Int) (l3_0 : List (S94)) : Option (Int × Int × List Int × Int × Bool) := (spec_l18Range.f a0 a1 a2).bind fun t589 => (if t589 = true then ((spec_IsBundle.f k l3_0).bind fun t590 => (spec_SealBundle.j0 k a0 a1 a2 (!t590) l3_0)) else (spec_SealBundle.j0 k a0 a1 a2 true l3_0))
theorem spec_SealBundle.mono_l : ∀ k, (∀ y0 y1 y2 y3 y4, LeO (spec_SealBundle.j0 k y0 y1 y2 y3 y4) (spec_SealBundle.j0 (k + 1) y0 y1 y2 y3 y4))
 | 0 => fun _ _ _ _ _ r h => by simp [spec_SealBundle.j0] at h
 | k + 1 => by
    have ih0 := spec_SealBundle.mono_l k
    · intro y0 y1 y2 y3 y4
      unfold spec_SealBundle.j0
      repeat' first
 | (with_reducible exact ih0 _ _ _ _ _)
 | (with_reducible exact spec_BundleMAC.mono _ _ _ _ _ _)
 | (with_reducible exact spec_EncodeBundle.mono _ _)
 | (with_reducible exact spec_Encrypt.mono _ _ _)
 | (with_reducible exact spec_IsBundle.mono _ _)
 | (with_reducible exact spec_l18Key.mono _ _ _ _)
 | (with_reducible exact LeO.refl _)
 | (with_reducible exact LeO.none _)
 | (with_reducible refine LeO.ite ?_ ?_)
 | (with_reducible refine LeO.bind ?_ (fun _ => ?_))
theorem spec_SealBundle.mono : ∀ a0 a1 a2 a3 k, LeO (spec_SealBundle.f k a0 a1 a2 a3) (spec_SealBundle.f (k + 1) a0 a1 a2 a3) := by
  intro a0 a1 a2 a3 k
  have ih0 := spec_SealBundle.mono_l k
  unfold spec_SealBundle.f
  repeat' first
 | (with_reducible exact ih0 _ _ _ _ _)
 | (with_reducible exact spec_BundleMAC.mono _ _ _ _ _ _)
 | (with_reducible exact spec_EncodeBundle.mono _ _)
 | (with_reducible exact spec_Encrypt.mono _ _ _)
 | (with_reducible exact spec_IsBundle.mono _ _)
 | (with_reducible exact spec_l18Key.mono _ _ _ _)
 | (with_reducible exact LeO.refl _)
 | (with_reducible exact LeO.none _)
 | (with_reducible refine LeO.ite ?_ ?_)
 | (with_reducible refine LeO.bind ?_ (fun _ => ?_))
def spec_SealBundle.T3 : Bool × List (List Nat × List Nat) := (true, [([], []), ([], []), ([], []), ([], []), ([], []), ([2, 3, 4], [2, 3, 4]), ([], []), ([6, 5], [6]), ([5, 7, 7], [5, 7]), ([0, 1, 8], [0, 1, 8]), ([], []), ([10, 9, 8, 0, 1, 2, 3, 4, 5, 6, 7, 8, 9, 10], [9, 10])])
def spec_SealBundle.B3 : List Nat := [0, 0, 0, 0, 0, 28, 0, 124, 252, 511, 0, 2047]
theorem spec_SealBundle.tab3 : rtab .any (opsOf Try.f22 3) = spec_SealBundle.T3 := by kernel_rfl
theorem spec_SealBundle.bits3 : waitsOk spec_SealBundle.T3.2 spec_SealBundle.B3 = true := by kernel_rfl
set_option maxHeartbeats 8000000 in
set_option maxRecDepth 100000 in
theorem spec_SealBundle.calls (k : Nat) (a0 : Int) (a1 : Int) (a2 : Int) (A3_0 : Option Addr) (c3_0 : Nat) (l3_0 : List (S94)) (r1 : Int) (r2 : Int) (r3 : List Int) (r4 : Int) (r5 : Bool) (w : World) (hr3_0 : Kd.C k94 w A3_0 l3_0.length l3_0) (hc3_0 : l3_0.length ≤ c3_0) (h : spec_SealBundle.f k a0 a1 a2 l3_0 = some (r1, r2, r3, r4, r5)) :
    Calls Try.prog 22 #[.int .i64 a0, .int .i64 a1, .int .i64 a2, .agg #[.slice A3_0 l3_0.length c3_0]] w fun e w' => ∃ v2_ : Value, e = .returned (.tuple #[.agg #[.int .i64 r1, .int .i64 r2, v2_, .int .i64 r4], .bool r5]) ∧ Kd.R (Kd.int .u8) 5 w' w.heap.size (fun _ => True) v2_ r3 ∧ Below w.heap.size w w' := by
 have hu45 := Try.underlying45; have hu49 := Try.underlying49; have Dq := Cmp.A hr3_0; have HC3_0 := Cmp.A hc3_0; clear hr3_0 hc3_0
 have HB := Cmp.A (Below.refl w.heap.size w)
 have H : ((spec_l18Range.f a0 a1 a2).bind fun Dy => (if Dy = true then ((spec_IsBundle.f k l3_0).bind fun Dx => (spec_SealBundle.j0 k a0 a1 a2 (!Dx) l3_0)) else (spec_SealBundle.j0 k a0 a1 a2 true l3_0))) = some (r1, r2, r3, r4, r5) := h
 clear h; have HC5 := Cmp.A H; clear H
 go_enter Try.func22, Try.ntmps22
 go_upto_region 1 with (first | ((with_reducible refine gate_dst (N := 7) rfl ?_); refine box_event ?hg (N := 7) ?hd (cs := #[.slice A3_0 l3_0.length c3_0]) (t := 45) ?hr ?_; (case hd => rfl); (case hg => rfl); (case hr => first | (go_simp; done) | (go_simp; rfl)); intro Da hg w6 hbox hb; have D0 := Cmp.A (hbox); have Fd := Cmp.gw hg HB; have Fb := Cmp.gw hg HB; replace HB := Cmp.bs HB hb; clear hb hbox hg) | ((with_reducible refine gate_dst (N := 8) rfl ?_); refine box_event ?hg (N := 8) ?hd (cs := #[.int .i64 0, .int .i64 0, .slice none 0 0, .int .i64 0]) (t := 49) ?hr ?_; (case hd => rfl); (case hg => rfl); (case hr => first | (go_simp; done) | (go_simp; rfl)); intro D6 hg w7 hbox hb; have D1 := Cmp.A (hbox); have Fe := Cmp.gw hg HB; have Fc := Cmp.gw hg HB; have De := Cmp.nl hg D0; have Df := Cmp.ng hg D0; replace D0 := Cmp.be D0 hb; replace HB := Cmp.bs HB hb; clear hb hbox hg))
 (try simp only [Act.put, List.setIfInBounds_toArray, List.set_cons_zero, List.set_cons_succ])
 go_cut [20] (fun v20 wc => ∃ (kq : Nat) (Dr : Bool), v20 = .bool Dr ∧ Aside0 (spec_SealBundle.j0 kq a0 a1 a2 Dr l3_0 = some (r1, r2, r3, r4, r5)) ∧ Aside0 (kq ≤ k) ∧ Aside0 (wc.heap[Da]? = some (.cells #[(.slice A3_0 l3_0.length c3_0)] 45 (0, 0))) ∧ Aside0 (wc.heap[D6]? = some (.cells #[.int .i64 0, .int .i64 0, (.slice none 0 0), .int .i64 0] 49 (0, 0))) ∧ Aside0 (Below w.heap.size w wc))
 case first =>
  have H := HC5.out; clear HC5; replace H := Option.bind_eq_some_iff.mp H; obtain ⟨Dy, Fa, H⟩ := H; (try dsimp only at H); have A8 := Cmp.A Fa; clear Fa
  by_cases c9 : Dy = true
  ·subst c9; rw [if_pos rfl] at H; replace H := Option.bind_eq_some_iff.mp H; obtain ⟨Dx, Dz, H⟩ := H; (try dsimp only at H); have Fp := Cmp.A Dz; clear Dz
   have H' := Cmp.A H
   clear H
   go_wp2_with (first | ((with_reducible refine gate_callee (f := 65) rfl ?_); refine goesL_ (some 14) rfl rfl Try.func65 (by kernel_rfl) rfl #[.int .i64 a0, .int .i64 a1, .int .i64 a2] rfl Cmp.q ?_; (with_reducible refine (spec_l18Range.calls a0 a1 a2 true _ A8.out).mono ?_); rintro e w' ⟨rfl, ⟨nd, rfl⟩⟩; refine ⟨_, rfl, ?_⟩; have Ff := De.out; have Fk := Df.out; have Dv := Cmp.c0 D0; have Dw := blk_frozen D0.out 0) | (go_at_call 66; (with_reducible refine (spec_IsBundle.calls k _ _ l3_0 Dx _ ?side1 ?side2 Fp.out).mono ?_); (case side1 => exact Cmp.rc (Kd.C_below Dq.out (Cmp.g HB.out))); (case side2 => exact HC3_0.out); rintro e w13 ⟨rfl, hb⟩; replace D0 := Cmp.be D0 hb; replace D1 := Cmp.be D1 hb; replace HB := Cmp.bs HB hb; (try clear hb); (try clear hb2); (try clear hk); (try clear hi)))
   go_meet
   case rel => exact ⟨_, (!Dx), (by first | rfl | simp | simp [*]), H', ⟨by first | omega | exact Nat.le_refl _⟩, Cmp.bq D0, Cmp.bq D1, ⟨Cmp.g HB.out⟩⟩
  ·replace c9 := Bool.eq_false_iff.mpr c9
   subst c9
   have H1 : (spec_SealBundle.j0 k a0 a1 a2 true l3_0) = some (r1, r2, r3, r4, r5) := by rw [if_neg (show ¬ (false = true) by decide)] at H; exact H
   clear H; have H := H1; clear H1
   have H' := Cmp.A H
   clear H
   go_wp2_with (first | ((with_reducible refine gate_callee (f := 65) rfl ?_); refine goesL_ (some 14) rfl rfl Try.func65 (by kernel_rfl) rfl #[.int .i64 a0, .int .i64 a1, .int .i64 a2] rfl Cmp.q ?_; (with_reducible refine (spec_l18Range.calls a0 a1 a2 false _ A8.out).mono ?_); rintro e w' ⟨rfl, ⟨nd, rfl⟩⟩; refine ⟨_, rfl, ?_⟩))
   go_meet
   case rel => exact ⟨_, (true), (by first | rfl | simp | simp [*]), H', ⟨by first | omega | exact Nat.le_refl _⟩, Cmp.bq D0, Cmp.bq D1, ⟨Cmp.g HB.out⟩⟩
 case rest =>
  clear HC5; (try clear c1); (try clear c2); (try clear p2); (try clear c3); (try clear c6); (try clear c9); (try clear c11); (try clear Dv); (try clear Dw)
  obtain ⟨kq, Dr, rfl, HA, HJ4, D0, D1, HB⟩ := hcut
  cases kq with
  | zero => exact absurd HA.out (by simp [spec_SealBundle.j0])
  | succ kj4 =>
   have H := HA.out; clear HA
   simp only [spec_SealBundle.j0] at H
   by_cases c14 : Dr = true
   ·subst c14; rw [if_pos rfl] at H
    simp only [Option.some.injEq, Prod.mk.injEq] at H
    obtain ⟨rfl, rfl, rfl, rfl, rfl⟩ := H; have Fg := Df.out; have Fl := De.out
    have Ea : wc.cell? ⟨D6, 0, none⟩ = some (.int .i64 0) := (blk_cell D1.out 0).trans rfl
    have Eb : wc.cell? ⟨D6, 1, none⟩ = some (.int .i64 0) := (blk_cell D1.out 1).trans rfl
    have Ec : wc.cell? ⟨D6, 2, none⟩ = some (.slice none 0 0) := (blk_cell D1.out 2).trans rfl
    have Ed : wc.cell? ⟨D6, 3, none⟩ = some (.int .i64 0) := (blk_cell D1.out 3).trans rfl
    obtain ⟨Eq, Er, Es, Et⟩ := Cmp.f4 D1
    go_wp2
    refine bodyPost_ret (results_ct rfl _ _ D6 49 #[.int .i64 0, .int .i64 0, .slice none 0 0, .int .i64 0] (0, 0) _ rfl (Cmp.bw D1.out) Try.underlying49 rfl (by kernel_rfl)) rfl ?_
    exact ⟨_, by first | rfl | (simp [errW_none, errW_some] <;> rfl) | (simp [*, errW_none, errW_some] <;> rfl), by first | exact Kd.R_nil _ _ _ _ _ | exact Kd.N_nil _ _ _ _ _ | exact Kd.V_nil _ _ _ _ _ | exact Kd.Q_nil _ _ _ _ _ | exact Kd.S_nil _ _ _ _ _, Cmp.g HB.out⟩
   ·replace c14 := Bool.eq_false_iff.mpr c14
    subst c14
    have H1 : ((spec_l18Key.f kj4 a0 a1 a2).bind fun Dg => ((spec_EncodeBundle.f kj4 l3_0).bind fun Dd => ((spec_Encrypt.f kj4 Dg Dd).bind fun Dc => ((spec_BundleMAC.f kj4 a0 a1 a2 Dc 0).bind fun Ds => (some (a1, a2, Dc, Ds, true)))))) = some (r1, r2, r3, r4, r5) := by rw [if_neg (show ¬ (false = true) by decide)] at H; exact H
    clear H; have H := H1; clear H1; replace H := Option.bind_eq_some_iff.mp H; obtain ⟨Dg, E0, H⟩ := H; (try dsimp only at H); have F9 := Cmp.A E0; clear E0; replace H := Option.bind_eq_some_iff.mp H; obtain ⟨Dd, E1, H⟩ := H; (try dsimp only at H); have F6 := Cmp.A E1; clear E1; replace H := Option.bind_eq_some_iff.mp H; obtain ⟨Dc, E2, H⟩ := H; (try dsimp only at H); have E9 := Cmp.A E2; clear E2; replace H := Option.bind_eq_some_iff.mp H; obtain ⟨Ds, E3, H⟩ := H; (try dsimp only at H); have Fq := Cmp.A E3; clear E3
    simp only [Option.some.injEq, Prod.mk.injEq] at H
    obtain ⟨rfl, rfl, rfl, rfl, rfl⟩ := H
    try go_wp2
    replace D0 := Cmp.A (blk_drew D0.out); replace D1 := Cmp.A (blk_drew D1.out); replace HB := Cmp.A (below_drew1 HB.out)
    refine start_ (n := 12) (S := fun w' => w'.cell? ⟨Da, 0, none⟩ = some (.slice A3_0 l3_0.length c3_0)) (ds := []) (Cmp.bm 0 12) (by kernel_rfl) rfl rfl (Cmp.c0 D0 :) (fun hHeld => ?_); refine with_tabW spec_SealBundle.tab3 spec_SealBundle.bits3 (fun HT_ HW_ => ?_)
    generalize wc.drew = w21 at D0 D1 HB hHeld ⊢
    refine Cmp.pu HT_ 0 22 (Cmp.bm 1 11) ?_; refine Cmp.pu HT_ 1 23 (Cmp.bm 2 10) ?_; refine Cmp.pu HT_ 2 24 (Cmp.bm 3 9) ?_; refine Cmp.pu HT_ 3 25 (Cmp.bm 4 8) ?_; refine Cmp.pu HT_ 4 26 (Cmp.bm 5 7) ?_
    refine take_ (i := 6) (N := some 28) (v := ?_) (a' := ?_) (Cmp.bb 12 95) rfl rfl (take_ofW HT_.out HW_.out (by kernel_rfl)) (fun _ _ _ h => h) (Or.inl ⟨by rfl, ?_⟩) hHeld ?_ ?_
    rotate_left
    ·intro w' s0
     go_simp; with_reducible rfl
    rotate_left
    ·simp only [Act.put, Cmp.s, Cmp.z, Cmp.c, i64_w, i32_w]; rfl
    refine join_ (σ := Value × Value × Nat) 1 (Cmp.bm 11 1) (fun s_ => [(27, .int .i64 Dg), (29, s_.1), (30, s_.2.1), (10, .pointer (some ⟨s_.2.2, 0, none⟩)), (31, .agg #[.int .i64 a1, .int .i64 a2, s_.2.1, .int .i64 0])]) (fun s_ w' => (w'.cell? ⟨Da, 0, none⟩ = some (.slice A3_0 l3_0.length c3_0)) ∧ (Kd.R (Kd.int .u8) 5 w' w.heap.size (fun k_ => some k_ ≠ (s_.2.1 : Value).ownBlock) s_.1 Dd) ∧ (Kd.R (Kd.int .u8) 5 w' w.heap.size (fun k_ => some k_ ≠ (s_.1 : Value).ownBlock) s_.2.1 Dc) ∧ (w'.heap[Da]? = some (.cells #[.slice A3_0 l3_0.length c3_0] 45 (0, 0))) ∧ (w'.heap[D6]? = some (.cells #[.int .i64 0, .int .i64 0, .slice none 0 0, .int .i64 0] 49 (0, 0))) ∧ (w'.heap[s_.2.2]? = some (.cells #[.int .i64 0, .int .i64 0, .slice none 0 0, .int .i64 0] 49 (0, 0))) ∧ (w.heap.size ≤ s_.2.2) ∧ (w.heap.size ≤ s_.2.2) ∧ (Da ≠ s_.2.2) ∧ (s_.2.2 ≠ Da) ∧ (D6 ≠ s_.2.2) ∧ (s_.2.2 ≠ D6) ∧ (Below w.heap.size w w')) ?_ ?_
    rotate_left
    ·intro hCont
     refine two_ (i := 5) (j := 10) (Ni := some 27) (Nj := some 10) (Cmp.bm 7 5) (Cmp.bb 12 1119) rfl rfl rfl rfl (two_of HT_.out (by kernel_rfl)) (by decide) (by decide) (fun K hK => ?_) (fun K hK => ?_)
     ·skip
      refine goes_ Try.func68 (by kernel_rfl) rfl #[.int .i64 a0, .int .i64 a1, .int .i64 a2] (by rfl) rfl rfl Cmp.q ?_
      with_reducible refine (spec_l18Key.calls kj4 a0 a1 a2 Dg _ F9.out).mono ?_
      rintro e w22 ⟨rfl, hb⟩; refine ⟨_, rfl, ?_⟩
      replace D0 := Cmp.be D0 hb; replace D1 := Cmp.be D1 hb; replace HB := Cmp.A (below_step (Cmp.g HB.out) hb); (try clear hb); (try clear hb2); (try clear hk); (try clear hi)
      refine hK.out _ _ (Cmp.c0 D0 :) (fun hHeld => ?_)
      clear hK K
      refine Cmp.no ?_
      refine two_ (i := 7) (j := 10) (Ni := some 29) (Nj := some 10) (Cmp.bm 8 4) (Cmp.bb 12 1151) rfl rfl rfl rfl (two_of HT_.out (by kernel_rfl)) (by decide) (by decide) (fun K hK => ?_) (fun K hK => ?_)
      ·skip
       refine goes_ Try.func69 (by kernel_rfl) rfl #[.agg #[.slice A3_0 l3_0.length c3_0]] (by rfl) rfl rfl Cmp.q ?_
       with_reducible refine (spec_EncodeBundle.calls kj4 _ _ l3_0 Dd _ ?side1 ?side2 F6.out).mono ?_
       (case side1 => exact Cmp.rc (Kd.C_below Dq.out HB.out))
       (case side2 => exact HC3_0.out)
       rintro e w23 ⟨v593, rfl, Dj, hb⟩; refine ⟨_, rfl, ?_⟩
       have D4 := Cmp.A (Kd.R_lower Dj (below_size (Cmp.g HB.out))); replace D0 := Cmp.be D0 hb; replace D1 := Cmp.be D1 hb; replace HB := Cmp.A (below_step (Cmp.g HB.out) hb); (try clear hb); (try clear hb2); (try clear hk); (try clear hi); (try clear Dj)
       obtain ⟨E4, E5, E6⟩ := Kd.R_slice D4.out
       (first | subst E6 | (injection E6 with f1_ f2_ f3_; have f4_ := f1_.symm; have f5_ := f3_.symm; clear f1_ f2_ f3_; subst f4_; subst f5_))
       refine hK.out _ _ (Cmp.c0 D0 :) (fun hHeld => ?_)
       clear hK K
       refine Cmp.no ?_
       refine two_ (i := 8) (j := 10) (Ni := some 30) (Nj := some 10) (Cmp.bm 9 3) (Cmp.bb 12 1279) rfl rfl rfl rfl (two_of HT_.out (by kernel_rfl)) (by decide) (by decide) (fun K hK => ?_) (fun K hK => ?_)
       ·skip
        refine goes_ Try.func67 (by kernel_rfl) rfl #[.int .i64 Dg, .slice E4 Dd.length E5] (by rfl) rfl rfl Cmp.q ?_
        with_reducible refine (spec_Encrypt.calls kj4 Dg _ _ Dd Dc _ ?side1 ?side2 E9.out).mono ?_
        (case side1 => exact Cmp.rc (Kd.R_reads' D4.out).2.2)
        (case side2 => exact (Kd.R_reads' D4.out).2.1)
        rintro e w25 ⟨v596, rfl, Dj, hb⟩; refine ⟨_, rfl, ?_⟩
        have Db := Cmp.A (Kd.R_lower (Kd.R_new' Dj (Kd.R_lt (Cmp.rr D4.out))) (below_size (Cmp.g HB.out))); replace D4 := Cmp.A (Kd.R_elder' (Cmp.rr D4.out) (Kd.R_base Dj) hb); replace D0 := Cmp.be D0 hb; replace D1 := Cmp.be D1 hb; replace HB := Cmp.A (below_step (Cmp.g HB.out) hb); (try clear hb); (try clear hb2); (try clear hk); (try clear hi); (try clear Dj)
        obtain ⟨F7, F8, E7⟩ := Kd.R_slice Db.out
        (first | subst E7 | (injection E7 with f1_ f2_ f3_; have f4_ := f1_.symm; have f5_ := f3_.symm; clear f1_ f2_ f3_; subst f4_; subst f5_))
        refine hK.out _ _ (Cmp.c0 D0 :) (fun hHeld => ?_)
        clear hK K
        refine Cmp.no ?_
        refine Cmp.pu HT_ 9 31 (Cmp.bm 10 2) ?_
        refine one_ (i := 10) (N := some 10) (Cmp.bm 11 1) rfl rfl (one_of HT_.out (by kernel_rfl)) (by decide) (fun K hK => ?_)
        refine box_step ?hg (N := 10) ?hd (cs := #[.int .i64 0, .int .i64 0, .slice none 0 0, .int .i64 0]) (t := 49) ?hr ?_; (case hd => rfl); (case hg => rfl); (case hr => first | (go_simp; done) | (go_simp; rfl))
        intro D2 hg w27 hbox hb
        have D3 := Cmp.A (hbox); have Di := Cmp.A ((by rw [hg]; exact (below_size (Cmp.g HB.out)) : w.heap.size ≤ D2)); have Dh := Cmp.A ((by rw [hg]; exact (below_size (Cmp.g HB.out)) : w.heap.size ≤ D2)); have D5 := Cmp.A ((by rw [hg]; exact Nat.ne_of_lt (blk_lt (g := Da) (o := .cells #[.slice A3_0 l3_0.length c3_0] 45 (0, 0)) (Cmp.b D0.out)) : Da ≠ D2)); have D8 := Cmp.A ((by rw [hg]; exact Nat.ne_of_gt (blk_lt (g := Da) (o := .cells #[.slice A3_0 l3_0.length c3_0] 45 (0, 0)) (Cmp.b D0.out)) : D2 ≠ Da)); have D7 := Cmp.A ((by rw [hg]; exact Nat.ne_of_lt (blk_lt (g := D6) (o := .cells #[.int .i64 0, .int .i64 0, .slice none 0 0, .int .i64 0] 49 (0, 0)) (Cmp.b D1.out)) : D6 ≠ D2)); have D9 := Cmp.A ((by rw [hg]; exact Nat.ne_of_gt (blk_lt (g := D6) (o := .cells #[.int .i64 0, .int .i64 0, .slice none 0 0, .int .i64 0] 49 (0, 0)) (Cmp.b D1.out)) : D2 ≠ D6)); replace D4 := Cmp.A (Kd.R_below (Cmp.rr D4.out) hb); replace Db := Cmp.A (Kd.R_below (Cmp.rr Db.out) hb); replace D0 := Cmp.be D0 hb; replace D1 := Cmp.be D1 hb; replace HB := Cmp.A (below_step (Cmp.g HB.out) hb); clear hb hbox hg
        refine hK.out _ _ (Cmp.c0 D0 :) (fun hHeld => ?_)
        clear hK K
        refine Cmp.no ?_
        exact norm_ (by simp only [putAll, Act.put, List.setIfInBounds_toArray, List.set_cons_zero, List.set_cons_succ]) (hCont (.slice E4 Dd.length E5, .slice F7 Dc.length F8, D2) _ ⟨hHeld, (Cmp.rm D4.out (fun _ hk => hk.2)), (Cmp.rm Db.out (fun _ hk => hk.2)), (Cmp.b D0.out), (Cmp.b D1.out), (Cmp.b D3.out), Di.out, Dh.out, D5.out, D8.out, D7.out, D9.out, (Cmp.g HB.out)⟩)
       ·skip
        refine box_step ?hg (N := 10) ?hd (cs := #[.int .i64 0, .int .i64 0, .slice none 0 0, .int .i64 0]) (t := 49) ?hr ?_; (case hd => rfl); (case hg => rfl); (case hr => first | (go_simp; done) | (go_simp; rfl))
        intro D2 hg w24 hbox hb
        have D3 := Cmp.A (hbox); have Di := Cmp.A ((by rw [hg]; exact (below_size (Cmp.g HB.out)) : w.heap.size ≤ D2)); have Dh := Cmp.A ((by rw [hg]; exact (below_size (Cmp.g HB.out)) : w.heap.size ≤ D2)); have D5 := Cmp.A ((by rw [hg]; exact Nat.ne_of_lt (blk_lt (g := Da) (o := .cells #[.slice A3_0 l3_0.length c3_0] 45 (0, 0)) (Cmp.b D0.out)) : Da ≠ D2)); have D8 := Cmp.A ((by rw [hg]; exact Nat.ne_of_gt (blk_lt (g := Da) (o := .cells #[.slice A3_0 l3_0.length c3_0] 45 (0, 0)) (Cmp.b D0.out)) : D2 ≠ Da)); have D7 := Cmp.A ((by rw [hg]; exact Nat.ne_of_lt (blk_lt (g := D6) (o := .cells #[.int .i64 0, .int .i64 0, .slice none 0 0, .int .i64 0] 49 (0, 0)) (Cmp.b D1.out)) : D6 ≠ D2)); have D9 := Cmp.A ((by rw [hg]; exact Nat.ne_of_gt (blk_lt (g := D6) (o := .cells #[.int .i64 0, .int .i64 0, .slice none 0 0, .int .i64 0] 49 (0, 0)) (Cmp.b D1.out)) : D2 ≠ D6)); replace D4 := Cmp.A (Kd.R_below (Cmp.rr D4.out) hb); replace D0 := Cmp.be D0 hb; replace D1 := Cmp.be D1 hb; replace HB := Cmp.A (below_step (Cmp.g HB.out) hb); clear hb hbox hg
        obtain ⟨Dk, Dl, Dn⟩ := Kd.R_slice D4.out
        (first | subst Dn | (injection Dn with f1_ f2_ f3_; have f4_ := f1_.symm; have f5_ := f3_.symm; clear f1_ f2_ f3_; subst f4_; subst f5_))
        refine hK.out _ _ (Cmp.c0 D0 :) (fun hHeld => ?_)
        clear hK K
        refine Cmp.no ?_
        refine one_ (i := 8) (N := some 30) (Cmp.bb 12 1535) rfl rfl (one_of HT_.out (by kernel_rfl)) (by decide) (fun K hK => ?_)
        refine goes_ Try.func67 (by kernel_rfl) rfl #[.int .i64 Dg, .slice Dk Dd.length Dl] (by rfl) rfl rfl Cmp.q ?_
        with_reducible refine (spec_Encrypt.calls kj4 Dg _ _ Dd Dc _ ?side1 ?side2 E9.out).mono ?_
        (case side1 => exact Cmp.rc (Kd.R_reads' D4.out).2.2)
        (case side2 => exact (Kd.R_reads' D4.out).2.1)
        rintro e w26 ⟨v596, rfl, Dj, hb⟩; refine ⟨_, rfl, ?_⟩
        have Db := Cmp.A (Kd.R_lower (Kd.R_new' Dj (Kd.R_lt (Cmp.rr D4.out))) (below_size (Cmp.g HB.out))); replace D4 := Cmp.A (Kd.R_elder' (Cmp.rr D4.out) (Kd.R_base Dj) hb); replace D0 := Cmp.be D0 hb; replace D1 := Cmp.be D1 hb; replace D3 := Cmp.be D3 hb; replace HB := Cmp.A (below_step (Cmp.g HB.out) hb); (try clear hb); (try clear hb2); (try clear hk); (try clear hi); (try clear Dj)
        obtain ⟨Dt, Du, Do⟩ := Kd.R_slice Db.out
        (first | subst Do | (injection Do with f1_ f2_ f3_; have f4_ := f1_.symm; have f5_ := f3_.symm; clear f1_ f2_ f3_; subst f4_; subst f5_))
        refine hK.out _ _ (Cmp.c0 D0 :) (fun hHeld => ?_)
        clear hK K
        refine Cmp.no ?_
        refine Cmp.pu HT_ 9 31 (Cmp.bm 11 1) ?_
        exact norm_ (by simp only [putAll, Act.put, List.setIfInBounds_toArray, List.set_cons_zero, List.set_cons_succ]) (hCont (.slice Dk Dd.length Dl, .slice Dt Dc.length Du, D2) _ ⟨hHeld, (Cmp.rm D4.out (fun _ hk => hk.2)), (Cmp.rm Db.out (fun _ hk => hk.2)), (Cmp.b D0.out), (Cmp.b D1.out), (Cmp.b D3.out), Di.out, Dh.out, D5.out, D8.out, D7.out, D9.out, (Cmp.g HB.out)⟩)
      ·skip
       refine box_step ?hg (N := 10) ?hd (cs := #[.int .i64 0, .int .i64 0, .slice none 0 0, .int .i64 0]) (t := 49) ?hr ?_; (case hd => rfl); (case hg => rfl); (case hr => first | (go_simp; done) | (go_simp; rfl))
       intro D2 hg w23 hbox hb
       have D3 := Cmp.A (hbox); have Di := Cmp.A ((by rw [hg]; exact (below_size (Cmp.g HB.out)) : w.heap.size ≤ D2)); have Dh := Cmp.A ((by rw [hg]; exact (below_size (Cmp.g HB.out)) : w.heap.size ≤ D2)); have D5 := Cmp.A ((by rw [hg]; exact Nat.ne_of_lt (blk_lt (g := Da) (o := .cells #[.slice A3_0 l3_0.length c3_0] 45 (0, 0)) (Cmp.b D0.out)) : Da ≠ D2)); have D8 := Cmp.A ((by rw [hg]; exact Nat.ne_of_gt (blk_lt (g := Da) (o := .cells #[.slice A3_0 l3_0.length c3_0] 45 (0, 0)) (Cmp.b D0.out)) : D2 ≠ Da)); have D7 := Cmp.A ((by rw [hg]; exact Nat.ne_of_lt (blk_lt (g := D6) (o := .cells #[.int .i64 0, .int .i64 0, .slice none 0 0, .int .i64 0] 49 (0, 0)) (Cmp.b D1.out)) : D6 ≠ D2)); have D9 := Cmp.A ((by rw [hg]; exact Nat.ne_of_gt (blk_lt (g := D6) (o := .cells #[.int .i64 0, .int .i64 0, .slice none 0 0, .int .i64 0] 49 (0, 0)) (Cmp.b D1.out)) : D2 ≠ D6)); replace D0 := Cmp.be D0 hb; replace D1 := Cmp.be D1 hb; replace HB := Cmp.A (below_step (Cmp.g HB.out) hb); clear hb hbox hg
       refine hK.out _ _ (Cmp.c0 D0 :) (fun hHeld => ?_)
       clear hK K
       refine Cmp.no ?_
       refine one_ (i := 7) (N := some 29) (Cmp.bb 12 1279) rfl rfl (one_of HT_.out (by kernel_rfl)) (by decide) (fun K hK => ?_)
       refine goes_ Try.func69 (by kernel_rfl) rfl #[.agg #[.slice A3_0 l3_0.length c3_0]] (by rfl) rfl rfl Cmp.q ?_
       with_reducible refine (spec_EncodeBundle.calls kj4 _ _ l3_0 Dd _ ?side1 ?side2 F6.out).mono ?_
       (case side1 => exact Cmp.rc (Kd.C_below Dq.out HB.out))
       (case side2 => exact HC3_0.out)
       rintro e w24 ⟨v593, rfl, Dj, hb⟩; refine ⟨_, rfl, ?_⟩
       have D4 := Cmp.A (Kd.R_lower Dj (below_size (Cmp.g HB.out))); replace D0 := Cmp.be D0 hb; replace D1 := Cmp.be D1 hb; replace D3 := Cmp.be D3 hb; replace HB := Cmp.A (below_step (Cmp.g HB.out) hb); (try clear hb); (try clear hb2); (try clear hk); (try clear hi); (try clear Dj)
       obtain ⟨Dk, Dl, Dn⟩ := Kd.R_slice D4.out
       (first | subst Dn | (injection Dn with f1_ f2_ f3_; have f4_ := f1_.symm; have f5_ := f3_.symm; clear f1_ f2_ f3_; subst f4_; subst f5_))
       refine hK.out _ _ (Cmp.c0 D0 :) (fun hHeld => ?_)
       clear hK K
       refine Cmp.no ?_
       refine one_ (i := 8) (N := some 30) (Cmp.bb 12 1535) rfl rfl (one_of HT_.out (by kernel_rfl)) (by decide) (fun K hK => ?_)
       refine goes_ Try.func67 (by kernel_rfl) rfl #[.int .i64 Dg, .slice Dk Dd.length Dl] (by rfl) rfl rfl Cmp.q ?_
       with_reducible refine (spec_Encrypt.calls kj4 Dg _ _ Dd Dc _ ?side1 ?side2 E9.out).mono ?_
       (case side1 => exact Cmp.rc (Kd.R_reads' D4.out).2.2)
       (case side2 => exact (Kd.R_reads' D4.out).2.1)
       rintro e w26 ⟨v596, rfl, Dj, hb⟩; refine ⟨_, rfl, ?_⟩
       have Db := Cmp.A (Kd.R_lower (Kd.R_new' Dj (Kd.R_lt (Cmp.rr D4.out))) (below_size (Cmp.g HB.out))); replace D4 := Cmp.A (Kd.R_elder' (Cmp.rr D4.out) (Kd.R_base Dj) hb); replace D0 := Cmp.be D0 hb; replace D1 := Cmp.be D1 hb; replace D3 := Cmp.be D3 hb; replace HB := Cmp.A (below_step (Cmp.g HB.out) hb); (try clear hb); (try clear hb2); (try clear hk); (try clear hi); (try clear Dj)
       obtain ⟨Dt, Du, Do⟩ := Kd.R_slice Db.out
       (first | subst Do | (injection Do with f1_ f2_ f3_; have f4_ := f1_.symm; have f5_ := f3_.symm; clear f1_ f2_ f3_; subst f4_; subst f5_))
       refine hK.out _ _ (Cmp.c0 D0 :) (fun hHeld => ?_)
       clear hK K
       refine Cmp.no ?_
       refine Cmp.pu HT_ 9 31 (Cmp.bm 11 1) ?_
       exact norm_ (by simp only [putAll, Act.put, List.setIfInBounds_toArray, List.set_cons_zero, List.set_cons_succ]) (hCont (.slice Dk Dd.length Dl, .slice Dt Dc.length Du, D2) _ ⟨hHeld, (Cmp.rm D4.out (fun _ hk => hk.2)), (Cmp.rm Db.out (fun _ hk => hk.2)), (Cmp.b D0.out), (Cmp.b D1.out), (Cmp.b D3.out), Di.out, Dh.out, D5.out, D8.out, D7.out, D9.out, (Cmp.g HB.out)⟩)
     ·skip
      refine box_step ?hg (N := 10) ?hd (cs := #[.int .i64 0, .int .i64 0, .slice none 0 0, .int .i64 0]) (t := 49) ?hr ?_; (case hd => rfl); (case hg => rfl); (case hr => first | (go_simp; done) | (go_simp; rfl))
      intro D2 hg w22 hbox hb
      have D3 := Cmp.A (hbox); have Di := Cmp.A ((by rw [hg]; exact (below_size (Cmp.g HB.out)) : w.heap.size ≤ D2)); have Dh := Cmp.A ((by rw [hg]; exact (below_size (Cmp.g HB.out)) : w.heap.size ≤ D2)); have D5 := Cmp.A ((by rw [hg]; exact Nat.ne_of_lt (blk_lt (g := Da) (o := .cells #[.slice A3_0 l3_0.length c3_0] 45 (0, 0)) (Cmp.b D0.out)) : Da ≠ D2)); have D8 := Cmp.A ((by rw [hg]; exact Nat.ne_of_gt (blk_lt (g := Da) (o := .cells #[.slice A3_0 l3_0.length c3_0] 45 (0, 0)) (Cmp.b D0.out)) : D2 ≠ Da)); have D7 := Cmp.A ((by rw [hg]; exact Nat.ne_of_lt (blk_lt (g := D6) (o := .cells #[.int .i64 0, .int .i64 0, .slice none 0 0, .int .i64 0] 49 (0, 0)) (Cmp.b D1.out)) : D6 ≠ D2)); have D9 := Cmp.A ((by rw [hg]; exact Nat.ne_of_gt (blk_lt (g := D6) (o := .cells #[.int .i64 0, .int .i64 0, .slice none 0 0, .int .i64 0] 49 (0, 0)) (Cmp.b D1.out)) : D2 ≠ D6)); replace D0 := Cmp.be D0 hb; replace D1 := Cmp.be D1 hb; replace HB := Cmp.A (below_step (Cmp.g HB.out) hb); clear hb hbox hg
      refine hK.out _ _ (Cmp.c0 D0 :) (fun hHeld => ?_)
      clear hK K
      refine Cmp.no ?_
      refine one_ (i := 5) (N := some 27) (Cmp.bb 12 1151) rfl rfl (one_of HT_.out (by kernel_rfl)) (by decide) (fun K hK => ?_)
      refine goes_ Try.func68 (by kernel_rfl) rfl #[.int .i64 a0, .int .i64 a1, .int .i64 a2] (by rfl) rfl rfl Cmp.q ?_
      with_reducible refine (spec_l18Key.calls kj4 a0 a1 a2 Dg _ F9.out).mono ?_
      rintro e w23 ⟨rfl, hb⟩; refine ⟨_, rfl, ?_⟩
      replace D0 := Cmp.be D0 hb; replace D1 := Cmp.be D1 hb; replace D3 := Cmp.be D3 hb; replace HB := Cmp.A (below_step (Cmp.g HB.out) hb); (try clear hb); (try clear hb2); (try clear hk); (try clear hi)
      refine hK.out _ _ (Cmp.c0 D0 :) (fun hHeld => ?_)
      clear hK K
      refine Cmp.no ?_
      refine one_ (i := 7) (N := some 29) (Cmp.bb 12 1279) rfl rfl (one_of HT_.out (by kernel_rfl)) (by decide) (fun K hK => ?_)
      refine goes_ Try.func69 (by kernel_rfl) rfl #[.agg #[.slice A3_0 l3_0.length c3_0]] (by rfl) rfl rfl Cmp.q ?_
      with_reducible refine (spec_EncodeBundle.calls kj4 _ _ l3_0 Dd _ ?side1 ?side2 F6.out).mono ?_
      (case side1 => exact Cmp.rc (Kd.C_below Dq.out HB.out))
      (case side2 => exact HC3_0.out)
      rintro e w24 ⟨v593, rfl, Dj, hb⟩; refine ⟨_, rfl, ?_⟩
      have D4 := Cmp.A (Kd.R_lower Dj (below_size (Cmp.g HB.out))); replace D0 := Cmp.be D0 hb; replace D1 := Cmp.be D1 hb; replace D3 := Cmp.be D3 hb; replace HB := Cmp.A (below_step (Cmp.g HB.out) hb); (try clear hb); (try clear hb2); (try clear hk); (try clear hi); (try clear Dj)
      obtain ⟨Dk, Dl, Dn⟩ := Kd.R_slice D4.out
      (first | subst Dn | (injection Dn with f1_ f2_ f3_; have f4_ := f1_.symm; have f5_ := f3_.symm; clear f1_ f2_ f3_; subst f4_; subst f5_))
      refine hK.out _ _ (Cmp.c0 D0 :) (fun hHeld => ?_)
      clear hK K
      refine Cmp.no ?_
      refine one_ (i := 8) (N := some 30) (Cmp.bb 12 1535) rfl rfl (one_of HT_.out (by kernel_rfl)) (by decide) (fun K hK => ?_)
      refine goes_ Try.func67 (by kernel_rfl) rfl #[.int .i64 Dg, .slice Dk Dd.length Dl] (by rfl) rfl rfl Cmp.q ?_
      with_reducible refine (spec_Encrypt.calls kj4 Dg _ _ Dd Dc _ ?side1 ?side2 E9.out).mono ?_
      (case side1 => exact Cmp.rc (Kd.R_reads' D4.out).2.2)
      (case side2 => exact (Kd.R_reads' D4.out).2.1)
      rintro e w26 ⟨v596, rfl, Dj, hb⟩; refine ⟨_, rfl, ?_⟩
      have Db := Cmp.A (Kd.R_lower (Kd.R_new' Dj (Kd.R_lt (Cmp.rr D4.out))) (below_size (Cmp.g HB.out))); replace D4 := Cmp.A (Kd.R_elder' (Cmp.rr D4.out) (Kd.R_base Dj) hb); replace D0 := Cmp.be D0 hb; replace D1 := Cmp.be D1 hb; replace D3 := Cmp.be D3 hb; replace HB := Cmp.A (below_step (Cmp.g HB.out) hb); (try clear hb); (try clear hb2); (try clear hk); (try clear hi); (try clear Dj)
      obtain ⟨Dt, Du, Do⟩ := Kd.R_slice Db.out
      (first | subst Do | (injection Do with f1_ f2_ f3_; have f4_ := f1_.symm; have f5_ := f3_.symm; clear f1_ f2_ f3_; subst f4_; subst f5_))
      refine hK.out _ _ (Cmp.c0 D0 :) (fun hHeld => ?_)
      clear hK K
      refine Cmp.no ?_
      refine Cmp.pu HT_ 9 31 (Cmp.bm 11 1) ?_
      exact norm_ (by simp only [putAll, Act.put, List.setIfInBounds_toArray, List.set_cons_zero, List.set_cons_succ]) (hCont (.slice Dk Dd.length Dl, .slice Dt Dc.length Du, D2) _ ⟨hHeld, (Cmp.rm D4.out (fun _ hk => hk.2)), (Cmp.rm Db.out (fun _ hk => hk.2)), (Cmp.b D0.out), (Cmp.b D1.out), (Cmp.b D3.out), Di.out, Dh.out, D5.out, D8.out, D7.out, D9.out, (Cmp.g HB.out)⟩)
    rintro ⟨v593, v596, D2⟩ w28 ⟨hS_, h0_, h1_, h2_, h3_, h4_, h5_, h6_, h7_, h8_, h9_, h10_, h11_⟩
    have n0_ : Aside0 (Kd.R (Kd.int .u8) 5 w28 w.heap.size (fun k_ => some k_ ≠ (v596 : Value).ownBlock) v593 Dd) := ⟨h0_⟩
    have n1_ : Aside0 (Kd.R (Kd.int .u8) 5 w28 w.heap.size (fun k_ => some k_ ≠ (v593 : Value).ownBlock) v596 Dc) := ⟨h1_⟩
    have n2_ : Aside0 (w28.heap[Da]? = some (.cells #[.slice A3_0 l3_0.length c3_0] 45 (0, 0))) := ⟨h2_⟩
    have n3_ : Aside0 (w28.heap[D6]? = some (.cells #[.int .i64 0, .int .i64 0, .slice none 0 0, .int .i64 0] 49 (0, 0))) := ⟨h3_⟩
    have n4_ : Aside0 (w28.heap[D2]? = some (.cells #[.int .i64 0, .int .i64 0, .slice none 0 0, .int .i64 0] 49 (0, 0))) := ⟨h4_⟩
    have n5_ : Aside0 (w.heap.size ≤ D2) := ⟨h5_⟩
    have n6_ : Aside0 (w.heap.size ≤ D2) := ⟨h6_⟩
    have n7_ : Aside0 (Da ≠ D2) := ⟨h7_⟩
    have n8_ : Aside0 (D2 ≠ Da) := ⟨h8_⟩
    have n9_ : Aside0 (D6 ≠ D2) := ⟨h9_⟩
    have n10_ : Aside0 (D2 ≠ D6) := ⟨h10_⟩
    have n11_ : Aside0 (Below w.heap.size w w28) := ⟨h11_⟩
    clear D0; clear D1; clear HB; clear h0_ h1_ h2_ h3_ h4_ h5_ h6_ h7_ h8_ h9_ h10_ h11_; have D4 := n0_; have Db := n1_; have D0 := n2_; have D1 := n3_; have D3 := n4_; have Di := n5_; have Dh := n6_; have D5 := n7_; have D8 := n8_; have D7 := n9_; have D9 := n10_; have HB := n11_; clear n0_ n1_ n2_ n3_ n4_ n5_ n6_ n7_ n8_ n9_ n10_ n11_
    have hHeld : w28.cell? ⟨Da, 0, none⟩ = some (.slice A3_0 l3_0.length c3_0) := hS_
    obtain ⟨Dp, Dm, E8⟩ := Kd.R_slice Db.out
    (first | subst E8 | (injection E8 with f1_ f2_ f3_; have f4_ := f1_.symm; have f5_ := f3_.symm; clear f1_ f2_ f3_; subst f4_; subst f5_))
    refine norm_ (a' := ?_) ?_ ?_
    rotate_left
    ·simp only [putAll, Act.put, List.setIfInBounds_toArray, List.set_cons_zero, List.set_cons_succ]; rfl
    refine one_ (i := 11) (N := none) (Cmp.bm 12 0) rfl rfl (one_of HT_.out (by kernel_rfl)) (by decide) (fun K hK => ?_)
    have hs30 : w28.cell? ⟨D2, 0, none⟩ = some (.int .i64 0) := (blk_cell D3.out 0).trans rfl
    have hfs30 := blk_frozen D3.out 0; have hns30_0 := D5.out; have hns30_1 := D7.out; have hms30_0 := D8.out; have hms30_1 := D9.out
    have hs31 : w28.cell? ⟨D2, 1, none⟩ = some (.int .i64 0) := (blk_cell D3.out 1).trans rfl
    have hfs31 := blk_frozen D3.out 1; have hns31_0 := D5.out; have hns31_1 := D7.out; have hms31_0 := D8.out; have hms31_1 := D9.out
    have hs32 : w28.cell? ⟨D2, 2, none⟩ = some (.slice none 0 0) := (blk_cell D3.out 2).trans rfl
    have hfs32 := blk_frozen D3.out 2; have hns32_0 := D5.out; have hns32_1 := D7.out; have hms32_0 := D8.out; have hms32_1 := D9.out
    have hs33 : w28.cell? ⟨D2, 3, none⟩ = some (.int .i64 0) := (blk_cell D3.out 3).trans rfl
    have hfs33 := blk_frozen D3.out 3; have hns33_0 := D5.out; have hns33_1 := D7.out; have hms33_0 := D8.out; have hms33_1 := D9.out
    refine skip_ (w1 := ?_) (by rfl) rfl ?_ ?_
    rotate_left
    ·go_simp; rfl
    refine hK.out _ _ (((cell_far (p := ⟨D2, _, none⟩) D5.out _).trans (((cell_far (p := ⟨D2, _, none⟩) D5.out _).trans (((cell_far (p := ⟨D2, _, none⟩) D5.out _).trans (((cell_far (p := ⟨D2, _, none⟩) D5.out _).trans (hHeld))))))))) (fun hHeld => ?_)
    clear hK K
    refine done_ (done_of HT_.out (by kernel_rfl)) ?_
    have Fh := D8.out; have Fm := D5.out; have Fi := D9.out; have Fn := D7.out
    obtain ⟨Ee, Ef, Eg, Eh⟩ := Cmp.q4 D3
    obtain ⟨Eu, Ev, Ew, Ex⟩ := Cmp.f4 D3
    try go_wp2_with (first | ((with_reducible refine gate_callee (f := 70) rfl ?_); refine goesL_ (some 34) rfl rfl Try.func70 (by kernel_rfl) rfl #[.int .i64 a0, .agg #[.int .i64 a1, .int .i64 a2, .slice Dp Dc.length Dm, .int .i64 0]] rfl Cmp.q ?_; (with_reducible refine (spec_BundleMAC.calls kj4 a0 a1 a2 _ _ Dc 0 Ds _ ?side1 ?side2 Fq.out).mono ?_); (case side1 => refine (Kd.R_reads' (e := 5) (base := w.heap.size) (ok := fun k_ => some k_ ≠ (v593 : Value).ownBlock) (n := Dc.length) (c := Dm) ?_).2.2; exact (Cmp.rm (Kd.R_far (p := ⟨D2, 3, none⟩) (Kd.R_far (p := ⟨D2, 2, none⟩) (Kd.R_far (p := ⟨D2, 1, none⟩) (Kd.R_far (p := ⟨D2, 0, none⟩) (Kd.R_types Db.out D3.out (by decide)) (fun _ hk => hk.2) (.int .i64 a1)) (fun _ hk => hk.2) (.int .i64 a2)) (fun _ hk => hk.2) (.slice Dp Dc.length Dm)) (fun _ hk => hk.2) (.int .i64 0)) (fun _ h_ => h_.1))); (case side2 => exact (Kd.R_reads' Db.out).2.1); rintro e w37 ⟨rfl, hb⟩; refine ⟨_, rfl, ?_⟩; replace D4 := Cmp.A (Kd.R_below (Cmp.rm (Kd.R_far (p := ⟨D2, 3, none⟩) (Kd.R_far (p := ⟨D2, 2, none⟩) (Kd.R_far (p := ⟨D2, 1, none⟩) (Kd.R_far (p := ⟨D2, 0, none⟩) (Kd.R_types D4.out D3.out (by decide)) (fun _ hk => hk.2) (.int .i64 a1)) (fun _ hk => hk.2) (.int .i64 a2)) (fun _ hk => hk.2) (.slice Dp Dc.length Dm)) (fun _ hk => hk.2) (.int .i64 0)) (fun _ h_ => h_.1)) hb); replace Db := Cmp.A (Kd.R_below (Cmp.rm (Kd.R_far (p := ⟨D2, 3, none⟩) (Kd.R_far (p := ⟨D2, 2, none⟩) (Kd.R_far (p := ⟨D2, 1, none⟩) (Kd.R_far (p := ⟨D2, 0, none⟩) (Kd.R_types Db.out D3.out (by decide)) (fun _ hk => hk.2) (.int .i64 a1)) (fun _ hk => hk.2) (.int .i64 a2)) (fun _ hk => hk.2) (.slice Dp Dc.length Dm)) (fun _ hk => hk.2) (.int .i64 0)) (fun _ h_ => h_.1)) hb); replace D0 := Cmp.A (blk_below (g := Da) (o := .cells #[.slice A3_0 l3_0.length c3_0] 45 (0, 0)) (Cmp.bw D0.out) hb); replace D1 := Cmp.A (blk_below (g := D6) (o := .cells #[.int .i64 0, .int .i64 0, .slice none 0 0, .int .i64 0] 49 (0, 0)) (Cmp.bw D1.out) hb); replace D3 := Cmp.A (blk_below (g := D2) (o := .cells #[.int .i64 a1, .int .i64 a2, .slice Dp Dc.length Dm, .int .i64 0] 49 (0, 0)) (Cmp.bw D3.out) hb); replace HB := Cmp.bs HB hb; (try clear hb); (try clear hb2); (try clear hk); (try clear hi); obtain ⟨Ei, Ej, Ek, El⟩ := Cmp.q4 D3; obtain ⟨Ey, Ez, F0, F1⟩ := Cmp.f4 D3; have Fj := Df.out; have Fo := De.out; obtain ⟨Em, En, Eo, Ep⟩ := Cmp.q4 D1; obtain ⟨F2, F3, F4, F5⟩ := Cmp.f4 D1))
    refine bodyPost_ret (results_ct rfl _ _ D6 49 #[.int .i64 a1, .int .i64 a2, .slice Dp Dc.length Dm, .int .i64 Ds] (0, 0) _ rfl (Cmp.bw D1.out) Try.underlying49 rfl (by kernel_rfl)) rfl ?_
    exact ⟨_, by first | rfl | (simp [errW_none, errW_some] <;> rfl) | (simp [*, errW_none, errW_some] <;> rfl), by (with_reducible repeat (first | apply Kd.R_alloc | apply Kd.R_drewN | apply Kd.R_drew)); exact Kd.R_mono (Kd.R_far (p := ⟨D6, 3, none⟩) (Kd.R_far (p := ⟨D6, 2, none⟩) (Kd.R_far (p := ⟨D6, 1, none⟩) (Kd.R_far (p := ⟨D6, 0, none⟩) (Kd.R_far (p := ⟨D2, 3, none⟩) (Kd.R_types (Kd.R_types Db.out D3.out (by decide)) D1.out (by decide)) (fun _ hk => hk.1.2) (.int .i64 Ds)) (fun _ hk => hk.2) (.int .i64 a1)) (fun _ hk => hk.2) (.int .i64 a2)) (fun _ hk => hk.2) (.slice Dp Dc.length Dm)) (fun _ hk => hk.2) (.int .i64 Ds)) (fun _ hk => trivial), Cmp.g HB.out⟩
end Go.Proofs.Ytpgjecknkmmnhaa.PFnSealedBundles

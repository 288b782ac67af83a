/- Printed functions of the program, out of print.sh; some facts about a row's blocks given anew. No condition. -/
import Derived.Test.YtpgjecknkmmnhaaCmp
import Derived.Test.YtpgjecknkmmnhaaPFnSealedBundlesx0
import Derived.Test.YtpgjecknkmmnhaaPFnSealedBundlesx12
namespace Go.Proofs.Ytpgjecknkmmnhaa.PFnSealedBundles
open Go.Proofs.Ytpgjecknkmmnhaa
open Go.RowKit Go.Proofs.YtpgjecknkmmnhaaW.PrintWords Go.Proofs.YtpgjecknkmmnhaaW.PrintLast Go.Proofs.YtpgjecknkmmnhaaW.PrintMore
attribute [local go_sem] max2_int min2_int max_two min_two max_three min_three max_four min_four   -- for this text's walks alone
set_option linter.unusedVariables false
set_option linter.unusedSimpArgs false
/-! ### impl_BundleMAC: function 64 -/
def impl_BundleMAC.f (k : Nat) (a0 : Int) (a1_0 : Int) (a1_1 : Int) (l1_2 : List Int) (a1_3 : Int) : Option (Int) := (impl_BytesToInts.f k l1_2).bind fun t451 => ((impl_joined.f k (([227, a1_0, a1_1] : List Int)) (([t451] : List (List Int)))).bind fun t457 => ((impl_KeyedHash.f k a0 t457).bind fun t460 => (some t460)))
theorem impl_BundleMAC.mono : ∀ a0 a1 a2 a3 a4 k, LeO (impl_BundleMAC.f k a0 a1 a2 a3 a4) (impl_BundleMAC.f (k + 1) a0 a1 a2 a3 a4) := by
  intro a0 a1 a2 a3 a4 k
  unfold impl_BundleMAC.f
  repeat' first
 | (with_reducible exact impl_BytesToInts.mono _ _)
 | (with_reducible exact impl_KeyedHash.mono _ _ _)
 | (with_reducible exact impl_joined.mono _ _ _)
 | (with_reducible exact LeO.refl _)
 | (with_reducible exact LeO.none _)
 | (with_reducible refine LeO.ite ?_ ?_)
 | (with_reducible refine LeO.bind ?_ (fun _ => ?_))
def impl_BundleMAC.T1 : Bool × List (List Nat × List Nat) := (true, [([], []), ([], []), ([1], [1]), ([], []), ([3], [3]), ([2, 4], [2, 4]), ([], []), ([6], [6]), ([7], [7]), ([8], [8]), ([5, 9, 8], [5, 9]), ([0, 10, 10], [0, 10]), ([11, 11, 0, 1, 2, 3, 4, 5, 6, 7, 8, 9, 10, 11], [11])])
def impl_BundleMAC.B1 : List Nat := [0, 0, 2, 0, 8, 30, 0, 64, 192, 448, 1022, 2047, 4095]
theorem impl_BundleMAC.tab1 : rtab .any (opsOf Try.f64 1) = impl_BundleMAC.T1 := by kernel_rfl
theorem impl_BundleMAC.bits1 : waitsOk impl_BundleMAC.T1.2 impl_BundleMAC.B1 = true := by kernel_rfl
set_option maxHeartbeats 8000000 in
set_option maxRecDepth 100000 in
theorem impl_BundleMAC.calls (k : Nat) (a0 : Int) (a1_0 : Int) (a1_1 : Int) (A1_2 : Option Addr) (c1_2 : Nat) (l1_2 : List Int) (a1_3 : Int) (r : Int) (w : World) (hr1_2 : Kd.C (Kd.int .u8) w A1_2 l1_2.length l1_2) (hc1_2 : l1_2.length ≤ c1_2) (h : impl_BundleMAC.f k a0 a1_0 a1_1 l1_2 a1_3 = some r) :
    Calls Try.prog 64 #[.int .i64 a0, .agg #[.int .i64 a1_0, .int .i64 a1_1, .slice A1_2 l1_2.length c1_2, .int .i64 a1_3]] w fun e w' => e = .returned (.int .i64 r) ∧ Below w.heap.size w w' := by
 have hu49 := Try.underlying49; have Dm := Cmp.A hr1_2; have HC1_2 := Cmp.A hc1_2; clear hr1_2 hc1_2
 have HB := Cmp.A (Below.refl w.heap.size w)
 have H : ((impl_BytesToInts.f k l1_2).bind fun D5 => ((impl_joined.f k (([227, a1_0, a1_1] : List Int)) (([D5] : List (List Int)))).bind fun D6 => ((impl_KeyedHash.f k a0 D6).bind fun D7 => (some D7)))) = some r := h
 clear h
 obtain ⟨D9, hy448⟩ : ∃ y_ : List Int, y_ = (([227, a1_0, a1_1] : List Int)) := ⟨_, rfl⟩
 replace H : ((impl_BytesToInts.f k l1_2).bind fun D5 => ((impl_joined.f k D9 (([D5] : List (List Int)))).bind fun D6 => ((impl_KeyedHash.f k a0 D6).bind fun D7 => (some D7)))) = some r := Cmp.hy hy448 H
 have De := Cmp.A hy448; clear hy448; replace H := Option.bind_eq_some_iff.mp H; obtain ⟨D5, Dt, H⟩ := H; (try dsimp only at H); have A3 := Cmp.A Dt; clear Dt
 obtain ⟨Da, hy454⟩ : ∃ y_ : List (List Int), y_ = (([D5] : List (List Int))) := ⟨_, rfl⟩
 replace H : ((impl_joined.f k D9 Da).bind fun D6 => ((impl_KeyedHash.f k a0 D6).bind fun D7 => (some D7))) = some r := Cmp.hy hy454 H
 have Df := Cmp.A hy454; clear hy454; replace H := Option.bind_eq_some_iff.mp H; obtain ⟨D6, Du, H⟩ := H; (try dsimp only at H); have A4 := Cmp.A Du; clear Du; replace H := Option.bind_eq_some_iff.mp H; obtain ⟨D7, Dv, H⟩ := H; (try dsimp only at H); have A5 := Cmp.A Dv; clear Dv
 obtain rfl := Option.some.inj H
 go_enter Try.func64, Try.ntmps64
 try go_wp2_with (first | ((with_reducible refine gate_dst (N := 3) rfl ?_); refine box_event ?hg (N := 3) ?hd (cs := #[.int .i64 a1_0, .int .i64 a1_1, .slice A1_2 l1_2.length c1_2, .int .i64 a1_3]) (t := 49) ?hr ?_; (case hd => rfl); (case hg => rfl); (case hr => first | (go_simp; done) | (go_simp; rfl)); intro D1 hg w6 hbox hb; have D0 := Cmp.A (hbox); have Dx := Cmp.gw hg HB; have Dw := Cmp.gw hg HB; replace HB := Cmp.bs HB hb; clear hb hbox hg))
 replace D0 := Cmp.A (blk_drew D0.out); replace HB := Cmp.A (below_drew1 HB.out)
 refine start_ (n := 13) (S := fun w' => True) (ds := []) (Cmp.bm 0 13) (by kernel_rfl) rfl rfl trivial (fun hHeld => ?_); refine with_tabW impl_BundleMAC.tab1 impl_BundleMAC.bits1 (fun HT_ HW_ => ?_)
 generalize w6.drew = w7 at D0 HB hHeld ⊢
 refine Cmp.pu HT_ 0 5 (Cmp.bm 1 12) ?_; refine Cmp.pu HT_ 1 6 (Cmp.bm 2 11) ?_; refine Cmp.pu HT_ 3 8 (Cmp.bb 13 11) ?_; refine Cmp.pu HT_ 6 11 (Cmp.bb 13 75) ?_
 refine inv_at [2, 4, 5, 7, 8, 9, 10, 11, 12] (fun a0_ b a w' => ∃ (v449 : Value) (v452 : Value) (v455 : Value) (v458 : Value), a = putSel a0_ b [(2, 7, .int .i64 a1_0), (4, 9, .int .i64 a1_1), (5, 10, v449), (7, 12, .slice A1_2 l1_2.length c1_2), (8, 13, v452), (9, 14, v455), (10, 15, v458), (11, 16, .int .i64 D7), (12, 4, .int .i64 D7)] ∧ (w'.heap[D1]? = some (.cells #[.int .i64 a1_0, .int .i64 a1_1, .slice A1_2 l1_2.length c1_2, .int .i64 a1_3] 49 (0, 0))) ∧ (Below w.heap.size w w') ∧ (b 5 = true → Kd.R (Kd.int .i64) 3 w' w.heap.size (fun _ => True) v449 D9) ∧ (b 8 = true → b 9 = false → Kd.R (Kd.int .i64) 3 w' w.heap.size (fun _ => True) v452 D5) ∧ (b 9 = true → Kd.N (Kd.slice 3 (Kd.int .i64)) 32 w' w.heap.size (fun k_ => k_ ≠ D1) v455 Da) ∧ (b 10 = true → Kd.R (Kd.int .i64) 3 w' w.heap.size (fun _ => True) v458 D6)) HT_.out HW_.out (by kernel_rfl) (by kernel_rfl) ?_ ?_ ?_
 ·exact ⟨.bool false, .bool false, .bool false, .bool false, by simp only [putSel, Bool.false_eq_true, if_false], D0.out, HB.out, fun h_ => absurd h_ (by decide), fun h_ => absurd h_ (by decide), fun h_ => absurd h_ (by decide), fun h_ => absurd h_ (by decide)⟩
 ·skip
  clear D0 HB
  refine steps_cons ?_ ?_
  ·rintro b a w' ⟨v449, v452, v455, v458, ha, Q_BK447, Q_HB, Q_HO450, Q_HO453, Q_HO456, Q_HO459⟩ hb_ hon hoff
   refine ⟨_, rfl, fun K hK => ?_⟩
   have e6 : a.tmps[6]? = some (.pointer (some ⟨D1, 0, none⟩)) := by rw [ha]; exact (putSel_off rfl).trans rfl
   replace ha := Cmp.A ha
   have D0 := Cmp.A Q_BK447; have HB := Cmp.A Q_HB
   have hc0_ : w'.cell? ⟨D1, 0, none⟩ = some (.int .i64 a1_0) := (blk_cell D0.out 0).trans rfl
   have hc1_ : w'.cell? ⟨D1, 1, none⟩ = some (.int .i64 a1_1) := (blk_cell D0.out 1).trans rfl
   have hc2_ : w'.cell? ⟨D1, 2, none⟩ = some (.slice A1_2 l1_2.length c1_2) := (blk_cell D0.out 2).trans rfl
   have hc3_ : w'.cell? ⟨D1, 3, none⟩ = some (.int .i64 a1_3) := (blk_cell D0.out 3).trans rfl
   refine value_ (w1 := w') (v := .int .i64 a1_0) (by rfl) rfl ?_ ?_
   ·go_simp
    (try simp only [i64_w])
    try rfl
   refine hK.out _ _ ⟨v449, v452, v455, v458, (by rw [ha.out]; exact putSel_upk 0 hb_ rfl rfl rfl), Q_BK447, Q_HB, fun h0_ => absurd ((hoff 5 (by kernel_rfl)).symm.trans h0_) (by decide), Q_HO453, Q_HO456, fun h0_ => absurd ((hoff 10 (by kernel_rfl)).symm.trans h0_) (by decide)⟩
  refine steps_cons ?_ ?_
  ·rintro b a w' ⟨v449, v452, v455, v458, ha, Q_BK447, Q_HB, Q_HO450, Q_HO453, Q_HO456, Q_HO459⟩ hb_ hon hoff
   refine ⟨_, rfl, fun K hK => ?_⟩
   have e8 : a.tmps[8]? = some (.pointer (some ⟨D1, 1, none⟩)) := by rw [ha]; exact (putSel_off rfl).trans rfl
   replace ha := Cmp.A ha
   have D0 := Cmp.A Q_BK447; have HB := Cmp.A Q_HB
   have hc0_ : w'.cell? ⟨D1, 0, none⟩ = some (.int .i64 a1_0) := (blk_cell D0.out 0).trans rfl
   have hc1_ : w'.cell? ⟨D1, 1, none⟩ = some (.int .i64 a1_1) := (blk_cell D0.out 1).trans rfl
   have hc2_ : w'.cell? ⟨D1, 2, none⟩ = some (.slice A1_2 l1_2.length c1_2) := (blk_cell D0.out 2).trans rfl
   have hc3_ : w'.cell? ⟨D1, 3, none⟩ = some (.int .i64 a1_3) := (blk_cell D0.out 3).trans rfl
   refine value_ (w1 := w') (v := .int .i64 a1_1) (by rfl) rfl ?_ ?_
   ·go_simp
    (try simp only [i64_w])
    try rfl
   refine hK.out _ _ ⟨v449, v452, v455, v458, (by rw [ha.out]; exact putSel_upk 1 hb_ rfl rfl rfl), Q_BK447, Q_HB, fun h0_ => absurd ((hoff 5 (by kernel_rfl)).symm.trans h0_) (by decide), Q_HO453, Q_HO456, fun h0_ => absurd ((hoff 10 (by kernel_rfl)).symm.trans h0_) (by decide)⟩
  refine steps_cons ?_ ?_
  ·rintro b a w' ⟨v449, v452, v455, v458, ha, Q_BK447, Q_HB, Q_HO450, Q_HO453, Q_HO456, Q_HO459⟩ hb_ hon hoff
   refine ⟨_, rfl, fun K hK => ?_⟩
   have e7 : a.tmps[7]? = some (.int .i64 a1_0) := by rw [ha]; exact putSel_on (e := (2, 7, .int .i64 a1_0)) 0 rfl rfl (hon 2 (by kernel_rfl)) rfl
   have e9 : a.tmps[9]? = some (.int .i64 a1_1) := by rw [ha]; exact putSel_on (e := (4, 9, .int .i64 a1_1)) 1 rfl rfl (hon 4 (by kernel_rfl)) rfl
   replace ha := Cmp.A ha
   have D0 := Cmp.A Q_BK447; have HB := Cmp.A Q_HB
   refine Kd.R_lit_step (Kd.int .i64) _ 3 ?hg (N := 10) ?hd (xs := ([227, a1_0, a1_1] : List Int)) (inner := [.int .i64 227, .int .i64 a1_0, .int .i64 a1_1]) (ok := fun _ => True) (okp := fun _ => True) ?hr ?hp (fun _ hk => hk) trivial (Below.refl _ _) (Nat.le_refl _) (by simp) ?_; (case hd => rfl); (case hg => rfl); (case hr => first | (go_simp; done) | (go_simp; rfl)); (case hp => exact (Reps.one (Cmp.mi 227) (Reps.one (Cmp.mi a1_0) (Reps.one (Cmp.mi a1_1) (Reps.none _ _)))))
   intro v449 w8 Dd hb hg_ hnew_
   clear hg_ hnew_
   (first | rw [← De.out] at Dd | (simp only [Int.reduceToNat] at Dd; rw [← De.out] at Dd))
   have n0_ := Cmp.A (Kd.R_lower Dd (below_size (Cmp.g HB.out)))
   have n1_ := Cmp.be D0 hb
   have n2_ := Cmp.A (below_step (Cmp.g HB.out) hb)
   have z_HO453 := fun (h0_ : b 8 = true) (h1_ : b 9 = false) => (show Kd.R (Kd.int .i64) 3 w8 w.heap.size (fun _ => True) v452 D5 from by first | exact (Kd.R_elder' (by (with_reducible repeat (first | apply Kd.R_alloc | apply Kd.R_drewN | apply Kd.R_drew)); exact (Q_HO453 h0_ h1_)) (Kd.R_base Dd) hb) | exact Kd.R_mono (Kd.R_elder' (by (with_reducible repeat (first | apply Kd.R_alloc | apply Kd.R_drewN | apply Kd.R_drew)); exact (Q_HO453 h0_ h1_)) (Kd.R_base Dd) hb) (fun _ h_ => by first | trivial | exact h_ | exact h_.1))
   have z_HO456 := fun (h0_ : b 9 = true) => (show Kd.N (Kd.slice 3 (Kd.int .i64)) 32 w8 w.heap.size (fun k_ => k_ ≠ D1) v455 Da from by first | exact (Kd.N_elder' (by (with_reducible repeat (first | apply Kd.N_alloc | apply Kd.N_drewN | apply Kd.N_drew)); exact (Q_HO456 h0_)) (Kd.R_base Dd) hb) | exact Kd.N_mono (Kd.N_elder' (by (with_reducible repeat (first | apply Kd.N_alloc | apply Kd.N_drewN | apply Kd.N_drew)); exact (Q_HO456 h0_)) (Kd.R_base Dd) hb) (fun _ h_ => by first | trivial | exact h_ | exact h_.1))
   clear D0; clear HB; have D2 := n0_; have D0 := n1_; have HB := n2_; clear n0_ n1_ n2_; clear hb Dd
   refine hK.out _ _ ⟨v449, v452, v455, v458, (by rw [ha.out]; exact putSel_upk 2 hb_ rfl rfl rfl), (Cmp.b D0.out), (Cmp.g HB.out), fun _ => (Cmp.rr D2.out), z_HO453, z_HO456, fun h0_ => absurd ((hoff 10 (by kernel_rfl)).symm.trans h0_) (by decide)⟩
  refine steps_cons ?_ ?_
  ·rintro b a w' ⟨v449, v452, v455, v458, ha, Q_BK447, Q_HB, Q_HO450, Q_HO453, Q_HO456, Q_HO459⟩ hb_ hon hoff
   refine ⟨_, rfl, fun K hK => ?_⟩
   have e11 : a.tmps[11]? = some (.pointer (some ⟨D1, 2, none⟩)) := by rw [ha]; exact (putSel_off rfl).trans rfl
   replace ha := Cmp.A ha
   have D0 := Cmp.A Q_BK447; have HB := Cmp.A Q_HB
   have hc0_ : w'.cell? ⟨D1, 0, none⟩ = some (.int .i64 a1_0) := (blk_cell D0.out 0).trans rfl
   have hc1_ : w'.cell? ⟨D1, 1, none⟩ = some (.int .i64 a1_1) := (blk_cell D0.out 1).trans rfl
   have hc2_ : w'.cell? ⟨D1, 2, none⟩ = some (.slice A1_2 l1_2.length c1_2) := (blk_cell D0.out 2).trans rfl
   have hc3_ : w'.cell? ⟨D1, 3, none⟩ = some (.int .i64 a1_3) := (blk_cell D0.out 3).trans rfl
   refine value_ (w1 := w') (v := .slice A1_2 l1_2.length c1_2) (by rfl) rfl ?_ ?_
   ·go_simp
    (try simp only [i64_w])
    try rfl
   refine hK.out _ _ ⟨v449, v452, v455, v458, (by rw [ha.out]; exact putSel_upk 3 hb_ rfl rfl rfl), Q_BK447, Q_HB, Q_HO450, fun h0_ _ => absurd ((hoff 8 (by kernel_rfl)).symm.trans h0_) (by decide), fun h0_ => absurd ((hoff 9 (by kernel_rfl)).symm.trans h0_) (by decide), fun h0_ => absurd ((hoff 10 (by kernel_rfl)).symm.trans h0_) (by decide)⟩
  refine steps_cons ?_ ?_
  ·rintro b a w' ⟨v449, v452, v455, v458, ha, Q_BK447, Q_HB, Q_HO450, Q_HO453, Q_HO456, Q_HO459⟩ hb_ hon hoff
   refine ⟨_, rfl, fun K hK => ?_⟩
   have e12 : a.tmps[12]? = some (.slice A1_2 l1_2.length c1_2) := by rw [ha]; exact putSel_on (e := (7, 12, .slice A1_2 l1_2.length c1_2)) 3 rfl rfl (hon 7 (by kernel_rfl)) rfl
   replace ha := Cmp.A ha
   have D0 := Cmp.A Q_BK447; have HB := Cmp.A Q_HB
   refine goes_ Try.func105 (by kernel_rfl) rfl #[.slice A1_2 l1_2.length c1_2] (by rfl) rfl rfl (by first | (simp only [List.map_toArray, List.map_cons, List.map_nil, Act.eval, Array.getD_eq_getD_getElem?, Option.getD_some, e12]; done) | (simp only [List.map_toArray, List.map_cons, List.map_nil, Act.eval, Array.getD_eq_getD_getElem?, Option.getD_some, e12]; rfl)) ?_
   with_reducible refine (impl_BytesToInts.calls k _ _ l1_2 D5 _ ?side1 ?side2 A3.out).mono ?_
   (case side1 => exact Cmp.rc (Kd.C_below Dm.out HB.out))
   (case side2 => exact HC1_2.out)
   rintro e w8 ⟨v452, rfl, Dc, hb⟩; refine ⟨_, rfl, ?_⟩
   have n0_ := Cmp.A (Kd.R_lower Dc (below_size (Cmp.g HB.out)))
   have n1_ := Cmp.be D0 hb
   have n2_ := Cmp.A (below_step (Cmp.g HB.out) hb)
   have z_HO450 := fun (h0_ : b 5 = true) => (show Kd.R (Kd.int .i64) 3 w8 w.heap.size (fun _ => True) v449 D9 from by first | exact (Kd.R_elder' (by (with_reducible repeat (first | apply Kd.R_alloc | apply Kd.R_drewN | apply Kd.R_drew)); exact (Q_HO450 h0_)) (Kd.R_base Dc) hb) | exact Kd.R_mono (Kd.R_elder' (by (with_reducible repeat (first | apply Kd.R_alloc | apply Kd.R_drewN | apply Kd.R_drew)); exact (Q_HO450 h0_)) (Kd.R_base Dc) hb) (fun _ h_ => by first | trivial | exact h_ | exact h_.1))
   clear D0; clear HB; have D8 := n0_; have D0 := n1_; have HB := n2_; clear n0_ n1_ n2_; (try clear hb); (try clear hb2); (try clear hk); (try clear hi); (try clear Dc)
   refine hK.out _ _ ⟨v449, v452, v455, v458, (by rw [ha.out]; exact putSel_upk 4 hb_ rfl rfl rfl), (Cmp.b D0.out), (Cmp.g HB.out), z_HO450, fun _ _ => (Cmp.rr D8.out), fun h0_ => absurd ((hoff 9 (by kernel_rfl)).symm.trans h0_) (by decide), fun h0_ => absurd ((hoff 10 (by kernel_rfl)).symm.trans h0_) (by decide)⟩
  refine steps_cons ?_ ?_
  ·rintro b a w' ⟨v449, v452, v455, v458, ha, Q_BK447, Q_HB, Q_HO450, Q_HO453, Q_HO456, Q_HO459⟩ hb_ hon hoff
   refine ⟨_, rfl, fun K hK => ?_⟩
   have e13 : a.tmps[13]? = some (v452) := by rw [ha]; exact putSel_on (e := (8, 13, v452)) 4 rfl rfl (hon 8 (by kernel_rfl)) rfl
   replace ha := Cmp.A ha
   have D0 := Cmp.A Q_BK447; have HB := Cmp.A Q_HB
   have D8 := Cmp.A (Q_HO453 (hon 8 (by kernel_rfl)) hb_)
   obtain ⟨Dg, Di, Dp⟩ := Kd.R_slice D8.out
   (first | subst Dp | (injection Dp with f1_ f2_ f3_; have f4_ := f1_.symm; have f5_ := f3_.symm; clear f1_ f2_ f3_; subst f4_; subst f5_))
   refine Kd.N_lit_step (Kd.slice 3 (Kd.int .i64)) _ 32 ?hg (N' := 14) ?hd (xs := ([D5] : List (List Int))) (inner := [.slice Dg D5.length Di]) (ok := (fun k_ => k_ ≠ D1)) (okp := (fun k_ => k_ ≠ D1)) ?hr ?hp (fun _ hk => hk) ((show ∀ k_, w'.heap.size ≤ k_ → (fun k_ => k_ ≠ D1) k_ from fun k_ hk => Kd.freshB (g := D1) (o := .cells #[.int .i64 a1_0, .int .i64 a1_1, .slice A1_2 l1_2.length c1_2, .int .i64 a1_3] 49 (0, 0)) (Cmp.b D0.out) k_ hk) _ (Nat.le_refl _)) (Below.refl _ _) (Nat.le_refl _) (by simp) ?_; (case hd => rfl); (case hg => rfl); (case hr => first | (go_simp; done) | (go_simp; rfl)); (case hp => exact (Reps.one (show Kd.FK (Kd.slice 3 (Kd.int .i64)) _ _ D5 [.slice Dg D5.length Di] from (Kd.FK_slice_mk (Kd.R_reads' (Kd.R_mono (ok' := (fun k_ => k_ ≠ D1)) (Kd.R_types (D8.out) D0.out (by decide)) (fun k_ hk => hk.2))).2.1 (Kd.R_F (Kd.R_mono (ok' := (fun k_ => k_ ≠ D1)) (Kd.R_types (D8.out) D0.out (by decide)) (fun k_ hk => hk.2))))) (Reps.none _ _)))
   intro v455 w11 Db hb hg_ hnew_
   clear hg_ hnew_
   (first | rw [← Df.out] at Db | (simp only [Int.reduceToNat] at Db; rw [← Df.out] at Db))
   have n0_ := Cmp.A (Kd.N_lower Db (below_size (Cmp.g HB.out)))
   have n1_ := Cmp.be D0 hb
   have n2_ := Cmp.A (below_step (Cmp.g HB.out) hb)
   have z_HO450 := fun (h0_ : b 5 = true) => (show Kd.R (Kd.int .i64) 3 w11 w.heap.size (fun _ => True) v449 D9 from by first | exact (Kd.R_below (by (with_reducible repeat (first | apply Kd.R_alloc | apply Kd.R_drewN | apply Kd.R_drew)); exact (Q_HO450 h0_)) hb) | exact Kd.R_mono (Kd.R_below (by (with_reducible repeat (first | apply Kd.R_alloc | apply Kd.R_drewN | apply Kd.R_drew)); exact (Q_HO450 h0_)) hb) (fun _ h_ => by first | trivial | exact h_ | exact h_.1))
   clear D0; clear HB; clear D8; have D3 := n0_; have D0 := n1_; have HB := n2_; clear n0_ n1_ n2_; clear hb Db
   refine hK.out _ _ ⟨v449, .slice Dg D5.length Di, v455, v458, (by rw [ha.out]; exact putSel_upk 5 hb_ rfl rfl rfl), (Cmp.b D0.out), (Cmp.g HB.out), z_HO450, fun _ h1_ => absurd ((up_self b 9).symm.trans h1_) (by decide), fun _ => (Cmp.rn D3.out), fun h0_ => absurd ((hoff 10 (by kernel_rfl)).symm.trans h0_) (by decide)⟩
  refine steps_cons ?_ ?_
  ·rintro b a w' ⟨v449, v452, v455, v458, ha, Q_BK447, Q_HB, Q_HO450, Q_HO453, Q_HO456, Q_HO459⟩ hb_ hon hoff
   refine ⟨_, rfl, fun K hK => ?_⟩
   have e10 : a.tmps[10]? = some (v449) := by rw [ha]; exact putSel_on (e := (5, 10, v449)) 2 rfl rfl (hon 5 (by kernel_rfl)) rfl
   have e14 : a.tmps[14]? = some (v455) := by rw [ha]; exact putSel_on (e := (9, 14, v455)) 5 rfl rfl (hon 9 (by kernel_rfl)) rfl
   replace ha := Cmp.A ha
   have D0 := Cmp.A Q_BK447; have HB := Cmp.A Q_HB
   have D2 := Cmp.A (Q_HO450 (hon 5 (by kernel_rfl)))
   have D3 := Cmp.A (Q_HO456 (hon 9 (by kernel_rfl)))
   obtain ⟨Dk, Dn, Dq⟩ := Kd.R_slice D2.out
   (first | subst Dq | (injection Dq with f1_ f2_ f3_; have f4_ := f1_.symm; have f5_ := f3_.symm; clear f1_ f2_ f3_; subst f4_; subst f5_))
   obtain ⟨Dl, Do, Dr⟩ := Kd.N_slice D3.out
   (first | subst Dr | (injection Dr with f1_ f2_ f3_; have f4_ := f1_.symm; have f5_ := f3_.symm; clear f1_ f2_ f3_; subst f4_; subst f5_))
   refine goes_ Try.func104 (by kernel_rfl) rfl #[.slice Dk D9.length Dn, .slice Dl Da.length Do] (by rfl) rfl rfl (by first | (simp only [List.map_toArray, List.map_cons, List.map_nil, Act.eval, Array.getD_eq_getD_getElem?, Option.getD_some, e10, e14]; done) | (simp only [List.map_toArray, List.map_cons, List.map_nil, Act.eval, Array.getD_eq_getD_getElem?, Option.getD_some, e10, e14]; rfl)) ?_
   with_reducible refine (impl_joined.calls k _ _ D9 _ _ Da D6 _ ?side1 ?side2 ?side3 ?side4 A4.out).mono ?_
   (case side1 => exact Cmp.rc (Kd.R_reads' D2.out).2.2)
   (case side2 => exact (Kd.R_reads' D2.out).2.1)
   (case side3 => exact Cmp.rc (Kd.N_reads' D3.out).2.2)
   (case side4 => exact (Kd.N_reads' D3.out).2.1)
   rintro e w17 ⟨v458, rfl, Dc, hb⟩; refine ⟨_, rfl, ?_⟩
   have D4 := Cmp.A (Kd.R_lower (Kd.R_new' Dc (Kd.R_lt (Cmp.rr D2.out))) (below_size (Cmp.g HB.out))); replace D2 := Cmp.A (Kd.R_elder' (Cmp.rr D2.out) (Kd.R_base Dc) hb); replace D3 := Cmp.A (Kd.N_elder' (Cmp.rn D3.out) (Kd.R_base Dc) hb); replace D0 := Cmp.be D0 hb; replace HB := Cmp.A (below_step (Cmp.g HB.out) hb); (try clear hb); (try clear hb2); (try clear hk); (try clear hi); (try clear Dc)
   refine hK.out _ _ ⟨.slice Dk D9.length Dn, v452, .slice Dl Da.length Do, v458, (by rw [ha.out]; exact putSel_upk 6 hb_ rfl rfl rfl), (Cmp.b D0.out), (Cmp.g HB.out), fun _ => (Cmp.rm D2.out (fun _ hk => by first | exact (hk.2) | trivial | exact hk | exact hk.1 | exact hk.2 | exact hk.1.1 | exact hk.1.2 | exact hk.2.1 | exact hk.2.2 | exact hk.1.1.1 | exact hk.1.1.2 | exact ⟨hk.1.1, hk.1.2⟩ | exact ⟨hk.1, hk.2⟩ | (simp_all; done) | (simp; done))), fun _ h1_ => absurd ((hon 9 (by kernel_rfl)).symm.trans h1_) (by decide), fun _ => (by (with_reducible repeat (first | apply Kd.N_alloc | apply Kd.N_drewN | apply Kd.N_drew)); exact Kd.N_mono D3.out (fun _ hk => by first | exact (⟨hk.1.1, ⟨hk.2, hk.1.2⟩⟩) | trivial | exact hk | exact hk.1 | exact hk.2 | exact hk.1.1 | exact hk.1.2 | exact hk.2.1 | exact hk.2.2 | exact hk.1.1.1 | exact hk.1.1.2 | exact ⟨hk.1.1, hk.1.2⟩ | exact ⟨hk.1, hk.2⟩ | (simp_all; done) | (simp; done))), fun _ => (Cmp.rm D4.out (fun _ hk => by first | exact (hk.2) | trivial | exact hk | exact hk.1 | exact hk.2 | exact hk.1.1 | exact hk.1.2 | exact hk.2.1 | exact hk.2.2 | exact hk.1.1.1 | exact hk.1.1.2 | exact ⟨hk.1.1, hk.1.2⟩ | exact ⟨hk.1, hk.2⟩ | (simp_all; done) | (simp; done)))⟩
  refine steps_cons ?_ ?_
  ·rintro b a w' ⟨v449, v452, v455, v458, ha, Q_BK447, Q_HB, Q_HO450, Q_HO453, Q_HO456, Q_HO459⟩ hb_ hon hoff
   refine ⟨_, rfl, fun K hK => ?_⟩
   have e5 : a.tmps[5]? = some (.int .i64 a0) := by rw [ha]; exact (putSel_off rfl).trans rfl
   have e15 : a.tmps[15]? = some (v458) := by rw [ha]; exact putSel_on (e := (10, 15, v458)) 6 rfl rfl (hon 10 (by kernel_rfl)) rfl
   replace ha := Cmp.A ha
   have D0 := Cmp.A Q_BK447; have HB := Cmp.A Q_HB
   have D2 := Cmp.A (Q_HO450 (hon 5 (by kernel_rfl)))
   have D3 := Cmp.A (Q_HO456 (hon 9 (by kernel_rfl)))
   have D4 := Cmp.A (Q_HO459 (hon 10 (by kernel_rfl)))
   obtain ⟨Dh, Dj, Ds⟩ := Kd.R_slice D4.out
   (first | subst Ds | (injection Ds with f1_ f2_ f3_; have f4_ := f1_.symm; have f5_ := f3_.symm; clear f1_ f2_ f3_; subst f4_; subst f5_))
   refine goes_ Try.func102 (by kernel_rfl) rfl #[.int .i64 a0, .slice Dh D6.length Dj] (by rfl) rfl rfl (by first | (simp only [List.map_toArray, List.map_cons, List.map_nil, Act.eval, Array.getD_eq_getD_getElem?, Option.getD_some, e5, e15]; done) | (simp only [List.map_toArray, List.map_cons, List.map_nil, Act.eval, Array.getD_eq_getD_getElem?, Option.getD_some, e5, e15]; rfl)) ?_
   with_reducible refine (impl_KeyedHash.calls k a0 (fun k_ => some k_ = (.slice Dh D6.length Dj : Value).ownBlock) _ _ D6 D7 _ ?side1 A5.out).mono ?_
   (case side1 => exact Kd.R_V (Kd.R_tight rfl (Kd.R_types (Kd.R_apart' (D4.out) (Kd.N_typed D3.out) (by decide)) D0.out (by decide))))
   rintro e w19 ⟨rfl, hb⟩; refine ⟨_, rfl, ?_⟩
   replace D2 := Cmp.A (Kd.R_below (Cmp.rr D2.out) hb); replace D3 := Cmp.A (Kd.N_below (Cmp.rn D3.out) hb); replace D4 := Cmp.A (Kd.R_below (Cmp.rr D4.out) hb); replace D0 := Cmp.be D0 hb; replace HB := Cmp.A (below_step (Cmp.g HB.out) hb); (try clear hb); (try clear hb2); (try clear hk); (try clear hi)
   refine hK.out _ _ ⟨v449, v452, v455, .slice Dh D6.length Dj, (by rw [ha.out]; exact putSel_upk 7 hb_ rfl rfl rfl), (Cmp.b D0.out), (Cmp.g HB.out), fun _ => (Cmp.rr D2.out), fun _ h1_ => absurd ((hon 9 (by kernel_rfl)).symm.trans h1_) (by decide), fun _ => (Cmp.rn D3.out), fun _ => (Cmp.rr D4.out)⟩
  refine steps_cons ?_ ?_
  ·rintro b a w' ⟨v449, v452, v455, v458, ha, Q_BK447, Q_HB, Q_HO450, Q_HO453, Q_HO456, Q_HO459⟩ hb_ hon hoff
   refine ⟨_, rfl, fun K hK => ?_⟩
   have e16 : a.tmps[16]? = some (.int .i64 D7) := by rw [ha]; exact putSel_on (e := (11, 16, .int .i64 D7)) 7 rfl rfl (hon 11 (by kernel_rfl)) rfl
   replace ha := Cmp.A ha
   have D0 := Cmp.A Q_BK447; have HB := Cmp.A Q_HB
   have D2 := Cmp.A (Q_HO450 (hon 5 (by kernel_rfl)))
   have D3 := Cmp.A (Q_HO456 (hon 9 (by kernel_rfl)))
   have D4 := Cmp.A (Q_HO459 (hon 10 (by kernel_rfl)))
   refine value_ (w1 := w') (v := .int .i64 D7) (by rfl) rfl ?_ ?_
   ·go_simp
    (try simp only [i64_w])
    try rfl
   refine hK.out _ _ ⟨v449, v452, v455, v458, (by rw [ha.out]; exact putSel_upk 8 hb_ rfl rfl rfl), Q_BK447, Q_HB, Q_HO450, fun _ h1_ => absurd ((hon 9 (by kernel_rfl)).symm.trans h1_) (by decide), Q_HO456, Q_HO459⟩
  exact steps_nil
 rintro b a w19 hall ⟨v449, v452, v455, v458, ha, Q_BK447, Q_HB, Q_HO450, Q_HO453, Q_HO456, Q_HO459⟩; clear D0 HB
 have hb2_ := hall 2 (by kernel_rfl)
 have hb4_ := hall 4 (by kernel_rfl)
 have hb5_ := hall 5 (by kernel_rfl)
 have hb7_ := hall 7 (by kernel_rfl)
 have hb8_ := hall 8 (by kernel_rfl)
 have hb9_ := hall 9 (by kernel_rfl)
 have hb10_ := hall 10 (by kernel_rfl)
 have hb11_ := hall 11 (by kernel_rfl)
 have hb12_ := hall 12 (by kernel_rfl)
 subst ha; simp only [putSel, hb2_, hb4_, hb5_, hb7_, hb8_, hb9_, hb10_, hb11_, hb12_, if_true, Act.put, List.setIfInBounds_toArray, List.set_cons_zero, List.set_cons_succ]; have D0 := Cmp.A Q_BK447; clear Q_BK447; have HB := Cmp.A Q_HB; clear Q_HB
 have D2 := Cmp.A (Q_HO450 hb5_)
 clear Q_HO450; clear Q_HO453
 have D3 := Cmp.A (Q_HO456 hb9_)
 clear Q_HO456
 have D4 := Cmp.A (Q_HO459 hb10_)
 clear Q_HO459; clear hall hb2_ hb4_ hb5_ hb7_ hb8_ hb9_ hb10_ hb11_ hb12_
 try go_wp2
 go_ret
 exact ⟨by first | rfl | (simp [errW_none, errW_some] <;> rfl) | (simp [*, errW_none, errW_some] <;> rfl), Cmp.g HB.out⟩
end Go.Proofs.Ytpgjecknkmmnhaa.PFnSealedBundles

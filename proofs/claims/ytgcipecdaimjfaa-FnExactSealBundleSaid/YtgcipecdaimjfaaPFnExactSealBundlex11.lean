/- Printed functions of the program, out of print.sh; some facts about a row's blocks given anew. No condition. -/
import Derived.Test.YtgcipecdaimjfaaCmp
import Derived.Test.YtgcipecdaimjfaaPFnExactSealBundlex0
import Derived.Test.YtgcipecdaimjfaaPFnExactSealBundlex10
namespace Go.Proofs.Ytgcipecdaimjfaa.PFnExactSealBundle
open Go.Proofs.Ytgcipecdaimjfaa
open Go.RowKit Go.Proofs.YtgcipecdaimjfaaW.PrintWords Go.Proofs.YtgcipecdaimjfaaW.PrintLast Go.Proofs.YtgcipecdaimjfaaW.PrintMore
attribute [local go_sem] max2_int min2_int max_two min_two max_three min_three max_four min_four   -- for this text's walks alone
set_option linter.unusedVariables false
set_option linter.unusedSimpArgs false

/-! ### impl_BundleMAC: function 94 -/
def impl_BundleMAC.f (k : Nat) (a0 : Int) (a1_0 : Int) (a1_1 : Int) (l1_2 : List Int) (a1_3 : Int) : Option (Int) := (impl_BytesToInts.f k l1_2).bind fun t359 => ((impl_joined.f k (([227, a1_0, a1_1] : List Int)) (([t359] : List (List Int)))).bind fun t365 => ((impl_KeyedHash.f k a0 t365).bind fun t368 => (some t368)))
theorem impl_BundleMAC.mono : ∀ a0 a1 a2 a3 a4 k, LeO (impl_BundleMAC.f k a0 a1 a2 a3 a4) (impl_BundleMAC.f (k + 1) a0 a1 a2 a3 a4) := by
  intro a0 a1 a2 a3 a4 k
  unfold impl_BundleMAC.f
  repeat' first
      | (with_reducible exact impl_BytesToInts.mono _ _)
      | (with_reducible exact impl_KeyedHash.mono _ _ _)
      | (with_reducible exact impl_joined.mono _ _ _)
      | (with_reducible exact LeO.refl _)
      | (with_reducible exact LeO.none _)
      | (with_reducible refine LeO.ite ?_ ?_)
      | (with_reducible refine LeO.bind ?_ (fun _ => ?_))
      | exact impl_BytesToInts.mono _ _
      | exact impl_KeyedHash.mono _ _ _
      | exact impl_joined.mono _ _ _
      | exact LeO.none _
      | refine LeO.ite ?_ ?_
      | refine LeO.bind ?_ (fun _ => ?_)
def impl_BundleMAC.T1 : Bool × List (List Nat × List Nat) := (true, [([], []), ([], []), ([1], [1]), ([], []), ([3], [3]), ([2, 4], [2, 4]), ([], []), ([6], [6]), ([7], [7]), ([8], [8]), ([5, 9, 8], [5, 9]), ([0, 10, 10], [0, 10]), ([11, 11, 0, 1, 2, 3, 4, 5, 6, 7, 8, 9, 10, 11], [11])])
def impl_BundleMAC.B1 : List Nat := [0, 0, 2, 0, 8, 30, 0, 64, 192, 448, 1022, 2047, 4095]
theorem impl_BundleMAC.tab1 : rtab .any (opsOf Try.f94 1) = impl_BundleMAC.T1 := by kernel_rfl
theorem impl_BundleMAC.bits1 : waitsOk impl_BundleMAC.T1.2 impl_BundleMAC.B1 = true := by kernel_rfl
set_option maxHeartbeats 8000000 in
set_option maxRecDepth 100000 in
theorem impl_BundleMAC.calls (k : Nat) (a0 : Int) (a1_0 : Int) (a1_1 : Int) (A1_2 : Option Addr) (c1_2 : Nat) (l1_2 : List Int) (a1_3 : Int) (r : Int) (w : World) (hr1_2 : Kd.C (Kd.int .u8) w A1_2 l1_2.length l1_2) (hc1_2 : l1_2.length ≤ c1_2) (h : impl_BundleMAC.f k a0 a1_0 a1_1 l1_2 a1_3 = some r) :
    Calls Try.prog 94 #[.int .i64 a0, .agg #[.int .i64 a1_0, .int .i64 a1_1, .slice A1_2 l1_2.length c1_2, .int .i64 a1_3]] w fun e w' => e = .returned (.int .i64 r) ∧ Below w.heap.size w w' := by
 have hu66 := Try.underlying66; have HR1_2 := Aside0.mk hr1_2; have HC1_2 := Aside0.mk hc1_2; clear hr1_2 hc1_2
 have HB := Aside0.mk (Below.refl w.heap.size w)
 have H : ((impl_BytesToInts.f k l1_2).bind fun t359 => ((impl_joined.f k (([227, a1_0, a1_1] : List Int)) (([t359] : List (List Int)))).bind fun t365 => ((impl_KeyedHash.f k a0 t365).bind fun t368 => (some t368)))) = some r := h
 clear h
 obtain ⟨y356, hy356⟩ : ∃ y_ : List Int, y_ = (([227, a1_0, a1_1] : List Int)) := ⟨_, rfl⟩
 replace H : ((impl_BytesToInts.f k l1_2).bind fun t359 => ((impl_joined.f k y356 (([t359] : List (List Int)))).bind fun t365 => ((impl_KeyedHash.f k a0 t365).bind fun t368 => (some t368)))) = some r := by first | (rw [hy356]; with_reducible exact H) | (have H2_ := (Option.bind_some _ _).symm.trans H; rw [hy356]; with_reducible exact H2_) | (have H2_ := (Option.bind_some _ _).symm.trans H; with_reducible exact H2_) | with_reducible exact H | (rw [hy356]; exact H) | exact H
 have Ny356 := Aside0.mk hy356; clear hy356; replace H := Option.bind_eq_some_iff.mp H; obtain ⟨t359, A30, H⟩ := H; (try dsimp only at H); have A3 := Aside0.mk A30; clear A30
 obtain ⟨y362, hy362⟩ : ∃ y_ : List (List Int), y_ = (([t359] : List (List Int))) := ⟨_, rfl⟩
 replace H : ((impl_joined.f k y356 y362).bind fun t365 => ((impl_KeyedHash.f k a0 t365).bind fun t368 => (some t368))) = some r := by first | (rw [hy362]; with_reducible exact H) | (have H2_ := (Option.bind_some _ _).symm.trans H; rw [hy362]; with_reducible exact H2_) | (have H2_ := (Option.bind_some _ _).symm.trans H; with_reducible exact H2_) | with_reducible exact H | (rw [hy362]; exact H) | exact H
 have Ny362 := Aside0.mk hy362; clear hy362; replace H := Option.bind_eq_some_iff.mp H; obtain ⟨t365, A40, H⟩ := H; (try dsimp only at H); have A4 := Aside0.mk A40; clear A40; replace H := Option.bind_eq_some_iff.mp H; obtain ⟨t368, A50, H⟩ := H; (try dsimp only at H); have A5 := Aside0.mk A50; clear A50
 obtain rfl := Option.some.inj H
 go_enter Try.func94, Try.ntmps94
 try go_wp2_with (first | ((with_reducible refine gate_dst (N := 3) rfl ?_); refine box_event ?hg (N := 3) ?hd (cs := #[.int .i64 a1_0, .int .i64 a1_1, .slice A1_2 l1_2.length c1_2, .int .i64 a1_3]) (t := 66) ?hr ?_; (case hd => rfl); (case hg => rfl); (case hr => first | (go_simp; done) | (go_simp; rfl)); intro gb355 hg w6 hbox hb; have n0_ := Aside0.mk (below_step (Cmp.g HB.out) hb); have n1_ := Aside0.mk (hbox); have n2_ := Aside0.mk ((by rw [hg]; exact (below_size (Cmp.g HB.out)) : w.heap.size ≤ gb355)); have n3_ := Aside0.mk ((by rw [hg]; exact (below_size (Cmp.g HB.out)) : w.heap.size ≤ gb355)); clear HB; have HB := n0_; have BK355 := n1_; have GW355 := n2_; have GE355 := n3_; clear n0_ n1_ n2_ n3_; clear hb hbox hg))
 have n0_ := Aside0.mk (blk_drew BK355.out); have n1_ := Aside0.mk (below_drew1 HB.out); clear BK355; clear HB; have BK355 := n0_; have HB := n1_; clear n0_ n1_
 refine start_ (n := 13) (S := fun w' => True) (ds := []) (Cmp.bm 0 13) (by kernel_rfl) rfl rfl trivial (fun hHeld => ?_); refine with_tabW impl_BundleMAC.tab1 impl_BundleMAC.bits1 (fun HT_ HW_ => ?_)
 generalize w6.drew = w7 at BK355 HB hHeld ⊢
 refine Cmp.pu HT_ 0 5 (Cmp.bm 1 12) ?_; refine Cmp.pu HT_ 1 6 (Cmp.bm 2 11) ?_; refine Cmp.pu HT_ 3 8 (Cmp.bb 13 11) ?_; refine Cmp.pu HT_ 6 11 (Cmp.bb 13 75) ?_
 refine inv_at [2, 4, 5, 7, 8, 9, 10, 11, 12] (fun a0_ b a w' => ∃ (v357 : Value) (v360 : Value) (v363 : Value) (v366 : Value), a = putSel a0_ b [(2, 7, .int .i64 a1_0), (4, 9, .int .i64 a1_1), (5, 10, v357), (7, 12, .slice A1_2 l1_2.length c1_2), (8, 13, v360), (9, 14, v363), (10, 15, v366), (11, 16, .int .i64 t368), (12, 4, .int .i64 t368)] ∧ (w'.heap[gb355]? = some (.cells #[.int .i64 a1_0, .int .i64 a1_1, .slice A1_2 l1_2.length c1_2, .int .i64 a1_3] 66 (0, 0))) ∧ (Below w.heap.size w w') ∧ (b 5 = true → Kd.R (Kd.int .i64) 3 w' w.heap.size (fun _ => True) v357 y356) ∧ (b 8 = true → b 9 = false → Kd.R (Kd.int .i64) 3 w' w.heap.size (fun _ => True) v360 t359) ∧ (b 9 = true → Kd.N (Kd.slice 3 (Kd.int .i64)) 48 w' w.heap.size (fun k_ => k_ ≠ gb355) v363 y362) ∧ (b 10 = true → Kd.R (Kd.int .i64) 3 w' w.heap.size (fun _ => True) v366 t365)) HT_.out HW_.out (by kernel_rfl) (by kernel_rfl) ?_ ?_ ?_
 ·exact ⟨.bool false, .bool false, .bool false, .bool false, by simp only [putSel, Bool.false_eq_true, if_false], BK355.out, HB.out, fun h_ => absurd h_ (by decide), fun h_ => absurd h_ (by decide), fun h_ => absurd h_ (by decide), fun h_ => absurd h_ (by decide)⟩
 ·skip
  clear BK355 HB
  refine steps_cons ?_ ?_
  ·rintro b a w' ⟨v357, v360, v363, v366, ha, Q_BK355, Q_HB, Q_HO358, Q_HO361, Q_HO364, Q_HO367⟩ hb_ hon hoff
   refine ⟨_, rfl, fun K hK => ?_⟩
   have e6 : a.tmps[6]? = some (.pointer (some ⟨gb355, 0, none⟩)) := by rw [ha]; exact (putSel_off rfl).trans rfl
   replace ha := Aside0.mk ha
   have BK355 := Aside0.mk Q_BK355; have HB := Aside0.mk Q_HB
   have hc0_ : w'.cell? ⟨gb355, 0, none⟩ = some (.int .i64 a1_0) := (blk_cell BK355.out 0).trans rfl
   have hc1_ : w'.cell? ⟨gb355, 1, none⟩ = some (.int .i64 a1_1) := (blk_cell BK355.out 1).trans rfl
   have hc2_ : w'.cell? ⟨gb355, 2, none⟩ = some (.slice A1_2 l1_2.length c1_2) := (blk_cell BK355.out 2).trans rfl
   have hc3_ : w'.cell? ⟨gb355, 3, none⟩ = some (.int .i64 a1_3) := (blk_cell BK355.out 3).trans rfl
   refine value_ (w1 := w') (v := .int .i64 a1_0) (by rfl) rfl ?_ ?_
   ·go_simp
    (try simp only [i64_w])
    try rfl
   refine hK.out _ _ ⟨v357, v360, v363, v366, (by rw [ha.out]; exact putSel_upk 0 hb_ rfl rfl rfl), Q_BK355, Q_HB, fun h0_ => absurd ((hoff 5 (by kernel_rfl)).symm.trans h0_) (by decide), Q_HO361, Q_HO364, fun h0_ => absurd ((hoff 10 (by kernel_rfl)).symm.trans h0_) (by decide)⟩
  refine steps_cons ?_ ?_
  ·rintro b a w' ⟨v357, v360, v363, v366, ha, Q_BK355, Q_HB, Q_HO358, Q_HO361, Q_HO364, Q_HO367⟩ hb_ hon hoff
   refine ⟨_, rfl, fun K hK => ?_⟩
   have e8 : a.tmps[8]? = some (.pointer (some ⟨gb355, 1, none⟩)) := by rw [ha]; exact (putSel_off rfl).trans rfl
   replace ha := Aside0.mk ha
   have BK355 := Aside0.mk Q_BK355; have HB := Aside0.mk Q_HB
   have hc0_ : w'.cell? ⟨gb355, 0, none⟩ = some (.int .i64 a1_0) := (blk_cell BK355.out 0).trans rfl
   have hc1_ : w'.cell? ⟨gb355, 1, none⟩ = some (.int .i64 a1_1) := (blk_cell BK355.out 1).trans rfl
   have hc2_ : w'.cell? ⟨gb355, 2, none⟩ = some (.slice A1_2 l1_2.length c1_2) := (blk_cell BK355.out 2).trans rfl
   have hc3_ : w'.cell? ⟨gb355, 3, none⟩ = some (.int .i64 a1_3) := (blk_cell BK355.out 3).trans rfl
   refine value_ (w1 := w') (v := .int .i64 a1_1) (by rfl) rfl ?_ ?_
   ·go_simp
    (try simp only [i64_w])
    try rfl
   refine hK.out _ _ ⟨v357, v360, v363, v366, (by rw [ha.out]; exact putSel_upk 1 hb_ rfl rfl rfl), Q_BK355, Q_HB, fun h0_ => absurd ((hoff 5 (by kernel_rfl)).symm.trans h0_) (by decide), Q_HO361, Q_HO364, fun h0_ => absurd ((hoff 10 (by kernel_rfl)).symm.trans h0_) (by decide)⟩
  refine steps_cons ?_ ?_
  ·rintro b a w' ⟨v357, v360, v363, v366, ha, Q_BK355, Q_HB, Q_HO358, Q_HO361, Q_HO364, Q_HO367⟩ hb_ hon hoff
   refine ⟨_, rfl, fun K hK => ?_⟩
   have e7 : a.tmps[7]? = some (.int .i64 a1_0) := by rw [ha]; exact putSel_on (e := (2, 7, .int .i64 a1_0)) 0 rfl rfl (hon 2 (by kernel_rfl)) rfl
   have e9 : a.tmps[9]? = some (.int .i64 a1_1) := by rw [ha]; exact putSel_on (e := (4, 9, .int .i64 a1_1)) 1 rfl rfl (hon 4 (by kernel_rfl)) rfl
   replace ha := Aside0.mk ha
   have BK355 := Aside0.mk Q_BK355; have HB := Aside0.mk Q_HB
   refine Kd.R_lit_step (Kd.int .i64) _ 3 ?hg (N := 10) ?hd (xs := ([227, a1_0, a1_1] : List Int)) (inner := [.int .i64 227, .int .i64 a1_0, .int .i64 a1_1]) (ok := fun _ => True) (okp := fun _ => True) ?hr ?hp (fun _ hk => hk) trivial (Below.refl _ _) (Nat.le_refl _) (by simp) ?_; (case hd => rfl); (case hg => rfl); (case hr => first | (go_simp; done) | (go_simp; rfl)); (case hp => exact (Reps.one (show Kd.M (Kd.int .i64) _ _ _ 227 [.int .i64 227] from rfl) (Reps.one (show Kd.M (Kd.int .i64) _ _ _ a1_0 [.int .i64 a1_0] from rfl) (Reps.one (show Kd.M (Kd.int .i64) _ _ _ a1_1 [.int .i64 a1_1] from rfl) (Reps.none _ _)))))
   intro v357 w8 ho9 hb hg_ hnew_
   clear hg_ hnew_
   (first | rw [← Ny356.out] at ho9 | (simp only [Int.reduceToNat] at ho9; rw [← Ny356.out] at ho9))
   have n0_ := Aside0.mk (Kd.R_lower ho9 (below_size (Cmp.g HB.out)))
   have n1_ := Aside0.mk (blk_below (Cmp.b BK355.out) hb)
   have n2_ := Aside0.mk (below_step (Cmp.g HB.out) hb)
   have z_HO361 := fun (h0_ : b 8 = true) (h1_ : b 9 = false) => (show Kd.R (Kd.int .i64) 3 w8 w.heap.size (fun _ => True) v360 t359 from by first | exact (Kd.R_elder' (by (with_reducible repeat (first | apply Kd.R_alloc | apply Kd.R_drewN | apply Kd.R_drew)); exact (Q_HO361 h0_ h1_)) (Kd.R_base ho9) hb) | exact Kd.R_mono (Kd.R_elder' (by (with_reducible repeat (first | apply Kd.R_alloc | apply Kd.R_drewN | apply Kd.R_drew)); exact (Q_HO361 h0_ h1_)) (Kd.R_base ho9) hb) (fun _ h_ => by first | trivial | exact h_ | exact h_.1))
   have z_HO364 := fun (h0_ : b 9 = true) => (show Kd.N (Kd.slice 3 (Kd.int .i64)) 48 w8 w.heap.size (fun k_ => k_ ≠ gb355) v363 y362 from by first | exact (Kd.N_elder' (by (with_reducible repeat (first | apply Kd.N_alloc | apply Kd.N_drewN | apply Kd.N_drew)); exact (Q_HO364 h0_)) (Kd.R_base ho9) hb) | exact Kd.N_mono (Kd.N_elder' (by (with_reducible repeat (first | apply Kd.N_alloc | apply Kd.N_drewN | apply Kd.N_drew)); exact (Q_HO364 h0_)) (Kd.R_base ho9) hb) (fun _ h_ => by first | trivial | exact h_ | exact h_.1))
   clear BK355; clear HB; have HO358 := n0_; have BK355 := n1_; have HB := n2_; clear n0_ n1_ n2_; clear hb ho9
   refine hK.out _ _ ⟨v357, v360, v363, v366, (by rw [ha.out]; exact putSel_upk 2 hb_ rfl rfl rfl), (Cmp.b BK355.out), (Cmp.g HB.out), fun _ => (Cmp.rr HO358.out), z_HO361, z_HO364, fun h0_ => absurd ((hoff 10 (by kernel_rfl)).symm.trans h0_) (by decide)⟩
  refine steps_cons ?_ ?_
  ·rintro b a w' ⟨v357, v360, v363, v366, ha, Q_BK355, Q_HB, Q_HO358, Q_HO361, Q_HO364, Q_HO367⟩ hb_ hon hoff
   refine ⟨_, rfl, fun K hK => ?_⟩
   have e11 : a.tmps[11]? = some (.pointer (some ⟨gb355, 2, none⟩)) := by rw [ha]; exact (putSel_off rfl).trans rfl
   replace ha := Aside0.mk ha
   have BK355 := Aside0.mk Q_BK355; have HB := Aside0.mk Q_HB
   have hc0_ : w'.cell? ⟨gb355, 0, none⟩ = some (.int .i64 a1_0) := (blk_cell BK355.out 0).trans rfl
   have hc1_ : w'.cell? ⟨gb355, 1, none⟩ = some (.int .i64 a1_1) := (blk_cell BK355.out 1).trans rfl
   have hc2_ : w'.cell? ⟨gb355, 2, none⟩ = some (.slice A1_2 l1_2.length c1_2) := (blk_cell BK355.out 2).trans rfl
   have hc3_ : w'.cell? ⟨gb355, 3, none⟩ = some (.int .i64 a1_3) := (blk_cell BK355.out 3).trans rfl
   refine value_ (w1 := w') (v := .slice A1_2 l1_2.length c1_2) (by rfl) rfl ?_ ?_
   ·go_simp
    (try simp only [i64_w])
    try rfl
   refine hK.out _ _ ⟨v357, v360, v363, v366, (by rw [ha.out]; exact putSel_upk 3 hb_ rfl rfl rfl), Q_BK355, Q_HB, Q_HO358, fun h0_ _ => absurd ((hoff 8 (by kernel_rfl)).symm.trans h0_) (by decide), fun h0_ => absurd ((hoff 9 (by kernel_rfl)).symm.trans h0_) (by decide), fun h0_ => absurd ((hoff 10 (by kernel_rfl)).symm.trans h0_) (by decide)⟩
  refine steps_cons ?_ ?_
  ·rintro b a w' ⟨v357, v360, v363, v366, ha, Q_BK355, Q_HB, Q_HO358, Q_HO361, Q_HO364, Q_HO367⟩ hb_ hon hoff
   refine ⟨_, rfl, fun K hK => ?_⟩
   have e12 : a.tmps[12]? = some (.slice A1_2 l1_2.length c1_2) := by rw [ha]; exact putSel_on (e := (7, 12, .slice A1_2 l1_2.length c1_2)) 3 rfl rfl (hon 7 (by kernel_rfl)) rfl
   replace ha := Aside0.mk ha
   have BK355 := Aside0.mk Q_BK355; have HB := Aside0.mk Q_HB
   refine goes_ Try.func138 (by kernel_rfl) rfl #[.slice A1_2 l1_2.length c1_2] (by rfl) rfl rfl (by first | (simp only [List.map_toArray, List.map_cons, List.map_nil, Act.eval, Array.getD_eq_getD_getElem?, Option.getD_some, e12]; done) | (simp only [List.map_toArray, List.map_cons, List.map_nil, Act.eval, Array.getD_eq_getD_getElem?, Option.getD_some, e12]; rfl)) ?_
   with_reducible refine (impl_BytesToInts.calls k _ _ l1_2 t359 _ ?side1 ?side2 A3.out).mono ?_
   (case side1 => exact Cmp.rc (Kd.C_below HR1_2.out HB.out))
   (case side2 => exact HC1_2.out)
   rintro e w8 ⟨v360, rfl, ho0, hb⟩; refine ⟨_, rfl, ?_⟩
   have n0_ := Aside0.mk (Kd.R_lower ho0 (below_size (Cmp.g HB.out)))
   have n1_ := Aside0.mk (blk_below (Cmp.b BK355.out) hb)
   have n2_ := Aside0.mk (below_step (Cmp.g HB.out) hb)
   have z_HO358 := fun (h0_ : b 5 = true) => (show Kd.R (Kd.int .i64) 3 w8 w.heap.size (fun _ => True) v357 y356 from by first | exact (Kd.R_elder' (by (with_reducible repeat (first | apply Kd.R_alloc | apply Kd.R_drewN | apply Kd.R_drew)); exact (Q_HO358 h0_)) (Kd.R_base ho0) hb) | exact Kd.R_mono (Kd.R_elder' (by (with_reducible repeat (first | apply Kd.R_alloc | apply Kd.R_drewN | apply Kd.R_drew)); exact (Q_HO358 h0_)) (Kd.R_base ho0) hb) (fun _ h_ => by first | trivial | exact h_ | exact h_.1))
   clear BK355; clear HB; have HO361 := n0_; have BK355 := n1_; have HB := n2_; clear n0_ n1_ n2_; (try clear hb); (try clear hb2); (try clear hk); (try clear hi); (try clear ho0)
   refine hK.out _ _ ⟨v357, v360, v363, v366, (by rw [ha.out]; exact putSel_upk 4 hb_ rfl rfl rfl), (Cmp.b BK355.out), (Cmp.g HB.out), z_HO358, fun _ _ => (Cmp.rr HO361.out), fun h0_ => absurd ((hoff 9 (by kernel_rfl)).symm.trans h0_) (by decide), fun h0_ => absurd ((hoff 10 (by kernel_rfl)).symm.trans h0_) (by decide)⟩
  refine steps_cons ?_ ?_
  ·rintro b a w' ⟨v357, v360, v363, v366, ha, Q_BK355, Q_HB, Q_HO358, Q_HO361, Q_HO364, Q_HO367⟩ hb_ hon hoff
   refine ⟨_, rfl, fun K hK => ?_⟩
   have e13 : a.tmps[13]? = some (v360) := by rw [ha]; exact putSel_on (e := (8, 13, v360)) 4 rfl rfl (hon 8 (by kernel_rfl)) rfl
   replace ha := Aside0.mk ha
   have BK355 := Aside0.mk Q_BK355; have HB := Aside0.mk Q_HB
   have HO361 := Aside0.mk (Q_HO361 (hon 8 (by kernel_rfl)) hb_)
   obtain ⟨Ao10, co10, eo10⟩ := Kd.R_slice HO361.out
   (first | subst eo10 | (injection eo10 with f1_ f2_ f3_; have f4_ := f1_.symm; have f5_ := f3_.symm; clear f1_ f2_ f3_; subst f4_; subst f5_))
   refine Kd.N_lit_step (Kd.slice 3 (Kd.int .i64)) _ 48 ?hg (N' := 14) ?hd (xs := ([t359] : List (List Int))) (inner := [.slice Ao10 t359.length co10]) (ok := (fun k_ => k_ ≠ gb355)) (okp := (fun k_ => k_ ≠ gb355)) ?hr ?hp (fun _ hk => hk) ((show ∀ k_, w'.heap.size ≤ k_ → (fun k_ => k_ ≠ gb355) k_ from fun k_ hk => Kd.freshB (g := gb355) (o := .cells #[.int .i64 a1_0, .int .i64 a1_1, .slice A1_2 l1_2.length c1_2, .int .i64 a1_3] 66 (0, 0)) (Cmp.b BK355.out) k_ hk) _ (Nat.le_refl _)) (Below.refl _ _) (Nat.le_refl _) (by simp) ?_; (case hd => rfl); (case hg => rfl); (case hr => first | (go_simp; done) | (go_simp; rfl)); (case hp => exact (Reps.one (show Kd.FK (Kd.slice 3 (Kd.int .i64)) _ _ t359 [.slice Ao10 t359.length co10] from (Kd.FK_slice_mk (Kd.R_reads' (Kd.R_mono (ok' := (fun k_ => k_ ≠ gb355)) (Kd.R_types (HO361.out) BK355.out (by decide)) (fun k_ hk => hk.2))).2.1 (Kd.R_F (Kd.R_mono (ok' := (fun k_ => k_ ≠ gb355)) (Kd.R_types (HO361.out) BK355.out (by decide)) (fun k_ hk => hk.2))))) (Reps.none _ _)))
   intro v363 w11 ho12 hb hg_ hnew_
   clear hg_ hnew_
   (first | rw [← Ny362.out] at ho12 | (simp only [Int.reduceToNat] at ho12; rw [← Ny362.out] at ho12))
   have n0_ := Aside0.mk (Kd.N_lower ho12 (below_size (Cmp.g HB.out)))
   have n1_ := Aside0.mk (blk_below (Cmp.b BK355.out) hb)
   have n2_ := Aside0.mk (below_step (Cmp.g HB.out) hb)
   have z_HO358 := fun (h0_ : b 5 = true) => (show Kd.R (Kd.int .i64) 3 w11 w.heap.size (fun _ => True) v357 y356 from by first | exact (Kd.R_below (by (with_reducible repeat (first | apply Kd.R_alloc | apply Kd.R_drewN | apply Kd.R_drew)); exact (Q_HO358 h0_)) hb) | exact Kd.R_mono (Kd.R_below (by (with_reducible repeat (first | apply Kd.R_alloc | apply Kd.R_drewN | apply Kd.R_drew)); exact (Q_HO358 h0_)) hb) (fun _ h_ => by first | trivial | exact h_ | exact h_.1))
   clear BK355; clear HB; clear HO361; have HO364 := n0_; have BK355 := n1_; have HB := n2_; clear n0_ n1_ n2_; clear hb ho12
   refine hK.out _ _ ⟨v357, .slice Ao10 t359.length co10, v363, v366, (by rw [ha.out]; exact putSel_upk 5 hb_ rfl rfl rfl), (Cmp.b BK355.out), (Cmp.g HB.out), z_HO358, fun _ h1_ => absurd ((up_self b 9).symm.trans h1_) (by decide), fun _ => (Cmp.rn HO364.out), fun h0_ => absurd ((hoff 10 (by kernel_rfl)).symm.trans h0_) (by decide)⟩
  refine steps_cons ?_ ?_
  ·rintro b a w' ⟨v357, v360, v363, v366, ha, Q_BK355, Q_HB, Q_HO358, Q_HO361, Q_HO364, Q_HO367⟩ hb_ hon hoff
   refine ⟨_, rfl, fun K hK => ?_⟩
   have e10 : a.tmps[10]? = some (v357) := by rw [ha]; exact putSel_on (e := (5, 10, v357)) 2 rfl rfl (hon 5 (by kernel_rfl)) rfl
   have e14 : a.tmps[14]? = some (v363) := by rw [ha]; exact putSel_on (e := (9, 14, v363)) 5 rfl rfl (hon 9 (by kernel_rfl)) rfl
   replace ha := Aside0.mk ha
   have BK355 := Aside0.mk Q_BK355; have HB := Aside0.mk Q_HB
   have HO358 := Aside0.mk (Q_HO358 (hon 5 (by kernel_rfl)))
   have HO364 := Aside0.mk (Q_HO364 (hon 9 (by kernel_rfl)))
   obtain ⟨Ao15, co15, eo15⟩ := Kd.R_slice HO358.out
   (first | subst eo15 | (injection eo15 with f1_ f2_ f3_; have f4_ := f1_.symm; have f5_ := f3_.symm; clear f1_ f2_ f3_; subst f4_; subst f5_))
   obtain ⟨Ao16, co16, eo16⟩ := Kd.N_slice HO364.out
   (first | subst eo16 | (injection eo16 with f1_ f2_ f3_; have f4_ := f1_.symm; have f5_ := f3_.symm; clear f1_ f2_ f3_; subst f4_; subst f5_))
   refine goes_ Try.func137 (by kernel_rfl) rfl #[.slice Ao15 y356.length co15, .slice Ao16 y362.length co16] (by rfl) rfl rfl (by first | (simp only [List.map_toArray, List.map_cons, List.map_nil, Act.eval, Array.getD_eq_getD_getElem?, Option.getD_some, e10, e14]; done) | (simp only [List.map_toArray, List.map_cons, List.map_nil, Act.eval, Array.getD_eq_getD_getElem?, Option.getD_some, e10, e14]; rfl)) ?_
   with_reducible refine (impl_joined.calls k _ _ y356 _ _ y362 t365 _ ?side1 ?side2 ?side3 ?side4 A4.out).mono ?_
   (case side1 => exact Cmp.rc (Kd.R_reads' HO358.out).2.2)
   (case side2 => exact (Kd.R_reads' HO358.out).2.1)
   (case side3 => exact Cmp.rc (Kd.N_reads' HO364.out).2.2)
   (case side4 => exact (Kd.N_reads' HO364.out).2.1)
   rintro e w17 ⟨v366, rfl, ho0, hb⟩; refine ⟨_, rfl, ?_⟩
   have n0_ := Aside0.mk (Kd.R_elder' (Cmp.rr HO358.out) (Kd.R_base ho0) hb)
   have n1_ := Aside0.mk (Kd.N_elder' (Cmp.rn HO364.out) (Kd.R_base ho0) hb)
   have n2_ := Aside0.mk (Kd.R_lower (Kd.R_new' ho0 (Kd.R_lt (Cmp.rr HO358.out))) (below_size (Cmp.g HB.out)))
   have n3_ := Aside0.mk (blk_below (Cmp.b BK355.out) hb)
   have n4_ := Aside0.mk (below_step (Cmp.g HB.out) hb)
   clear HO358; clear HO364; clear BK355; clear HB; have HO358 := n0_; have HO364 := n1_; have HO367 := n2_; have BK355 := n3_; have HB := n4_; clear n0_ n1_ n2_ n3_ n4_; (try clear hb); (try clear hb2); (try clear hk); (try clear hi); (try clear ho0)
   refine hK.out _ _ ⟨.slice Ao15 y356.length co15, v360, .slice Ao16 y362.length co16, v366, (by rw [ha.out]; exact putSel_upk 6 hb_ rfl rfl rfl), (Cmp.b BK355.out), (Cmp.g HB.out), fun _ => (by (with_reducible repeat (first | apply Kd.R_alloc | apply Kd.R_drewN | apply Kd.R_drew)); exact Kd.R_mono HO358.out (fun _ hk => by first | exact (hk.2) | trivial | exact hk | exact hk.1 | exact hk.2 | exact hk.1.1 | exact hk.1.2 | exact hk.2.1 | exact hk.2.2 | exact hk.1.1.1 | exact hk.1.1.2 | exact ⟨hk.1.1, hk.1.2⟩ | exact ⟨hk.1, hk.2⟩ | (simp_all; done) | (simp; done))), fun _ h1_ => absurd ((hon 9 (by kernel_rfl)).symm.trans h1_) (by decide), fun _ => (by (with_reducible repeat (first | apply Kd.N_alloc | apply Kd.N_drewN | apply Kd.N_drew)); exact Kd.N_mono HO364.out (fun _ hk => by first | exact (⟨hk.1.1, ⟨hk.2, hk.1.2⟩⟩) | trivial | exact hk | exact hk.1 | exact hk.2 | exact hk.1.1 | exact hk.1.2 | exact hk.2.1 | exact hk.2.2 | exact hk.1.1.1 | exact hk.1.1.2 | exact ⟨hk.1.1, hk.1.2⟩ | exact ⟨hk.1, hk.2⟩ | (simp_all; done) | (simp; done))), fun _ => (by (with_reducible repeat (first | apply Kd.R_alloc | apply Kd.R_drewN | apply Kd.R_drew)); exact Kd.R_mono HO367.out (fun _ hk => by first | exact (hk.2) | trivial | exact hk | exact hk.1 | exact hk.2 | exact hk.1.1 | exact hk.1.2 | exact hk.2.1 | exact hk.2.2 | exact hk.1.1.1 | exact hk.1.1.2 | exact ⟨hk.1.1, hk.1.2⟩ | exact ⟨hk.1, hk.2⟩ | (simp_all; done) | (simp; done)))⟩
  refine steps_cons ?_ ?_
  ·rintro b a w' ⟨v357, v360, v363, v366, ha, Q_BK355, Q_HB, Q_HO358, Q_HO361, Q_HO364, Q_HO367⟩ hb_ hon hoff
   refine ⟨_, rfl, fun K hK => ?_⟩
   have e5 : a.tmps[5]? = some (.int .i64 a0) := by rw [ha]; exact (putSel_off rfl).trans rfl
   have e15 : a.tmps[15]? = some (v366) := by rw [ha]; exact putSel_on (e := (10, 15, v366)) 6 rfl rfl (hon 10 (by kernel_rfl)) rfl
   replace ha := Aside0.mk ha
   have BK355 := Aside0.mk Q_BK355; have HB := Aside0.mk Q_HB
   have HO358 := Aside0.mk (Q_HO358 (hon 5 (by kernel_rfl)))
   have HO364 := Aside0.mk (Q_HO364 (hon 9 (by kernel_rfl)))
   have HO367 := Aside0.mk (Q_HO367 (hon 10 (by kernel_rfl)))
   obtain ⟨Ao18, co18, eo18⟩ := Kd.R_slice HO367.out
   (first | subst eo18 | (injection eo18 with f1_ f2_ f3_; have f4_ := f1_.symm; have f5_ := f3_.symm; clear f1_ f2_ f3_; subst f4_; subst f5_))
   refine goes_ Try.func135 (by kernel_rfl) rfl #[.int .i64 a0, .slice Ao18 t365.length co18] (by rfl) rfl rfl (by first | (simp only [List.map_toArray, List.map_cons, List.map_nil, Act.eval, Array.getD_eq_getD_getElem?, Option.getD_some, e5, e15]; done) | (simp only [List.map_toArray, List.map_cons, List.map_nil, Act.eval, Array.getD_eq_getD_getElem?, Option.getD_some, e5, e15]; rfl)) ?_
   with_reducible refine (impl_KeyedHash.calls k a0 (fun k_ => some k_ = (.slice Ao18 t365.length co18 : Value).ownBlock) _ _ t365 t368 _ ?side1 A5.out).mono ?_
   (case side1 => exact Kd.R_V (Kd.R_tight rfl (Kd.R_types (Kd.R_apart' (HO367.out) (Kd.N_typed HO364.out) (by decide)) BK355.out (by decide))))
   rintro e w19 ⟨rfl, hb⟩; refine ⟨_, rfl, ?_⟩
   have n0_ := Aside0.mk (Kd.R_below (Cmp.rr HO358.out) hb)
   have n1_ := Aside0.mk (Kd.N_below (Cmp.rn HO364.out) hb)
   have n2_ := Aside0.mk (Kd.R_below (Cmp.rr HO367.out) hb)
   have n3_ := Aside0.mk (blk_below (Cmp.b BK355.out) hb)
   have n4_ := Aside0.mk (below_step (Cmp.g HB.out) hb)
   clear HO358; clear HO364; clear HO367; clear BK355; clear HB; have HO358 := n0_; have HO364 := n1_; have HO367 := n2_; have BK355 := n3_; have HB := n4_; clear n0_ n1_ n2_ n3_ n4_; (try clear hb); (try clear hb2); (try clear hk); (try clear hi)
   refine hK.out _ _ ⟨v357, v360, v363, .slice Ao18 t365.length co18, (by rw [ha.out]; exact putSel_upk 7 hb_ rfl rfl rfl), (Cmp.b BK355.out), (Cmp.g HB.out), fun _ => (Cmp.rr HO358.out), fun _ h1_ => absurd ((hon 9 (by kernel_rfl)).symm.trans h1_) (by decide), fun _ => (Cmp.rn HO364.out), fun _ => (Cmp.rr HO367.out)⟩
  refine steps_cons ?_ ?_
  ·rintro b a w' ⟨v357, v360, v363, v366, ha, Q_BK355, Q_HB, Q_HO358, Q_HO361, Q_HO364, Q_HO367⟩ hb_ hon hoff
   refine ⟨_, rfl, fun K hK => ?_⟩
   have e16 : a.tmps[16]? = some (.int .i64 t368) := by rw [ha]; exact putSel_on (e := (11, 16, .int .i64 t368)) 7 rfl rfl (hon 11 (by kernel_rfl)) rfl
   replace ha := Aside0.mk ha
   have BK355 := Aside0.mk Q_BK355; have HB := Aside0.mk Q_HB
   have HO358 := Aside0.mk (Q_HO358 (hon 5 (by kernel_rfl)))
   have HO364 := Aside0.mk (Q_HO364 (hon 9 (by kernel_rfl)))
   have HO367 := Aside0.mk (Q_HO367 (hon 10 (by kernel_rfl)))
   refine value_ (w1 := w') (v := .int .i64 t368) (by rfl) rfl ?_ ?_
   ·go_simp
    (try simp only [i64_w])
    try rfl
   refine hK.out _ _ ⟨v357, v360, v363, v366, (by rw [ha.out]; exact putSel_upk 8 hb_ rfl rfl rfl), Q_BK355, Q_HB, Q_HO358, fun _ h1_ => absurd ((hon 9 (by kernel_rfl)).symm.trans h1_) (by decide), Q_HO364, Q_HO367⟩
  exact steps_nil
 rintro b a w19 hall ⟨v357, v360, v363, v366, ha, Q_BK355, Q_HB, Q_HO358, Q_HO361, Q_HO364, Q_HO367⟩; clear BK355 HB
 have hb2_ := hall 2 (by kernel_rfl)
 have hb4_ := hall 4 (by kernel_rfl)
 have hb5_ := hall 5 (by kernel_rfl)
 have hb7_ := hall 7 (by kernel_rfl)
 have hb8_ := hall 8 (by kernel_rfl)
 have hb9_ := hall 9 (by kernel_rfl)
 have hb10_ := hall 10 (by kernel_rfl)
 have hb11_ := hall 11 (by kernel_rfl)
 have hb12_ := hall 12 (by kernel_rfl)
 subst ha; simp only [putSel, hb2_, hb4_, hb5_, hb7_, hb8_, hb9_, hb10_, hb11_, hb12_, if_true, Act.put, List.setIfInBounds_toArray, List.set_cons_zero, List.set_cons_succ]; have BK355 := Aside0.mk Q_BK355; clear Q_BK355; have HB := Aside0.mk Q_HB; clear Q_HB
 have HO358 := Aside0.mk (Q_HO358 hb5_)
 clear Q_HO358; clear Q_HO361
 have HO364 := Aside0.mk (Q_HO364 hb9_)
 clear Q_HO364
 have HO367 := Aside0.mk (Q_HO367 hb10_)
 clear Q_HO367; clear hall hb2_ hb4_ hb5_ hb7_ hb8_ hb9_ hb10_ hb11_ hb12_
 try go_wp2
 go_ret
 exact ⟨by first | rfl | (simp [errW_none, errW_some] <;> rfl) | (simp [*, errW_none, errW_some] <;> rfl), Cmp.g HB.out⟩

end Go.Proofs.Ytgcipecdaimjfaa.PFnExactSealBundle

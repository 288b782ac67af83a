/- Printed functions of the program, out of print.sh, told more shortly. No condition. -/
import Derived.Test.YtpgjecknkmmnhaaCmp
import Derived.Test.YtpgjecknkmmnhaaPFnSealedBundlesx0
import Derived.Test.YtpgjecknkmmnhaaPFnSealedBundlesx2
import Derived.Test.YtpgjecknkmmnhaaPFnSealedBundlesx6
namespace Go.Proofs.Ytpgjecknkmmnhaa.PFnSealedBundles
open Go.Proofs.Ytpgjecknkmmnhaa
open Go.RowKit Go.Proofs.YtpgjecknkmmnhaaW.PrintWords Go.Proofs.YtpgjecknkmmnhaaW.PrintLast Go.Proofs.YtpgjecknkmmnhaaW.PrintMore
attribute [local go_sem] max2_int min2_int max_two min_two max_three min_three max_four min_four   -- for this text's walks alone
set_option linter.unusedVariables false
set_option linter.unusedSimpArgs false
/-! ### spec_l17Bundle: function 100 -/
mutual
def spec_l17Bundle.l0 : Nat → Int → List Int → Int → Int → List (S94) → Option ((List (S94)) × Int × Int)
  | 0, _, _, _, _, _ => none
  | k + 1, x4, x1000, x1001, x1002, x268000 => if x4 > 0 then ((spec_l17Step.f k x1000 x1001 x1002 x268000).bind fun bt274 => (spec_l17Bundle.l0 k (wrap64 (x4 - 1)) x1000 bt274.2.1 bt274.2.2 bt274.1)) else ((spec_l1Once.f x1000 x1001 x1002 8).bind fun bt279 => (if bt279.1 = true then (spec_l17Bundle.l1 k 0 x1000 bt279.2.1 bt279.2.2 x268000) else (some (x268000, bt279.2.1, bt279.2.2))))
def spec_l17Bundle.l1 : Nat → Int → List Int → Int → Int → List (S94) → Option ((List (S94)) × Int × Int)
  | 0, _, _, _, _, _ => none
  | k + 1, x5, x1000, x1001, x1002, x268000 => if (x268000.length : Int) < 20 then ((spec_PutEntry.f k x268000 (wrap64 (10 + x5)) 0).bind fun bt282 => (spec_l17Bundle.l1 k (wrap64 (x5 + 1)) x1000 x1001 x1002 bt282.1)) else (some (x268000, x1001, x1002))
end
def spec_l17Bundle.f (k : Nat) (s0_0 : List Int) (s0_1 : Int) (s0_2 : Int) : Option ((List (S94)) × Int × Int) := (spec_l1Int.f s0_0 s0_1 s0_2 (([0, 2, 5, 9] : List Int))).bind fun bt271 => (spec_l17Bundle.l0 k bt271.1 s0_0 bt271.2.1 bt271.2.2 ([] : List (S94)))
theorem spec_l17Bundle.mono_l : ∀ k, (∀ y0 y1 y2 y3 y4, LeO (spec_l17Bundle.l0 k y0 y1 y2 y3 y4) (spec_l17Bundle.l0 (k + 1) y0 y1 y2 y3 y4)) ∧ (∀ y0 y1 y2 y3 y4, LeO (spec_l17Bundle.l1 k y0 y1 y2 y3 y4) (spec_l17Bundle.l1 (k + 1) y0 y1 y2 y3 y4))
 | 0 => ⟨fun _ _ _ _ _ r h => by simp [spec_l17Bundle.l0] at h, fun _ _ _ _ _ r h => by simp [spec_l17Bundle.l1] at h⟩
 | k + 1 => by
    obtain ⟨ih0, ih1⟩ := spec_l17Bundle.mono_l k
    refine ⟨?_, ?_⟩
    · intro y0 y1 y2 y3 y4
      unfold spec_l17Bundle.l0
      repeat' first
 | (with_reducible exact ih0 _ _ _ _ _)
 | (with_reducible exact ih1 _ _ _ _ _)
 | (with_reducible exact spec_PutEntry.mono _ _ _ _)
 | (with_reducible exact spec_l17Step.mono _ _ _ _ _)
 | (with_reducible exact LeO.refl _)
 | (with_reducible exact LeO.none _)
 | (with_reducible refine LeO.ite ?_ ?_)
 | (with_reducible refine LeO.bind ?_ (fun _ => ?_))
    · intro y0 y1 y2 y3 y4
      unfold spec_l17Bundle.l1
      repeat' first
 | (with_reducible exact ih0 _ _ _ _ _)
 | (with_reducible exact ih1 _ _ _ _ _)
 | (with_reducible exact spec_PutEntry.mono _ _ _ _)
 | (with_reducible exact spec_l17Step.mono _ _ _ _ _)
 | (with_reducible exact LeO.refl _)
 | (with_reducible exact LeO.none _)
 | (with_reducible refine LeO.ite ?_ ?_)
 | (with_reducible refine LeO.bind ?_ (fun _ => ?_))
theorem spec_l17Bundle.mono : ∀ a0 a1 a2 k, LeO (spec_l17Bundle.f k a0 a1 a2) (spec_l17Bundle.f (k + 1) a0 a1 a2) := by
  intro a0 a1 a2 k
  obtain ⟨ih0, ih1⟩ := spec_l17Bundle.mono_l k
  unfold spec_l17Bundle.f
  repeat' first
 | (with_reducible exact ih0 _ _ _ _ _)
 | (with_reducible exact ih1 _ _ _ _ _)
 | (with_reducible exact spec_PutEntry.mono _ _ _ _)
 | (with_reducible exact spec_l17Step.mono _ _ _ _ _)
 | (with_reducible exact LeO.refl _)
 | (with_reducible exact LeO.none _)
 | (with_reducible refine LeO.ite ?_ ?_)
 | (with_reducible refine LeO.bind ?_ (fun _ => ?_))
set_option maxHeartbeats 8000000 in
set_option maxRecDepth 100000 in
theorem spec_l17Bundle.calls (k : Nat) (g : Nat) (s0_0 : List Int) (s0_1 : Int) (s0_2 : Int) (r1 : List (S94)) (r2 : Int) (r3 : Int) (w0 w : World) (hI : IsS103 w0 w g s0_0 s0_1 s0_2) (hB : Below w0.heap.size w0 w) (h : spec_l17Bundle.f k s0_0 s0_1 s0_2 = some (r1, r2, r3)) :
    Calls Try.prog 100 #[.pointer (some ⟨g, 0, none⟩)] w fun e w' => ∃ v0_ : Value, e = .returned (.agg #[v0_]) ∧ Kd.R k94 94 w' w.heap.size (fun _ => True) v0_ r1 ∧ IsS103 w0 w' g s0_0 r2 r3 ∧ Below w0.heap.size w0 w' ∧ KeepBut w w' g none := by
 have hu45 := Try.underlying45; have Dd := Cmp.A hI
 have HK := Cmp.A (KeepBut.refl w g none)
 have HL := Cmp.A hB.size; clear hI; have HW0 := Cmp.A hB.size; have HB := Cmp.A hB; clear hB
 have H : ((spec_l1Int.f s0_0 s0_1 s0_2 (([0, 2, 5, 9] : List Int))).bind fun bt271 => (spec_l17Bundle.l0 k bt271.1 s0_0 bt271.2.1 bt271.2.2 ([] : List (S94)))) = some (r1, r2, r3) := h
 clear h
 obtain ⟨Dy, hy268⟩ : ∃ y_ : List Int, y_ = (([0, 2, 5, 9] : List Int)) := ⟨_, rfl⟩
 replace H : ((spec_l1Int.f s0_0 s0_1 s0_2 Dy).bind fun bt271 => (spec_l17Bundle.l0 k bt271.1 s0_0 bt271.2.1 bt271.2.2 ([] : List (S94)))) = some (r1, r2, r3) := Cmp.hy hy268 H
 have Dw := Cmp.A hy268; clear hy268; replace H := Option.bind_eq_some_iff.mp H; obtain ⟨⟨Ed, Ee, Ef⟩, F7, H⟩ := H; (try dsimp only at H); have A2 := Cmp.A F7; clear F7
 have H' := Cmp.A H
 clear H
 go_enter Try.func100, Try.ntmps100
 go_wp2_with (first | ((with_reducible refine gate_dst (N := 2) rfl ?_); refine box_event ?hg (N := 2) ?hd (cs := #[.slice none 0 0]) (t := 45) ?hr ?_; (case hd => rfl); (case hg => rfl); (case hr => first | (go_simp; done) | (go_simp; rfl)); intro D9 hg w3 hbox hb; have D2 := Cmp.A (hbox); have Fb := Cmp.A ((by rw [hg]; exact (keep_size (w := w) (g := g) (row := none) (Cmp.kk HK.out)) : w.heap.size ≤ D9)); have F9 := Cmp.A ((Nat.le_trans HW0.out (by rw [hg]; exact (keep_size (w := w) (g := g) (row := none) (Cmp.kk HK.out)) : w.heap.size ≤ D9) : w0.heap.size ≤ D9)); have Di := Cmp.A ((by rw [hg]; exact Nat.ne_of_lt (IsS103.lt (show IsS103 w0 _ g s0_0 s0_1 s0_2 from IsS103.go Dd.out)) : g ≠ D9)); have De := Cmp.A ((by rw [hg]; exact Nat.ne_of_gt (IsS103.lt (show IsS103 w0 _ g s0_0 s0_1 s0_2 from IsS103.go Dd.out)) : D9 ≠ g)); replace HK := Cmp.A (KeepBut.trans (Cmp.kk HK.out) (KeepBut.of_below hb g none) (.inl rfl)); replace HB := Cmp.A (below_step (IsS103.bl HB.out) hb); replace Dd := Cmp.A (IsS103.below (IsS103.go Dd.out) hb); clear hb hbox hg) | ((with_reducible refine gate_dst (N := 3) rfl ?_); refine box_event ?hg (N := 3) ?hd (cs := #[.slice none 0 0]) (t := 45) ?hr ?_; (case hd => rfl); (case hg => rfl); (case hr => first | (go_simp; done) | (go_simp; rfl)); intro D6 hg w4 hbox hb; have D1 := Cmp.A (hbox); have Fc := Cmp.A ((by rw [hg]; exact (keep_size (w := w) (g := g) (row := none) (Cmp.kk HK.out)) : w.heap.size ≤ D6)); have Fa := Cmp.A ((Nat.le_trans HW0.out (by rw [hg]; exact (keep_size (w := w) (g := g) (row := none) (Cmp.kk HK.out)) : w.heap.size ≤ D6) : w0.heap.size ≤ D6)); have Db := Cmp.nl hg D2; have Dc := Cmp.ng hg D2; have Df := Cmp.A ((by rw [hg]; exact Nat.ne_of_lt (IsS103.lt (show IsS103 w0 _ g s0_0 s0_1 s0_2 from IsS103.go Dd.out)) : g ≠ D6)); have Da := Cmp.A ((by rw [hg]; exact Nat.ne_of_gt (IsS103.lt (show IsS103 w0 _ g s0_0 s0_1 s0_2 from IsS103.go Dd.out)) : D6 ≠ g)); replace D2 := Cmp.be D2 hb; replace HK := Cmp.A (KeepBut.trans (Cmp.kk HK.out) (KeepBut.of_below hb g none) (.inl rfl)); replace HB := Cmp.A (below_step (IsS103.bl HB.out) hb); replace Dd := Cmp.A (IsS103.below (IsS103.go Dd.out) hb); clear hb hbox hg; have Fz := Dc.out; have G1 := Db.out; have G0 := Da.out; have G2 := Df.out; have Dk := Cmp.c0 D1; have Dl := blk_frozen D1.out 0) | ((with_reducible refine gate_dst (N := 8) rfl ?_); refine Kd.R_lit (Kd.int .i64) _ 3 ?hg (N := 8) ?hd (xs := ([0, 2, 5, 9] : List Int)) (inner := [.int .i64 0, .int .i64 2, .int .i64 5, .int .i64 9]) (ok := fun _ => True) (okp := fun _ => True) ?hr ?hp (fun _ hk => hk) trivial (Below.refl _ _) (Nat.le_refl _) (by simp) ?_; (case hd => rfl); (case hg => rfl); (case hr => first | (go_simp; done) | (go_simp; rfl)); (case hp => exact (Reps.one (Cmp.mi 0) (Reps.one (Cmp.mi 2) (Reps.one (Cmp.mi 5) (Reps.one (Cmp.mi 9) (Reps.none _ _)))))); intro v269 w8 Ec hb hg_ hnew_; clear hg_ hnew_; (first | rw [← Dw.out] at Ec | (simp only [Int.reduceToNat] at Ec; rw [← Dw.out] at Ec)); have Dg := Cmp.A (Kd.R_lower Ec (keep_size (w := w) (g := g) (row := none) (Cmp.kk HK.out))); replace D2 := Cmp.A (blk_below (g := D9) (o := .cells #[.slice none 0 0] 45 (0, 0)) (Cmp.bw D2.out) hb); replace D1 := Cmp.A (blk_below (g := D6) (o := .cells #[.slice none 0 0] 45 (0, 0)) (Cmp.bw D1.out) hb); replace HK := Cmp.A (KeepBut.trans (Cmp.kk HK.out) (KeepBut.of_below hb g none) (.inl rfl)); replace HB := Cmp.A (below_step (IsS103.bl HB.out) hb); replace Dd := Cmp.A (IsS103.below (show IsS103 w0 (w4.setCell ⟨D6, 0, none⟩ (.slice none 0 0)) g s0_0 s0_1 s0_2 from IsS103.go Dd.out) hb); clear hb Ec; obtain ⟨Eu, Ew, Ey⟩ := Kd.R_slice Dg.out; subst Ey) | ((with_reducible refine gate_callee (f := 39) rfl ?_); refine goesL_ (some 9) rfl rfl Try.func39 (by kernel_rfl) rfl #[.pointer (some ⟨g, 0, none⟩), .slice Eu Dy.length Ew] rfl Cmp.q ?_; (with_reducible refine (spec_l1Int.calls g s0_0 s0_1 s0_2 _ _ Dy Ed Ee Ef w0 _ ?side1 ?side2 ?side3 ?side4 ?side5 A2.out).mono ?_); (case side1 => exact IsS103.go Dd.out); (case side2 => exact IsS103.bl HB.out); (case side3 => exact Cmp.rc (Kd.R_reads' Dg.out).2.2); (case side4 => exact (Kd.R_reads' Dg.out).2.1); (case side5 => exact far_slice (IsS103.own_ne Dd.out Dg.out (by decide))); rintro e w11 ⟨rfl, hi, hb, hk⟩; refine ⟨_, rfl, ?_⟩; replace D2 := Cmp.A (KeepBut.blk hk (g' := D9) (o := .cells #[.slice none 0 0] 45 (0, 0)) (Cmp.b D2.out) De.out (by simp)); replace D1 := Cmp.A (KeepBut.blk hk (g' := D6) (o := .cells #[.slice none 0 0] 45 (0, 0)) (Cmp.b D1.out) Da.out (by simp)); replace Dg := Cmp.A (Kd.R_mono (Kd.R_keep (IsS103.apart (show IsS103 w0 _ g s0_0 s0_1 s0_2 from IsS103.go Dd.out) (Cmp.rr Dg.out) (by decide)) hk (fun _ h => h.2)) (fun _ h => h.1)); replace HK := Cmp.A (KeepBut.trans (Cmp.kk HK.out) hk (.inl rfl)); replace HB := Cmp.A (hb); replace Dd := Cmp.A (hi); (try clear hb); (try clear hb2); (try clear hk); (try clear hi)))
 go_loopg [4] k (fun kq v4 w' => ∃ (Dh : Int) (D7 : Int) (D8 : Int) (D4 : List (S94)) (D5 : Value), v4 = .int .i64 Dh ∧ Aside0 (spec_l17Bundle.l0 kq Dh s0_0 D7 D8 D4 = some (r1, r2, r3)) ∧ Aside0 (kq ≤ k) ∧ Aside0 (Kd.R k94 94 w' w.heap.size (fun _ => True) D5 D4) ∧ Aside0 (w'.heap[D9]? = some (.cells #[(.slice none 0 0)] 45 (0, 0))) ∧ Aside0 (w'.heap[D6]? = some (.cells #[D5] 45 (0, 0))) ∧ Aside0 (IsS103 w0 w' g s0_0 D7 D8) ∧ Aside0 (KeepBut w w' g none) ∧ Aside0 (Below w0.heap.size w0 w'))
 case atStart => exact ⟨(Ed), (Ee), (Ef), (([] : List (S94))), (.slice none 0 0), (by first | rfl | simp | simp [*]), H', ⟨Nat.le_refl _⟩, ⟨by first | exact Kd.R_nil _ _ _ _ _ | exact Kd.N_nil _ _ _ _ _ | exact Kd.V_nil _ _ _ _ _ | exact Kd.Q_nil _ _ _ _ _ | exact Kd.S_nil _ _ _ _ _⟩, Cmp.bq D2, Cmp.bq D1, ⟨IsS103.go Dd.out⟩, ⟨Cmp.kk HK.out⟩, ⟨IsS103.bl HB.out⟩⟩
 case round =>
  clear H'
  (try clear c1); (try clear p2); (try clear c3); (try clear c5); (try clear c6); (try clear c10); (try clear Dk); (try clear Dl)
  obtain ⟨Dh, D7, D8, D4, D5, rfl, HA, HK1, D0, D2, D1, Dd, HK, HB⟩ := hrel
  cases gk with
  | zero => exact absurd HA.out (by simp [spec_l17Bundle.l0])
  | succ k1 =>
   have H := HA.out; clear HA
   simp only [spec_l17Bundle.l0] at H
   by_cases c12 : Dh > 0
   ·rw [if_pos c12] at H; have c12b0 : decide (0 < Dh) = true := decide_eq_true c12; clear c12; replace H := Option.bind_eq_some_iff.mp H; obtain ⟨⟨Ds, Eg, Eh⟩, Dz, H⟩ := H; (try dsimp only at H); have Fx := Cmp.A Dz; clear Dz
    have H' := Cmp.A H
    clear H; have Fd := Dc.out; have Fn := Db.out; have Fe := Da.out; have Fo := Df.out
    have Do : wr.cell? ⟨D6, 0, none⟩ = some (D5) := (blk_cell D1.out 0).trans rfl
    have Dq := blk_frozen D1.out 0
    obtain ⟨E2, E7, Ez⟩ := Kd.R_slice D0.out
    subst Ez
    go_wp2_with (first | ((with_reducible refine gate_callee (f := 123) rfl ?_); refine goesL_ (some 16) rfl rfl Try.func123 (by kernel_rfl) rfl #[.pointer (some ⟨g, 0, none⟩), .agg #[.slice E2 D4.length E7]] rfl Cmp.q ?_; (with_reducible refine (spec_l17Step.calls k1 g s0_0 D7 D8 _ _ D4 Ds Eg Eh w0 _ ?side1 ?side2 ?side3 ?side4 Fx.out).mono ?_); (case side1 => exact IsS103.go Dd.out); (case side2 => exact IsS103.bl HB.out); (case side3 => exact Kd.C_foot_own (IsS103.apart (show IsS103 w0 _ g s0_0 D7 D8 from IsS103.go Dd.out) (Cmp.rr D0.out) (by decide)) (fun _ h_ => h_.2)); (case side4 => exact (Kd.R_reads' D0.out).2.1); rintro e w18 ⟨v275, rfl, Dx, hi, hb, hk⟩; refine ⟨_, rfl, ?_⟩; have Du := Cmp.A (Kd.R_lower (Kd.R_new' Dx (Kd.R_lt (Cmp.rr D0.out))) (keep_size (w := w) (g := g) (row := none) (Cmp.kk HK.out))); replace D0 := Cmp.A (Kd.R_mono (Kd.R_told (Kd.R_oldK (IsS103.apart (show IsS103 w0 _ g s0_0 D7 D8 from IsS103.go Dd.out) (Cmp.rr D0.out) (by decide)) hk) (Kd.R_base Dx)) (fun _ h_ => h_.1)); replace D2 := Cmp.A (KeepBut.blk hk (g' := D9) (o := .cells #[.slice none 0 0] 45 (0, 0)) (Cmp.b D2.out) De.out (by simp)); replace D1 := Cmp.A (KeepBut.blk hk (g' := D6) (o := .cells #[.slice E2 D4.length E7] 45 (0, 0)) (Cmp.b D1.out) Da.out (by simp)); replace HK := Cmp.A (KeepBut.trans (Cmp.kk HK.out) hk (.inl rfl)); replace HB := Cmp.A (hb); replace Dd := Cmp.A (hi); (try clear hb); (try clear hb2); (try clear hk); (try clear hi); (try clear Dx); obtain ⟨E3, E8, F0⟩ := Kd.R_slice Du.out; subst F0; have Dp := Cmp.c0 D1; have Dr := blk_frozen D1.out 0))
    go_roundg k1
    case measure => have := HK1.out; omega
    case rel => exact ⟨(wrap64 (Dh - 1)), (Eg), (Eh), (Ds), (.slice E3 Ds.length E8), (by first | rfl | simp | simp [*]), H', ⟨by have := HK1.out; omega⟩, ⟨Cmp.rm (Kd.R_far (p := ⟨D6, 0, none⟩) (Kd.R_types Du.out D1.out (by decide)) (fun _ hk => hk.2) (.slice E3 Ds.length E8)) (fun _ hk => trivial)⟩, ⟨Cmp.bw D2.out⟩, ⟨Cmp.bw D1.out⟩, ⟨IsS103.go Dd.out⟩, ⟨Cmp.kk HK.out⟩, ⟨IsS103.bl HB.out⟩⟩
   ·rw [if_neg c12] at H; have c12b0 : decide (0 < Dh) = false := decide_eq_false c12; clear c12; replace H := Option.bind_eq_some_iff.mp H; obtain ⟨⟨F5, Dm, Dn⟩, E0, H⟩ := H; (try dsimp only at H); have F8 := Cmp.A E0; clear E0
    by_cases c22 : F5 = true
    ·subst c22; rw [if_pos rfl] at H
     have H' := Cmp.A H
     clear H
     go_wp2_with (first | ((with_reducible refine gate_callee (f := 87) rfl ?_); refine goesL_ (some 18) rfl rfl Try.func87 (by kernel_rfl) rfl #[.pointer (some ⟨g, 0, none⟩), .int .i64 8] rfl Cmp.q ?_; (with_reducible refine (spec_l1Once.calls g s0_0 D7 D8 8 true Dm Dn w0 _ ?side1 ?side2 F8.out).mono ?_); (case side1 => exact IsS103.go Dd.out); (case side2 => exact IsS103.bl HB.out); rintro e w23 ⟨rfl, hi, hb, hk⟩; refine ⟨_, rfl, ?_⟩; replace D0 := Cmp.A (Kd.R_mono (Kd.R_keep (IsS103.apart (show IsS103 w0 _ g s0_0 D7 D8 from IsS103.go Dd.out) (Cmp.rr D0.out) (by decide)) hk (fun _ h => h.2)) (fun _ h => h.1)); replace D2 := Cmp.A (KeepBut.blk hk (g' := D9) (o := .cells #[.slice none 0 0] 45 (0, 0)) (Cmp.b D2.out) De.out (by simp)); replace D1 := Cmp.A (KeepBut.blk hk (g' := D6) (o := .cells #[D5] 45 (0, 0)) (Cmp.b D1.out) Da.out (by simp)); replace HK := Cmp.A (KeepBut.trans (Cmp.kk HK.out) hk (.inl rfl)); replace HB := Cmp.A (hb); replace Dd := Cmp.A (hi); (try clear hb); (try clear hb2); (try clear hk); (try clear hi)))
     go_loopg [5] k1 (fun kq v5 w' => ∃ (Dj : Int) (D3 : List (S94)) (D5 : Value), v5 = .int .i64 Dj ∧ Aside0 (spec_l17Bundle.l1 kq Dj s0_0 Dm Dn D3 = some (r1, r2, r3)) ∧ Aside0 (kq ≤ k1) ∧ Aside0 (Kd.R k94 94 w' w.heap.size (fun _ => True) D5 D3) ∧ Aside0 (w'.heap[D9]? = some (.cells #[(.slice none 0 0)] 45 (0, 0))) ∧ Aside0 (w'.heap[D6]? = some (.cells #[D5] 45 (0, 0))) ∧ Aside0 (IsS103 w0 w' g s0_0 Dm Dn) ∧ Aside0 (KeepBut w w' g none) ∧ Aside0 (Below w0.heap.size w0 w'))
     case atStart => exact ⟨(0), (D4), (D5), (by first | rfl | simp | simp [*]), H', ⟨Nat.le_refl _⟩, ⟨Cmp.rr D0.out⟩, Cmp.bq D2, Cmp.bq D1, ⟨IsS103.go Dd.out⟩, ⟨Cmp.kk HK.out⟩, ⟨IsS103.bl HB.out⟩⟩
     case round =>
      clear H'
      (try clear c1); (try clear c2); (try clear p2); (try clear c3); (try clear c5); (try clear c6); (try clear p6); (try clear c8); (try clear c10); (try clear c12); (try clear c12b0); (try clear c14); (try clear c15); (try clear c22); (try clear Do); (try clear Dp); (try clear Dk); (try clear Dq); (try clear Dr); (try clear Dl); (try clear p2)
      obtain ⟨Dj, D3, D5, rfl, HA, HK2, D0, D2, D1, Dd, HK, HB⟩ := hrel
      cases gk with
      | zero => exact absurd HA.out (by simp [spec_l17Bundle.l1])
      | succ k2 =>
       have H := HA.out; clear HA
       simp only [spec_l17Bundle.l1] at H
       by_cases c24 : (D3.length : Int) < 20
       ·rw [if_pos c24] at H
        have c24b0 : decide ((D3.length : Int) < 20) = true := decide_eq_true c24
        have c24b1 : decide (D3.length < 20) = true := decide_eq_true (by omega)
        clear c24; replace H := Option.bind_eq_some_iff.mp H; obtain ⟨⟨Dt, F6⟩, E1, H⟩ := H; (try dsimp only at H); have Fy := Cmp.A E1; clear E1
        have H' := Cmp.A H
        clear H; have Ff := Dc.out; have Fp := Db.out; have Fg := Da.out; have Fq := Df.out
        have Ei : wr.cell? ⟨D6, 0, none⟩ = some (D5) := (blk_cell D1.out 0).trans rfl
        have Eo := blk_frozen D1.out 0
        obtain ⟨Ev, Ex, F1⟩ := Kd.R_slice D0.out
        subst F1
        go_wp2_with (first | ((with_reducible refine gate_callee (f := 124) rfl ?_); refine goesL_ (some 29) rfl rfl Try.func124 (by kernel_rfl) rfl #[.agg #[.slice Ev D3.length Ex], .int .i64 (wrap64 (10 + Dj)), .int .i64 0] rfl Cmp.q ?_; (with_reducible refine (spec_PutEntry.calls k2 _ _ D3 (wrap64 (10 + Dj)) 0 Dt F6 _ ?side1 ?side2 Fy.out).mono ?_); (case side1 => exact Cmp.rc (Kd.R_reads' D0.out).2.2); (case side2 => exact (Kd.R_reads' D0.out).2.1); rintro e w30 ⟨v283, rfl, Dx, hb⟩; refine ⟨_, rfl, ?_⟩; have Dv := Cmp.A (Kd.R_lower (Kd.R_new' Dx (Kd.R_lt (Cmp.rr D0.out))) (keep_size (w := w) (g := g) (row := none) (Cmp.kk HK.out))); replace D0 := Cmp.A (Kd.R_elder' (Cmp.rr D0.out) (Kd.R_base Dx) hb); replace D2 := Cmp.be D2 hb; replace D1 := Cmp.be D1 hb; replace HK := Cmp.A (KeepBut.trans (Cmp.kk HK.out) (KeepBut.of_below hb g none) (.inl rfl)); replace HB := Cmp.A (below_step (IsS103.bl HB.out) hb); replace Dd := Cmp.A (IsS103.below (IsS103.go Dd.out) hb); (try clear hb); (try clear hb2); (try clear hk); (try clear hi); (try clear Dx); obtain ⟨E4, E9, F2⟩ := Kd.R_slice Dv.out; subst F2; have Ej := Cmp.c0 D1; have Ep := blk_frozen D1.out 0))
        go_roundg k2
        case measure => have := HK1.out; have := HK2.out; omega
        case rel => exact ⟨(wrap64 (Dj + 1)), (Dt), (.slice E4 Dt.length E9), (by first | rfl | simp | simp [*]), H', ⟨by have := HK1.out; have := HK2.out; omega⟩, ⟨Cmp.rm (Kd.R_far (p := ⟨D6, 0, none⟩) (Kd.R_types Dv.out D1.out (by decide)) (fun _ hk => hk.2) (.slice E4 Dt.length E9)) (fun _ hk => trivial)⟩, ⟨Cmp.bw D2.out⟩, ⟨Cmp.bw D1.out⟩, ⟨IsS103.go Dd.out⟩, ⟨Cmp.kk HK.out⟩, ⟨IsS103.bl HB.out⟩⟩
       ·rw [if_neg c24] at H
        have c24b0 : decide ((D3.length : Int) < 20) = false := decide_eq_false c24
        have c24b1 : decide (D3.length < 20) = false := decide_eq_false (by omega)
        clear c24
        simp only [Option.some.injEq, Prod.mk.injEq] at H
        obtain ⟨rfl, rfl, rfl⟩ := H; have Fh := Dc.out; have Fr := Db.out; have Fi := Da.out; have Fs := Df.out
        have Ek : wr.cell? ⟨D6, 0, none⟩ = some (D5) := (blk_cell D1.out 0).trans rfl
        have Eq := blk_frozen D1.out 0
        obtain ⟨E5, Ea, F3⟩ := Kd.R_slice D0.out
        subst F3; have Fj := De.out; have Ft := Di.out
        have El : wr.cell? ⟨D9, 0, none⟩ = some (.slice none 0 0) := (blk_cell D2.out 0).trans rfl
        have Er := blk_frozen D2.out 0
        go_wp2
        refine bodyPost_ret (results_cell_row rfl _ _ D9 45 #[.slice E5 D3.length Ea] (0, 0) _ rfl (Cmp.bw D2.out) Try.underlying45 rfl (by kernel_rfl)) rfl ?_
        exact ⟨_, by first | rfl | (simp [errW_none, errW_some] <;> rfl) | (simp [*, errW_none, errW_some] <;> rfl), by (with_reducible repeat (first | apply Kd.R_alloc | apply Kd.R_drewN | apply Kd.R_drew)); exact Kd.R_mono (Kd.R_far (p := ⟨D9, 0, none⟩) (Kd.R_types D0.out D2.out (by decide)) (fun _ hk => hk.2) (.slice E5 D3.length Ea)) (fun _ hk => trivial), IsS103.go Dd.out, IsS103.bl HB.out, Cmp.kk HK.out⟩
    ·replace c22 := Bool.eq_false_iff.mpr c22
     subst c22
     have H1 : (some (D4, Dm, Dn)) = some (r1, r2, r3) := by rw [if_neg (show ¬ (false = true) by decide)] at H; exact H
     clear H; have H := H1; clear H1
     simp only [Option.some.injEq, Prod.mk.injEq] at H
     obtain ⟨rfl, rfl, rfl⟩ := H
     go_wp2_with (first | ((with_reducible refine gate_callee (f := 87) rfl ?_); refine goesL_ (some 18) rfl rfl Try.func87 (by kernel_rfl) rfl #[.pointer (some ⟨g, 0, none⟩), .int .i64 8] rfl Cmp.q ?_; (with_reducible refine (spec_l1Once.calls g s0_0 D7 D8 8 false Dm Dn w0 _ ?side1 ?side2 F8.out).mono ?_); (case side1 => exact IsS103.go Dd.out); (case side2 => exact IsS103.bl HB.out); rintro e w39 ⟨rfl, hi, hb, hk⟩; refine ⟨_, rfl, ?_⟩; replace D0 := Cmp.A (Kd.R_mono (Kd.R_keep (IsS103.apart (show IsS103 w0 _ g s0_0 D7 D8 from IsS103.go Dd.out) (Cmp.rr D0.out) (by decide)) hk (fun _ h => h.2)) (fun _ h => h.1)); replace D2 := Cmp.A (KeepBut.blk hk (g' := D9) (o := .cells #[.slice none 0 0] 45 (0, 0)) (Cmp.b D2.out) De.out (by simp)); replace D1 := Cmp.A (KeepBut.blk hk (g' := D6) (o := .cells #[D5] 45 (0, 0)) (Cmp.b D1.out) Da.out (by simp)); replace HK := Cmp.A (KeepBut.trans (Cmp.kk HK.out) hk (.inl rfl)); replace HB := Cmp.A (hb); replace Dd := Cmp.A (hi); (try clear hb); (try clear hb2); (try clear hk); (try clear hi); have Fk := Dc.out; have Fu := Db.out; have Fl := Da.out; have Fv := Df.out; have Em := Cmp.c0 D1; have Es := blk_frozen D1.out 0; obtain ⟨E6, Eb, F4⟩ := Kd.R_slice D0.out; subst F4; have Fm := De.out; have Fw := Di.out; have En := Cmp.c0 D2; have Et := blk_frozen D2.out 0))
     refine bodyPost_ret (results_cell_row rfl _ _ D9 45 #[.slice E6 D4.length Eb] (0, 0) _ rfl (Cmp.bw D2.out) Try.underlying45 rfl (by kernel_rfl)) rfl ?_
     exact ⟨_, by first | rfl | (simp [errW_none, errW_some] <;> rfl) | (simp [*, errW_none, errW_some] <;> rfl), by (with_reducible repeat (first | apply Kd.R_alloc | apply Kd.R_drewN | apply Kd.R_drew)); exact Kd.R_mono (Kd.R_far (p := ⟨D9, 0, none⟩) (Kd.R_types D0.out D2.out (by decide)) (fun _ hk => hk.2) (.slice E6 D4.length Eb)) (fun _ hk => trivial), IsS103.go Dd.out, IsS103.bl HB.out, Cmp.kk HK.out⟩
end Go.Proofs.Ytpgjecknkmmnhaa.PFnSealedBundles

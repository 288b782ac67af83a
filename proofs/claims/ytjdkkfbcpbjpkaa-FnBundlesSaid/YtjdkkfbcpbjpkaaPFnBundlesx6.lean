/- Printed functions of the program (by a changed copy of the printer). No condition. -/
import Derived.Test.YtjdkkfbcpbjpkaaCmp
import Derived.Test.YtjdkkfbcpbjpkaaPFnBundlesx0
import Derived.Test.YtjdkkfbcpbjpkaaPFnBundlesx2
import Derived.Test.YtjdkkfbcpbjpkaaPFnBundlesx5
namespace Go.Proofs.Ytjdkkfbcpbjpkaa.PFnBundles
open Go.Proofs.Ytjdkkfbcpbjpkaa
open Go.RowKit Go.Proofs.YtjdkkfbcpbjpkaaW.PrintWords Go.Proofs.YtjdkkfbcpbjpkaaW.PrintLast Go.Proofs.YtjdkkfbcpbjpkaaW.PrintMore
attribute [local go_sem] max2_int min2_int max_two min_two max_three min_three max_four min_four   -- for this text's walks alone
set_option linter.unusedVariables false
set_option linter.unusedSimpArgs false
/-! ### spec_DrawThree: function 36 -/
mutual
def spec_DrawThree.l0 : Nat → List (S73) → Int → List Int → Int → Int → List (S116) → Option ((List (S116)) × (List (S116)) × (List (S116)))
  | 0, _, _, _, _, _, _ => none
  | k + 1, x6, x8, x257000, x257001, x257002, x261000 => if x8 > 0 then ((spec_l17Step.f k x257000 x257001 x257002 x261000).bind fun bt264 => (spec_DrawThree.l0 k x6 (wrap64 (x8 - 1)) x257000 bt264.2.1 bt264.2.2 bt264.1)) else (spec_DrawThree.l1 k x6 0 x257000 x257001 x257002 x261000)
def spec_DrawThree.l1 : Nat → List (S73) → Int → List Int → Int → Int → List (S116) → Option ((List (S116)) × (List (S116)) × (List (S116)))
  | 0, _, _, _, _, _, _ => none
  | k + 1, x6, x9, x257000, x257001, x257002, x261000 => if x9 < 3 then ((spec_l17Copy.f x261000).bind fun t272 => ((spec_l1Below.f x257000 x257001 x257002 6).bind fun bt276 => (spec_DrawThree.l2 k x6 x9 bt276.1 x257000 bt276.2.1 bt276.2.2 x261000 t272))) else (if 0 < (x6.length : Int) then (if 1 < (x6.length : Int) then (if 2 < (x6.length : Int) then (some ((rd_T73 x6 0).f0, (rd_T73 x6 1).f0, (rd_T73 x6 2).f0)) else (none)) else (none)) else (none))
def spec_DrawThree.l2 : Nat → List (S73) → Int → Int → List Int → Int → Int → List (S116) → List (S116) → Option ((List (S116)) × (List (S116)) × (List (S116)))
  | 0, _, _, _, _, _, _, _, _ => none
  | k + 1, x6, x9, x11, x257000, x257001, x257002, x261000, x276000 => if x11 > 0 then ((spec_l17Step.f k x257000 x257001 x257002 x276000).bind fun bt279 => (spec_DrawThree.l2 k x6 x9 (wrap64 (x11 - 1)) x257000 bt279.2.1 bt279.2.2 x261000 bt279.1)) else (if x6.length < 5864062014805 then (spec_DrawThree.l1 k (x6 ++ [(⟨x276000⟩ : S73)]) (wrap64 (x9 + 1)) x257000 x257001 x257002 x261000) else (none))
end
def spec_DrawThree.f (k : Nat) (l0 : List Int) : Option ((List (S116)) × (List (S116)) × (List (S116))) := (spec_l1New.f k l0).bind fun bt253 => ((spec_l1Below.f bt253.1 bt253.2.1 bt253.2.2 6).bind fun bt261 => (spec_DrawThree.l0 k (([] : List (S73))) bt261.1 bt253.1 bt261.2.1 bt261.2.2 ([] : List (S116))))
theorem spec_DrawThree.mono_l : ∀ k, (∀ y0 y1 y2 y3 y4 y5, LeO (spec_DrawThree.l0 k y0 y1 y2 y3 y4 y5) (spec_DrawThree.l0 (k + 1) y0 y1 y2 y3 y4 y5)) ∧ (∀ y0 y1 y2 y3 y4 y5, LeO (spec_DrawThree.l1 k y0 y1 y2 y3 y4 y5) (spec_DrawThree.l1 (k + 1) y0 y1 y2 y3 y4 y5)) ∧ (∀ y0 y1 y2 y3 y4 y5 y6 y7, LeO (spec_DrawThree.l2 k y0 y1 y2 y3 y4 y5 y6 y7) (spec_DrawThree.l2 (k + 1) y0 y1 y2 y3 y4 y5 y6 y7))
 | 0 => ⟨fun _ _ _ _ _ _ r h => by simp [spec_DrawThree.l0] at h, fun _ _ _ _ _ _ r h => by simp [spec_DrawThree.l1] at h, fun _ _ _ _ _ _ _ _ r h => by simp [spec_DrawThree.l2] at h⟩
 | k + 1 => by
    obtain ⟨ih0, ih1, ih2⟩ := spec_DrawThree.mono_l k
    refine ⟨?_, ?_, ?_⟩
    · intro y0 y1 y2 y3 y4 y5
      unfold spec_DrawThree.l0
      repeat' first
 | (with_reducible exact ih0 _ _ _ _ _ _)
 | (with_reducible exact ih1 _ _ _ _ _ _)
 | (with_reducible exact ih2 _ _ _ _ _ _ _ _)
 | (with_reducible exact spec_l17Step.mono _ _ _ _ _)
 | (with_reducible exact spec_l1New.mono _ _)
 | (with_reducible exact LeO.refl _)
 | (with_reducible exact LeO.none _)
 | (with_reducible refine LeO.ite ?_ ?_)
 | (with_reducible refine LeO.bind ?_ (fun _ => ?_))
    · intro y0 y1 y2 y3 y4 y5
      unfold spec_DrawThree.l1
      repeat' first
 | (with_reducible exact ih0 _ _ _ _ _ _)
 | (with_reducible exact ih1 _ _ _ _ _ _)
 | (with_reducible exact ih2 _ _ _ _ _ _ _ _)
 | (with_reducible exact spec_l17Step.mono _ _ _ _ _)
 | (with_reducible exact spec_l1New.mono _ _)
 | (with_reducible exact LeO.refl _)
 | (with_reducible exact LeO.none _)
 | (with_reducible refine LeO.ite ?_ ?_)
 | (with_reducible refine LeO.bind ?_ (fun _ => ?_))
    · intro y0 y1 y2 y3 y4 y5 y6 y7
      unfold spec_DrawThree.l2
      repeat' first
 | (with_reducible exact ih0 _ _ _ _ _ _)
 | (with_reducible exact ih1 _ _ _ _ _ _)
 | (with_reducible exact ih2 _ _ _ _ _ _ _ _)
 | (with_reducible exact spec_l17Step.mono _ _ _ _ _)
 | (with_reducible exact spec_l1New.mono _ _)
 | (with_reducible exact LeO.refl _)
 | (with_reducible exact LeO.none _)
 | (with_reducible refine LeO.ite ?_ ?_)
 | (with_reducible refine LeO.bind ?_ (fun _ => ?_))
theorem spec_DrawThree.mono : ∀ a0 k, LeO (spec_DrawThree.f k a0) (spec_DrawThree.f (k + 1) a0) := by
  intro a0 k
  obtain ⟨ih0, ih1, ih2⟩ := spec_DrawThree.mono_l k
  unfold spec_DrawThree.f
  repeat' first
 | (with_reducible exact ih0 _ _ _ _ _ _)
 | (with_reducible exact ih1 _ _ _ _ _ _)
 | (with_reducible exact ih2 _ _ _ _ _ _ _ _)
 | (with_reducible exact spec_l17Step.mono _ _ _ _ _)
 | (with_reducible exact spec_l1New.mono _ _)
 | (with_reducible exact LeO.refl _)
 | (with_reducible exact LeO.none _)
 | (with_reducible refine LeO.ite ?_ ?_)
 | (with_reducible refine LeO.bind ?_ (fun _ => ?_))
def spec_DrawThree.T17 : Bool × List (List Nat × List Nat) := (true, [([], []), ([0], [0]), ([1], [1]), ([], []), ([3], [3]), ([4], [4]), ([], []), ([6], [6]), ([7], [7]), ([2, 0, 1, 2], [2]), ([5, 9, 0, 1, 2, 3, 4, 5, 9], [5]), ([8, 10, 0, 1, 2, 3, 4, 5, 6, 7, 8, 9, 10], [8])])
def spec_DrawThree.B17 : List Nat := [0, 1, 3, 0, 8, 24, 0, 64, 192, 7, 575, 2047]
theorem spec_DrawThree.tab17 : rtab .any (opsOf Try.f36 17) = spec_DrawThree.T17 := by kernel_rfl
theorem spec_DrawThree.bits17 : waitsOk spec_DrawThree.T17.2 spec_DrawThree.B17 = true := by kernel_rfl
set_option maxHeartbeats 8000000 in
set_option maxRecDepth 100000 in
theorem spec_DrawThree.calls (k : Nat) (A0 : Option Addr) (c0 : Nat) (l0 : List Int) (r1 : List (S116)) (r2 : List (S116)) (r3 : List (S116)) (w : World) (hr0 : Kd.C (Kd.int .u8) w A0 l0.length l0) (hc0 : l0.length ≤ c0) (h : spec_DrawThree.f k l0 = some (r1, r2, r3)) :
    Calls Try.prog 36 #[.slice A0 l0.length c0] w fun e w' => ∃ v0_ v1_ v2_ : Value, e = .returned (.tuple #[.agg #[v0_], .agg #[v1_], .agg #[v2_]]) ∧ Kd.V k116 116 w' w.heap.size (fun k_ => (w.heap.size ≤ k_)) v0_ r1 ∧ Kd.V k116 116 w' w.heap.size (fun k_ => (w.heap.size ≤ k_)) v1_ r2 ∧ Kd.V k116 116 w' w.heap.size (fun k_ => (w.heap.size ≤ k_)) v2_ r3 ∧ Below w.heap.size w w' := by
 have hu73 := Try.underlying73; have HR0 := Cmp.A hr0; have HC0 := Cmp.A hc0; clear hr0 hc0
 have HB := Cmp.A (Below.refl w.heap.size w)
 have H : ((spec_l1New.f k l0).bind fun bt253 => ((spec_l1Below.f bt253.1 bt253.2.1 bt253.2.2 6).bind fun bt261 => (spec_DrawThree.l0 k (([] : List (S73))) bt261.1 bt253.1 bt261.2.1 bt261.2.2 ([] : List (S116))))) = some (r1, r2, r3) := h
 clear h; replace H := Option.bind_eq_some_iff.mp H; obtain ⟨⟨Dn, F0, F1⟩, Gu, H⟩ := H; (try dsimp only at H); have A2 := Cmp.A Gu; clear Gu
 obtain ⟨Ff, hy257⟩ : ∃ y_ : List (S73), y_ = (([] : List (S73))) := ⟨_, rfl⟩
 replace H : ((spec_l1Below.f Dn F0 F1 6).bind fun bt261 => (spec_DrawThree.l0 k Ff bt261.1 Dn bt261.2.1 bt261.2.2 ([] : List (S116)))) = some (r1, r2, r3) := Cmp.hy hy257 H
 have Fi := Cmp.A hy257; clear hy257; replace H := Option.bind_eq_some_iff.mp H; obtain ⟨⟨G4, G5, G6⟩, Gf, H⟩ := H; (try dsimp only at H); have A3 := Cmp.A Gf; clear Gf
 have H' := Cmp.A H
 clear H
 go_enter Try.func36, Try.ntmps36
 go_wp2_with (first | ((with_reducible refine gate_dst (N := 2) rfl ?_); refine box_event ?hg (N := 2) ?hd (cs := #[.slice none 0 0]) (t := 73) ?hr ?_; (case hd => rfl); (case hg => rfl); (case hr => first | (go_simp; done) | (go_simp; rfl)); intro Da hg w4 hbox hb; have D1 := Cmp.A (hbox); have J0 := Cmp.gw hg HB; have Gv := Cmp.gw hg HB; replace HB := Cmp.bs HB hb; clear hb hbox hg) | ((with_reducible refine gate_dst (N := 3) rfl ?_); refine box_event ?hg (N := 3) ?hd (cs := #[.slice none 0 0]) (t := 73) ?hr ?_; (case hd => rfl); (case hg => rfl); (case hr => first | (go_simp; done) | (go_simp; rfl)); intro Db hg w5 hbox hb; have D3 := Cmp.A (hbox); have J1 := Cmp.gw hg HB; have Gw := Cmp.gw hg HB; have Ej := Cmp.nl hg D1; have El := Cmp.ng hg D1; replace D1 := Cmp.be D1 hb; replace HB := Cmp.bs HB hb; clear hb hbox hg) | ((with_reducible refine gate_dst (N := 4) rfl ?_); refine box_event ?hg (N := 4) ?hd (cs := #[.slice none 0 0]) (t := 73) ?hr ?_; (case hd => rfl); (case hg => rfl); (case hr => first | (go_simp; done) | (go_simp; rfl)); intro Dc hg w6 hbox hb; have D5 := Cmp.A (hbox); have J2 := Cmp.gw hg HB; have Gx := Cmp.gw hg HB; have Ek := Cmp.nl hg D1; have En := Cmp.ng hg D1; have Em := Cmp.nl hg D3; have Eo := Cmp.ng hg D3; replace D1 := Cmp.be D1 hb; replace D3 := Cmp.be D3 hb; replace HB := Cmp.bs HB hb; clear hb hbox hg) | ((with_reducible refine gate_callee (f := 62) rfl ?_); refine goesL_ (some 13) rfl rfl Try.func62 (by kernel_rfl) rfl #[.slice A0 l0.length c0] rfl Cmp.q ?_; (with_reducible refine (spec_l1New.calls k _ _ l0 Dn F0 F1 w _ ?side1 ?side2 ?side3 A2.out).mono ?_); (case side1 => exact Cmp.g HB.out); (case side2 => exact HR0.out); (case side3 => exact HC0.out); rintro e w7 ⟨g256, rfl, hi, hb, hb2⟩; refine ⟨_, rfl, ?_⟩; have D6 := Cmp.A (hi); have Fn := Cmp.A (IsS134.ne_blk hi (blk_below (g := Da) (o := .cells #[.slice none 0 0] 73 (0, 0)) (Cmp.b D1.out) hb2) (by decide)); have Ds := Cmp.A (Ne.symm (IsS134.ne_blk hi (blk_below (g := Da) (o := .cells #[.slice none 0 0] 73 (0, 0)) (Cmp.b D1.out) hb2) (by decide))); have Fo := Cmp.A (IsS134.ne_blk hi (blk_below (g := Db) (o := .cells #[.slice none 0 0] 73 (0, 0)) (Cmp.b D3.out) hb2) (by decide)); have Du := Cmp.A (Ne.symm (IsS134.ne_blk hi (blk_below (g := Db) (o := .cells #[.slice none 0 0] 73 (0, 0)) (Cmp.b D3.out) hb2) (by decide))); have Fp := Cmp.A (IsS134.ne_blk hi (blk_below (g := Dc) (o := .cells #[.slice none 0 0] 73 (0, 0)) (Cmp.b D5.out) hb2) (by decide)); have Dw := Cmp.A (Ne.symm (IsS134.ne_blk hi (blk_below (g := Dc) (o := .cells #[.slice none 0 0] 73 (0, 0)) (Cmp.b D5.out) hb2) (by decide))); replace D1 := Cmp.A (blk_below (g := Da) (o := .cells #[.slice none 0 0] 73 (0, 0)) (Cmp.b D1.out) hb2); replace D3 := Cmp.A (blk_below (g := Db) (o := .cells #[.slice none 0 0] 73 (0, 0)) (Cmp.b D3.out) hb2); replace D5 := Cmp.A (blk_below (g := Dc) (o := .cells #[.slice none 0 0] 73 (0, 0)) (Cmp.b D5.out) hb2); replace HB := Cmp.A (hb); (try clear hb); (try clear hb2); (try clear hk); (try clear hi)) | ((with_reducible refine gate_dst (N := 14) rfl ?_); refine Kd.S_lit k73 _ 73 ?hg (N := 14) ?hd (xs := ([] : List (S73))) (inner := []) (ok := fun _ => True) (okp := fun _ => True) ?hr ?hp (fun _ hk => hk) trivial (Below.refl _ _) (Nat.le_refl _) (by simp) ?_; (case hd => rfl); (case hg => rfl); (case hr => first | (go_simp; done) | (go_simp; rfl)); (case hp => exact (Reps.none _ _)); intro v258 w8 G3 hb hg_ hnew_; clear hg_ hnew_; (first | rw [← Fi.out] at G3 | (simp only [Int.reduceToNat] at G3; rw [← Fi.out] at G3)); have Es := Cmp.A (Kd.S_lower (Kd.S_newB (Kd.S_newB (Kd.S_newB (Kd.S_newM (M := fun k_ => (w.heap.size ≤ k_)) G3 (below_size (IsS134.bl HB.out)) (fun k_ h_ => h_)) (g := Da) (o := .cells #[.slice none 0 0] 73 (0, 0)) (Cmp.b D1.out)) (g := Db) (o := .cells #[.slice none 0 0] 73 (0, 0)) (Cmp.b D3.out)) (g := Dc) (o := .cells #[.slice none 0 0] 73 (0, 0)) (Cmp.b D5.out)) (below_size (IsS134.bl HB.out))); replace D1 := Cmp.be D1 hb; replace D3 := Cmp.be D3 hb; replace D5 := Cmp.be D5 hb; replace HB := Cmp.A (below_step (IsS134.bl HB.out) hb); replace D6 := Cmp.A (IsS134.below (IsS134.go D6.out) hb); clear hb G3) | ((with_reducible refine gate_dst (N := 7) rfl ?_); refine box_event ?hg (N := 7) ?hd (cs := #[.slice none 0 0]) (t := 73) ?hr ?_; (case hd => rfl); (case hg => rfl); (case hr => first | (go_simp; done) | (go_simp; rfl)); intro Dd hg w10 hbox hb; have D7 := Cmp.A (hbox); have J3 := Cmp.A ((by rw [hg]; exact (below_size (IsS134.bl HB.out)) : w.heap.size ≤ Dd)); have Gy := Cmp.A ((by rw [hg]; exact (below_size (IsS134.bl HB.out)) : w.heap.size ≤ Dd)); have Dt := Cmp.nl hg D1; have Dy := Cmp.ng hg D1; have Dv := Cmp.nl hg D3; have Dz := Cmp.ng hg D3; have Dx := Cmp.nl hg D5; have E0 := Cmp.ng hg D5; have E7 := Cmp.A ((by rw [hg]; exact Nat.ne_of_lt (IsS134.lt (show IsS134 w _ g256 Dn F0 F1 from IsS134.go D6.out)) : g256 ≠ Dd)); have Do := Cmp.A ((by rw [hg]; exact Nat.ne_of_gt (IsS134.lt (show IsS134 w _ g256 Dn F0 F1 from IsS134.go D6.out)) : Dd ≠ g256)); replace Es := Cmp.A (Kd.S_below (Kd.S_elderB (Cmp.rs Es.out) Dd (Nat.le_of_eq hg.symm)) hb); replace D1 := Cmp.be D1 hb; replace D3 := Cmp.be D3 hb; replace D5 := Cmp.be D5 hb; replace HB := Cmp.A (below_step (IsS134.bl HB.out) hb); replace D6 := Cmp.A (IsS134.below (IsS134.go D6.out) hb); clear hb hbox hg; have J5 := Dy.out; have Jw := Dt.out; have J6 := Dz.out; have Jx := Dv.out; have J7 := E0.out; have Jy := Dx.out; have J8 := Do.out; have Jz := E7.out; have Ep := Cmp.c0 D7; have Eq := blk_frozen D7.out 0) | ((with_reducible refine gate_callee (f := 63) rfl ?_); refine goesL_ (some 17) rfl rfl Try.func63 (by kernel_rfl) rfl #[.pointer (some ⟨g256, 0, none⟩), .int .i64 6] rfl Cmp.q ?_; (with_reducible refine (spec_l1Below.calls g256 Dn F0 F1 6 G4 G5 G6 w _ ?side1 ?side2 A3.out).mono ?_); (case side1 => exact IsS134.go D6.out); (case side2 => exact IsS134.bl HB.out); rintro e w16 ⟨rfl, hi, hb, hk⟩; refine ⟨_, rfl, ?_⟩; replace D1 := Cmp.A (KeepBut.blk hk (g' := Da) (o := .cells #[.slice none 0 0] 73 (0, 0)) (Cmp.bw D1.out) Ds.out (by simp)); replace D3 := Cmp.A (KeepBut.blk hk (g' := Db) (o := .cells #[.slice none 0 0] 73 (0, 0)) (Cmp.bw D3.out) Du.out (by simp)); replace D5 := Cmp.A (KeepBut.blk hk (g' := Dc) (o := .cells #[.slice none 0 0] 73 (0, 0)) (Cmp.bw D5.out) Dw.out (by simp)); replace Es := Cmp.A (Kd.S_mono (Kd.S_keep (IsS134.apartS (show IsS134 w _ g256 Dn F0 F1 from IsS134.go D6.out) (by (with_reducible repeat (first | apply Kd.S_alloc | apply Kd.S_drewN | apply Kd.S_drew)); exact (Kd.S_mono (Kd.S_far (p := ⟨Dd, 0, none⟩) (Kd.S_mono Es.out (fun k_ hk => (⟨hk, hk.2⟩ : _ ∧ k_ ≠ Dd))) (fun _ hk => hk.2) (.slice none 0 0)) (fun _ h_ => h_.1))) (by decide)) hk (fun _ h => h.2)) (fun _ h => h.1)); replace D7 := Cmp.A (KeepBut.blk hk (g' := Dd) (o := .cells #[.slice none 0 0] 73 (0, 0)) (Cmp.bw D7.out) Do.out (by simp)); replace HB := Cmp.A (hb); replace D6 := Cmp.A (hi); (try clear hb); (try clear hb2); (try clear hk); (try clear hi)))
 go_loopg [8] k (fun kq v8 w' => ∃ (Ev : Int) (Dl : Int) (Dm : Int) (D2 : List (S116)) (Dp : Value), v8 = .int .i64 Ev ∧ Aside0 (spec_DrawThree.l0 kq Ff Ev Dn Dl Dm D2 = some (r1, r2, r3)) ∧ Aside0 (kq ≤ k) ∧ Aside0 (Kd.S k73 73 w' w.heap.size (fun k_ => (w.heap.size ≤ k_) ∧ some k_ ≠ (Dp : Value).ownBlock ∧ k_ ≠ Da ∧ k_ ≠ Db ∧ k_ ≠ Dc ∧ k_ ≠ Dd) v258 Ff) ∧ Aside0 (Kd.R k116 116 w' w.heap.size (fun k_ => (w.heap.size ≤ k_)) Dp D2) ∧ Aside0 (w'.heap[Da]? = some (.cells #[(.slice none 0 0)] 73 (0, 0))) ∧ Aside0 (w'.heap[Db]? = some (.cells #[(.slice none 0 0)] 73 (0, 0))) ∧ Aside0 (w'.heap[Dc]? = some (.cells #[(.slice none 0 0)] 73 (0, 0))) ∧ Aside0 (w'.heap[Dd]? = some (.cells #[Dp] 73 (0, 0))) ∧ Aside0 (IsS134 w w' g256 Dn Dl Dm) ∧ Aside0 (Below w.heap.size w w'))
 case atStart => exact ⟨(G4), (G5), (G6), (([] : List (S116))), (.slice none 0 0), (by first | rfl | simp | simp [*]), H', ⟨Nat.le_refl _⟩, ⟨by (with_reducible repeat (first | apply Kd.S_alloc | apply Kd.S_drewN | apply Kd.S_drew)); exact Kd.S_mono Es.out (fun _ hk => ⟨hk.1.1.1.1.1, ⟨(by simp [Value.ownBlock]), ⟨hk.1.1.1.2, ⟨hk.1.1.2, ⟨hk.1.2, hk.2⟩⟩⟩⟩⟩)⟩, ⟨by first | exact Kd.R_nil _ _ _ _ _ | exact Kd.N_nil _ _ _ _ _ | exact Kd.V_nil _ _ _ _ _ | exact Kd.Q_nil _ _ _ _ _ | exact Kd.S_nil _ _ _ _ _⟩, Cmp.bq D1, Cmp.bq D3, Cmp.bq D5, Cmp.bq D7, ⟨IsS134.go D6.out⟩, ⟨IsS134.bl HB.out⟩⟩
 case round =>
  clear H'
  (try clear c1); (try clear p2); (try clear c3); (try clear c6); (try clear c11); (try clear c12); (try clear c13); (try clear c14); (try clear Ep); (try clear Eq)
  obtain ⟨Ev, Dl, Dm, D2, Dp, rfl, HA, HK1, D4, D0, D1, D3, D5, D7, D6, HB⟩ := hrel
  cases gk with
  | zero => exact absurd HA.out (by simp [spec_DrawThree.l0])
  | succ k1 =>
   have H := HA.out; clear HA
   simp only [spec_DrawThree.l0] at H
   by_cases c17 : Ev > 0
   ·rw [if_pos c17] at H; have c17b0 : decide (0 < Ev) = true := decide_eq_true c17; clear c17; replace H := Option.bind_eq_some_iff.mp H; obtain ⟨⟨F5, G7, G8⟩, Fq, H⟩ := H; (try dsimp only at H); have Ko := Cmp.A Fq; clear Fq
    have H' := Cmp.A H
    clear H; have J9 := Dy.out; have K0 := Dt.out; have Ja := Dz.out; have K1 := Dv.out; have Jb := E0.out; have K2 := Dx.out; have Jc := Do.out; have K3 := E7.out
    have Ew : wr.cell? ⟨Dd, 0, none⟩ = some (Dp) := (blk_cell D7.out 0).trans rfl
    have Ey := blk_frozen D7.out 0
    obtain ⟨Fu, G0, Gm⟩ := Kd.R_slice D0.out
    subst Gm
    go_wp2_with (first | ((with_reducible refine gate_callee (f := 64) rfl ?_); refine goesL_ (some 24) rfl rfl Try.func64 (by kernel_rfl) rfl #[.pointer (some ⟨g256, 0, none⟩), .agg #[.slice Fu D2.length G0]] rfl Cmp.q ?_; (with_reducible refine (spec_l17Step.calls k1 g256 Dn Dl Dm _ _ D2 F5 G7 G8 w _ ?side1 ?side2 ?side3 ?side4 Ko.out).mono ?_); (case side1 => exact IsS134.go D6.out); (case side2 => exact IsS134.bl HB.out); (case side3 => exact Kd.C_foot_own (IsS134.apart (show IsS134 w _ g256 Dn Dl Dm from IsS134.go D6.out) (Cmp.rr D0.out) (by decide)) (fun _ h_ => h_.2)); (case side4 => exact (Kd.R_reads' D0.out).2.1); rintro e w25 ⟨v265, rfl, Et, hi, hb, hk⟩; refine ⟨_, rfl, ?_⟩; have Fg := Cmp.A (Kd.R_lower (Kd.R_new' (Kd.R_newM (M := fun k_ => (w.heap.size ≤ k_)) Et (below_size (IsS134.bl HB.out)) (fun k_ h_ => h_)) (Kd.R_lt (Cmp.rr D0.out))) (below_size (IsS134.bl HB.out))); replace D4 := Cmp.A (Kd.S_mono (Kd.S_told (Kd.S_oldK (IsS134.apartS (show IsS134 w _ g256 Dn Dl Dm from IsS134.go D6.out) (Cmp.rs D4.out) (by decide)) hk) (Kd.R_base Et)) (fun _ h_ => h_.1)); replace D0 := Cmp.A (Kd.R_mono (Kd.R_told (Kd.R_oldK (IsS134.apart (show IsS134 w _ g256 Dn Dl Dm from IsS134.go D6.out) (Cmp.rr D0.out) (by decide)) hk) (Kd.R_base Et)) (fun _ h_ => h_.1)); replace D1 := Cmp.A (KeepBut.blk hk (g' := Da) (o := .cells #[.slice none 0 0] 73 (0, 0)) (Cmp.b D1.out) Ds.out (by simp)); replace D3 := Cmp.A (KeepBut.blk hk (g' := Db) (o := .cells #[.slice none 0 0] 73 (0, 0)) (Cmp.b D3.out) Du.out (by simp)); replace D5 := Cmp.A (KeepBut.blk hk (g' := Dc) (o := .cells #[.slice none 0 0] 73 (0, 0)) (Cmp.b D5.out) Dw.out (by simp)); replace D7 := Cmp.A (KeepBut.blk hk (g' := Dd) (o := .cells #[.slice Fu D2.length G0] 73 (0, 0)) (Cmp.b D7.out) Do.out (by simp)); replace HB := Cmp.A (hb); replace D6 := Cmp.A (hi); (try clear hb); (try clear hb2); (try clear hk); (try clear hi); (try clear Et); obtain ⟨Fj, Fl, Gn⟩ := Kd.R_slice Fg.out; subst Gn; have Ex := Cmp.c0 D7; have Ez := blk_frozen D7.out 0))
    go_roundg k1
    case measure => have := HK1.out; omega
    case rel => exact ⟨(wrap64 (Ev - 1)), (G7), (G8), (F5), (.slice Fj F5.length Fl), (by first | rfl | simp | simp [*]), H', ⟨by have := HK1.out; omega⟩, ⟨by (with_reducible repeat (first | apply Kd.S_alloc | apply Kd.S_drewN | apply Kd.S_drew)); exact Kd.S_mono (Kd.S_far (p := ⟨Dd, 0, none⟩) (Kd.S_mono D4.out (fun k_ hk => (⟨hk, hk.1.2.2.2.2.2⟩ : _ ∧ k_ ≠ Dd))) (fun _ hk => hk.2) (.slice Fj F5.length Fl)) (fun _ hk => ⟨hk.1.1.1, ⟨hk.1.2, ⟨hk.1.1.2.2.1, ⟨hk.1.1.2.2.2.1, ⟨hk.1.1.2.2.2.2.1, hk.1.1.2.2.2.2.2⟩⟩⟩⟩⟩)⟩, ⟨Cmp.rm (Kd.R_far (p := ⟨Dd, 0, none⟩) (Kd.R_types Fg.out D7.out (by decide)) (fun _ hk => hk.2) (.slice Fj F5.length Fl)) (fun _ hk => hk.1.1.1)⟩, ⟨Cmp.bw D1.out⟩, ⟨Cmp.bw D3.out⟩, ⟨Cmp.bw D5.out⟩, ⟨Cmp.bw D7.out⟩, ⟨IsS134.go D6.out⟩, ⟨IsS134.bl HB.out⟩⟩
   ·rw [if_neg c17] at H; have c17b0 : decide (0 < Ev) = false := decide_eq_false c17; clear c17
    have H' := Cmp.A H
    clear H
    go_wp2
    go_loopg [6, 9] k1 (fun kq v6 v9 w' => ∃ (D9 : List (S73)) (Er : Int) (Dj : Int) (Dk : Int), v9 = .int .i64 Er ∧ Aside0 (spec_DrawThree.l1 kq D9 Er Dn Dj Dk D2 = some (r1, r2, r3)) ∧ Aside0 (kq ≤ k1) ∧ Aside0 (Kd.S k73 73 w' w.heap.size (fun k_ => (w.heap.size ≤ k_) ∧ some k_ ≠ (Dp : Value).ownBlock ∧ k_ ≠ Da ∧ k_ ≠ Db ∧ k_ ≠ Dc ∧ k_ ≠ Dd) v6 D9) ∧ Aside0 (Kd.R k116 116 w' w.heap.size (fun k_ => (w.heap.size ≤ k_)) Dp D2) ∧ Aside0 (w'.heap[Da]? = some (.cells #[(.slice none 0 0)] 73 (0, 0))) ∧ Aside0 (w'.heap[Db]? = some (.cells #[(.slice none 0 0)] 73 (0, 0))) ∧ Aside0 (w'.heap[Dc]? = some (.cells #[(.slice none 0 0)] 73 (0, 0))) ∧ Aside0 (w'.heap[Dd]? = some (.cells #[Dp] 73 (0, 0))) ∧ Aside0 (IsS134 w w' g256 Dn Dj Dk) ∧ Aside0 (Below w.heap.size w w'))
    case atStart => exact ⟨(Ff), (0), (Dl), (Dm), (by first | rfl | simp | simp [*]), H', ⟨Nat.le_refl _⟩, ⟨Cmp.rs D4.out⟩, ⟨Cmp.rr D0.out⟩, Cmp.bq D1, Cmp.bq D3, Cmp.bq D5, Cmp.bq D7, ⟨IsS134.go D6.out⟩, ⟨IsS134.bl HB.out⟩⟩
    case round =>
     clear H'
     (try clear c1); (try clear c2); (try clear p2); (try clear c3); (try clear c6); (try clear p6); (try clear c11); (try clear c12); (try clear c13); (try clear c14); (try clear c17); (try clear c17b0); (try clear c19); (try clear c20); (try clear c21); (try clear c22); (try clear Ep); (try clear Ew); (try clear Ex); (try clear Eq); (try clear Ey); (try clear Ez); (try clear p2)
     obtain ⟨D9, Er, Dj, Dk, rfl, HA, HK2, D4, D0, D1, D3, D5, D7, D6, HB⟩ := hrel
     cases gk with
     | zero => exact absurd HA.out (by simp [spec_DrawThree.l1])
     | succ k2 =>
      have H := HA.out; clear HA
      simp only [spec_DrawThree.l1] at H
      by_cases c28 : Er < 3
      ·rw [if_pos c28] at H; have c28b0 : decide (Er < 3) = true := decide_eq_true c28; clear c28; replace H := Option.bind_eq_some_iff.mp H; obtain ⟨Eu, Fr, H⟩ := H; (try dsimp only at H); have Kp := Cmp.A Fr; clear Fr; replace H := Option.bind_eq_some_iff.mp H; obtain ⟨⟨G9, Ga, Gb⟩, Fs, H⟩ := H; (try dsimp only at H); have Gf := Cmp.A Fs; clear Fs
       have H' := Cmp.A H
       clear H; have Jd := Dy.out; have K4 := Dt.out; have Je := Dz.out; have K5 := Dv.out; have Jf := E0.out; have K6 := Dx.out; have Jg := Do.out; have K7 := E7.out
       have Fb : wr.cell? ⟨Dd, 0, none⟩ = some (Dp) := (blk_cell D7.out 0).trans rfl
       have Fd := blk_frozen D7.out 0
       obtain ⟨Ee, Eg, Gp⟩ := Kd.R_slice D0.out
       subst Gp
       go_wp2_with (first | ((with_reducible refine gate_callee (f := 65) rfl ?_); refine goesL_ (some 30) rfl rfl Try.func65 (by kernel_rfl) rfl #[.agg #[.slice Ee D2.length Eg]] rfl Cmp.q ?_; (with_reducible refine (spec_l17Copy.calls _ _ D2 Eu _ ?side1 ?side2 Kp.out).mono ?_); (case side1 => exact Cmp.rc (Kd.R_reads' D0.out).2.2); (case side2 => exact (Kd.R_reads' D0.out).2.1); rintro e w37 ⟨v273, rfl, Et, hb⟩; refine ⟨_, rfl, ?_⟩; have Ei := Cmp.A (Kd.R_lower (Kd.R_new' (Kd.R_newM (M := fun k_ => (w.heap.size ≤ k_)) Et (below_size (IsS134.bl HB.out)) (fun k_ h_ => h_)) (Kd.R_lt (Cmp.rr D0.out))) (below_size (IsS134.bl HB.out))); replace D4 := Cmp.A (Kd.S_elder' (Cmp.rs D4.out) (Kd.R_base Et) hb); replace D0 := Cmp.A (Kd.R_elder' (Cmp.rr D0.out) (Kd.R_base Et) hb); replace D1 := Cmp.be D1 hb; replace D3 := Cmp.be D3 hb; replace D5 := Cmp.be D5 hb; replace D7 := Cmp.be D7 hb; replace HB := Cmp.A (below_step (IsS134.bl HB.out) hb); replace D6 := Cmp.A (IsS134.below (IsS134.go D6.out) hb); (try clear hb); (try clear hb2); (try clear hk); (try clear hi); (try clear Et)) | ((with_reducible refine gate_dst (N := 10) rfl ?_); refine box_event ?hg (N := 10) ?hd (cs := #[.slice none 0 0]) (t := 73) ?hr ?_; (case hd => rfl); (case hg => rfl); (case hr => first | (go_simp; done) | (go_simp; rfl)); intro Di hg w38 hbox hb; have Dh := Cmp.A (hbox); have J4 := Cmp.A ((by rw [hg]; exact (below_size (IsS134.bl HB.out)) : w.heap.size ≤ Di)); have Gz := Cmp.A ((by rw [hg]; exact (below_size (IsS134.bl HB.out)) : w.heap.size ≤ Di)); have E4 := Cmp.nl hg D1; have Ea := Cmp.ng hg D1; have E5 := Cmp.nl hg D3; have Eb := Cmp.ng hg D3; have E6 := Cmp.nl hg D5; have Ec := Cmp.ng hg D5; have E9 := Cmp.nl hg D7; have Ed := Cmp.ng hg D7; have E8 := Cmp.A ((by rw [hg]; exact Nat.ne_of_lt (IsS134.lt (show IsS134 w _ g256 Dn Dj Dk from IsS134.go D6.out)) : g256 ≠ Di)); have Dq := Cmp.A ((by rw [hg]; exact Nat.ne_of_gt (IsS134.lt (show IsS134 w _ g256 Dn Dj Dk from IsS134.go D6.out)) : Di ≠ g256)); replace D4 := Cmp.A (Kd.S_below (Kd.S_elderB (Cmp.rs D4.out) Di (Nat.le_of_eq hg.symm)) hb); replace D0 := Cmp.A (Kd.R_below (Cmp.rr D0.out) hb); replace Ei := Cmp.A (Kd.R_below (Cmp.rr Ei.out) hb); replace D1 := Cmp.be D1 hb; replace D3 := Cmp.be D3 hb; replace D5 := Cmp.be D5 hb; replace D7 := Cmp.be D7 hb; replace HB := Cmp.A (below_step (IsS134.bl HB.out) hb); replace D6 := Cmp.A (IsS134.below (IsS134.go D6.out) hb); clear hb hbox hg; obtain ⟨F3, F4, Gq⟩ := Kd.R_slice Ei.out; subst Gq; have Jh := Ea.out; have K8 := E4.out; have Ji := Eb.out; have K9 := E5.out; have Jj := Ec.out; have Ka := E6.out; have Jk := Ed.out; have Kb := E9.out; have Jl := Dq.out; have Kc := E8.out; have Fc := Cmp.c0 Dh; have Fe := blk_frozen Dh.out 0) | ((with_reducible refine gate_callee (f := 63) rfl ?_); refine goesL_ (some 32) rfl rfl Try.func63 (by kernel_rfl) rfl #[.pointer (some ⟨g256, 0, none⟩), .int .i64 6] rfl Cmp.q ?_; (with_reducible refine (spec_l1Below.calls g256 Dn Dj Dk 6 G9 Ga Gb w _ ?side1 ?side2 Gf.out).mono ?_); (case side1 => exact IsS134.go D6.out); (case side2 => exact IsS134.bl HB.out); rintro e w46 ⟨rfl, hi, hb, hk⟩; refine ⟨_, rfl, ?_⟩; replace D4 := Cmp.A (Kd.S_mono (Kd.S_keep (IsS134.apartS (show IsS134 w _ g256 Dn Dj Dk from IsS134.go D6.out) (by (with_reducible repeat (first | apply Kd.S_alloc | apply Kd.S_drewN | apply Kd.S_drew)); exact (Kd.S_mono (Kd.S_far (p := ⟨Di, 0, none⟩) (Kd.S_mono D4.out (fun k_ hk => (⟨hk, hk.2⟩ : _ ∧ k_ ≠ Di))) (fun _ hk => hk.2) (.slice F3 Eu.length F4)) (fun _ h_ => h_.1))) (by decide)) hk (fun _ h => h.2)) (fun _ h => h.1)); replace D0 := Cmp.A (Kd.R_mono (Kd.R_keep (IsS134.apart (show IsS134 w _ g256 Dn Dj Dk from IsS134.go D6.out) (Cmp.rm (Kd.R_far (p := ⟨Di, 0, none⟩) (Kd.R_types D0.out Dh.out (by decide)) (fun _ hk => hk.2) (.slice F3 Eu.length F4)) (fun _ h_ => h_.1)) (by decide)) hk (fun _ h => h.2)) (fun _ h => h.1)); replace D1 := Cmp.A (KeepBut.blk hk (g' := Da) (o := .cells #[.slice none 0 0] 73 (0, 0)) (Cmp.bw D1.out) Ds.out (by simp)); replace D3 := Cmp.A (KeepBut.blk hk (g' := Db) (o := .cells #[.slice none 0 0] 73 (0, 0)) (Cmp.bw D3.out) Du.out (by simp)); replace D5 := Cmp.A (KeepBut.blk hk (g' := Dc) (o := .cells #[.slice none 0 0] 73 (0, 0)) (Cmp.bw D5.out) Dw.out (by simp)); replace D7 := Cmp.A (KeepBut.blk hk (g' := Dd) (o := .cells #[.slice Ee D2.length Eg] 73 (0, 0)) (Cmp.bw D7.out) Do.out (by simp)); replace Ei := Cmp.A (Kd.R_mono (Kd.R_keep (IsS134.apart (show IsS134 w _ g256 Dn Dj Dk from IsS134.go D6.out) (Cmp.rm (Kd.R_far (p := ⟨Di, 0, none⟩) (Kd.R_types Ei.out Dh.out (by decide)) (fun _ hk => hk.2) (.slice F3 Eu.length F4)) (fun _ h_ => h_.1)) (by decide)) hk (fun _ h => h.2)) (fun _ h => h.1)); replace Dh := Cmp.A (KeepBut.blk hk (g' := Di) (o := .cells #[.slice F3 Eu.length F4] 73 (0, 0)) (Cmp.bw Dh.out) Dq.out (by simp)); replace HB := Cmp.A (hb); replace D6 := Cmp.A (hi); (try clear hb); (try clear hb2); (try clear hk); (try clear hi)))
       go_loopg [11] k2 (fun kq v11 w' => ∃ (Eh : Int) (Df : Int) (Dg : Int) (D8 : List (S116)) (Dr : Value), v11 = .int .i64 Eh ∧ Aside0 (spec_DrawThree.l2 kq D9 Er Eh Dn Df Dg D2 D8 = some (r1, r2, r3)) ∧ Aside0 (kq ≤ k2) ∧ Aside0 (Kd.S k73 73 w' w.heap.size (fun k_ => (w.heap.size ≤ k_) ∧ some k_ ≠ ((.slice Ee D2.length Eg) : Value).ownBlock ∧ some k_ ≠ (Dr : Value).ownBlock ∧ k_ ≠ Da ∧ k_ ≠ Db ∧ k_ ≠ Dc ∧ k_ ≠ Dd ∧ k_ ≠ Di) u6 D9) ∧ Aside0 (Kd.R k116 116 w' w.heap.size (fun k_ => (w.heap.size ≤ k_) ∧ some k_ ≠ (Dr : Value).ownBlock) (.slice Ee D2.length Eg) D2) ∧ Aside0 (Kd.R k116 116 w' w.heap.size (fun k_ => (w.heap.size ≤ k_) ∧ some k_ ≠ ((.slice Ee D2.length Eg) : Value).ownBlock) Dr D8) ∧ Aside0 (w'.heap[Da]? = some (.cells #[(.slice none 0 0)] 73 (0, 0))) ∧ Aside0 (w'.heap[Db]? = some (.cells #[(.slice none 0 0)] 73 (0, 0))) ∧ Aside0 (w'.heap[Dc]? = some (.cells #[(.slice none 0 0)] 73 (0, 0))) ∧ Aside0 (w'.heap[Dd]? = some (.cells #[(.slice Ee D2.length Eg)] 73 (0, 0))) ∧ Aside0 (w'.heap[Di]? = some (.cells #[Dr] 73 (0, 0))) ∧ Aside0 (IsS134 w w' g256 Dn Df Dg) ∧ Aside0 (Below w.heap.size w w'))
       case atStart => exact ⟨(G9), (Ga), (Gb), (Eu), (.slice F3 Eu.length F4), (by first | rfl | simp | simp [*]), H', ⟨Nat.le_refl _⟩, ⟨by (with_reducible repeat (first | apply Kd.S_alloc | apply Kd.S_drewN | apply Kd.S_drew)); exact Kd.S_mono D4.out (fun _ hk => ⟨hk.1.1.1, ⟨hk.1.1.2.1, ⟨hk.1.2, ⟨hk.1.1.2.2.1, ⟨hk.1.1.2.2.2.1, ⟨hk.1.1.2.2.2.2.1, ⟨hk.1.1.2.2.2.2.2, hk.2⟩⟩⟩⟩⟩⟩⟩)⟩, ⟨Cmp.rr D0.out⟩, ⟨Cmp.rm Ei.out (fun _ hk => ⟨hk.1.1, hk.2⟩)⟩, Cmp.bq D1, Cmp.bq D3, Cmp.bq D5, Cmp.bq D7, Cmp.bq Dh, ⟨IsS134.go D6.out⟩, ⟨IsS134.bl HB.out⟩⟩
       case round =>
        clear H'
        (try clear c1); (try clear c2); (try clear p2); (try clear c3); (try clear c4); (try clear c6); (try clear p6); (try clear c11); (try clear c12); (try clear c13); (try clear c14); (try clear c17); (try clear c17b0); (try clear c19); (try clear c20); (try clear c21); (try clear c22); (try clear c28); (try clear c28b0); (try clear c31); (try clear c32); (try clear c33); (try clear c34); (try clear c36); (try clear c40); (try clear c41); (try clear c42); (try clear c43); (try clear c44); (try clear Ep); (try clear Ew); (try clear Ex); (try clear Fb); (try clear Fc); (try clear Eq); (try clear Ey); (try clear Ez); (try clear Fd); (try clear Fe); (try clear p2); (try clear p6)
        obtain ⟨Eh, Df, Dg, D8, Dr, rfl, HA, HK3, D4, D0, De, D1, D3, D5, D7, Dh, D6, HB⟩ := hrel
        cases gk with
        | zero => exact absurd HA.out (by simp [spec_DrawThree.l2])
        | succ k3 =>
         have H := HA.out; clear HA
         simp only [spec_DrawThree.l2] at H
         by_cases c47 : Eh > 0
         ·rw [if_pos c47] at H; have c47b0 : decide (0 < Eh) = true := decide_eq_true c47; clear c47; replace H := Option.bind_eq_some_iff.mp H; obtain ⟨⟨F2, Gc, Gd⟩, Ft, H⟩ := H; (try dsimp only at H); have Kq := Cmp.A Ft; clear Ft
          have H' := Cmp.A H
          clear H; have Jm := Ea.out; have Ke := E4.out; have Jn := Eb.out; have Kf := E5.out; have Jo := Ec.out; have Kg := E6.out; have Jp := Ed.out; have Kh := E9.out; have Jq := Dq.out; have Ki := E8.out
          have Gg : wr.cell? ⟨Di, 0, none⟩ = some (Dr) := (blk_cell Dh.out 0).trans rfl
          have Gj := blk_frozen Dh.out 0
          obtain ⟨Fv, G1, Gr⟩ := Kd.R_slice De.out
          subst Gr
          go_wp2_with (first | ((with_reducible refine gate_callee (f := 64) rfl ?_); refine goesL_ (some 39) rfl rfl Try.func64 (by kernel_rfl) rfl #[.pointer (some ⟨g256, 0, none⟩), .agg #[.slice Fv D8.length G1]] rfl Cmp.q ?_; (with_reducible refine (spec_l17Step.calls k3 g256 Dn Df Dg _ _ D8 F2 Gc Gd w _ ?side1 ?side2 ?side3 ?side4 Kq.out).mono ?_); (case side1 => exact IsS134.go D6.out); (case side2 => exact IsS134.bl HB.out); (case side3 => exact Kd.C_foot_own (IsS134.apart (show IsS134 w _ g256 Dn Df Dg from IsS134.go D6.out) (Cmp.rr De.out) (by decide)) (fun _ h_ => h_.2)); (case side4 => exact (Kd.R_reads' De.out).2.1); rintro e w56 ⟨v280, rfl, Et, hi, hb, hk⟩; refine ⟨_, rfl, ?_⟩; have Fh := Cmp.A (Kd.R_lower (Kd.R_new' (Kd.R_new' (Kd.R_newM (M := fun k_ => (w.heap.size ≤ k_)) Et (below_size (IsS134.bl HB.out)) (fun k_ h_ => h_)) (Kd.R_lt (Cmp.rr D0.out))) (Kd.R_lt (Cmp.rr De.out))) (below_size (IsS134.bl HB.out))); replace D4 := Cmp.A (Kd.S_mono (Kd.S_told (Kd.S_oldK (IsS134.apartS (show IsS134 w _ g256 Dn Df Dg from IsS134.go D6.out) (Cmp.rs D4.out) (by decide)) hk) (Kd.R_base Et)) (fun _ h_ => h_.1)); replace D0 := Cmp.A (Kd.R_mono (Kd.R_told (Kd.R_oldK (IsS134.apart (show IsS134 w _ g256 Dn Df Dg from IsS134.go D6.out) (Cmp.rr D0.out) (by decide)) hk) (Kd.R_base Et)) (fun _ h_ => h_.1)); replace De := Cmp.A (Kd.R_mono (Kd.R_told (Kd.R_oldK (IsS134.apart (show IsS134 w _ g256 Dn Df Dg from IsS134.go D6.out) (Cmp.rr De.out) (by decide)) hk) (Kd.R_base Et)) (fun _ h_ => h_.1)); replace D1 := Cmp.A (KeepBut.blk hk (g' := Da) (o := .cells #[.slice none 0 0] 73 (0, 0)) (Cmp.b D1.out) Ds.out (by simp)); replace D3 := Cmp.A (KeepBut.blk hk (g' := Db) (o := .cells #[.slice none 0 0] 73 (0, 0)) (Cmp.b D3.out) Du.out (by simp)); replace D5 := Cmp.A (KeepBut.blk hk (g' := Dc) (o := .cells #[.slice none 0 0] 73 (0, 0)) (Cmp.b D5.out) Dw.out (by simp)); replace D7 := Cmp.A (KeepBut.blk hk (g' := Dd) (o := .cells #[.slice Ee D2.length Eg] 73 (0, 0)) (Cmp.b D7.out) Do.out (by simp)); replace Dh := Cmp.A (KeepBut.blk hk (g' := Di) (o := .cells #[.slice Fv D8.length G1] 73 (0, 0)) (Cmp.b Dh.out) Dq.out (by simp)); replace HB := Cmp.A (hb); replace D6 := Cmp.A (hi); (try clear hb); (try clear hb2); (try clear hk); (try clear hi); (try clear Et); obtain ⟨F6, Fa, Gs⟩ := Kd.R_slice Fh.out; subst Gs; have Gh := Cmp.c0 Dh; have Gk := blk_frozen Dh.out 0))
          go_roundg k3
          case measure => have := HK1.out; have := HK2.out; have := HK3.out; omega
          case rel => exact ⟨(wrap64 (Eh - 1)), (Gc), (Gd), (F2), (.slice F6 F2.length Fa), (by first | rfl | simp | simp [*]), H', ⟨by have := HK1.out; have := HK2.out; have := HK3.out; omega⟩, ⟨by (with_reducible repeat (first | apply Kd.S_alloc | apply Kd.S_drewN | apply Kd.S_drew)); exact Kd.S_mono (Kd.S_far (p := ⟨Di, 0, none⟩) (Kd.S_mono D4.out (fun k_ hk => (⟨hk, hk.1.2.2.2.2.2.2.2⟩ : _ ∧ k_ ≠ Di))) (fun _ hk => hk.2) (.slice F6 F2.length Fa)) (fun _ hk => ⟨hk.1.1.1, ⟨hk.1.1.2.1, ⟨hk.1.2, ⟨hk.1.1.2.2.2.1, ⟨hk.1.1.2.2.2.2.1, ⟨hk.1.1.2.2.2.2.2.1, ⟨hk.1.1.2.2.2.2.2.2.1, hk.1.1.2.2.2.2.2.2.2⟩⟩⟩⟩⟩⟩⟩)⟩, ⟨Cmp.rm (Kd.R_far (p := ⟨Di, 0, none⟩) (Kd.R_types D0.out Dh.out (by decide)) (fun _ hk => hk.2) (.slice F6 F2.length Fa)) (fun _ hk => ⟨hk.1.1.1, hk.1.2⟩)⟩, ⟨Cmp.rm (Kd.R_far (p := ⟨Di, 0, none⟩) (Kd.R_types Fh.out Dh.out (by decide)) (fun _ hk => hk.2) (.slice F6 F2.length Fa)) (fun _ hk => ⟨hk.1.1.1.1, hk.1.1.2⟩)⟩, ⟨Cmp.bw D1.out⟩, ⟨Cmp.bw D3.out⟩, ⟨Cmp.bw D5.out⟩, ⟨Cmp.bw D7.out⟩, ⟨Cmp.bw Dh.out⟩, ⟨IsS134.go D6.out⟩, ⟨IsS134.bl HB.out⟩⟩
         ·rw [if_neg c47] at H; have c47b0 : decide (0 < Eh) = false := decide_eq_false c47; clear c47
          by_cases c59 : D9.length < 5864062014805
          ·rw [if_pos c59] at H; have LMc59 := Cmp.A c59; clear c59
           obtain ⟨Ge, hy284⟩ : ∃ y_ : List (S73), y_ = (D9 ++ [(⟨D8⟩ : S73)]) := ⟨_, rfl⟩
           replace H : (spec_DrawThree.l1 k3 Ge (wrap64 (Er + 1)) Dn Df Dg D2) = some (r1, r2, r3) := Cmp.hy hy284 H
           have Fx := Cmp.A hy284; clear hy284
           have H' := Cmp.A H
           clear H; have Jr := Ea.out; have Kj := E4.out; have Js := Eb.out; have Kk := E5.out; have Jt := Ec.out; have Kl := E6.out; have Ju := Ed.out; have Km := E9.out; have Jv := Dq.out; have Kn := E8.out
           have Gi : wr.cell? ⟨Di, 0, none⟩ = some (Dr) := (blk_cell Dh.out 0).trans rfl
           have Gl := blk_frozen Dh.out 0
           obtain ⟨Fk, Fm, Gt⟩ := Kd.R_slice De.out
           subst Gt
           go_wp2_with (first | ((with_reducible refine gate_builtin (b := .append) (xs := #[.tmp 40, .tmp 42]) rfl ?_); at_builtin; refine Kd.S_append k73 (w0 := w) w.heap.size rfl (.tmp 40) (.tmp 42) 110 73 (.agg #[(.slice none 0 0)]) 24 rfl Try.underlying110 info73 rfl (by decide) (by omega) u6 D9 (⟨D8⟩ : S73) [.slice Fk D8.length Fm] (fun k_ => (w.heap.size ≤ k_) ∧ some k_ ≠ (.slice Ee D2.length Eg : Value).ownBlock ∧ k_ ≠ Da ∧ k_ ≠ Db ∧ k_ ≠ Dc ∧ k_ ≠ Dd ∧ k_ ≠ Di) (fun k_ => some k_ = (.slice Fk D8.length Fm : Value).ownBlock) rfl rfl ?aP (fun k_ hk_ => ((Kd.R_mono (ok' := fun k_ => ((fun k_ => (w.heap.size ≤ k_) ∧ some k_ ≠ (.slice Ee D2.length Eg : Value).ownBlock ∧ k_ ≠ Da ∧ k_ ≠ Db ∧ k_ ≠ Dc ∧ k_ ≠ Dd ∧ k_ ≠ Di)) k_ ∧ some k_ ≠ (u6 : Value).ownBlock) (Kd.R_types (Kd.R_types (Kd.R_types (Kd.R_types (Kd.R_types (Kd.R_apart' (De.out) (Kd.S_typed D4.out) (by decide)) D1.out (by decide)) D3.out (by decide)) D5.out (by decide)) D7.out (by decide)) Dh.out (by decide)) (fun k_ hk => ⟨⟨hk.1.1.1.1.1.1.1, ⟨hk.1.1.1.1.1.1.2, ⟨hk.1.1.1.1.2, ⟨hk.1.1.1.2, ⟨hk.1.1.2, ⟨hk.1.2, hk.2⟩⟩⟩⟩⟩⟩, hk.1.1.1.1.1.2⟩))).1 k_ hk_.symm) ?aF ?aO ?aB ?aS ?aL ?_; (case aP => exact k73_mkM _ _ _ (⟨D8⟩ : S73) (Kd.R_mono (Kd.R_tight rfl (Kd.R_mono (ok' := fun k_ => ((fun k_ => (w.heap.size ≤ k_) ∧ some k_ ≠ (.slice Ee D2.length Eg : Value).ownBlock ∧ k_ ≠ Da ∧ k_ ≠ Db ∧ k_ ≠ Dc ∧ k_ ≠ Dd ∧ k_ ≠ Di)) k_ ∧ some k_ ≠ (u6 : Value).ownBlock) (Kd.R_types (Kd.R_types (Kd.R_types (Kd.R_types (Kd.R_types (Kd.R_apart' (De.out) (Kd.S_typed D4.out) (by decide)) D1.out (by decide)) D3.out (by decide)) D5.out (by decide)) D7.out (by decide)) Dh.out (by decide)) (fun k_ hk => ⟨⟨hk.1.1.1.1.1.1.1, ⟨hk.1.1.1.1.1.1.2, ⟨hk.1.1.1.1.2, ⟨hk.1.1.1.2, ⟨hk.1.1.2, ⟨hk.1.2, hk.2⟩⟩⟩⟩⟩⟩, hk.1.1.1.1.1.2⟩))) (fun _ h_ => h_))); (case aB => exact (IsS134.bl HB.out)); (case aF => exact (fun k_ hk => ⟨(Nat.le_trans (below_size (IsS134.bl HB.out)) hk), Kd.fresh' (Kd.R_lt (Cmp.rr D0.out)) k_ hk, Kd.freshB (g := Da) (o := .cells #[.slice none 0 0] 73 (0, 0)) (Cmp.b D1.out) k_ hk, Kd.freshB (g := Db) (o := .cells #[.slice none 0 0] 73 (0, 0)) (Cmp.b D3.out) k_ hk, Kd.freshB (g := Dc) (o := .cells #[.slice none 0 0] 73 (0, 0)) (Cmp.b D5.out) k_ hk, Kd.freshB (g := Dd) (o := .cells #[.slice Ee D2.length Eg] 73 (0, 0)) (Cmp.b D7.out) k_ hk, Kd.freshB (g := Di) (o := .cells #[.slice Fk D8.length Fm] 73 (0, 0)) (Cmp.b Dh.out) k_ hk⟩)); (case aO => exact (by (with_reducible repeat (first | apply Kd.S_alloc | apply Kd.S_drewN | apply Kd.S_drew)); exact Kd.S_mono D4.out (fun k_ hk => ⟨⟨hk.1, ⟨hk.2.1, ⟨hk.2.2.2.1, ⟨hk.2.2.2.2.1, ⟨hk.2.2.2.2.2.1, ⟨hk.2.2.2.2.2.2.1, hk.2.2.2.2.2.2.2⟩⟩⟩⟩⟩⟩, fun e_ => hk.2.2.1 e_⟩))); (case aS => exact (below_size (IsS134.bl HB.out))); (case aL => have := LMc59.out; omega); intro v285 w66 ho hb hg hat; rw [← Fx.out] at ho; have Fw := Cmp.A (ho); replace D0 := Cmp.A (Kd.R_over' (Cmp.rr D0.out) (Kd.S_typed (Cmp.rs D4.out)) (by decide) hg); replace D1 := Cmp.bg D1 hg (Kd.S_away D4.out (fun _ hk => hk.2.2.2.1)); replace D3 := Cmp.bg D3 hg (Kd.S_away D4.out (fun _ hk => hk.2.2.2.2.1)); replace D5 := Cmp.bg D5 hg (Kd.S_away D4.out (fun _ hk => hk.2.2.2.2.2.1)); replace D7 := Cmp.bg D7 hg (Kd.S_away D4.out (fun _ hk => hk.2.2.2.2.2.2.1)); replace Dh := Cmp.bg Dh hg (Kd.S_away D4.out (fun _ hk => hk.2.2.2.2.2.2.2)); replace D6 := Cmp.A (IsS134.grown (IsS134.go D6.out) hg (IsS134.own_neS D6.out D4.out (by decide))); replace HB := Cmp.A (hb); clear D4 De; clear ho hb hg hat))
           go_roundg k3
           case measure => have := HK1.out; have := HK2.out; have := HK3.out; omega
           case rel => exact ⟨(Ge), (wrap64 (Er + 1)), (Df), (Dg), (by first | rfl | simp | simp [*]), H', ⟨by have := HK1.out; have := HK2.out; have := HK3.out; omega⟩, ⟨by (with_reducible repeat (first | apply Kd.S_alloc | apply Kd.S_drewN | apply Kd.S_drew)); exact Kd.S_mono Fw.out (fun _ hk => ⟨hk.1, ⟨hk.2.1, ⟨hk.2.2.1, ⟨hk.2.2.2.1, ⟨hk.2.2.2.2.1, hk.2.2.2.2.2.1⟩⟩⟩⟩⟩)⟩, ⟨Cmp.rm D0.out (fun _ hk => hk.1)⟩, Cmp.bq D1, Cmp.bq D3, Cmp.bq D5, Cmp.bq D7, ⟨IsS134.go D6.out⟩, ⟨IsS134.bl HB.out⟩⟩
          ·rw [if_neg c59] at H; exact absurd H (by simp)
      ·rw [if_neg c28] at H; have c28b0 : decide (Er < 3) = false := decide_eq_false c28; clear c28
       by_cases c68 : 0 < (D9.length : Int)
       ·rw [if_pos c68] at H
        have c68b0 : decide (0 < (D9.length : Int)) = true := decide_eq_true c68
        have c68b1 : decide (0 < D9.length) = true := decide_eq_true (by omega)
        clear c68
        by_cases c69 : 1 < (D9.length : Int)
        ·rw [if_pos c69] at H
         have c69b0 : decide (1 < (D9.length : Int)) = true := decide_eq_true c69
         have c69b1 : decide (1 < D9.length) = true := decide_eq_true (by omega)
         clear c69
         by_cases c70 : 2 < (D9.length : Int)
         ·rw [if_pos c70] at H
          have c70b0 : decide (2 < (D9.length : Int)) = true := decide_eq_true c70
          have c70b1 : decide (2 < D9.length) = true := decide_eq_true (by omega)
          clear c70
          simp only [Option.some.injEq, Prod.mk.injEq] at H
          obtain ⟨rfl, rfl, rfl⟩ := H
          try go_wp2
          replace D4 := Cmp.A (Kd.S_drew D4.out); replace D0 := Cmp.A (Kd.R_drew D0.out); replace D1 := Cmp.A (blk_drew D1.out); replace D3 := Cmp.A (blk_drew D3.out); replace D5 := Cmp.A (blk_drew D5.out); replace D7 := Cmp.A (blk_drew D7.out); replace D6 := Cmp.A (IsS134.drew D6.out); replace HB := Cmp.A (below_drew1 HB.out)
          obtain ⟨Kr, Ks, G2⟩ := Kd.S_slice D4.out
          (first | subst G2 | (injection G2 with f1_ f2_ f3_; have f4_ := f1_.symm; have f5_ := f3_.symm; clear f1_ f2_ f3_; subst f4_; subst f5_))
          have p269 : 0 ≤ (0 : Int) := (by omega)
          have q269 : 0 < (D9.length : Int) := of_decide_eq_true Cmp.d
          obtain ⟨Ef, A269_0, c269_0, e269, E1, hl269_0, hi269_0⟩ := at_T73 (Kd.S_reads' D4.out).2.2 0 p269 q269
          cases e269
          obtain ⟨ce269, hce269, hMe269, hcc269⟩ := Kd.S_get D4.out z73 0 p269 (by first | exact q269 | exact of_decide_eq_true Cmp.d | (have e_ := (Kd.S_reads' D4.out).1; omega))
          obtain ⟨ve269_0, rfl, ge269_0⟩ := k73_openM hMe269
          have hv269_0 := hcc269 0 _ rfl
          rw [Nat.add_zero, show (k73).sz = 1 from rfl, Nat.mul_one] at hv269_0
          replace hv269_0 := Option.some.inj (hv269_0.symm.trans E1)
          rw [hv269_0] at ge269_0
          have HL269_0 := Cmp.A (show Kd.R k116 116 _ _ _ _ ((rd_T73 D9 0).f0) from ge269_0)
          clear hv269_0 ge269_0; clear hcc269 hce269
          have qi269 : (0 < D9.length) = True := eq_true (by omega)
          (try rw [show ((0 : Int)).toNat = 0 from rfl] at E1)
          (try rw [Addr.add_zero'] at E1)
          have F7 := Cmp.A hi269_0; have HC269_0 := Cmp.A hl269_0; clear hi269_0 hl269_0; replace p269 := eq_true p269; replace q269 := eq_true q269
          have p270 : 0 ≤ (1 : Int) := (by omega)
          have q270 : 1 < (D9.length : Int) := of_decide_eq_true Cmp.d
          obtain ⟨Fy, A270_0, c270_0, e270, E2, hl270_0, hi270_0⟩ := at_T73 (Kd.S_reads' D4.out).2.2 1 p270 q270
          obtain rfl : Ef = Fy := (by injection e270)
          obtain ⟨ce270, hce270, hMe270, hcc270⟩ := Kd.S_get D4.out z73 1 p270 (by first | exact q270 | exact of_decide_eq_true Cmp.d | (have e_ := (Kd.S_reads' D4.out).1; omega))
          obtain ⟨ve270_0, rfl, ge270_0⟩ := k73_openM hMe270
          have hv270_0 := hcc270 0 _ rfl
          rw [Nat.add_zero, show (k73).sz = 1 from rfl, Nat.mul_one] at hv270_0
          replace hv270_0 := Option.some.inj (hv270_0.symm.trans E2)
          rw [hv270_0] at ge270_0
          have HL270_0 := Cmp.A (show Kd.R k116 116 _ _ _ _ ((rd_T73 D9 1).f0) from ge270_0)
          clear hv270_0 ge270_0; clear hcc270 hce270
          (try simp only [show (1 : Int).toNat = 1 from rfl, Nat.reduceMul, Nat.reduceEqDiff, Go.Addr.add, ↓reduceIte] at E2)
          have qi270 : (1 < D9.length) = True := eq_true (by omega)
          (try rw [show ((1 : Int)).toNat = 1 from rfl] at E2)
          have F8 := Cmp.A hi270_0; have HC270_0 := Cmp.A hl270_0; clear hi270_0 hl270_0; replace p270 := eq_true p270; replace q270 := eq_true q270
          have p271 : 0 ≤ (2 : Int) := (by omega)
          have q271 : 2 < (D9.length : Int) := of_decide_eq_true Cmp.d
          obtain ⟨Fz, A271_0, c271_0, e271, E3, hl271_0, hi271_0⟩ := at_T73 (Kd.S_reads' D4.out).2.2 2 p271 q271
          obtain rfl : Ef = Fz := (by injection e271)
          obtain ⟨ce271, hce271, hMe271, hcc271⟩ := Kd.S_get D4.out z73 2 p271 (by first | exact q271 | exact of_decide_eq_true Cmp.d | (have e_ := (Kd.S_reads' D4.out).1; omega))
          obtain ⟨ve271_0, rfl, ge271_0⟩ := k73_openM hMe271
          have hv271_0 := hcc271 0 _ rfl
          rw [Nat.add_zero, show (k73).sz = 1 from rfl, Nat.mul_one] at hv271_0
          replace hv271_0 := Option.some.inj (hv271_0.symm.trans E3)
          rw [hv271_0] at ge271_0
          have HL271_0 := Cmp.A (show Kd.R k116 116 _ _ _ _ ((rd_T73 D9 2).f0) from ge271_0)
          clear hv271_0 ge271_0; clear hcc271 hce271
          (try simp only [show (2 : Int).toNat = 2 from rfl, Nat.reduceMul, Nat.reduceEqDiff, Go.Addr.add, ↓reduceIte] at E3)
          have qi271 : (2 < D9.length) = True := eq_true (by omega)
          (try rw [show ((2 : Int)).toNat = 2 from rfl] at E3)
          have F9 := Cmp.A hi271_0; have HC271_0 := Cmp.A hl271_0; clear hi271_0 hl271_0; replace p271 := eq_true p271; replace q271 := eq_true q271
          refine start_ (n := 12) (S := fun w' => w'.cell? Ef = some (.slice A269_0 ((rd_T73 D9 0).f0).length c269_0) ∧ w'.cell? ⟨Ef.block, Ef.off + 1, none⟩ = some (.slice A270_0 ((rd_T73 D9 1).f0).length c270_0) ∧ w'.cell? ⟨Ef.block, Ef.off + 2, none⟩ = some (.slice A271_0 ((rd_T73 D9 2).f0).length c271_0)) (ds := []) (Cmp.bm 0 12) (by kernel_rfl) rfl rfl ⟨E1, E2, E3⟩ (fun hHeld => ?_); refine with_tabW spec_DrawThree.tab17 spec_DrawThree.bits17 (fun HT_ HW_ => ?_)
          generalize wr.drew = w71 at D4 D0 D1 D3 D5 D7 D6 HB HL269_0 HL270_0 HL271_0 F7 F8 F9 E1 E2 E3 hHeld ⊢
          refine Cmp.pu HT_ 0 44 (Cmp.bm 1 11) ?_; refine Cmp.pu HT_ 1 45 (Cmp.bm 2 10) ?_; refine Cmp.pu HT_ 3 47 (Cmp.bb 12 11) ?_; refine Cmp.pu HT_ 4 48 (Cmp.bb 12 27) ?_; refine Cmp.pu HT_ 6 50 (Cmp.bb 12 91) ?_; refine Cmp.pu HT_ 7 51 (Cmp.bb 12 219) ?_; refine Cmp.tk HT_ HW_ hHeld 2 46 (Cmp.bb 12 223) ?_; refine Cmp.tk HT_ HW_ hHeld 5 49 (Cmp.bm 8 4) ?_; refine Cmp.tk HT_ HW_ hHeld 8 52 (Cmp.bm 9 3) ?_
          refine one_ (i := 9) (N := none) (Cmp.bm 10 2) rfl rfl (one_of HT_.out (by kernel_rfl)) (by decide) (fun K hK => ?_)
          have hs73 : w71.cell? ⟨Da, 0, none⟩ = some (.slice none 0 0) := (blk_cell D1.out 0).trans rfl
          have hfs73 := blk_frozen D1.out 0; have hns73_1 := El.out; have hns73_2 := En.out; have hns73_3 := Dy.out; have hms73_1 := Ej.out; have hms73_2 := Ek.out; have hms73_3 := Dt.out
          refine skip_ (w1 := ?_) (by rfl) rfl ?_ ?_
          rotate_left
          ·go_simp; rfl
          refine hK.out _ _ ⟨((cell_far (p := ⟨Da, _, none⟩) (by first | exact Kd.own_blk (Kd.S_away D4.out (fun _ hk => hk.2.2.1)) | (rw [add_block]; exact Kd.own_blk (Kd.S_away D4.out (fun _ hk => hk.2.2.1))) | (show (Addr.add _ _).block ≠ _; rw [add_block]; exact Kd.own_blk (Kd.S_away D4.out (fun _ hk => hk.2.2.1))) | (dsimp only; exact Kd.own_blk (Kd.S_away D4.out (fun _ hk => hk.2.2.1)))) _).trans (hHeld.1)), ((cell_far (p := ⟨Da, _, none⟩) (by first | exact Kd.own_blk (Kd.S_away D4.out (fun _ hk => hk.2.2.1)) | (rw [add_block]; exact Kd.own_blk (Kd.S_away D4.out (fun _ hk => hk.2.2.1))) | (show (Addr.add _ _).block ≠ _; rw [add_block]; exact Kd.own_blk (Kd.S_away D4.out (fun _ hk => hk.2.2.1))) | (dsimp only; exact Kd.own_blk (Kd.S_away D4.out (fun _ hk => hk.2.2.1)))) _).trans (hHeld.2.1)), ((cell_far (p := ⟨Da, _, none⟩) (by first | exact Kd.own_blk (Kd.S_away D4.out (fun _ hk => hk.2.2.1)) | (rw [add_block]; exact Kd.own_blk (Kd.S_away D4.out (fun _ hk => hk.2.2.1))) | (show (Addr.add _ _).block ≠ _; rw [add_block]; exact Kd.own_blk (Kd.S_away D4.out (fun _ hk => hk.2.2.1))) | (dsimp only; exact Kd.own_blk (Kd.S_away D4.out (fun _ hk => hk.2.2.1)))) _).trans (hHeld.2.2))⟩ (fun hHeld => ?_)
          clear hK K
          refine one_ (i := 10) (N := none) (Cmp.bm 11 1) rfl rfl (one_of HT_.out (by kernel_rfl)) (by decide) (fun K hK => ?_)
          have hs74 : w71.cell? ⟨Db, 0, none⟩ = some (.slice none 0 0) := (blk_cell D3.out 0).trans rfl
          have hfs74 := blk_frozen D3.out 0; have hns74_0 := Ej.out; have hns74_2 := Eo.out; have hns74_3 := Dz.out; have hms74_0 := El.out; have hms74_2 := Em.out; have hms74_3 := Dv.out
          refine skip_ (w1 := ?_) (by rfl) rfl ?_ ?_
          rotate_left
          ·go_simp; rfl
          refine hK.out _ _ ⟨((cell_far (p := ⟨Db, _, none⟩) (by first | exact Kd.own_blk (Kd.S_away D4.out (fun _ hk => hk.2.2.2.1)) | (rw [add_block]; exact Kd.own_blk (Kd.S_away D4.out (fun _ hk => hk.2.2.2.1))) | (show (Addr.add _ _).block ≠ _; rw [add_block]; exact Kd.own_blk (Kd.S_away D4.out (fun _ hk => hk.2.2.2.1))) | (dsimp only; exact Kd.own_blk (Kd.S_away D4.out (fun _ hk => hk.2.2.2.1)))) _).trans (hHeld.1)), ((cell_far (p := ⟨Db, _, none⟩) (by first | exact Kd.own_blk (Kd.S_away D4.out (fun _ hk => hk.2.2.2.1)) | (rw [add_block]; exact Kd.own_blk (Kd.S_away D4.out (fun _ hk => hk.2.2.2.1))) | (show (Addr.add _ _).block ≠ _; rw [add_block]; exact Kd.own_blk (Kd.S_away D4.out (fun _ hk => hk.2.2.2.1))) | (dsimp only; exact Kd.own_blk (Kd.S_away D4.out (fun _ hk => hk.2.2.2.1)))) _).trans (hHeld.2.1)), ((cell_far (p := ⟨Db, _, none⟩) (by first | exact Kd.own_blk (Kd.S_away D4.out (fun _ hk => hk.2.2.2.1)) | (rw [add_block]; exact Kd.own_blk (Kd.S_away D4.out (fun _ hk => hk.2.2.2.1))) | (show (Addr.add _ _).block ≠ _; rw [add_block]; exact Kd.own_blk (Kd.S_away D4.out (fun _ hk => hk.2.2.2.1))) | (dsimp only; exact Kd.own_blk (Kd.S_away D4.out (fun _ hk => hk.2.2.2.1)))) _).trans (hHeld.2.2))⟩ (fun hHeld => ?_)
          clear hK K
          refine one_ (i := 11) (N := none) (Cmp.bm 12 0) rfl rfl (one_of HT_.out (by kernel_rfl)) (by decide) (fun K hK => ?_)
          have hs75 : w71.cell? ⟨Dc, 0, none⟩ = some (.slice none 0 0) := (blk_cell D5.out 0).trans rfl
          have hfs75 := blk_frozen D5.out 0; have hns75_0 := Ek.out; have hns75_1 := Em.out; have hns75_3 := E0.out; have hms75_0 := En.out; have hms75_1 := Eo.out; have hms75_3 := Dx.out
          refine skip_ (w1 := ?_) (by rfl) rfl ?_ ?_
          rotate_left
          ·go_simp; rfl
          refine hK.out _ _ ⟨((cell_far (p := ⟨Dc, _, none⟩) (by first | exact Kd.own_blk (Kd.S_away D4.out (fun _ hk => hk.2.2.2.2.1)) | (rw [add_block]; exact Kd.own_blk (Kd.S_away D4.out (fun _ hk => hk.2.2.2.2.1))) | (show (Addr.add _ _).block ≠ _; rw [add_block]; exact Kd.own_blk (Kd.S_away D4.out (fun _ hk => hk.2.2.2.2.1))) | (dsimp only; exact Kd.own_blk (Kd.S_away D4.out (fun _ hk => hk.2.2.2.2.1)))) _).trans (hHeld.1)), ((cell_far (p := ⟨Dc, _, none⟩) (by first | exact Kd.own_blk (Kd.S_away D4.out (fun _ hk => hk.2.2.2.2.1)) | (rw [add_block]; exact Kd.own_blk (Kd.S_away D4.out (fun _ hk => hk.2.2.2.2.1))) | (show (Addr.add _ _).block ≠ _; rw [add_block]; exact Kd.own_blk (Kd.S_away D4.out (fun _ hk => hk.2.2.2.2.1))) | (dsimp only; exact Kd.own_blk (Kd.S_away D4.out (fun _ hk => hk.2.2.2.2.1)))) _).trans (hHeld.2.1)), ((cell_far (p := ⟨Dc, _, none⟩) (by first | exact Kd.own_blk (Kd.S_away D4.out (fun _ hk => hk.2.2.2.2.1)) | (rw [add_block]; exact Kd.own_blk (Kd.S_away D4.out (fun _ hk => hk.2.2.2.2.1))) | (show (Addr.add _ _).block ≠ _; rw [add_block]; exact Kd.own_blk (Kd.S_away D4.out (fun _ hk => hk.2.2.2.2.1))) | (dsimp only; exact Kd.own_blk (Kd.S_away D4.out (fun _ hk => hk.2.2.2.2.1)))) _).trans (hHeld.2.2))⟩ (fun hHeld => ?_)
          clear hK K
          refine done_ (done_of HT_.out (by kernel_rfl)) ?_
          try go_wp2
          refine bodyPost_ret (results_list (rs := [.cell 2 73, .cell 3 73, .cell 4 73]) rfl (by simp) (.cell Da 73 #[.slice A269_0 ((rd_T73 D9 0).f0).length c269_0] (0, 0) _ rfl (Cmp.bw D1.out) Try.underlying73 rfl (by kernel_rfl) (.cell Db 73 #[.slice A270_0 ((rd_T73 D9 1).f0).length c270_0] (0, 0) _ rfl (Cmp.bw D3.out) Try.underlying73 rfl (by kernel_rfl) (.cell Dc 73 #[.slice A271_0 ((rd_T73 D9 2).f0).length c271_0] (0, 0) _ rfl (Cmp.bw D5.out) Try.underlying73 rfl (by kernel_rfl) .nil)))) rfl ?_
          exact ⟨_, _, _, by first | rfl | (simp [errW_none, errW_some] <;> rfl) | (simp [*, errW_none, errW_some] <;> rfl), Kd.R_V (Cmp.rm (Kd.R_far (p := ⟨Dc, 0, none⟩) (Kd.R_far (p := ⟨Db, 0, none⟩) (Kd.R_far (p := ⟨Da, 0, none⟩) (Kd.R_types (Kd.R_types (Kd.R_types HL269_0.out D1.out (by decide)) D3.out (by decide)) D5.out (by decide)) (fun _ hk => hk.1.1.2) (.slice A269_0 ((rd_T73 D9 0).f0).length c269_0)) (fun _ hk => hk.1.2) (.slice A270_0 ((rd_T73 D9 1).f0).length c270_0)) (fun _ hk => hk.2) (.slice A271_0 ((rd_T73 D9 2).f0).length c271_0)) (fun _ hk => hk.1.1.1.1.1)), Kd.R_V (Cmp.rm (Kd.R_far (p := ⟨Dc, 0, none⟩) (Kd.R_far (p := ⟨Db, 0, none⟩) (Kd.R_far (p := ⟨Da, 0, none⟩) (Kd.R_types (Kd.R_types (Kd.R_types HL270_0.out D1.out (by decide)) D3.out (by decide)) D5.out (by decide)) (fun _ hk => hk.1.1.2) (.slice A269_0 ((rd_T73 D9 0).f0).length c269_0)) (fun _ hk => hk.1.2) (.slice A270_0 ((rd_T73 D9 1).f0).length c270_0)) (fun _ hk => hk.2) (.slice A271_0 ((rd_T73 D9 2).f0).length c271_0)) (fun _ hk => hk.1.1.1.1.1)), Kd.R_V (Cmp.rm (Kd.R_far (p := ⟨Dc, 0, none⟩) (Kd.R_far (p := ⟨Db, 0, none⟩) (Kd.R_far (p := ⟨Da, 0, none⟩) (Kd.R_types (Kd.R_types (Kd.R_types HL271_0.out D1.out (by decide)) D3.out (by decide)) D5.out (by decide)) (fun _ hk => hk.1.1.2) (.slice A269_0 ((rd_T73 D9 0).f0).length c269_0)) (fun _ hk => hk.1.2) (.slice A270_0 ((rd_T73 D9 1).f0).length c270_0)) (fun _ hk => hk.2) (.slice A271_0 ((rd_T73 D9 2).f0).length c271_0)) (fun _ hk => hk.1.1.1.1.1)), IsS134.bl HB.out⟩
         ·rw [if_neg c70] at H; exact absurd H (by simp)
        ·rw [if_neg c69] at H; exact absurd H (by simp)
       ·rw [if_neg c68] at H; exact absurd H (by simp)
/-! ### impl_InRange: function 50 -/
def impl_InRange.f (a0 : Int) (a1 : Int) (a2 : Int) : Option (Bool) := if a1 ≤ a0 then (some (decide (a0 ≤ a2))) else (some false)
set_option maxHeartbeats 8000000 in
set_option maxRecDepth 100000 in
theorem impl_InRange.calls (a0 : Int) (a1 : Int) (a2 : Int) (r : Bool) (w : World) (h : impl_InRange.f a0 a1 a2 = some r) :
    Calls Try.prog 50 #[.int .i64 a0, .int .i64 a1, .int .i64 a2] w fun e w' => e = .returned (.bool r) ∧ Drawn0 w w' := by
 have H : (if a1 ≤ a0 then (some (decide (a0 ≤ a2))) else (some false)) = some r := h
 clear h
 by_cases c4 : a1 ≤ a0
 ·rw [if_pos c4] at H; have c4b0 : decide (a1 ≤ a0) = true := decide_eq_true c4; clear c4
  obtain rfl := Option.some.inj H
  go_enter Try.func50, Try.ntmps50
  go_wp2
  go_ret
  exact ⟨by first | rfl | (simp; done) | (simp [*]; done), by repeat (first | exact Drawn0.refl _ | apply Drawn0.step)⟩
 ·rw [if_neg c4] at H; have c4b0 : decide (a1 ≤ a0) = false := decide_eq_false c4; clear c4
  obtain rfl := Option.some.inj H
  go_enter Try.func50, Try.ntmps50
  go_wp2
  go_ret
  exact ⟨by first | rfl | (simp; done) | (simp [*]; done), by repeat (first | exact Drawn0.refl _ | apply Drawn0.step)⟩
/-! ### impl_entryBefore: function 67 -/
def impl_entryBefore.f (a0_0 : Int) (a0_1 : Int) (a0_2 : Int) (a0_3 : Bool) (a1_0 : Int) (a1_1 : Int) (a1_2 : Int) (a1_3 : Bool) : Option (Bool) := if a0_0 < a1_0 then (some true) else (if a0_0 = a1_0 then (some (decide (a0_1 < a1_1))) else (some false))
set_option maxHeartbeats 8000000 in
set_option maxRecDepth 100000 in
theorem impl_entryBefore.calls (a0_0 : Int) (a0_1 : Int) (a0_2 : Int) (a0_3 : Bool) (a1_0 : Int) (a1_1 : Int) (a1_2 : Int) (a1_3 : Bool) (r : Bool) (w : World) (h : impl_entryBefore.f a0_0 a0_1 a0_2 a0_3 a1_0 a1_1 a1_2 a1_3 = some r) :
    Calls Try.prog 67 #[.agg #[.int .i64 a0_0, .int .i64 a0_1, .int .i64 a0_2, .bool a0_3], .agg #[.int .i64 a1_0, .int .i64 a1_1, .int .i64 a1_2, .bool a1_3]] w fun e w' => e = .returned (.bool r) ∧ Below w.heap.size w w' := by
 have hu116 := Try.underlying116
 have HB := Cmp.A (Below.refl w.heap.size w)
 have H : (if a0_0 < a1_0 then (some true) else (if a0_0 = a1_0 then (some (decide (a0_1 < a1_1))) else (some false))) = some r := h
 clear h
 by_cases c3 : a0_0 < a1_0
 ·rw [if_pos c3] at H; have c3b0 : decide (a0_0 < a1_0) = true := decide_eq_true c3; clear c3
  obtain rfl := Option.some.inj H
  go_enter Try.func67, Try.ntmps67
  go_wp2_with (first | ((with_reducible refine gate_dst (N := 2) rfl ?_); refine box_event ?hg (N := 2) ?hd (cs := #[.int .i64 a0_0, .int .i64 a0_1, .int .i64 a0_2, .bool a0_3]) (t := 116) ?hr ?_; (case hd => rfl); (case hg => rfl); (case hr => first | (go_simp; done) | (go_simp; rfl)); intro D8 hg w4 hbox hb; have D0 := Cmp.A (hbox); have D6 := Cmp.gw hg HB; have D4 := Cmp.gw hg HB; replace HB := Cmp.bs HB hb; clear hb hbox hg) | ((with_reducible refine gate_dst (N := 3) rfl ?_); refine box_event ?hg (N := 3) ?hd (cs := #[.int .i64 a1_0, .int .i64 a1_1, .int .i64 a1_2, .bool a1_3]) (t := 116) ?hr ?_; (case hd => rfl); (case hg => rfl); (case hr => first | (go_simp; done) | (go_simp; rfl)); intro D9 hg w5 hbox hb; have D1 := Cmp.A (hbox); have D7 := Cmp.gw hg HB; have D5 := Cmp.gw hg HB; have D2 := Cmp.nl hg D0; have D3 := Cmp.ng hg D0; replace D0 := Cmp.be D0 hb; replace HB := Cmp.bs HB hb; clear hb hbox hg; have Eq := D2.out; have Er := D3.out; obtain ⟨E6, E7, E8, E9⟩ := Cmp.q4 D0; obtain ⟨Ee, Ef, Eg, Eh⟩ := Cmp.f4 D0; obtain ⟨Ea, Eb, Ec, Ed⟩ := Cmp.q4 D1; obtain ⟨Ei, Ej, Ek, El⟩ := Cmp.f4 D1))
  go_ret
  exact ⟨by first | rfl | (simp [errW_none, errW_some] <;> rfl) | (simp [*, errW_none, errW_some] <;> rfl), Cmp.g HB.out⟩
 ·rw [if_neg c3] at H; have c3b0 : decide (a0_0 < a1_0) = false := decide_eq_false c3; clear c3
  by_cases c9 : a0_0 = a1_0
  ·rw [if_pos c9] at H; have c9b0 : (a0_0 == a1_0) = true := beq_iff_eq.mpr c9; have c9b1 : (a0_0 != a1_0) = false := bne_eq_false_iff_eq.mpr c9; clear c9
   obtain rfl := Option.some.inj H
   go_enter Try.func67, Try.ntmps67
   go_wp2_with (first | ((with_reducible refine gate_dst (N := 2) rfl ?_); refine box_event ?hg (N := 2) ?hd (cs := #[.int .i64 a0_0, .int .i64 a0_1, .int .i64 a0_2, .bool a0_3]) (t := 116) ?hr ?_; (case hd => rfl); (case hg => rfl); (case hr => first | (go_simp; done) | (go_simp; rfl)); intro D8 hg w10 hbox hb; have D0 := Cmp.A (hbox); have D6 := Cmp.gw hg HB; have D4 := Cmp.gw hg HB; replace HB := Cmp.bs HB hb; clear hb hbox hg) | ((with_reducible refine gate_dst (N := 3) rfl ?_); refine box_event ?hg (N := 3) ?hd (cs := #[.int .i64 a1_0, .int .i64 a1_1, .int .i64 a1_2, .bool a1_3]) (t := 116) ?hr ?_; (case hd => rfl); (case hg => rfl); (case hr => first | (go_simp; done) | (go_simp; rfl)); intro D9 hg w11 hbox hb; have D1 := Cmp.A (hbox); have D7 := Cmp.gw hg HB; have D5 := Cmp.gw hg HB; have D2 := Cmp.nl hg D0; have D3 := Cmp.ng hg D0; replace D0 := Cmp.be D0 hb; replace HB := Cmp.bs HB hb; clear hb hbox hg; have Em := D2.out; have Eo := D3.out; obtain ⟨Da, Db, Dc, Dd⟩ := Cmp.q4 D0; obtain ⟨Dq, Dr, Ds, Dt⟩ := Cmp.f4 D0; obtain ⟨De, Df, Dg, Dh⟩ := Cmp.q4 D1; obtain ⟨Du, Dv, Dw, Dx⟩ := Cmp.f4 D1))
   go_ret
   exact ⟨by first | rfl | (simp [errW_none, errW_some] <;> rfl) | (simp [*, errW_none, errW_some] <;> rfl), Cmp.g HB.out⟩
  ·rw [if_neg c9] at H; have c9b0 : (a0_0 == a1_0) = false := beq_eq_false_iff_ne.mpr c9; have c9b1 : (a0_0 != a1_0) = true := bne_iff_ne.mpr c9
   obtain rfl := Option.some.inj H
   go_enter Try.func67, Try.ntmps67
   go_wp2_with (first | ((with_reducible refine gate_dst (N := 2) rfl ?_); refine box_event ?hg (N := 2) ?hd (cs := #[.int .i64 a0_0, .int .i64 a0_1, .int .i64 a0_2, .bool a0_3]) (t := 116) ?hr ?_; (case hd => rfl); (case hg => rfl); (case hr => first | (go_simp; done) | (go_simp; rfl)); intro D8 hg w15 hbox hb; have D0 := Cmp.A (hbox); have D6 := Cmp.gw hg HB; have D4 := Cmp.gw hg HB; replace HB := Cmp.bs HB hb; clear hb hbox hg) | ((with_reducible refine gate_dst (N := 3) rfl ?_); refine box_event ?hg (N := 3) ?hd (cs := #[.int .i64 a1_0, .int .i64 a1_1, .int .i64 a1_2, .bool a1_3]) (t := 116) ?hr ?_; (case hd => rfl); (case hg => rfl); (case hr => first | (go_simp; done) | (go_simp; rfl)); intro D9 hg w16 hbox hb; have D1 := Cmp.A (hbox); have D7 := Cmp.gw hg HB; have D5 := Cmp.gw hg HB; have D2 := Cmp.nl hg D0; have D3 := Cmp.ng hg D0; replace D0 := Cmp.be D0 hb; replace HB := Cmp.bs HB hb; clear hb hbox hg; have En := D2.out; have Ep := D3.out; obtain ⟨Di, Dj, Dk, Dl⟩ := Cmp.q4 D0; obtain ⟨Dy, Dz, E0, E1⟩ := Cmp.f4 D0; obtain ⟨Dm, Dn, Do, Dp⟩ := Cmp.q4 D1; obtain ⟨E2, E3, E4, E5⟩ := Cmp.f4 D1))
   go_ret
   exact ⟨by first | rfl | (simp [errW_none, errW_some] <;> rfl) | (simp [*, errW_none, errW_some] <;> rfl), Cmp.g HB.out⟩
end Go.Proofs.Ytjdkkfbcpbjpkaa.PFnBundles

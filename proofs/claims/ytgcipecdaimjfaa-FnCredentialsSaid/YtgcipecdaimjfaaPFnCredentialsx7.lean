/- Printed functions of the program (by a changed copy of the printer). No condition. -/
import Derived.Test.YtgcipecdaimjfaaCmp
import Derived.Test.YtgcipecdaimjfaaPFnCredentialsx0
import Derived.Test.YtgcipecdaimjfaaPFnCredentialsx2
import Derived.Test.YtgcipecdaimjfaaPFnCredentialsx4
import Derived.Test.YtgcipecdaimjfaaPFnCredentialsx5
import Derived.Test.YtgcipecdaimjfaaPFnCredentialsx6
namespace Go.Proofs.Ytgcipecdaimjfaa.PFnCredentials
open Go.Proofs.Ytgcipecdaimjfaa
open Go.RowKit Go.Proofs.YtgcipecdaimjfaaW.PrintWords Go.Proofs.YtgcipecdaimjfaaW.PrintLast Go.Proofs.YtgcipecdaimjfaaW.PrintMore
attribute [local go_sem] max2_int min2_int max_two min_two max_three min_three max_four min_four   -- for this text's walks alone
set_option linter.unusedVariables false
set_option linter.unusedSimpArgs false

/-! ### spec_l14Account: function 113 -/
mutual
def spec_l14Account.l0 : Nat → ByteArray → List (S84) → Int → List Int → Int → Int → Int → Int → List (S35) → Option (Int × Int × (List (S35)) × (List (S84)) × Int × Int)
  | 0, _, _, _, _, _, _, _, _, _ => none
  | k + 1, x1, x7, x8, x1000, x1001, x1002, x275000, x275001, x275002 => if x8 > 0 then ((spec_l10Store.f x1000 x1001 x1002).bind fun bt281 => ((spec_l1Below.f x1000 bt281.2.2.2.2.1 bt281.2.2.2.2.2 9).bind fun bt288 => ((spec_l1Below.f x1000 bt288.2.1 bt288.2.2 2).bind fun bt291 => ((spec_SitePublic.f k bt281.1 bt281.2.1 bt281.2.2.1 (wrap64 (3 + bt288.1)) x1 (wrap64 ((x7.length : Int) + (wrap64 ((wrap64 (2 * bt291.1)) * (x7.length : Int)))))).bind fun t294 => ((spec_AddCredential.f k x275000 x275001 x275002 (wrap64 ((x7.length : Int) + (wrap64 ((wrap64 (2 * bt291.1)) * (x7.length : Int))))) t294).bind fun bt295 => (if bt295.2.2.2 = true then ((spec_FindCredential.f k bt295.1 bt295.2.1 bt295.2.2.1 (wrap64 ((x7.length : Int) + (wrap64 ((wrap64 (2 * bt291.1)) * (x7.length : Int)))))).bind fun t302 => ((spec_l1Below.f x1000 bt291.2.1 bt291.2.2 5).bind fun bt303 => (if 0 ≤ t302 then (if t302 < (bt295.2.2.1.length : Int) then (if x7.length < 4398046511104 then (spec_l14Account.j1 k x1 (x7 ++ [(⟨bt281.1, bt281.2.1, bt281.2.2.1, wrap64 (3 + bt288.1)⟩ : S84)]) x8 (wrap64 ((x7.length : Int) + (wrap64 ((wrap64 (2 * bt291.1)) * (x7.length : Int))))) x1000 bt303.2.1 bt303.2.2 bt295.1 bt295.2.1 (bt295.2.2.1.set (t302 : Int).toNat (⟨(rd_T35 bt295.2.2.1 t302).f0, (rd_T35 bt295.2.2.1 t302).f1, bt303.1, (rd_T35 bt295.2.2.1 t302).f3⟩ : S35))) else (none)) else (none)) else (none)))) else (spec_l14Account.j1 k x1 x7 x8 (wrap64 ((x7.length : Int) + (wrap64 ((wrap64 (2 * bt291.1)) * (x7.length : Int))))) x1000 bt291.2.1 bt291.2.2 x275000 x275001 x275002))))))) else (some (x275000, x275001, x275002, x7, x1001, x1002))
def spec_l14Account.j1 : Nat → ByteArray → List (S84) → Int → Int → List Int → Int → Int → Int → Int → List (S35) → Option (Int × Int × (List (S35)) × (List (S84)) × Int × Int)
  | 0, _, _, _, _, _, _, _, _, _, _ => none
  | k + 1, x1, x7, x8, x10, x1000, x1001, x1002, x275000, x275001, x275002 => (spec_l1Once.f x1000 x1001 x1002 5).bind fun bt310 => (if bt310.1 = true then ((spec_CutCredential.f k x275000 x275001 x275002 x10).bind fun bt313 => (spec_l14Account.l0 k x1 x7 (wrap64 (x8 - 1)) x1000 bt310.2.1 bt310.2.2 bt313.1 bt313.2.1 bt313.2.2.1)) else (spec_l14Account.l0 k x1 x7 (wrap64 (x8 - 1)) x1000 bt310.2.1 bt310.2.2 x275000 x275001 x275002))
end
def spec_l14Account.f (k : Nat) (s0_0 : List Int) (s0_1 : Int) (s0_2 : Int) (a1 : ByteArray) : Option (Int × Int × (List (S35)) × (List (S84)) × Int × Int) := (spec_l1Below.f s0_0 s0_1 s0_2 5).bind fun bt268 => ((spec_l1Below.f s0_0 bt268.2.1 bt268.2.2 3).bind fun bt271 => ((spec_l1Below.f s0_0 bt271.2.1 bt271.2.2 4).bind fun bt278 => (spec_l14Account.l0 k a1 (([] : List (S84))) bt278.1 s0_0 bt278.2.1 bt278.2.2 bt268.1 (wrap64 (1 + bt271.1)) ([] : List (S35)))))
theorem spec_l14Account.mono_l : ∀ k, (∀ y0 y1 y2 y3 y4 y5 y6 y7 y8, LeO (spec_l14Account.l0 k y0 y1 y2 y3 y4 y5 y6 y7 y8) (spec_l14Account.l0 (k + 1) y0 y1 y2 y3 y4 y5 y6 y7 y8)) ∧ (∀ y0 y1 y2 y3 y4 y5 y6 y7 y8 y9, LeO (spec_l14Account.j1 k y0 y1 y2 y3 y4 y5 y6 y7 y8 y9) (spec_l14Account.j1 (k + 1) y0 y1 y2 y3 y4 y5 y6 y7 y8 y9))
  | 0 => ⟨fun _ _ _ _ _ _ _ _ _ r h => by simp [spec_l14Account.l0] at h, fun _ _ _ _ _ _ _ _ _ _ r h => by simp [spec_l14Account.j1] at h⟩
  | k + 1 => by
    obtain ⟨ih0, ih1⟩ := spec_l14Account.mono_l k
    refine ⟨?_, ?_⟩
    · intro y0 y1 y2 y3 y4 y5 y6 y7 y8
      unfold spec_l14Account.l0
      repeat' first
      | (with_reducible exact ih0 _ _ _ _ _ _ _ _ _)
      | (with_reducible exact ih1 _ _ _ _ _ _ _ _ _ _)
      | (with_reducible exact spec_AddCredential.mono _ _ _ _ _ _)
      | (with_reducible exact spec_CutCredential.mono _ _ _ _ _)
      | (with_reducible exact spec_FindCredential.mono _ _ _ _ _)
      | (with_reducible exact spec_SitePublic.mono _ _ _ _ _ _ _)
      | (with_reducible exact LeO.refl _)
      | (with_reducible exact LeO.none _)
      | (with_reducible refine LeO.ite ?_ ?_)
      | (with_reducible refine LeO.bind ?_ (fun _ => ?_))
      | exact ih0 _ _ _ _ _ _ _ _ _
      | exact ih1 _ _ _ _ _ _ _ _ _ _
      | exact spec_AddCredential.mono _ _ _ _ _ _
      | exact spec_CutCredential.mono _ _ _ _ _
      | exact spec_FindCredential.mono _ _ _ _ _
      | exact spec_SitePublic.mono _ _ _ _ _ _ _
      | exact LeO.none _
      | refine LeO.ite ?_ ?_
      | refine LeO.bind ?_ (fun _ => ?_)
    · intro y0 y1 y2 y3 y4 y5 y6 y7 y8 y9
      unfold spec_l14Account.j1
      repeat' first
      | (with_reducible exact ih0 _ _ _ _ _ _ _ _ _)
      | (with_reducible exact ih1 _ _ _ _ _ _ _ _ _ _)
      | (with_reducible exact spec_AddCredential.mono _ _ _ _ _ _)
      | (with_reducible exact spec_CutCredential.mono _ _ _ _ _)
      | (with_reducible exact spec_FindCredential.mono _ _ _ _ _)
      | (with_reducible exact spec_SitePublic.mono _ _ _ _ _ _ _)
      | (with_reducible exact LeO.refl _)
      | (with_reducible exact LeO.none _)
      | (with_reducible refine LeO.ite ?_ ?_)
      | (with_reducible refine LeO.bind ?_ (fun _ => ?_))
      | exact ih0 _ _ _ _ _ _ _ _ _
      | exact ih1 _ _ _ _ _ _ _ _ _ _
      | exact spec_AddCredential.mono _ _ _ _ _ _
      | exact spec_CutCredential.mono _ _ _ _ _
      | exact spec_FindCredential.mono _ _ _ _ _
      | exact spec_SitePublic.mono _ _ _ _ _ _ _
      | exact LeO.none _
      | refine LeO.ite ?_ ?_
      | refine LeO.bind ?_ (fun _ => ?_)
theorem spec_l14Account.mono : ∀ a0 a1 a2 a3 k, LeO (spec_l14Account.f k a0 a1 a2 a3) (spec_l14Account.f (k + 1) a0 a1 a2 a3) := by
  intro a0 a1 a2 a3 k
  obtain ⟨ih0, ih1⟩ := spec_l14Account.mono_l k
  unfold spec_l14Account.f
  repeat' first
      | (with_reducible exact ih0 _ _ _ _ _ _ _ _ _)
      | (with_reducible exact ih1 _ _ _ _ _ _ _ _ _ _)
      | (with_reducible exact spec_AddCredential.mono _ _ _ _ _ _)
      | (with_reducible exact spec_CutCredential.mono _ _ _ _ _)
      | (with_reducible exact spec_FindCredential.mono _ _ _ _ _)
      | (with_reducible exact spec_SitePublic.mono _ _ _ _ _ _ _)
      | (with_reducible exact LeO.refl _)
      | (with_reducible exact LeO.none _)
      | (with_reducible refine LeO.ite ?_ ?_)
      | (with_reducible refine LeO.bind ?_ (fun _ => ?_))
      | exact ih0 _ _ _ _ _ _ _ _ _
      | exact ih1 _ _ _ _ _ _ _ _ _ _
      | exact spec_AddCredential.mono _ _ _ _ _ _
      | exact spec_CutCredential.mono _ _ _ _ _
      | exact spec_FindCredential.mono _ _ _ _ _
      | exact spec_SitePublic.mono _ _ _ _ _ _ _
      | exact LeO.none _
      | refine LeO.ite ?_ ?_
      | refine LeO.bind ?_ (fun _ => ?_)
def spec_l14Account.T9 : Bool × List (List Nat × List Nat) := (true, [([], []), ([], []), ([], []), ([], []), ([], []), ([2, 3, 4], [2, 3, 4]), ([0, 1, 5, 5], [0, 1, 5]), ([6], [6]), ([7], [7]), ([7], [7]), ([], []), ([10, 8, 6, 0, 1, 2, 3, 4, 5, 6, 7, 8, 10], [8, 10]), ([9, 11, 0, 1, 2, 3, 4, 5, 6, 7, 8, 9, 10, 11], [9])])
def spec_l14Account.B9 : List Nat := [0, 0, 0, 0, 0, 28, 63, 127, 255, 255, 0, 1535, 4095]
theorem spec_l14Account.tab9 : rtab .any (opsOf Try.f113 9) = spec_l14Account.T9 := by kernel_rfl
theorem spec_l14Account.bits9 : waitsOk spec_l14Account.T9.2 spec_l14Account.B9 = true := by kernel_rfl
def spec_l14Account.T12 : Bool × List (List Nat × List Nat) := (true, [([], []), ([0], [0]), ([], []), ([], []), ([3], [3]), ([1, 2, 0, 1, 2, 3, 4], [1, 2]), ([5, 0, 1, 2, 3, 4], [5]), ([6, 4, 4, 0, 1, 2, 3, 4], [4, 6])])
def spec_l14Account.B12 : List Nat := [0, 1, 0, 0, 8, 31, 63, 127]
theorem spec_l14Account.tab12 : rtab .any (opsOf Try.f113 12) = spec_l14Account.T12 := by kernel_rfl
theorem spec_l14Account.bits12 : waitsOk spec_l14Account.T12.2 spec_l14Account.B12 = true := by kernel_rfl
set_option maxHeartbeats 8000000 in
set_option maxRecDepth 100000 in
theorem spec_l14Account.calls (k : Nat) (g : Nat) (s0_0 : List Int) (s0_1 : Int) (s0_2 : Int) (a1 : ByteArray) (r1 : Int) (r2 : Int) (r3 : List (S35)) (r4 : List (S84)) (r5 : Int) (r6 : Int) (w0 w : World) (hI : IsS146 w0 w g s0_0 s0_1 s0_2) (hB : Below w0.heap.size w0 w) (h : spec_l14Account.f k s0_0 s0_1 s0_2 a1 = some (r1, r2, r3, r4, r5, r6)) :
    Calls Try.prog 113 #[.pointer (some ⟨g, 0, none⟩), .string a1] w fun e w' => ∃ v2_ v3_ : Value, e = .returned (.tuple #[.agg #[.int .i64 r1, .int .i64 r2, v2_], v3_]) ∧ Kd.R k35 35 w' w.heap.size (fun _ => True) v2_ r3 ∧ Kd.R k84 84 w' w.heap.size (fun _ => True) v3_ r4 ∧ IsS146 w0 w' g s0_0 r5 r6 ∧ Below w0.heap.size w0 w' ∧ KeepBut w w' g none := by
 have hu26 := Try.underlying26; have hu84 := Try.underlying84; have Dg := Aside0.mk hI
 have HK := Aside0.mk (KeepBut.refl w g none)
 have HL := Aside0.mk hB.size; clear hI; have HW0 := Aside0.mk hB.size; have HB := Aside0.mk hB; clear hB
 have H : ((spec_l1Below.f s0_0 s0_1 s0_2 5).bind fun bt268 => ((spec_l1Below.f s0_0 bt268.2.1 bt268.2.2 3).bind fun bt271 => ((spec_l1Below.f s0_0 bt271.2.1 bt271.2.2 4).bind fun bt278 => (spec_l14Account.l0 k a1 (([] : List (S84))) bt278.1 s0_0 bt278.2.1 bt278.2.2 bt268.1 (wrap64 (1 + bt271.1)) ([] : List (S35)))))) = some (r1, r2, r3, r4, r5, r6) := h
 clear h; replace H := Option.bind_eq_some_iff.mp H; obtain ⟨⟨Ez, J8, J9⟩, Kv, H⟩ := H; (try dsimp only at H); have A3 := Aside0.mk Kv; clear Kv; replace H := Option.bind_eq_some_iff.mp H; obtain ⟨⟨F0, Ev, Ew⟩, Kw, H⟩ := H; (try dsimp only at H); have A4 := Aside0.mk Kw; clear Kw
 obtain ⟨Jd, hy275⟩ : ∃ y_ : List (S84), y_ = (([] : List (S84))) := ⟨_, rfl⟩
 replace H : ((spec_l1Below.f s0_0 Ev Ew 4).bind fun bt278 => (spec_l14Account.l0 k a1 Jd bt278.1 s0_0 bt278.2.1 bt278.2.2 Ez (wrap64 (1 + F0)) ([] : List (S35)))) = some (r1, r2, r3, r4, r5, r6) := by first | (rw [hy275]; with_reducible exact H) | (have H2_ := (Option.bind_some _ _).symm.trans H; rw [hy275]; with_reducible exact H2_) | (have H2_ := (Option.bind_some _ _).symm.trans H; with_reducible exact H2_) | with_reducible exact H | (rw [hy275]; exact H) | exact H
 have Gg := Aside0.mk hy275; clear hy275; replace H := Option.bind_eq_some_iff.mp H; obtain ⟨⟨Ja, Jb, Jc⟩, Kx, H⟩ := H; (try dsimp only at H); have A5 := Aside0.mk Kx; clear Kx
 have H' := Aside0.mk H
 clear H
 go_enter Try.func113, Try.ntmps113
 go_wp2_with (first | ((with_reducible refine gate_dst (N := 4) rfl ?_); refine box_event ?hg (N := 4) ?hd (cs := #[.int .i64 0, .int .i64 0, .slice none 0 0]) (t := 26) ?hr ?_; (case hd => rfl); (case hg => rfl); (case hr => first | (go_simp; done) | (go_simp; rfl)); intro De hg w6 hbox hb; have D4 := Aside0.mk (hbox); have Kz := Aside0.mk ((by rw [hg]; exact (keep_size (w := w) (g := g) (row := none) (Cmp.kk HK.out)) : w.heap.size ≤ De)); have Gz := Aside0.mk ((Nat.le_trans HW0.out (by rw [hg]; exact (keep_size (w := w) (g := g) (row := none) (Cmp.kk HK.out)) : w.heap.size ≤ De) : w0.heap.size ≤ De)); have Fc := Aside0.mk ((by rw [hg]; exact Nat.ne_of_lt (IsS146.lt (show IsS146 w0 _ g s0_0 s0_1 s0_2 from IsS146.go Dg.out)) : g ≠ De)); have E2 := Aside0.mk ((by rw [hg]; exact Nat.ne_of_gt (IsS146.lt (show IsS146 w0 _ g s0_0 s0_1 s0_2 from IsS146.go Dg.out)) : De ≠ g)); replace HK := Aside0.mk (KeepBut.trans (Cmp.kk HK.out) (KeepBut.of_below hb g none) (.inl rfl)); replace HB := Aside0.mk (below_step (IsS146.bl HB.out) hb); replace Dg := Aside0.mk (IsS146.below (IsS146.go Dg.out) hb); clear hb hbox hg) | ((with_reducible refine gate_callee (f := 106) rfl ?_); refine goesL_ (some 15) rfl rfl Try.func106 (by kernel_rfl) rfl #[.pointer (some ⟨g, 0, none⟩), .int .i64 5] rfl Cmp.q ?_; (with_reducible refine (spec_l1Below.calls g s0_0 s0_1 s0_2 5 Ez J8 J9 w0 _ ?side1 ?side2 A3.out).mono ?_); (case side1 => exact IsS146.go Dg.out); (case side2 => exact IsS146.bl HB.out); rintro e w7 ⟨rfl, hi, hb, hk⟩; refine ⟨_, rfl, ?_⟩; replace D4 := Aside0.mk (KeepBut.blk hk (g' := De) (o := .cells #[.int .i64 0, .int .i64 0, .slice none 0 0] 26 (0, 0)) (Cmp.b D4.out) E2.out (by simp)); replace HK := Aside0.mk (KeepBut.trans (Cmp.kk HK.out) hk (.inl rfl)); replace HB := Aside0.mk (hb); replace Dg := Aside0.mk (hi); (try clear hb); (try clear hb2); (try clear hk); (try clear hi)) | ((with_reducible refine gate_callee (f := 106) rfl ?_); refine goesL_ (some 17) rfl rfl Try.func106 (by kernel_rfl) rfl #[.pointer (some ⟨g, 0, none⟩), .int .i64 3] rfl Cmp.q ?_; (with_reducible refine (spec_l1Below.calls g s0_0 J8 J9 3 F0 Ev Ew w0 _ ?side1 ?side2 A4.out).mono ?_); (case side1 => exact IsS146.go Dg.out); (case side2 => exact IsS146.bl HB.out); rintro e w8 ⟨rfl, hi, hb, hk⟩; refine ⟨_, rfl, ?_⟩; replace D4 := Aside0.mk (KeepBut.blk hk (g' := De) (o := .cells #[.int .i64 0, .int .i64 0, .slice none 0 0] 26 (0, 0)) (Cmp.b D4.out) E2.out (by simp)); replace HK := Aside0.mk (KeepBut.trans (Cmp.kk HK.out) hk (.inl rfl)); replace HB := Aside0.mk (hb); replace Dg := Aside0.mk (hi); (try clear hb); (try clear hb2); (try clear hk); (try clear hi)) | ((with_reducible refine gate_dst (N := 6) rfl ?_); refine box_event ?hg (N := 6) ?hd (cs := #[.int .i64 0, .int .i64 0, .slice none 0 0]) (t := 26) ?hr ?_; (case hd => rfl); (case hg => rfl); (case hr => first | (go_simp; done) | (go_simp; rfl)); intro D9 hg w9 hbox hb; have D1 := Aside0.mk (hbox); have L0 := Aside0.mk ((by rw [hg]; exact (keep_size (w := w) (g := g) (row := none) (Cmp.kk HK.out)) : w.heap.size ≤ D9)); have J0 := Aside0.mk ((Nat.le_trans HW0.out (by rw [hg]; exact (keep_size (w := w) (g := g) (row := none) (Cmp.kk HK.out)) : w.heap.size ≤ D9) : w0.heap.size ≤ D9)); have Eb := Cmp.nl hg D4; have Ec := Cmp.ng hg D4; have Em := Aside0.mk ((by rw [hg]; exact Nat.ne_of_lt (IsS146.lt (show IsS146 w0 _ g s0_0 Ev Ew from IsS146.go Dg.out)) : g ≠ D9)); have Dy := Aside0.mk ((by rw [hg]; exact Nat.ne_of_gt (IsS146.lt (show IsS146 w0 _ g s0_0 Ev Ew from IsS146.go Dg.out)) : D9 ≠ g)); replace D4 := Cmp.be D4 hb; replace HK := Aside0.mk (KeepBut.trans (Cmp.kk HK.out) (KeepBut.of_below hb g none) (.inl rfl)); replace HB := Aside0.mk (below_step (IsS146.bl HB.out) hb); replace Dg := Aside0.mk (IsS146.below (IsS146.go Dg.out) hb); clear hb hbox hg; have L2 := Ec.out; have Ln := Eb.out; have L3 := Dy.out; have Lo := Em.out; have Fe := Cmp.c0 D1; have Ff := Cmp.c1 D1; have Fg := Cmp.c2 D1; have Fu := blk_frozen D1.out 0; have Fv := blk_frozen D1.out 1; have Fw := blk_frozen D1.out 2) | ((with_reducible refine gate_dst (N := 20) rfl ?_); refine Kd.R_lit k84 _ 84 ?hg (N := 20) ?hd (xs := ([] : List (S84))) (inner := []) (ok := fun _ => True) (okp := fun _ => True) ?hr ?hp (fun _ hk => hk) trivial (Below.refl _ _) (Nat.le_refl _) (by simp) ?_; (case hd => rfl); (case hg => rfl); (case hr => first | (go_simp; done) | (go_simp; rfl)); (case hp => exact (Reps.none _ _)); intro v276 w13 F4 hb hg_ hnew_; clear hg_ hnew_; (first | rw [← Gg.out] at F4 | (simp only [Int.reduceToNat] at F4; rw [← Gg.out] at F4)); have F3 := Aside0.mk (Kd.R_lower F4 (keep_size (w := w) (g := g) (row := none) (Cmp.kk HK.out))); replace D4 := Aside0.mk (blk_below (g := De) (o := .cells #[.int .i64 0, .int .i64 0, .slice none 0 0] 26 (0, 0)) (Cmp.bw D4.out) hb); replace D1 := Aside0.mk (blk_below (g := D9) (o := .cells #[.int .i64 Ez, .int .i64 (wrap64 (1 + F0)), .slice none 0 0] 26 (0, 0)) (Cmp.bw D1.out) hb); replace HK := Aside0.mk (KeepBut.trans (Cmp.kk HK.out) (KeepBut.of_below hb g none) (.inl rfl)); replace HB := Aside0.mk (below_step (IsS146.bl HB.out) hb); replace Dg := Aside0.mk (IsS146.below (show IsS146 w0 (((w9.setCell ⟨D9, 0, none⟩ (.int .i64 Ez)).setCell ⟨D9, 1, none⟩ (.int .i64 (wrap64 (1 + F0)))).setCell ⟨D9, 2, none⟩ (.slice none 0 0)) g s0_0 Ev Ew from IsS146.go Dg.out) hb); clear hb F4) | ((with_reducible refine gate_callee (f := 106) rfl ?_); refine goesL_ (some 22) rfl rfl Try.func106 (by kernel_rfl) rfl #[.pointer (some ⟨g, 0, none⟩), .int .i64 4] rfl Cmp.q ?_; (with_reducible refine (spec_l1Below.calls g s0_0 Ev Ew 4 Ja Jb Jc w0 _ ?side1 ?side2 A5.out).mono ?_); (case side1 => exact IsS146.go Dg.out); (case side2 => exact IsS146.bl HB.out); rintro e w15 ⟨rfl, hi, hb, hk⟩; refine ⟨_, rfl, ?_⟩; replace D4 := Aside0.mk (KeepBut.blk hk (g' := De) (o := .cells #[.int .i64 0, .int .i64 0, .slice none 0 0] 26 (0, 0)) (Cmp.b D4.out) E2.out (by simp)); replace D1 := Aside0.mk (KeepBut.blk hk (g' := D9) (o := .cells #[.int .i64 Ez, .int .i64 (wrap64 (1 + F0)), .slice none 0 0] 26 (0, 0)) (Cmp.b D1.out) Dy.out (by simp)); replace F3 := Aside0.mk (Kd.R_mono (Kd.R_keep (IsS146.apart (show IsS146 w0 _ g s0_0 Ev Ew from IsS146.go Dg.out) (Cmp.rr F3.out) (by decide)) hk (fun _ h => h.2)) (fun _ h => h.1)); replace HK := Aside0.mk (KeepBut.trans (Cmp.kk HK.out) hk (.inl rfl)); replace HB := Aside0.mk (hb); replace Dg := Aside0.mk (hi); (try clear hb); (try clear hb2); (try clear hk); (try clear hi)))
 go_loopg [7, 8] k (fun kq v7 v8 w' => ∃ (Dh : List (S84)) (El : Int) (Ee : Int) (Ef : Int) (D6 : Int) (D7 : Int) (D5 : List (S35)) (Dl : Value), v8 = .int .i64 El ∧ Aside0 (spec_l14Account.l0 kq a1 Dh El s0_0 Ee Ef D6 D7 D5 = some (r1, r2, r3, r4, r5, r6)) ∧ Aside0 (kq ≤ k) ∧ Aside0 (Kd.R k84 84 w' w.heap.size (fun _ => True) v7 Dh) ∧ Aside0 (Kd.R k35 35 w' w.heap.size (fun _ => True) Dl D5) ∧ Aside0 (w'.heap[De]? = some (.cells #[.int .i64 0, .int .i64 0, (.slice none 0 0)] 26 (0, 0))) ∧ Aside0 (w'.heap[D9]? = some (.cells #[.int .i64 D6, .int .i64 D7, Dl] 26 (0, 0))) ∧ Aside0 (IsS146 w0 w' g s0_0 Ee Ef) ∧ Aside0 (KeepBut w w' g none) ∧ Aside0 (Below w0.heap.size w0 w'))
 case atStart => exact ⟨(Jd), (Ja), (Jb), (Jc), (Ez), (wrap64 (1 + F0)), (([] : List (S35))), (.slice none 0 0), (by first | rfl | simp | simp [*]), H', ⟨Nat.le_refl _⟩, ⟨Cmp.rr F3.out⟩, ⟨by first | exact Kd.R_nil _ _ _ _ _ | exact Kd.N_nil _ _ _ _ _ | exact Kd.V_nil _ _ _ _ _ | exact Kd.Q_nil _ _ _ _ _ | exact Kd.S_nil _ _ _ _ _⟩, Cmp.bq D4, Cmp.bq D1, ⟨IsS146.go Dg.out⟩, ⟨Cmp.kk HK.out⟩, ⟨IsS146.bl HB.out⟩⟩
 case round =>
  clear H'
  (try clear c1); (try clear p2); (try clear p6); (try clear c10); (try clear c11); (try clear Fe); (try clear Ff); (try clear Fg); (try clear Fu); (try clear Fv); (try clear Fw)
  obtain ⟨Dh, El, Ee, Ef, D6, D7, D5, Dl, rfl, HA, HK1, Dc, D0, D4, D1, Dg, HK, HB⟩ := hrel
  cases gk with
  | zero => exact absurd HA.out (by simp [spec_l14Account.l0])
  | succ k1 =>
   have H := HA.out; clear HA
   simp only [spec_l14Account.l0] at H
   by_cases c16 : El > 0
   ·rw [if_pos c16] at H; have c16b0 : decide (0 < El) = true := decide_eq_true c16; clear c16; replace H := Option.bind_eq_some_iff.mp H; obtain ⟨⟨Dt, Du, Dv, Ga, F1, F2⟩, Gq, H⟩ := H; (try dsimp only at H); have M8 := Aside0.mk Gq; clear Gq; replace H := Option.bind_eq_some_iff.mp H; obtain ⟨⟨Dw, Gb, Gc⟩, Gr, H⟩ := H; (try dsimp only at H); have M9 := Aside0.mk Gr; clear Gr; replace H := Option.bind_eq_some_iff.mp H; obtain ⟨⟨E9, Eg, Eh⟩, Gs, H⟩ := H; (try dsimp only at H); have Ma := Aside0.mk Gs; clear Gs; replace H := Option.bind_eq_some_iff.mp H; obtain ⟨Et, Gt, H⟩ := H; (try dsimp only at H); have Ku := Aside0.mk Gt; clear Gt; replace H := Option.bind_eq_some_iff.mp H; obtain ⟨⟨Dz, E0, Di, Ex⟩, Gu, H⟩ := H; (try dsimp only at H); have Kk := Aside0.mk Gu; clear Gu; have Gj := Aside0.mk H; clear H
    try go_wp2_with (first | ((with_reducible refine gate_callee (f := 148) rfl ?_); refine goesL_ (some 28) rfl rfl Try.func148 (by kernel_rfl) rfl #[.pointer (some ⟨g, 0, none⟩)] rfl Cmp.q ?_; (with_reducible refine (spec_l10Store.calls g s0_0 Ee Ef Dt Du Dv Ga F1 F2 w0 _ ?side1 ?side2 M8.out).mono ?_); (case side1 => exact IsS146.go Dg.out); (case side2 => exact IsS146.bl HB.out); rintro e w23 ⟨rfl, hi, hb, hk⟩; refine ⟨_, rfl, ?_⟩; replace Dc := Aside0.mk (Kd.R_mono (Kd.R_keep (IsS146.apart (show IsS146 w0 _ g s0_0 Ee Ef from IsS146.go Dg.out) (Cmp.rr Dc.out) (by decide)) hk (fun _ h => h.2)) (fun _ h => h.1)); replace D0 := Aside0.mk (Kd.R_mono (Kd.R_keep (IsS146.apart (show IsS146 w0 _ g s0_0 Ee Ef from IsS146.go Dg.out) (Cmp.rr D0.out) (by decide)) hk (fun _ h => h.2)) (fun _ h => h.1)); replace D4 := Aside0.mk (KeepBut.blk hk (g' := De) (o := .cells #[.int .i64 0, .int .i64 0, .slice none 0 0] 26 (0, 0)) (Cmp.b D4.out) E2.out (by simp)); replace D1 := Aside0.mk (KeepBut.blk hk (g' := D9) (o := .cells #[.int .i64 D6, .int .i64 D7, Dl] 26 (0, 0)) (Cmp.b D1.out) Dy.out (by simp)); replace HK := Aside0.mk (KeepBut.trans (Cmp.kk HK.out) hk (.inl rfl)); replace HB := Aside0.mk (hb); replace Dg := Aside0.mk (hi); (try clear hb); (try clear hb2); (try clear hk); (try clear hi)) | ((with_reducible refine gate_dst (N := 9) rfl ?_); refine box_event ?hg (N := 9) ?hd (cs := #[.int .i64 0, .int .i64 0, .int .i64 0, .int .i64 0]) (t := 84) ?hr ?_; (case hd => rfl); (case hg => rfl); (case hr => first | (go_simp; done) | (go_simp; rfl)); intro Da hg w24 hbox hb; have D2 := Aside0.mk (hbox); have L1 := Aside0.mk ((by rw [hg]; exact (keep_size (w := w) (g := g) (row := none) (Cmp.kk HK.out)) : w.heap.size ≤ Da)); have J1 := Aside0.mk ((Nat.le_trans HW0.out (by rw [hg]; exact (keep_size (w := w) (g := g) (row := none) (Cmp.kk HK.out)) : w.heap.size ≤ Da) : w0.heap.size ≤ Da)); have Eq := Cmp.nl hg D4; have Er := Cmp.ng hg D4; have Ej := Cmp.nl hg D1; have Ek := Cmp.ng hg D1; have Ey := Aside0.mk ((by rw [hg]; exact Nat.ne_of_lt (IsS146.lt (show IsS146 w0 _ g s0_0 F1 F2 from IsS146.go Dg.out)) : g ≠ Da)); have E8 := Aside0.mk ((by rw [hg]; exact Nat.ne_of_gt (IsS146.lt (show IsS146 w0 _ g s0_0 F1 F2 from IsS146.go Dg.out)) : Da ≠ g)); replace Dc := Aside0.mk (Kd.R_below (Kd.R_elderB (Cmp.rr Dc.out) Da (Nat.le_of_eq hg.symm)) hb); replace D0 := Aside0.mk (Kd.R_below (Cmp.rr D0.out) hb); replace D4 := Cmp.be D4 hb; replace D1 := Cmp.be D1 hb; replace HK := Aside0.mk (KeepBut.trans (Cmp.kk HK.out) (KeepBut.of_below hb g none) (.inl rfl)); replace HB := Aside0.mk (below_step (IsS146.bl HB.out) hb); replace Dg := Aside0.mk (IsS146.below (IsS146.go Dg.out) hb); clear hb hbox hg; have L4 := Er.out; have Lp := Eq.out; have L5 := Ek.out; have Lq := Ej.out; have L6 := E8.out; have Lr := Ey.out; have Jf := Cmp.c0 D2; have Jg := Cmp.c1 D2; have Jh := Cmp.c2 D2; have Ji := Cmp.c3 D2; have Jz := blk_frozen D2.out 0; have K0 := blk_frozen D2.out 1; have K1 := blk_frozen D2.out 2; have K2 := blk_frozen D2.out 3) | ((with_reducible refine gate_callee (f := 106) rfl ?_); refine goesL_ (some 30) rfl rfl Try.func106 (by kernel_rfl) rfl #[.pointer (some ⟨g, 0, none⟩), .int .i64 9] rfl Cmp.q ?_; (with_reducible refine (spec_l1Below.calls g s0_0 F1 F2 9 Dw Gb Gc w0 _ ?side1 ?side2 M9.out).mono ?_); (case side1 => exact IsS146.go Dg.out); (case side2 => exact IsS146.bl HB.out); rintro e w29 ⟨rfl, hi, hb, hk⟩; refine ⟨_, rfl, ?_⟩; replace Dc := Aside0.mk (Kd.R_mono (Kd.R_keep (IsS146.apart (show IsS146 w0 _ g s0_0 F1 F2 from IsS146.go Dg.out) (by (with_reducible repeat (first | apply Kd.R_alloc | apply Kd.R_drewN | apply Kd.R_drew)); exact (Kd.R_mono (Kd.R_far (p := ⟨Da, 3, none⟩) (Kd.R_far (p := ⟨Da, 2, none⟩) (Kd.R_far (p := ⟨Da, 1, none⟩) (Kd.R_far (p := ⟨Da, 0, none⟩) (Kd.R_mono Dc.out (fun k_ hk => (⟨hk, hk.2⟩ : _ ∧ k_ ≠ Da))) (fun _ hk => hk.2) (.int .i64 Dt)) (fun _ hk => hk.2) (.int .i64 Du)) (fun _ hk => hk.2) (.int .i64 Dv)) (fun _ hk => hk.2) (.int .i64 Ga)) (fun _ h_ => h_.1))) (by decide)) hk (fun _ h => h.2)) (fun _ h => h.1)); replace D0 := Aside0.mk (Kd.R_mono (Kd.R_keep (IsS146.apart (show IsS146 w0 _ g s0_0 F1 F2 from IsS146.go Dg.out) (by (with_reducible repeat (first | apply Kd.R_alloc | apply Kd.R_drewN | apply Kd.R_drew)); exact (Kd.R_mono (Kd.R_far (p := ⟨Da, 3, none⟩) (Kd.R_far (p := ⟨Da, 2, none⟩) (Kd.R_far (p := ⟨Da, 1, none⟩) (Kd.R_far (p := ⟨Da, 0, none⟩) (Kd.R_types D0.out D2.out (by decide)) (fun _ hk => hk.2) (.int .i64 Dt)) (fun _ hk => hk.2) (.int .i64 Du)) (fun _ hk => hk.2) (.int .i64 Dv)) (fun _ hk => hk.2) (.int .i64 Ga)) (fun _ h_ => h_.1))) (by decide)) hk (fun _ h => h.2)) (fun _ h => h.1)); replace D4 := Aside0.mk (KeepBut.blk hk (g' := De) (o := .cells #[.int .i64 0, .int .i64 0, .slice none 0 0] 26 (0, 0)) (Cmp.bw D4.out) E2.out (by simp)); replace D1 := Aside0.mk (KeepBut.blk hk (g' := D9) (o := .cells #[.int .i64 D6, .int .i64 D7, Dl] 26 (0, 0)) (Cmp.bw D1.out) Dy.out (by simp)); replace D2 := Aside0.mk (KeepBut.blk hk (g' := Da) (o := .cells #[.int .i64 Dt, .int .i64 Du, .int .i64 Dv, .int .i64 Ga] 84 (0, 0)) (Cmp.bw D2.out) E8.out (by simp)); replace HK := Aside0.mk (KeepBut.trans (Cmp.kk HK.out) hk (.inl rfl)); replace HB := Aside0.mk (hb); replace Dg := Aside0.mk (hi); (try clear hb); (try clear hb2); (try clear hk); (try clear hi); have Jj := Cmp.c0 D2; have Jk := Cmp.c1 D2; have Jl := Cmp.c2 D2; have Jm := Cmp.c3 D2; have K3 := blk_frozen D2.out 0; have K4 := blk_frozen D2.out 1; have K5 := blk_frozen D2.out 2; have K6 := blk_frozen D2.out 3; obtain ⟨Fb, Fd, Kn⟩ := Kd.R_slice Dc.out; subst Kn) | ((with_reducible refine gate_callee (f := 106) rfl ?_); refine goesL_ (some 36) rfl rfl Try.func106 (by kernel_rfl) rfl #[.pointer (some ⟨g, 0, none⟩), .int .i64 2] rfl Cmp.q ?_; (with_reducible refine (spec_l1Below.calls g s0_0 Gb Gc 2 E9 Eg Eh w0 _ ?side1 ?side2 Ma.out).mono ?_); (case side1 => exact IsS146.go Dg.out); (case side2 => exact IsS146.bl HB.out); rintro e w32 ⟨rfl, hi, hb, hk⟩; refine ⟨_, rfl, ?_⟩; replace Dc := Aside0.mk (Kd.R_mono (Kd.R_keep (IsS146.apart (show IsS146 w0 _ g s0_0 Gb Gc from IsS146.go Dg.out) (by (with_reducible repeat (first | apply Kd.R_alloc | apply Kd.R_drewN | apply Kd.R_drew)); exact (Kd.R_mono (Kd.R_far (p := ⟨Da, 3, none⟩) (Kd.R_mono Dc.out (fun k_ hk => (⟨hk, hk.2⟩ : _ ∧ k_ ≠ Da))) (fun _ hk => hk.2) (.int .i64 (wrap64 (3 + Dw)))) (fun _ h_ => h_.1))) (by decide)) hk (fun _ h => h.2)) (fun _ h => h.1)); replace D0 := Aside0.mk (Kd.R_mono (Kd.R_keep (IsS146.apart (show IsS146 w0 _ g s0_0 Gb Gc from IsS146.go Dg.out) (by (with_reducible repeat (first | apply Kd.R_alloc | apply Kd.R_drewN | apply Kd.R_drew)); exact (Kd.R_mono (Kd.R_far (p := ⟨Da, 3, none⟩) (Kd.R_types D0.out D2.out (by decide)) (fun _ hk => hk.2) (.int .i64 (wrap64 (3 + Dw)))) (fun _ h_ => h_.1))) (by decide)) hk (fun _ h => h.2)) (fun _ h => h.1)); replace D4 := Aside0.mk (KeepBut.blk hk (g' := De) (o := .cells #[.int .i64 0, .int .i64 0, .slice none 0 0] 26 (0, 0)) (Cmp.bw D4.out) E2.out (by simp)); replace D1 := Aside0.mk (KeepBut.blk hk (g' := D9) (o := .cells #[.int .i64 D6, .int .i64 D7, Dl] 26 (0, 0)) (Cmp.bw D1.out) Dy.out (by simp)); replace D2 := Aside0.mk (KeepBut.blk hk (g' := Da) (o := .cells #[.int .i64 Dt, .int .i64 Du, .int .i64 Dv, .int .i64 (wrap64 (3 + Dw))] 84 (0, 0)) (Cmp.bw D2.out) E8.out (by simp)); replace HK := Aside0.mk (KeepBut.trans (Cmp.kk HK.out) hk (.inl rfl)); replace HB := Aside0.mk (hb); replace Dg := Aside0.mk (hi); (try clear hb); (try clear hb2); (try clear hk); (try clear hi); obtain ⟨E4, E5, Ko⟩ := Kd.R_slice D0.out; subst Ko))
    have n0_ := Aside0.mk (Kd.R_drew Dc.out); have n1_ := Aside0.mk (Kd.R_drew D0.out); have n2_ := Aside0.mk (blk_drew D4.out); have n3_ := Aside0.mk (blk_drew D1.out); have n4_ := Aside0.mk (blk_drew D2.out)
    have n5_ := Aside0.mk (IsS146.drew Dg.out)
    have n6_ := Aside0.mk (keep_drew HK.out)
    have n7_ := Aside0.mk (below_drew1 HB.out); clear Dc; clear D0; clear D4; clear D1; clear D2; clear Dg; clear HK; clear HB; have Dc := n0_; have D0 := n1_; have D4 := n2_; have D1 := n3_; have D2 := n4_; have Dg := n5_; have HK := n6_; have HB := n7_; clear n0_ n1_ n2_ n3_ n4_ n5_ n6_ n7_
    refine start_ (n := 13) (S := fun w' => w'.cell? ⟨D9, 0, none⟩ = some (.int .i64 D6) ∧ w'.cell? ⟨D9, 1, none⟩ = some (.int .i64 D7) ∧ w'.cell? ⟨D9, 2, none⟩ = some (.slice E4 D5.length E5) ∧ w'.cell? ⟨Da, 0, none⟩ = some (.int .i64 Dt) ∧ w'.cell? ⟨Da, 1, none⟩ = some (.int .i64 Du) ∧ w'.cell? ⟨Da, 2, none⟩ = some (.int .i64 Dv) ∧ w'.cell? ⟨Da, 3, none⟩ = some (.int .i64 (wrap64 (3 + Dw)))) (ds := []) (Cmp.bm 0 13) (by kernel_rfl) rfl rfl ⟨(Cmp.c0 D1 :), (Cmp.c1 D1 :), (Cmp.c2 D1 :), (Cmp.c0 D2 :), (Cmp.c1 D2 :), (Cmp.c2 D2 :), (Cmp.c3 D2 :)⟩ (fun hHeld => ?_); refine with_tabW spec_l14Account.tab9 spec_l14Account.bits9 (fun HT_ HW_ => ?_)
    generalize w32.drew = w34 at Dc D0 D4 D1 D2 Dg HK HB hHeld ⊢
    refine Cmp.pu HT_ 1 44 (Cmp.bb 13 2) ?_; refine Cmp.pu HT_ 3 46 (Cmp.bb 13 10) ?_; refine Cmp.pu HT_ 4 47 (Cmp.bb 13 26) ?_; refine Cmp.tk HT_ HW_ hHeld 0 43 (Cmp.bb 13 27) ?_; refine Cmp.tk HT_ HW_ hHeld 2 45 (Cmp.bm 5 8) ?_
    refine join_ (σ := Value × Nat) 2 (Cmp.bm 11 2) (fun s_ => [(48, .int .i64 Et), (49, .tuple #[.agg #[.int .i64 Dz, .int .i64 E0, s_.1], .bool Ex]), (11, .pointer (some ⟨s_.2, 0, none⟩)), (42, .tuple #[.agg #[.int .i64 Dz, .int .i64 E0, s_.1], .bool Ex]), (50, .agg #[.int .i64 Dz, .int .i64 E0, s_.1]), (51, .bool Ex)]) (fun s_ w' => (w'.cell? ⟨D9, 0, none⟩ = some (.int .i64 D6) ∧ w'.cell? ⟨D9, 1, none⟩ = some (.int .i64 D7) ∧ w'.cell? ⟨D9, 2, none⟩ = some (.slice E4 D5.length E5) ∧ w'.cell? ⟨Da, 0, none⟩ = some (.int .i64 Dt) ∧ w'.cell? ⟨Da, 1, none⟩ = some (.int .i64 Du) ∧ w'.cell? ⟨Da, 2, none⟩ = some (.int .i64 Dv) ∧ w'.cell? ⟨Da, 3, none⟩ = some (.int .i64 (wrap64 (3 + Dw)))) ∧ (Kd.R k35 35 w' w.heap.size (fun k_ => some k_ ≠ (.slice E4 D5.length E5 : Value).ownBlock) s_.1 Di) ∧ (Kd.R k35 35 w' w.heap.size (fun k_ => some k_ ≠ (s_.1 : Value).ownBlock) (.slice E4 D5.length E5) D5) ∧ (Kd.R k84 84 w' w.heap.size (fun k_ => k_ ≠ Da) (.slice Fb Dh.length Fd) Dh) ∧ (w'.heap[De]? = some (.cells #[.int .i64 0, .int .i64 0, .slice none 0 0] 26 (0, 0))) ∧ (w'.heap[D9]? = some (.cells #[.int .i64 D6, .int .i64 D7, .slice E4 D5.length E5] 26 (0, 0))) ∧ (w'.heap[Da]? = some (.cells #[.int .i64 Dt, .int .i64 Du, .int .i64 Dv, .int .i64 (wrap64 (3 + Dw))] 84 (0, 0))) ∧ (w'.heap[s_.2]? = some (.cells #[.int .i64 0, .int .i64 0, .slice none 0 0] 26 (0, 0))) ∧ (w.heap.size ≤ s_.2) ∧ (w0.heap.size ≤ s_.2) ∧ (g ≠ s_.2) ∧ (s_.2 ≠ g) ∧ (De ≠ s_.2) ∧ (s_.2 ≠ De) ∧ (D9 ≠ s_.2) ∧ (s_.2 ≠ D9) ∧ (Da ≠ s_.2) ∧ (s_.2 ≠ Da) ∧ (IsS146 w0 w' g s0_0 Eg Eh) ∧ (KeepBut w w' g none) ∧ (Below w0.heap.size w0 w')) ?_ ?_
    rotate_left
    ·intro hCont
     refine two_ (i := 5) (j := 10) (Ni := some 48) (Nj := some 11) (Cmp.bm 6 7) (Cmp.bb 13 1055) rfl rfl rfl rfl (two_of HT_.out (by kernel_rfl)) (by decide) (by decide) (fun K hK => ?_) (fun K hK => ?_)
     ·skip
      refine goes_ Try.func149 (by kernel_rfl) rfl #[.agg #[.int .i64 Dt, .int .i64 Du, .int .i64 Dv, .int .i64 (wrap64 (3 + Dw))], .string a1, .int .i64 (wrap64 ((Dh.length : Int) + (wrap64 ((wrap64 (2 * E9)) * (Dh.length : Int)))))] (by rfl) rfl rfl Cmp.q ?_
      with_reducible refine (spec_SitePublic.calls k1 Dt Du Dv (wrap64 (3 + Dw)) a1 (wrap64 ((Dh.length : Int) + (wrap64 ((wrap64 (2 * E9)) * (Dh.length : Int))))) Et _ Ku.out).mono ?_
      rintro e w35 ⟨rfl, hb⟩; refine ⟨_, rfl, ?_⟩
      have n0_ := Aside0.mk (Kd.R_below (Cmp.rr Dc.out) hb)
      have n1_ := Aside0.mk (Kd.R_below (Cmp.rr D0.out) hb)
      have n2_ := Cmp.be D4 hb
      have n3_ := Cmp.be D1 hb
      have n4_ := Aside0.mk (IsS146.below (IsS146.go Dg.out) hb)
      have n5_ := Cmp.be D2 hb
      have n6_ := Aside0.mk (KeepBut.trans (Cmp.kk HK.out) (KeepBut.of_below hb g none) (.inl rfl))
      have n7_ := Aside0.mk (below_step (IsS146.bl HB.out) hb)
      clear Dc; clear D0; clear D4; clear D1; clear Dg; clear D2; clear HK; clear HB; have Dc := n0_; have D0 := n1_; have D4 := n2_; have D1 := n3_; have Dg := n4_; have D2 := n5_; have HK := n6_; have HB := n7_; clear n0_ n1_ n2_ n3_ n4_ n5_ n6_ n7_; (try clear hb); (try clear hb2); (try clear hk); (try clear hi)
      refine hK.out _ _ ⟨(Cmp.c0 D1 :), (Cmp.c1 D1 :), (Cmp.c2 D1 :), (Cmp.c0 D2 :), (Cmp.c1 D2 :), (Cmp.c2 D2 :), (Cmp.c3 D2 :)⟩ (fun hHeld => ?_)
      clear hK K
      refine norm_ (a' := ?_) ?_ ?_
      rotate_left
      ·show Act.put _ (some 48) _ = _
       simp only [Act.put, Cmp.s, Cmp.z, Cmp.c, i64_w, i32_w]; rfl
      refine two_ (i := 6) (j := 10) (Ni := some 49) (Nj := some 11) (Cmp.bm 7 6) (Cmp.bb 13 1087) rfl rfl rfl rfl (two_of HT_.out (by kernel_rfl)) (by decide) (by decide) (fun K hK => ?_) (fun K hK => ?_)
      ·skip
       refine goes_ Try.func12 (by kernel_rfl) rfl #[.agg #[.int .i64 D6, .int .i64 D7, .slice E4 D5.length E5], .int .i64 (wrap64 ((Dh.length : Int) + (wrap64 ((wrap64 (2 * E9)) * (Dh.length : Int))))), .int .i64 Et] (by rfl) rfl rfl Cmp.q ?_
       with_reducible refine (spec_AddCredential.calls k1 D6 D7 _ _ D5 (wrap64 ((Dh.length : Int) + (wrap64 ((wrap64 (2 * E9)) * (Dh.length : Int))))) Et Dz E0 Di Ex _ ?side1 ?side2 Kk.out).mono ?_
       (case side1 => exact Cmp.rc (Kd.R_reads' D0.out).2.2)
       (case side2 => exact (Kd.R_reads' D0.out).2.1)
       rintro e w36 ⟨v298, rfl, Eu, hb⟩; refine ⟨_, rfl, ?_⟩
       have n0_ := Aside0.mk (Kd.R_below (Cmp.rr Dc.out) hb)
       have n1_ := Aside0.mk (Kd.R_elder' (Cmp.rr D0.out) (Kd.R_base Eu) hb)
       have n2_ := Aside0.mk (Kd.R_lower (Kd.R_new' Eu (Kd.R_lt (Cmp.rr D0.out))) (keep_size (w := w) (g := g) (row := none) (Cmp.kk HK.out)))
       have n3_ := Cmp.be D4 hb
       have n4_ := Cmp.be D1 hb
       have n5_ := Aside0.mk (IsS146.below (IsS146.go Dg.out) hb)
       have n6_ := Cmp.be D2 hb
       have n7_ := Aside0.mk (KeepBut.trans (Cmp.kk HK.out) (KeepBut.of_below hb g none) (.inl rfl))
       have n8_ := Aside0.mk (below_step (IsS146.bl HB.out) hb)
       clear Dc; clear D0; clear D4; clear D1; clear Dg; clear D2; clear HK; clear HB; have Dc := n0_; have D0 := n1_; have Df := n2_; have D4 := n3_; have D1 := n4_; have Dg := n5_; have D2 := n6_; have HK := n7_; have HB := n8_; clear n0_ n1_ n2_ n3_ n4_ n5_ n6_ n7_ n8_; (try clear hb); (try clear hb2); (try clear hk); (try clear hi); (try clear Eu)
       refine hK.out _ _ ⟨(Cmp.c0 D1 :), (Cmp.c1 D1 :), (Cmp.c2 D1 :), (Cmp.c0 D2 :), (Cmp.c1 D2 :), (Cmp.c2 D2 :), (Cmp.c3 D2 :)⟩ (fun hHeld => ?_)
       clear hK K
       refine norm_ (a' := ?_) ?_ ?_
       rotate_left
       ·show Act.put _ (some 49) _ = _
        simp only [Act.put, Cmp.s, Cmp.z, Cmp.c, i64_w, i32_w]; rfl
       refine Cmp.pu HT_ 7 42 (Cmp.bm 8 5) ?_; refine Cmp.pu HT_ 8 50 (Cmp.bm 9 4) ?_; refine Cmp.pu HT_ 9 51 (Cmp.bm 10 3) ?_
       refine one_ (i := 10) (N := some 11) (Cmp.bm 11 2) rfl rfl (one_of HT_.out (by kernel_rfl)) (by decide) (fun K hK => ?_)
       refine box_step ?hg (N := 11) ?hd (cs := #[.int .i64 0, .int .i64 0, .slice none 0 0]) (t := 26) ?hr ?_; (case hd => rfl); (case hg => rfl); (case hr => first | (go_simp; done) | (go_simp; rfl))
       intro D3 hg w37 hbox hb
       have n0_ := Aside0.mk (Kd.R_below (Cmp.rr Dc.out) hb)
       have n1_ := Aside0.mk (Kd.R_below (Cmp.rr D0.out) hb)
       have n2_ := Aside0.mk (Kd.R_below (Cmp.rr Df.out) hb)
       have n3_ := Cmp.be D4 hb
       have n4_ := Cmp.be D1 hb
       have n5_ := Aside0.mk (IsS146.below (IsS146.go Dg.out) hb)
       have n6_ := Cmp.be D2 hb
       have n7_ := Aside0.mk (KeepBut.trans (Cmp.kk HK.out) (KeepBut.of_below hb g none) (.inl rfl))
       have n8_ := Aside0.mk (below_step (IsS146.bl HB.out) hb)
       have n9_ := Aside0.mk (hbox)
       have n10_ := Aside0.mk ((by rw [hg]; exact (keep_size (w := w) (g := g) (row := none) (Cmp.kk HK.out)) : w.heap.size ≤ D3))
       have n11_ := Aside0.mk ((Nat.le_trans HW0.out (by rw [hg]; exact (keep_size (w := w) (g := g) (row := none) (Cmp.kk HK.out)) : w.heap.size ≤ D3) : w0.heap.size ≤ D3))
       have n12_ := Aside0.mk ((by rw [hg]; exact Nat.ne_of_lt (blk_lt (g := De) (o := .cells #[.int .i64 0, .int .i64 0, .slice none 0 0] 26 (0, 0)) (Cmp.b D4.out)) : De ≠ D3))
       have n13_ := Aside0.mk ((by rw [hg]; exact Nat.ne_of_gt (blk_lt (g := De) (o := .cells #[.int .i64 0, .int .i64 0, .slice none 0 0] 26 (0, 0)) (Cmp.b D4.out)) : D3 ≠ De))
       have n14_ := Aside0.mk ((by rw [hg]; exact Nat.ne_of_lt (blk_lt (g := D9) (o := .cells #[.int .i64 D6, .int .i64 D7, .slice E4 D5.length E5] 26 (0, 0)) (Cmp.b D1.out)) : D9 ≠ D3))
       have n15_ := Aside0.mk ((by rw [hg]; exact Nat.ne_of_gt (blk_lt (g := D9) (o := .cells #[.int .i64 D6, .int .i64 D7, .slice E4 D5.length E5] 26 (0, 0)) (Cmp.b D1.out)) : D3 ≠ D9))
       have n16_ := Aside0.mk ((by rw [hg]; exact Nat.ne_of_lt (blk_lt (g := Da) (o := .cells #[.int .i64 Dt, .int .i64 Du, .int .i64 Dv, .int .i64 (wrap64 (3 + Dw))] 84 (0, 0)) (Cmp.b D2.out)) : Da ≠ D3))
       have n17_ := Aside0.mk ((by rw [hg]; exact Nat.ne_of_gt (blk_lt (g := Da) (o := .cells #[.int .i64 Dt, .int .i64 Du, .int .i64 Dv, .int .i64 (wrap64 (3 + Dw))] 84 (0, 0)) (Cmp.b D2.out)) : D3 ≠ Da))
       have n18_ := Aside0.mk ((by rw [hg]; exact Nat.ne_of_lt (IsS146.lt (show IsS146 w0 _ g s0_0 Eg Eh from IsS146.go Dg.out)) : g ≠ D3))
       have n19_ := Aside0.mk ((by rw [hg]; exact Nat.ne_of_gt (IsS146.lt (show IsS146 w0 _ g s0_0 Eg Eh from IsS146.go Dg.out)) : D3 ≠ g))
       clear Dc; clear D0; clear Df; clear D4; clear D1; clear Dg; clear D2; clear HK; clear HB; have Dc := n0_; have D0 := n1_; have Df := n2_; have D4 := n3_; have D1 := n4_; have Dg := n5_; have D2 := n6_; have HK := n7_; have HB := n8_; have D8 := n9_; have Ep := n10_; have En := n11_; have Do := n12_; have Dp := n13_; have Dd := n14_; have Dk := n15_; have Db := n16_; have Dq := n17_; have E7 := n18_; have E3 := n19_; clear n0_ n1_ n2_ n3_ n4_ n5_ n6_ n7_ n8_ n9_ n10_ n11_ n12_ n13_ n14_ n15_ n16_ n17_ n18_ n19_; clear hb hbox hg
       refine hK.out _ _ ⟨(Cmp.c0 D1 :), (Cmp.c1 D1 :), (Cmp.c2 D1 :), (Cmp.c0 D2 :), (Cmp.c1 D2 :), (Cmp.c2 D2 :), (Cmp.c3 D2 :)⟩ (fun hHeld => ?_)
       clear hK K
       refine norm_ (a' := ?_) ?_ ?_
       rotate_left
       ·show Act.put _ (some 11) _ = _
        simp only [Act.put, Cmp.s, Cmp.z, Cmp.c, i64_w, i32_w]; rfl
       exact norm_ (by simp only [putAll, Act.put, List.setIfInBounds_toArray, List.set_cons_zero, List.set_cons_succ]) (hCont (v298, D3) _ ⟨hHeld, (by (with_reducible repeat (first | apply Kd.R_alloc | apply Kd.R_drewN | apply Kd.R_drew)); exact Kd.R_mono Df.out (fun _ hk => hk.2)), (by (with_reducible repeat (first | apply Kd.R_alloc | apply Kd.R_drewN | apply Kd.R_drew)); exact Kd.R_mono D0.out (fun _ hk => hk.2)), (by (with_reducible repeat (first | apply Kd.R_alloc | apply Kd.R_drewN | apply Kd.R_drew)); exact Kd.R_mono Dc.out (fun _ hk => hk.2)), (Cmp.b D4.out), (Cmp.b D1.out), (Cmp.b D2.out), (Cmp.b D8.out), Ep.out, En.out, E7.out, E3.out, Do.out, Dp.out, Dd.out, Dk.out, Db.out, Dq.out, (IsS146.go Dg.out), (Cmp.kk HK.out), (IsS146.bl HB.out)⟩)
      ·skip
       refine box_step ?hg (N := 11) ?hd (cs := #[.int .i64 0, .int .i64 0, .slice none 0 0]) (t := 26) ?hr ?_; (case hd => rfl); (case hg => rfl); (case hr => first | (go_simp; done) | (go_simp; rfl))
       intro D3 hg w36 hbox hb
       have n0_ := Aside0.mk (Kd.R_below (Cmp.rr Dc.out) hb)
       have n1_ := Aside0.mk (Kd.R_below (Cmp.rr D0.out) hb)
       have n2_ := Cmp.be D4 hb
       have n3_ := Cmp.be D1 hb
       have n4_ := Aside0.mk (IsS146.below (IsS146.go Dg.out) hb)
       have n5_ := Cmp.be D2 hb
       have n6_ := Aside0.mk (KeepBut.trans (Cmp.kk HK.out) (KeepBut.of_below hb g none) (.inl rfl))
       have n7_ := Aside0.mk (below_step (IsS146.bl HB.out) hb)
       have n8_ := Aside0.mk (hbox)
       have n9_ := Aside0.mk ((by rw [hg]; exact (keep_size (w := w) (g := g) (row := none) (Cmp.kk HK.out)) : w.heap.size ≤ D3))
       have n10_ := Aside0.mk ((Nat.le_trans HW0.out (by rw [hg]; exact (keep_size (w := w) (g := g) (row := none) (Cmp.kk HK.out)) : w.heap.size ≤ D3) : w0.heap.size ≤ D3))
       have n11_ := Aside0.mk ((by rw [hg]; exact Nat.ne_of_lt (blk_lt (g := De) (o := .cells #[.int .i64 0, .int .i64 0, .slice none 0 0] 26 (0, 0)) (Cmp.b D4.out)) : De ≠ D3))
       have n12_ := Aside0.mk ((by rw [hg]; exact Nat.ne_of_gt (blk_lt (g := De) (o := .cells #[.int .i64 0, .int .i64 0, .slice none 0 0] 26 (0, 0)) (Cmp.b D4.out)) : D3 ≠ De))
       have n13_ := Aside0.mk ((by rw [hg]; exact Nat.ne_of_lt (blk_lt (g := D9) (o := .cells #[.int .i64 D6, .int .i64 D7, .slice E4 D5.length E5] 26 (0, 0)) (Cmp.b D1.out)) : D9 ≠ D3))
       have n14_ := Aside0.mk ((by rw [hg]; exact Nat.ne_of_gt (blk_lt (g := D9) (o := .cells #[.int .i64 D6, .int .i64 D7, .slice E4 D5.length E5] 26 (0, 0)) (Cmp.b D1.out)) : D3 ≠ D9))
       have n15_ := Aside0.mk ((by rw [hg]; exact Nat.ne_of_lt (blk_lt (g := Da) (o := .cells #[.int .i64 Dt, .int .i64 Du, .int .i64 Dv, .int .i64 (wrap64 (3 + Dw))] 84 (0, 0)) (Cmp.b D2.out)) : Da ≠ D3))
       have n16_ := Aside0.mk ((by rw [hg]; exact Nat.ne_of_gt (blk_lt (g := Da) (o := .cells #[.int .i64 Dt, .int .i64 Du, .int .i64 Dv, .int .i64 (wrap64 (3 + Dw))] 84 (0, 0)) (Cmp.b D2.out)) : D3 ≠ Da))
       have n17_ := Aside0.mk ((by rw [hg]; exact Nat.ne_of_lt (IsS146.lt (show IsS146 w0 _ g s0_0 Eg Eh from IsS146.go Dg.out)) : g ≠ D3))
       have n18_ := Aside0.mk ((by rw [hg]; exact Nat.ne_of_gt (IsS146.lt (show IsS146 w0 _ g s0_0 Eg Eh from IsS146.go Dg.out)) : D3 ≠ g))
       clear Dc; clear D0; clear D4; clear D1; clear Dg; clear D2; clear HK; clear HB; have Dc := n0_; have D0 := n1_; have D4 := n2_; have D1 := n3_; have Dg := n4_; have D2 := n5_; have HK := n6_; have HB := n7_; have D8 := n8_; have Ep := n9_; have En := n10_; have Do := n11_; have Dp := n12_; have Dd := n13_; have Dk := n14_; have Db := n15_; have Dq := n16_; have E7 := n17_; have E3 := n18_; clear n0_ n1_ n2_ n3_ n4_ n5_ n6_ n7_ n8_ n9_ n10_ n11_ n12_ n13_ n14_ n15_ n16_ n17_ n18_; clear hb hbox hg
       refine hK.out _ _ ⟨(Cmp.c0 D1 :), (Cmp.c1 D1 :), (Cmp.c2 D1 :), (Cmp.c0 D2 :), (Cmp.c1 D2 :), (Cmp.c2 D2 :), (Cmp.c3 D2 :)⟩ (fun hHeld => ?_)
       clear hK K
       refine norm_ (a' := ?_) ?_ ?_
       rotate_left
       ·show Act.put _ (some 11) _ = _
        simp only [Act.put, Cmp.s, Cmp.z, Cmp.c, i64_w, i32_w]; rfl
       refine one_ (i := 6) (N := some 49) (Cmp.bb 13 1151) rfl rfl (one_of HT_.out (by kernel_rfl)) (by decide) (fun K hK => ?_)
       refine goes_ Try.func12 (by kernel_rfl) rfl #[.agg #[.int .i64 D6, .int .i64 D7, .slice E4 D5.length E5], .int .i64 (wrap64 ((Dh.length : Int) + (wrap64 ((wrap64 (2 * E9)) * (Dh.length : Int))))), .int .i64 Et] (by rfl) rfl rfl Cmp.q ?_
       with_reducible refine (spec_AddCredential.calls k1 D6 D7 _ _ D5 (wrap64 ((Dh.length : Int) + (wrap64 ((wrap64 (2 * E9)) * (Dh.length : Int))))) Et Dz E0 Di Ex _ ?side1 ?side2 Kk.out).mono ?_
       (case side1 => exact Cmp.rc (Kd.R_reads' D0.out).2.2)
       (case side2 => exact (Kd.R_reads' D0.out).2.1)
       rintro e w37 ⟨v298, rfl, Eu, hb⟩; refine ⟨_, rfl, ?_⟩
       have n0_ := Aside0.mk (Kd.R_below (Cmp.rr Dc.out) hb)
       have n1_ := Aside0.mk (Kd.R_elder' (Cmp.rr D0.out) (Kd.R_base Eu) hb)
       have n2_ := Aside0.mk (Kd.R_lower (Kd.R_new' Eu (Kd.R_lt (Cmp.rr D0.out))) (keep_size (w := w) (g := g) (row := none) (Cmp.kk HK.out)))
       have n3_ := Cmp.be D4 hb
       have n4_ := Cmp.be D1 hb
       have n5_ := Aside0.mk (IsS146.below (IsS146.go Dg.out) hb)
       have n6_ := Cmp.be D2 hb
       have n7_ := Cmp.be D8 hb
       have n8_ := Aside0.mk (KeepBut.trans (Cmp.kk HK.out) (KeepBut.of_below hb g none) (.inl rfl))
       have n9_ := Aside0.mk (below_step (IsS146.bl HB.out) hb)
       clear Dc; clear D0; clear D4; clear D1; clear Dg; clear D2; clear D8; clear HK; clear HB; have Dc := n0_; have D0 := n1_; have Df := n2_; have D4 := n3_; have D1 := n4_; have Dg := n5_; have D2 := n6_; have D8 := n7_; have HK := n8_; have HB := n9_; clear n0_ n1_ n2_ n3_ n4_ n5_ n6_ n7_ n8_ n9_; (try clear hb); (try clear hb2); (try clear hk); (try clear hi); (try clear Eu)
       refine hK.out _ _ ⟨(Cmp.c0 D1 :), (Cmp.c1 D1 :), (Cmp.c2 D1 :), (Cmp.c0 D2 :), (Cmp.c1 D2 :), (Cmp.c2 D2 :), (Cmp.c3 D2 :)⟩ (fun hHeld => ?_)
       clear hK K
       refine norm_ (a' := ?_) ?_ ?_
       rotate_left
       ·show Act.put _ (some 49) _ = _
        simp only [Act.put, Cmp.s, Cmp.z, Cmp.c, i64_w, i32_w]; rfl
       refine Cmp.pu HT_ 7 42 (Cmp.bb 13 1279) ?_; refine Cmp.pu HT_ 8 50 (Cmp.bb 13 1535) ?_; refine Cmp.pu HT_ 9 51 (Cmp.bm 11 2) ?_
       exact norm_ (by simp only [putAll, Act.put, List.setIfInBounds_toArray, List.set_cons_zero, List.set_cons_succ]) (hCont (v298, D3) _ ⟨hHeld, (by (with_reducible repeat (first | apply Kd.R_alloc | apply Kd.R_drewN | apply Kd.R_drew)); exact Kd.R_mono Df.out (fun _ hk => hk.2)), (by (with_reducible repeat (first | apply Kd.R_alloc | apply Kd.R_drewN | apply Kd.R_drew)); exact Kd.R_mono D0.out (fun _ hk => hk.2)), (by (with_reducible repeat (first | apply Kd.R_alloc | apply Kd.R_drewN | apply Kd.R_drew)); exact Kd.R_mono Dc.out (fun _ hk => hk.2)), (Cmp.b D4.out), (Cmp.b D1.out), (Cmp.b D2.out), (Cmp.b D8.out), Ep.out, En.out, E7.out, E3.out, Do.out, Dp.out, Dd.out, Dk.out, Db.out, Dq.out, (IsS146.go Dg.out), (Cmp.kk HK.out), (IsS146.bl HB.out)⟩)
     ·skip
      refine box_step ?hg (N := 11) ?hd (cs := #[.int .i64 0, .int .i64 0, .slice none 0 0]) (t := 26) ?hr ?_; (case hd => rfl); (case hg => rfl); (case hr => first | (go_simp; done) | (go_simp; rfl))
      intro D3 hg w35 hbox hb
      have n0_ := Aside0.mk (Kd.R_below (Cmp.rr Dc.out) hb)
      have n1_ := Aside0.mk (Kd.R_below (Cmp.rr D0.out) hb)
      have n2_ := Cmp.be D4 hb
      have n3_ := Cmp.be D1 hb
      have n4_ := Aside0.mk (IsS146.below (IsS146.go Dg.out) hb)
      have n5_ := Cmp.be D2 hb
      have n6_ := Aside0.mk (KeepBut.trans (Cmp.kk HK.out) (KeepBut.of_below hb g none) (.inl rfl))
      have n7_ := Aside0.mk (below_step (IsS146.bl HB.out) hb)
      have n8_ := Aside0.mk (hbox)
      have n9_ := Aside0.mk ((by rw [hg]; exact (keep_size (w := w) (g := g) (row := none) (Cmp.kk HK.out)) : w.heap.size ≤ D3))
      have n10_ := Aside0.mk ((Nat.le_trans HW0.out (by rw [hg]; exact (keep_size (w := w) (g := g) (row := none) (Cmp.kk HK.out)) : w.heap.size ≤ D3) : w0.heap.size ≤ D3))
      have n11_ := Aside0.mk ((by rw [hg]; exact Nat.ne_of_lt (blk_lt (g := De) (o := .cells #[.int .i64 0, .int .i64 0, .slice none 0 0] 26 (0, 0)) (Cmp.b D4.out)) : De ≠ D3))
      have n12_ := Aside0.mk ((by rw [hg]; exact Nat.ne_of_gt (blk_lt (g := De) (o := .cells #[.int .i64 0, .int .i64 0, .slice none 0 0] 26 (0, 0)) (Cmp.b D4.out)) : D3 ≠ De))
      have n13_ := Aside0.mk ((by rw [hg]; exact Nat.ne_of_lt (blk_lt (g := D9) (o := .cells #[.int .i64 D6, .int .i64 D7, .slice E4 D5.length E5] 26 (0, 0)) (Cmp.b D1.out)) : D9 ≠ D3))
      have n14_ := Aside0.mk ((by rw [hg]; exact Nat.ne_of_gt (blk_lt (g := D9) (o := .cells #[.int .i64 D6, .int .i64 D7, .slice E4 D5.length E5] 26 (0, 0)) (Cmp.b D1.out)) : D3 ≠ D9))
      have n15_ := Aside0.mk ((by rw [hg]; exact Nat.ne_of_lt (blk_lt (g := Da) (o := .cells #[.int .i64 Dt, .int .i64 Du, .int .i64 Dv, .int .i64 (wrap64 (3 + Dw))] 84 (0, 0)) (Cmp.b D2.out)) : Da ≠ D3))
      have n16_ := Aside0.mk ((by rw [hg]; exact Nat.ne_of_gt (blk_lt (g := Da) (o := .cells #[.int .i64 Dt, .int .i64 Du, .int .i64 Dv, .int .i64 (wrap64 (3 + Dw))] 84 (0, 0)) (Cmp.b D2.out)) : D3 ≠ Da))
      have n17_ := Aside0.mk ((by rw [hg]; exact Nat.ne_of_lt (IsS146.lt (show IsS146 w0 _ g s0_0 Eg Eh from IsS146.go Dg.out)) : g ≠ D3))
      have n18_ := Aside0.mk ((by rw [hg]; exact Nat.ne_of_gt (IsS146.lt (show IsS146 w0 _ g s0_0 Eg Eh from IsS146.go Dg.out)) : D3 ≠ g))
      clear Dc; clear D0; clear D4; clear D1; clear Dg; clear D2; clear HK; clear HB; have Dc := n0_; have D0 := n1_; have D4 := n2_; have D1 := n3_; have Dg := n4_; have D2 := n5_; have HK := n6_; have HB := n7_; have D8 := n8_; have Ep := n9_; have En := n10_; have Do := n11_; have Dp := n12_; have Dd := n13_; have Dk := n14_; have Db := n15_; have Dq := n16_; have E7 := n17_; have E3 := n18_; clear n0_ n1_ n2_ n3_ n4_ n5_ n6_ n7_ n8_ n9_ n10_ n11_ n12_ n13_ n14_ n15_ n16_ n17_ n18_; clear hb hbox hg
      refine hK.out _ _ ⟨(Cmp.c0 D1 :), (Cmp.c1 D1 :), (Cmp.c2 D1 :), (Cmp.c0 D2 :), (Cmp.c1 D2 :), (Cmp.c2 D2 :), (Cmp.c3 D2 :)⟩ (fun hHeld => ?_)
      clear hK K
      refine norm_ (a' := ?_) ?_ ?_
      rotate_left
      ·show Act.put _ (some 11) _ = _
       simp only [Act.put, Cmp.s, Cmp.z, Cmp.c, i64_w, i32_w]; rfl
      refine one_ (i := 5) (N := some 48) (Cmp.bb 13 1087) rfl rfl (one_of HT_.out (by kernel_rfl)) (by decide) (fun K hK => ?_)
      refine goes_ Try.func149 (by kernel_rfl) rfl #[.agg #[.int .i64 Dt, .int .i64 Du, .int .i64 Dv, .int .i64 (wrap64 (3 + Dw))], .string a1, .int .i64 (wrap64 ((Dh.length : Int) + (wrap64 ((wrap64 (2 * E9)) * (Dh.length : Int)))))] (by rfl) rfl rfl Cmp.q ?_
      with_reducible refine (spec_SitePublic.calls k1 Dt Du Dv (wrap64 (3 + Dw)) a1 (wrap64 ((Dh.length : Int) + (wrap64 ((wrap64 (2 * E9)) * (Dh.length : Int))))) Et _ Ku.out).mono ?_
      rintro e w36 ⟨rfl, hb⟩; refine ⟨_, rfl, ?_⟩
      have n0_ := Aside0.mk (Kd.R_below (Cmp.rr Dc.out) hb)
      have n1_ := Aside0.mk (Kd.R_below (Cmp.rr D0.out) hb)
      have n2_ := Cmp.be D4 hb
      have n3_ := Cmp.be D1 hb
      have n4_ := Aside0.mk (IsS146.below (IsS146.go Dg.out) hb)
      have n5_ := Cmp.be D2 hb
      have n6_ := Cmp.be D8 hb
      have n7_ := Aside0.mk (KeepBut.trans (Cmp.kk HK.out) (KeepBut.of_below hb g none) (.inl rfl))
      have n8_ := Aside0.mk (below_step (IsS146.bl HB.out) hb)
      clear Dc; clear D0; clear D4; clear D1; clear Dg; clear D2; clear D8; clear HK; clear HB; have Dc := n0_; have D0 := n1_; have D4 := n2_; have D1 := n3_; have Dg := n4_; have D2 := n5_; have D8 := n6_; have HK := n7_; have HB := n8_; clear n0_ n1_ n2_ n3_ n4_ n5_ n6_ n7_ n8_; (try clear hb); (try clear hb2); (try clear hk); (try clear hi)
      refine hK.out _ _ ⟨(Cmp.c0 D1 :), (Cmp.c1 D1 :), (Cmp.c2 D1 :), (Cmp.c0 D2 :), (Cmp.c1 D2 :), (Cmp.c2 D2 :), (Cmp.c3 D2 :)⟩ (fun hHeld => ?_)
      clear hK K
      refine norm_ (a' := ?_) ?_ ?_
      rotate_left
      ·show Act.put _ (some 48) _ = _
       simp only [Act.put, Cmp.s, Cmp.z, Cmp.c, i64_w, i32_w]; rfl
      refine one_ (i := 6) (N := some 49) (Cmp.bb 13 1151) rfl rfl (one_of HT_.out (by kernel_rfl)) (by decide) (fun K hK => ?_)
      refine goes_ Try.func12 (by kernel_rfl) rfl #[.agg #[.int .i64 D6, .int .i64 D7, .slice E4 D5.length E5], .int .i64 (wrap64 ((Dh.length : Int) + (wrap64 ((wrap64 (2 * E9)) * (Dh.length : Int))))), .int .i64 Et] (by rfl) rfl rfl Cmp.q ?_
      with_reducible refine (spec_AddCredential.calls k1 D6 D7 _ _ D5 (wrap64 ((Dh.length : Int) + (wrap64 ((wrap64 (2 * E9)) * (Dh.length : Int))))) Et Dz E0 Di Ex _ ?side1 ?side2 Kk.out).mono ?_
      (case side1 => exact Cmp.rc (Kd.R_reads' D0.out).2.2)
      (case side2 => exact (Kd.R_reads' D0.out).2.1)
      rintro e w37 ⟨v298, rfl, Eu, hb⟩; refine ⟨_, rfl, ?_⟩
      have n0_ := Aside0.mk (Kd.R_below (Cmp.rr Dc.out) hb)
      have n1_ := Aside0.mk (Kd.R_elder' (Cmp.rr D0.out) (Kd.R_base Eu) hb)
      have n2_ := Aside0.mk (Kd.R_lower (Kd.R_new' Eu (Kd.R_lt (Cmp.rr D0.out))) (keep_size (w := w) (g := g) (row := none) (Cmp.kk HK.out)))
      have n3_ := Cmp.be D4 hb
      have n4_ := Cmp.be D1 hb
      have n5_ := Aside0.mk (IsS146.below (IsS146.go Dg.out) hb)
      have n6_ := Cmp.be D2 hb
      have n7_ := Cmp.be D8 hb
      have n8_ := Aside0.mk (KeepBut.trans (Cmp.kk HK.out) (KeepBut.of_below hb g none) (.inl rfl))
      have n9_ := Aside0.mk (below_step (IsS146.bl HB.out) hb)
      clear Dc; clear D0; clear D4; clear D1; clear Dg; clear D2; clear D8; clear HK; clear HB; have Dc := n0_; have D0 := n1_; have Df := n2_; have D4 := n3_; have D1 := n4_; have Dg := n5_; have D2 := n6_; have D8 := n7_; have HK := n8_; have HB := n9_; clear n0_ n1_ n2_ n3_ n4_ n5_ n6_ n7_ n8_ n9_; (try clear hb); (try clear hb2); (try clear hk); (try clear hi); (try clear Eu)
      refine hK.out _ _ ⟨(Cmp.c0 D1 :), (Cmp.c1 D1 :), (Cmp.c2 D1 :), (Cmp.c0 D2 :), (Cmp.c1 D2 :), (Cmp.c2 D2 :), (Cmp.c3 D2 :)⟩ (fun hHeld => ?_)
      clear hK K
      refine norm_ (a' := ?_) ?_ ?_
      rotate_left
      ·show Act.put _ (some 49) _ = _
       simp only [Act.put, Cmp.s, Cmp.z, Cmp.c, i64_w, i32_w]; rfl
      refine Cmp.pu HT_ 7 42 (Cmp.bb 13 1279) ?_; refine Cmp.pu HT_ 8 50 (Cmp.bb 13 1535) ?_; refine Cmp.pu HT_ 9 51 (Cmp.bm 11 2) ?_
      exact norm_ (by simp only [putAll, Act.put, List.setIfInBounds_toArray, List.set_cons_zero, List.set_cons_succ]) (hCont (v298, D3) _ ⟨hHeld, (by (with_reducible repeat (first | apply Kd.R_alloc | apply Kd.R_drewN | apply Kd.R_drew)); exact Kd.R_mono Df.out (fun _ hk => hk.2)), (by (with_reducible repeat (first | apply Kd.R_alloc | apply Kd.R_drewN | apply Kd.R_drew)); exact Kd.R_mono D0.out (fun _ hk => hk.2)), (by (with_reducible repeat (first | apply Kd.R_alloc | apply Kd.R_drewN | apply Kd.R_drew)); exact Kd.R_mono Dc.out (fun _ hk => hk.2)), (Cmp.b D4.out), (Cmp.b D1.out), (Cmp.b D2.out), (Cmp.b D8.out), Ep.out, En.out, E7.out, E3.out, Do.out, Dp.out, Dd.out, Dk.out, Db.out, Dq.out, (IsS146.go Dg.out), (Cmp.kk HK.out), (IsS146.bl HB.out)⟩)
    rintro ⟨v298, D3⟩ w38 ⟨hS_, h0_, h1_, h2_, h3_, h4_, h5_, h6_, h7_, h8_, h9_, h10_, h11_, h12_, h13_, h14_, h15_, h16_, h17_, h18_, h19_⟩
    have n0_ : Aside0 (Kd.R k35 35 w38 w.heap.size (fun k_ => some k_ ≠ (.slice E4 D5.length E5 : Value).ownBlock) v298 Di) := ⟨h0_⟩
    have n1_ : Aside0 (Kd.R k35 35 w38 w.heap.size (fun k_ => some k_ ≠ (v298 : Value).ownBlock) (.slice E4 D5.length E5) D5) := ⟨h1_⟩
    have n2_ : Aside0 (Kd.R k84 84 w38 w.heap.size (fun k_ => k_ ≠ Da) (.slice Fb Dh.length Fd) Dh) := ⟨h2_⟩
    have n3_ : Aside0 (w38.heap[De]? = some (.cells #[.int .i64 0, .int .i64 0, .slice none 0 0] 26 (0, 0))) := ⟨h3_⟩
    have n4_ : Aside0 (w38.heap[D9]? = some (.cells #[.int .i64 D6, .int .i64 D7, .slice E4 D5.length E5] 26 (0, 0))) := ⟨h4_⟩
    have n5_ : Aside0 (w38.heap[Da]? = some (.cells #[.int .i64 Dt, .int .i64 Du, .int .i64 Dv, .int .i64 (wrap64 (3 + Dw))] 84 (0, 0))) := ⟨h5_⟩
    have n6_ : Aside0 (w38.heap[D3]? = some (.cells #[.int .i64 0, .int .i64 0, .slice none 0 0] 26 (0, 0))) := ⟨h6_⟩
    have n7_ : Aside0 (w.heap.size ≤ D3) := ⟨h7_⟩
    have n8_ : Aside0 (w0.heap.size ≤ D3) := ⟨h8_⟩
    have n9_ : Aside0 (g ≠ D3) := ⟨h9_⟩
    have n10_ : Aside0 (D3 ≠ g) := ⟨h10_⟩
    have n11_ : Aside0 (De ≠ D3) := ⟨h11_⟩
    have n12_ : Aside0 (D3 ≠ De) := ⟨h12_⟩
    have n13_ : Aside0 (D9 ≠ D3) := ⟨h13_⟩
    have n14_ : Aside0 (D3 ≠ D9) := ⟨h14_⟩
    have n15_ : Aside0 (Da ≠ D3) := ⟨h15_⟩
    have n16_ : Aside0 (D3 ≠ Da) := ⟨h16_⟩
    have n17_ : Aside0 (IsS146 w0 w38 g s0_0 Eg Eh) := ⟨h17_⟩
    have n18_ : Aside0 (KeepBut w w38 g none) := ⟨h18_⟩
    have n19_ : Aside0 (Below w0.heap.size w0 w38) := ⟨h19_⟩
    clear Dc; clear D0; clear D4; clear D1; clear D2; clear Dg; clear HK; clear HB; clear h0_ h1_ h2_ h3_ h4_ h5_ h6_ h7_ h8_ h9_ h10_ h11_ h12_ h13_ h14_ h15_ h16_ h17_ h18_ h19_; have Df := n0_; have D0 := n1_; have Dc := n2_; have D4 := n3_; have D1 := n4_; have D2 := n5_; have D8 := n6_; have Ep := n7_; have En := n8_; have E7 := n9_; have E3 := n10_; have Do := n11_; have Dp := n12_; have Dd := n13_; have Dk := n14_; have Db := n15_; have Dq := n16_; have Dg := n17_; have HK := n18_; have HB := n19_; clear n0_ n1_ n2_ n3_ n4_ n5_ n6_ n7_ n8_ n9_ n10_ n11_ n12_ n13_ n14_ n15_ n16_ n17_ n18_ n19_
    have hHeld : w38.cell? ⟨D9, 0, none⟩ = some (.int .i64 D6) ∧ w38.cell? ⟨D9, 1, none⟩ = some (.int .i64 D7) ∧ w38.cell? ⟨D9, 2, none⟩ = some (.slice E4 D5.length E5) ∧ w38.cell? ⟨Da, 0, none⟩ = some (.int .i64 Dt) ∧ w38.cell? ⟨Da, 1, none⟩ = some (.int .i64 Du) ∧ w38.cell? ⟨Da, 2, none⟩ = some (.int .i64 Dv) ∧ w38.cell? ⟨Da, 3, none⟩ = some (.int .i64 (wrap64 (3 + Dw))) := hS_
    obtain ⟨Ei, E6, J5⟩ := Kd.R_slice Df.out
    (first | subst J5 | (injection J5 with f1_ f2_ f3_; have f4_ := f1_.symm; have f5_ := f3_.symm; clear f1_ f2_ f3_; subst f4_; subst f5_))
    refine norm_ (a' := ?_) ?_ ?_
    rotate_left
    ·simp only [putAll, Act.put, List.setIfInBounds_toArray, List.set_cons_zero, List.set_cons_succ]; rfl
    refine one_ (i := 11) (N := none) (Cmp.bm 12 1) rfl rfl (one_of HT_.out (by kernel_rfl)) (by decide) (fun K hK => ?_)
    have hs39 : w38.cell? ⟨D3, 0, none⟩ = some (.int .i64 0) := (blk_cell D8.out 0).trans rfl
    have hfs39 := blk_frozen D8.out 0; have hns39_0 := Do.out; have hns39_1 := Dd.out; have hns39_2 := Db.out; have hms39_0 := Dp.out; have hms39_1 := Dk.out; have hms39_2 := Dq.out
    have hs40 : w38.cell? ⟨D3, 1, none⟩ = some (.int .i64 0) := (blk_cell D8.out 1).trans rfl
    have hfs40 := blk_frozen D8.out 1; have hns40_0 := Do.out; have hns40_1 := Dd.out; have hns40_2 := Db.out; have hms40_0 := Dp.out; have hms40_1 := Dk.out; have hms40_2 := Dq.out
    have hs42 : w38.cell? ⟨D3, 2, none⟩ = some (.slice none 0 0) := (blk_cell D8.out 2).trans rfl
    have hfs42 := blk_frozen D8.out 2; have hns42_0 := Do.out; have hns42_1 := Dd.out; have hns42_2 := Db.out; have hms42_0 := Dp.out; have hms42_1 := Dk.out; have hms42_2 := Dq.out
    refine skip_ (w1 := ?_) (by rfl) rfl ?_ ?_
    rotate_left
    ·go_simp; rfl
    refine hK.out _ _ ⟨((cell_far (p := ⟨D3, _, none⟩) Dd.out _).trans (((cell_far (p := ⟨D3, _, none⟩) Dd.out _).trans (((cell_far (p := ⟨D3, _, none⟩) Dd.out _).trans (hHeld.1)))))), ((cell_far (p := ⟨D3, _, none⟩) Dd.out _).trans (((cell_far (p := ⟨D3, _, none⟩) Dd.out _).trans (((cell_far (p := ⟨D3, _, none⟩) Dd.out _).trans (hHeld.2.1)))))), ((cell_far (p := ⟨D3, _, none⟩) Dd.out _).trans (((cell_far (p := ⟨D3, _, none⟩) Dd.out _).trans (((cell_far (p := ⟨D3, _, none⟩) Dd.out _).trans (hHeld.2.2.1)))))), ((cell_far (p := ⟨D3, _, none⟩) Db.out _).trans (((cell_far (p := ⟨D3, _, none⟩) Db.out _).trans (((cell_far (p := ⟨D3, _, none⟩) Db.out _).trans (hHeld.2.2.2.1)))))), ((cell_far (p := ⟨D3, _, none⟩) Db.out _).trans (((cell_far (p := ⟨D3, _, none⟩) Db.out _).trans (((cell_far (p := ⟨D3, _, none⟩) Db.out _).trans (hHeld.2.2.2.2.1)))))), ((cell_far (p := ⟨D3, _, none⟩) Db.out _).trans (((cell_far (p := ⟨D3, _, none⟩) Db.out _).trans (((cell_far (p := ⟨D3, _, none⟩) Db.out _).trans (hHeld.2.2.2.2.2.1)))))), ((cell_far (p := ⟨D3, _, none⟩) Db.out _).trans (((cell_far (p := ⟨D3, _, none⟩) Db.out _).trans (((cell_far (p := ⟨D3, _, none⟩) Db.out _).trans (hHeld.2.2.2.2.2.2))))))⟩ (fun hHeld => ?_)
    clear hK K
    refine Cmp.pu HT_ 12 12 (Cmp.bm 13 0) ?_
    refine done_ (done_of HT_.out (by kernel_rfl)) ?_
    go_upto_if 52 with (fail)
    go_cut [7] (fun v7 wc => ∃ (kq : Nat) (Es : List (S84)) (Dr : Int) (Ds : Int) (Dm : Int) (Dn : Int) (Dx : List (S35)) (Eo : List (S35)) (Dl : Value) (Ed : Value), Aside0 (spec_l14Account.j1 kq a1 Es El (wrap64 ((Dh.length : Int) + (wrap64 ((wrap64 (2 * E9)) * (Dh.length : Int))))) s0_0 Dr Ds Dm Dn Dx = some (r1, r2, r3, r4, r5, r6)) ∧ Aside0 (kq ≤ k1) ∧ Aside0 (Kd.R k84 84 wc w.heap.size (fun k_ => k_ ≠ Da) v7 Es) ∧ Aside0 (Kd.R k35 35 wc w.heap.size (fun _ => True) Dl Dx) ∧ Aside0 (Kd.R k35 35 wc w.heap.size (fun _ => True) Ed Eo) ∧ Aside0 (wc.heap[De]? = some (.cells #[.int .i64 0, .int .i64 0, (.slice none 0 0)] 26 (0, 0))) ∧ Aside0 (wc.heap[D9]? = some (.cells #[.int .i64 Dm, .int .i64 Dn, Dl] 26 (0, 0))) ∧ Aside0 (wc.heap[Da]? = some (.cells #[.int .i64 Dt, .int .i64 Du, .int .i64 Dv, .int .i64 (wrap64 (3 + Dw))] 84 (0, 0))) ∧ Aside0 (wc.heap[D3]? = some (.cells #[.int .i64 Dz, .int .i64 E0, Ed] 26 (0, 0))) ∧ Aside0 (IsS146 w0 wc g s0_0 Dr Ds) ∧ Aside0 (KeepBut w wc g none) ∧ Aside0 (Below w0.heap.size w0 wc))
    case first =>
     have H := Gj.out; clear Gj
     by_cases c43 : Ex = true
     ·subst c43; rw [if_pos rfl] at H; replace H := Option.bind_eq_some_iff.mp H; obtain ⟨Dj, Gv, H⟩ := H; (try dsimp only at H); have Mb := Aside0.mk Gv; clear Gv; replace H := Option.bind_eq_some_iff.mp H; obtain ⟨⟨Ea, F5, F6⟩, Gw, H⟩ := H; (try dsimp only at H); have Mc := Aside0.mk Gw; clear Gw
      by_cases c46 : 0 ≤ Dj
      ·rw [if_pos c46] at H; have c46b0 : decide (0 ≤ Dj) = true := decide_eq_true c46; clear c46
       (first | rw [c46b0] | (simp only [i64_w, i32_w]; rw [c46b0]) | skip)
       by_cases c47 : Dj < (Di.length : Int)
       ·rw [if_pos c47] at H
        have c47b0 : decide (Dj < (Di.length : Int)) = true := decide_eq_true c47
        clear c47
        obtain ⟨Fa, hy306⟩ : ∃ y_ : List (S35), y_ = (Di.set (Dj : Int).toNat (⟨(rd_T35 Di Dj).f0, (rd_T35 Di Dj).f1, Ea, (rd_T35 Di Dj).f3⟩ : S35)) := ⟨_, rfl⟩
        replace H : (if Dh.length < 4398046511104 then (spec_l14Account.j1 k1 a1 (Dh ++ [(⟨Dt, Du, Dv, wrap64 (3 + Dw)⟩ : S84)]) El (wrap64 ((Dh.length : Int) + (wrap64 ((wrap64 (2 * E9)) * (Dh.length : Int))))) s0_0 F5 F6 Dz E0 Fa) else (none)) = some (r1, r2, r3, r4, r5, r6) := by first | (rw [hy306]; with_reducible exact H) | (have H2_ := (Option.bind_some _ _).symm.trans H; rw [hy306]; with_reducible exact H2_) | (have H2_ := (Option.bind_some _ _).symm.trans H; with_reducible exact H2_) | with_reducible exact H | (rw [hy306]; exact H) | exact H
        have J3 := Aside0.mk hy306; clear hy306
        by_cases c49 : Dh.length < 4398046511104
        ·rw [if_pos c49] at H; have LMc49 := Aside0.mk c49; clear c49
         obtain ⟨Je, hy307⟩ : ∃ y_ : List (S84), y_ = (Dh ++ [(⟨Dt, Du, Dv, wrap64 (3 + Dw)⟩ : S84)]) := ⟨_, rfl⟩
         replace H : (spec_l14Account.j1 k1 a1 Je El (wrap64 ((Dh.length : Int) + (wrap64 ((wrap64 (2 * E9)) * (Dh.length : Int))))) s0_0 F5 F6 Dz E0 Fa) = some (r1, r2, r3, r4, r5, r6) := by first | (rw [hy307]; with_reducible exact H) | (have H2_ := (Option.bind_some _ _).symm.trans H; rw [hy307]; with_reducible exact H2_) | (have H2_ := (Option.bind_some _ _).symm.trans H; with_reducible exact H2_) | with_reducible exact H | (rw [hy307]; exact H) | exact H
         have J4 := Aside0.mk hy307; clear hy307
         have H' := Aside0.mk H
         clear H; have L7 := Dp.out; have Ls := Do.out; have L8 := Dk.out; have Lt := Dd.out; have L9 := Dq.out; have Lu := Db.out; have La := E3.out; have Lv := E7.out
         have Fh := Cmp.c0 D8
         have Fi := Cmp.c1 D8
         have Fj := Cmp.c2 D8
         have Fx := blk_frozen D8.out 0; have Fy := blk_frozen D8.out 1; have Fz := blk_frozen D8.out 2
         try go_wp2_with (first | ((with_reducible refine gate_callee (f := 150) rfl ?_); refine goesL_ (some 55) rfl rfl Try.func150 (by kernel_rfl) rfl #[.agg #[.int .i64 Dz, .int .i64 E0, .slice Ei Di.length E6], .int .i64 (wrap64 ((Dh.length : Int) + (wrap64 ((wrap64 (2 * E9)) * (Dh.length : Int)))))] rfl Cmp.q ?_; (with_reducible refine (spec_FindCredential.calls k1 Dz E0 _ _ Di (wrap64 ((Dh.length : Int) + (wrap64 ((wrap64 (2 * E9)) * (Dh.length : Int))))) Dj _ ?side1 ?side2 Mb.out).mono ?_); (case side1 => refine (Kd.R_reads' (e := 35) (base := w.heap.size) (ok := fun k_ => some k_ ≠ (.slice E4 D5.length E5 : Value).ownBlock) (n := Di.length) (c := E6) ?_).2.2; exact (by (with_reducible repeat (first | apply Kd.R_alloc | apply Kd.R_drewN | apply Kd.R_drew)); exact (Kd.R_mono (Kd.R_far (p := ⟨D3, 2, none⟩) (Kd.R_far (p := ⟨D3, 1, none⟩) (Kd.R_far (p := ⟨D3, 0, none⟩) (Kd.R_types Df.out D8.out (by decide)) (fun _ hk => hk.2) (.int .i64 Dz)) (fun _ hk => hk.2) (.int .i64 E0)) (fun _ hk => hk.2) (.slice Ei Di.length E6)) (fun _ h_ => h_.1)))); (case side2 => exact (Kd.R_reads' Df.out).2.1); rintro e w55 ⟨rfl, hb⟩; refine ⟨_, rfl, ?_⟩; replace Dc := Aside0.mk (Kd.R_below (by (with_reducible repeat (first | apply Kd.R_alloc | apply Kd.R_drewN | apply Kd.R_drew)); exact (Kd.R_mono (Kd.R_far (p := ⟨D3, 2, none⟩) (Kd.R_far (p := ⟨D3, 1, none⟩) (Kd.R_far (p := ⟨D3, 0, none⟩) (Kd.R_types Dc.out D8.out (by decide)) (fun _ hk => hk.2) (.int .i64 Dz)) (fun _ hk => hk.2) (.int .i64 E0)) (fun _ hk => hk.2) (.slice Ei Di.length E6)) (fun _ h_ => h_.1))) hb); replace D0 := Aside0.mk (Kd.R_below (by (with_reducible repeat (first | apply Kd.R_alloc | apply Kd.R_drewN | apply Kd.R_drew)); exact (Kd.R_mono (Kd.R_far (p := ⟨D3, 2, none⟩) (Kd.R_far (p := ⟨D3, 1, none⟩) (Kd.R_far (p := ⟨D3, 0, none⟩) (Kd.R_types D0.out D8.out (by decide)) (fun _ hk => hk.2) (.int .i64 Dz)) (fun _ hk => hk.2) (.int .i64 E0)) (fun _ hk => hk.2) (.slice Ei Di.length E6)) (fun _ h_ => h_.1))) hb); replace Df := Aside0.mk (Kd.R_below (by (with_reducible repeat (first | apply Kd.R_alloc | apply Kd.R_drewN | apply Kd.R_drew)); exact (Kd.R_mono (Kd.R_far (p := ⟨D3, 2, none⟩) (Kd.R_far (p := ⟨D3, 1, none⟩) (Kd.R_far (p := ⟨D3, 0, none⟩) (Kd.R_types Df.out D8.out (by decide)) (fun _ hk => hk.2) (.int .i64 Dz)) (fun _ hk => hk.2) (.int .i64 E0)) (fun _ hk => hk.2) (.slice Ei Di.length E6)) (fun _ h_ => h_.1))) hb); replace D4 := Aside0.mk (blk_below (g := De) (o := .cells #[.int .i64 0, .int .i64 0, .slice none 0 0] 26 (0, 0)) (Cmp.bw D4.out) hb); replace D1 := Aside0.mk (blk_below (g := D9) (o := .cells #[.int .i64 D6, .int .i64 D7, .slice E4 D5.length E5] 26 (0, 0)) (Cmp.bw D1.out) hb); replace D2 := Aside0.mk (blk_below (g := Da) (o := .cells #[.int .i64 Dt, .int .i64 Du, .int .i64 Dv, .int .i64 (wrap64 (3 + Dw))] 84 (0, 0)) (Cmp.bw D2.out) hb); replace D8 := Aside0.mk (blk_below (g := D3) (o := .cells #[.int .i64 Dz, .int .i64 E0, .slice Ei Di.length E6] 26 (0, 0)) (Cmp.bw D8.out) hb); replace HK := Aside0.mk (KeepBut.trans (Cmp.kk HK.out) (KeepBut.of_below hb g none) (.inl rfl)); replace HB := Aside0.mk (below_step (IsS146.bl HB.out) hb); replace Dg := Aside0.mk (IsS146.below (show IsS146 w0 (((w38.setCell ⟨D3, 0, none⟩ (.int .i64 Dz)).setCell ⟨D3, 1, none⟩ (.int .i64 E0)).setCell ⟨D3, 2, none⟩ (.slice Ei Di.length E6)) g s0_0 Eg Eh from IsS146.go Dg.out) hb); (try clear hb); (try clear hb2); (try clear hk); (try clear hi)))
         have n0_ := Aside0.mk (Kd.R_drew Dc.out); have n1_ := Aside0.mk (Kd.R_drew D0.out); have n2_ := Aside0.mk (Kd.R_drew Df.out); have n3_ := Aside0.mk (blk_drew D4.out); have n4_ := Aside0.mk (blk_drew D1.out); have n5_ := Aside0.mk (blk_drew D2.out); have n6_ := Aside0.mk (blk_drew D8.out)
         have n7_ := Aside0.mk (IsS146.drew Dg.out)
         have n8_ := Aside0.mk (keep_drew HK.out)
         have n9_ := Aside0.mk (below_drew1 HB.out); clear Dc; clear D0; clear Df; clear D4; clear D1; clear D2; clear D8; clear Dg; clear HK; clear HB; have Dc := n0_; have D0 := n1_; have Df := n2_; have D4 := n3_; have D1 := n4_; have D2 := n5_; have D8 := n6_; have Dg := n7_; have HK := n8_; have HB := n9_; clear n0_ n1_ n2_ n3_ n4_ n5_ n6_ n7_ n8_ n9_
         refine start_ (n := 8) (S := fun w' => w'.cell? ⟨D3, 0, none⟩ = some (.int .i64 Dz) ∧ w'.cell? ⟨D3, 1, none⟩ = some (.int .i64 E0) ∧ w'.cell? ⟨D3, 2, none⟩ = some (.slice Ei Di.length E6)) (ds := [7]) (Cmp.bm 0 8) (by kernel_rfl) rfl rfl ⟨(Cmp.c0 D8 :), (Cmp.c1 D8 :), (Cmp.c2 D8 :)⟩ (fun hHeld => ?_); refine with_tabW spec_l14Account.tab12 spec_l14Account.bits12 (fun HT_ HW_ => ?_)
         generalize w55.drew = w56 at Dc D0 Df D4 D1 D2 D8 Dg HK HB hHeld ⊢
         refine Cmp.pu HT_ 0 56 (Cmp.bm 1 7) ?_; refine Cmp.pu HT_ 2 58 (Cmp.bb 8 5) ?_; refine Cmp.pu HT_ 3 59 (Cmp.bb 8 13) ?_; refine Cmp.tk HT_ HW_ hHeld 1 57 (Cmp.bm 4 4) ?_
         refine one_ (i := 4) (N := some 60) (Cmp.bm 5 3) rfl rfl (one_of HT_.out (by kernel_rfl)) (by decide) (fun K hK => ?_)
         refine goes_ Try.func106 (by kernel_rfl) rfl #[.pointer (some ⟨g, 0, none⟩), .int .i64 5] (by rfl) rfl rfl Cmp.q ?_
         with_reducible refine (spec_l1Below.calls g s0_0 Eg Eh 5 Ea F5 F6 w0 _ ?side1 ?side2 Mc.out).mono ?_
         (case side1 => exact IsS146.go Dg.out)
         (case side2 => exact IsS146.bl HB.out)
         rintro e w57 ⟨rfl, hi, hb, hk⟩; refine ⟨_, rfl, ?_⟩
         have n0_ := Aside0.mk (Kd.R_mono (Kd.R_keep (IsS146.apart (show IsS146 w0 _ g s0_0 Eg Eh from IsS146.go Dg.out) (Cmp.rr Dc.out) (by decide)) hk (fun _ h => h.2)) (fun _ h => h.1))
         have n1_ := Aside0.mk (Kd.R_mono (Kd.R_keep (IsS146.apart (show IsS146 w0 _ g s0_0 Eg Eh from IsS146.go Dg.out) (Cmp.rr D0.out) (by decide)) hk (fun _ h => h.2)) (fun _ h => h.1))
         have n2_ := Aside0.mk (KeepBut.blk hk (g' := De) (o := .cells #[.int .i64 0, .int .i64 0, .slice none 0 0] 26 (0, 0)) (Cmp.b D4.out) E2.out (by simp))
         have n3_ := Aside0.mk (KeepBut.blk hk (g' := D9) (o := .cells #[.int .i64 D6, .int .i64 D7, .slice E4 D5.length E5] 26 (0, 0)) (Cmp.b D1.out) Dy.out (by simp))
         have n4_ := Aside0.mk (KeepBut.blk hk (g' := Da) (o := .cells #[.int .i64 Dt, .int .i64 Du, .int .i64 Dv, .int .i64 (wrap64 (3 + Dw))] 84 (0, 0)) (Cmp.b D2.out) E8.out (by simp))
         have n5_ := Aside0.mk (Kd.R_mono (Kd.R_keep (IsS146.apart (show IsS146 w0 _ g s0_0 Eg Eh from IsS146.go Dg.out) (Cmp.rr Df.out) (by decide)) hk (fun _ h => h.2)) (fun _ h => h.1))
         have n6_ := Aside0.mk (KeepBut.blk hk (g' := D3) (o := .cells #[.int .i64 Dz, .int .i64 E0, .slice Ei Di.length E6] 26 (0, 0)) (Cmp.b D8.out) E3.out (by simp))
         have n7_ := Aside0.mk (KeepBut.trans (Cmp.kk HK.out) hk (.inl rfl))
         have n8_ := Aside0.mk (hb)
         have n9_ := Aside0.mk (hi)
         clear Dc; clear D0; clear D4; clear D1; clear D2; clear Df; clear D8; clear HK; clear HB; clear Dg; have Dc := n0_; have D0 := n1_; have D4 := n2_; have D1 := n3_; have D2 := n4_; have Df := n5_; have D8 := n6_; have HK := n7_; have HB := n8_; have Dg := n9_; clear n0_ n1_ n2_ n3_ n4_ n5_ n6_ n7_ n8_ n9_; (try clear hb); (try clear hb2); (try clear hk); (try clear hi)
         have p48 : 0 ≤ (Dj : Int) := of_decide_eq_true Cmp.d
         have q48 : (Dj : Int) < ((Di.length : Int) : Int) := of_decide_eq_true Cmp.d
         obtain ⟨go48, Me, J6, J7, gl48, cl48, HG48⟩ := Kd.R_form Df.out (by omega)
         (first | cases J6 | (injection J6 with ea_ en_ ec_; (first | subst ea_ | (injection ea_ with ea_; subst ea_)); subst ec_; clear en_))
         have GB48 := Aside0.mk J7; have GG48 := Aside0.mk HG48; clear J7 gl48 HG48
         obtain ⟨ce48, hcl48, hM48, hcc48, hfr48⟩ := Kd.R_elem Df.out z35 (Dj : Int) p48 q48
         obtain rfl := k35_openM hM48
         have Gm : World.cell? _ ⟨go48, (Dj : Int).toNat * 4, none⟩ = some (.int .i64 ((rd_T35 Di Dj).f0)) := hcc48 0 _ rfl
         have Gn : World.cell? _ ⟨go48, (Dj : Int).toNat * 4 + 1, none⟩ = some (.int .i64 ((rd_T35 Di Dj).f1)) := hcc48 1 _ rfl
         have Go : World.cell? _ ⟨go48, (Dj : Int).toNat * 4 + 2, none⟩ = some (.int .i64 ((rd_T35 Di Dj).f2)) := hcc48 2 _ rfl
         have Gp : World.cell? _ ⟨go48, (Dj : Int).toNat * 4 + 3, none⟩ = some (.bool ((rd_T35 Di Dj).f3)) := hcc48 3 _ rfl
         have hf48_0 : World.frozen? _ ⟨go48, (Dj : Int).toNat * 4, none⟩ = false := hfr48 0
         have hf48_1 : World.frozen? _ ⟨go48, (Dj : Int).toNat * 4 + 1, none⟩ = false := hfr48 1
         have hf48_2 : World.frozen? _ ⟨go48, (Dj : Int).toNat * 4 + 2, none⟩ = false := hfr48 2
         have hf48_3 : World.frozen? _ ⟨go48, (Dj : Int).toNat * 4 + 3, none⟩ = false := hfr48 3
         clear hcl48 hcc48 hfr48 hM48; replace p48 := eq_true p48; replace q48 := eq_true q48
         have HN0_go48 := Aside0.mk (show g ≠ go48 from by have h_ := IsS146.own_ne Dg.out Df.out (by decide); intro e_; exact h_ (by rw [e_]; rfl))
         obtain ⟨ce58, hcl58, hM58, hcc58, hfr58⟩ := Kd.R_elem Df.out z35 (Dj : Int) (of_decide_eq_true Cmp.d) (by have h_ : (Dj : Int) < ((Di.length : Int) : Int) := of_decide_eq_true Cmp.d; first | exact h_ | (have e_ := (Kd.R_reads' Df.out).1; omega) | simpa using h_)
         obtain rfl := k35_openM hM58
         have HP58 := (Kd.R_seg Df.out (Dj : Int) (of_decide_eq_true Cmp.d) (by have h_ : (Dj : Int) < ((Di.length : Int) : Int) := of_decide_eq_true Cmp.d; first | exact h_ | (have e_ := (Kd.R_reads' Df.out).1; omega) | simpa using h_) (seg := [.int .i64 Ea]) (j := 2) hcl58 hcc58 (show 3 ≤ 4 from by decide) (x' := (⟨(rd_T35 Di Dj).f0, (rd_T35 Di Dj).f1, Ea, (rd_T35 Di Dj).f3⟩ : S35)) (k35_mkM _ _ _ (⟨(rd_T35 Di Dj).f0, (rd_T35 Di Dj).f1, Ea, (rd_T35 Di Dj).f3⟩ : S35) ) (fun _ hk => hk)).1
         rw [← J3.out] at HP58
         have HQ58 := Aside0.mk HP58; clear hcl58 hcc58 hfr58 hM58 HP58
         refine hK.out _ _ ⟨(Cmp.c0 D8 :), (Cmp.c1 D8 :), (Cmp.c2 D8 :)⟩ (fun hHeld => ?_)
         clear hK K
         refine norm_ (a' := ?_) ?_ ?_
         rotate_left
         ·show Act.put _ (some 60) _ = _
          simp only [Act.put, Cmp.s, Cmp.z, Cmp.c, i64_w, i32_w]; rfl
         refine Cmp.pu HT_ 5 61 (Cmp.bm 6 2) ?_; refine Cmp.pu HT_ 6 62 (Cmp.bm 7 1) ?_
         refine last_ (i := 7) (N := none) (Cmp.bm 8 0) rfl rfl (one_of HT_.out (by kernel_rfl)) (by decide) (fun K hK => ?_)
         refine skip_ (w1 := ?_) (by rfl) rfl ?_ ?_
         rotate_left
         ·go_simp; rfl
         refine hK.out _ _ ?_
         clear hK K
         refine done_ (done_of HT_.out (by kernel_rfl)) ?_
         have n0_ : Aside0 (Kd.R k84 84 (w57.setCell ⟨go48, (Dj : Int).toNat * 4 + 2, none⟩ (.int .i64 Ea)) w.heap.size (fun k_ => k_ ≠ Da) (.slice Fb Dh.length Fd) Dh) := ⟨by (with_reducible repeat (first | apply Kd.R_alloc | apply Kd.R_drewN | apply Kd.R_drew)); exact Kd.R_mono (Kd.R_far (p := ⟨go48, (Dj : Int).toNat * 4 + 2, none⟩) (Kd.R_types Dc.out GG48.out (by decide)) (fun _ hk => hk.2) (.int .i64 Ea)) (fun _ hk => hk.1)⟩
         have n1_ : Aside0 (Kd.R k35 35 (w57.setCell ⟨go48, (Dj : Int).toNat * 4 + 2, none⟩ (.int .i64 Ea)) w.heap.size (fun k_ => some k_ ≠ (.slice (some ⟨go48, 0, none⟩) Di.length E6 : Value).ownBlock) (.slice E4 D5.length E5) D5) := ⟨by (with_reducible repeat (first | apply Kd.R_alloc | apply Kd.R_drewN | apply Kd.R_drew)); exact Kd.R_mono (Kd.R_far (p := ⟨go48, (Dj : Int).toNat * 4 + 2, none⟩) (Kd.R_mono D0.out (fun k_ hk => (⟨hk, fun e_ => hk (by rw [e_]; rfl)⟩ : _ ∧ k_ ≠ go48))) (fun _ hk => hk.2) (.int .i64 Ea)) (fun _ hk => hk.1)⟩
         have n2_ : Aside0 (Kd.R k35 35 (w57.setCell ⟨go48, (Dj : Int).toNat * 4 + 2, none⟩ (.int .i64 Ea)) w.heap.size (fun k_ => some k_ ≠ (.slice E4 D5.length E5 : Value).ownBlock) (.slice (some ⟨go48, 0, none⟩) Di.length E6) Fa) := ⟨Cmp.rr HQ58.out⟩
         have n3_ : Aside0 ((w57.setCell ⟨go48, (Dj : Int).toNat * 4 + 2, none⟩ (.int .i64 Ea)).heap[De]? = some (.cells #[.int .i64 0, .int .i64 0, .slice none 0 0] 26 (0, 0))) := ⟨by (with_reducible repeat (first | refine blk_drewN ?_ _ | refine blk_drew ?_ | refine blk_alloc ?_ _)); refine blk_far ?_ (by have h_ := Kd.R_ne Df.out D4.out (by decide); intro e_; exact h_ (by rw [e_]; rfl)) _; (with_reducible repeat (first | refine blk_drewN ?_ _ | refine blk_drew ?_ | refine blk_alloc ?_ _)); exact D4.out⟩
         have n4_ : Aside0 ((w57.setCell ⟨go48, (Dj : Int).toNat * 4 + 2, none⟩ (.int .i64 Ea)).heap[D9]? = some (.cells #[.int .i64 D6, .int .i64 D7, .slice E4 D5.length E5] 26 (0, 0))) := ⟨by (with_reducible repeat (first | refine blk_drewN ?_ _ | refine blk_drew ?_ | refine blk_alloc ?_ _)); refine blk_far ?_ (by have h_ := Kd.R_ne Df.out D1.out (by decide); intro e_; exact h_ (by rw [e_]; rfl)) _; (with_reducible repeat (first | refine blk_drewN ?_ _ | refine blk_drew ?_ | refine blk_alloc ?_ _)); exact D1.out⟩
         have n5_ : Aside0 ((w57.setCell ⟨go48, (Dj : Int).toNat * 4 + 2, none⟩ (.int .i64 Ea)).heap[Da]? = some (.cells #[.int .i64 Dt, .int .i64 Du, .int .i64 Dv, .int .i64 (wrap64 (3 + Dw))] 84 (0, 0))) := ⟨by (with_reducible repeat (first | refine blk_drewN ?_ _ | refine blk_drew ?_ | refine blk_alloc ?_ _)); refine blk_far ?_ (by have h_ := Kd.R_ne Df.out D2.out (by decide); intro e_; exact h_ (by rw [e_]; rfl)) _; (with_reducible repeat (first | refine blk_drewN ?_ _ | refine blk_drew ?_ | refine blk_alloc ?_ _)); exact D2.out⟩
         have n6_ : Aside0 ((w57.setCell ⟨go48, (Dj : Int).toNat * 4 + 2, none⟩ (.int .i64 Ea)).heap[D3]? = some (.cells #[.int .i64 Dz, .int .i64 E0, .slice (some ⟨go48, 0, none⟩) Di.length E6] 26 (0, 0))) := ⟨by (with_reducible repeat (first | refine blk_drewN ?_ _ | refine blk_drew ?_ | refine blk_alloc ?_ _)); refine blk_far ?_ (by have h_ := Kd.R_ne Df.out D8.out (by decide); intro e_; exact h_ (by rw [e_]; rfl)) _; (with_reducible repeat (first | refine blk_drewN ?_ _ | refine blk_drew ?_ | refine blk_alloc ?_ _)); exact D8.out⟩
         have n7_ : Aside0 (IsS146 w0 (w57.setCell ⟨go48, (Dj : Int).toNat * 4 + 2, none⟩ (.int .i64 Ea)) g s0_0 F5 F6) := ⟨IsS146.go Dg.out⟩
         have n8_ : Aside0 (KeepBut w (w57.setCell ⟨go48, (Dj : Int).toNat * 4 + 2, none⟩ (.int .i64 Ea)) g none) := ⟨Cmp.kk HK.out⟩
         have n9_ : Aside0 (Below w0.heap.size w0 (w57.setCell ⟨go48, (Dj : Int).toNat * 4 + 2, none⟩ (.int .i64 Ea))) := ⟨by repeat (first | (with_reducible first | exact HB.out | apply below_alloc | apply pw_below_drewN | apply below_drew1 | refine below_set ?_ (Nat.le_trans HL.out GB48.out) | refine below_set ?_ (IsS146.ge Dg.out) | refine below_set ?_ Gz.out | refine below_set ?_ J0.out | refine below_set ?_ J1.out | refine below_set ?_ En.out) | exact HB.out)⟩
         (try clear Dc); (try clear D0); (try clear Df); (try clear D4); (try clear D1); (try clear D2); (try clear D8); (try clear Dg); (try clear HK); (try clear HB)
         generalize (w57.setCell ⟨go48, (Dj : Int).toNat * 4 + 2, none⟩ (.int .i64 Ea)) = w59 at n0_ n1_ n2_ n3_ n4_ n5_ n6_ n7_ n8_ n9_ ⊢
         have Dc := n0_; have D0 := n1_; have Df := n2_; have D4 := n3_; have D1 := n4_; have D2 := n5_; have D8 := n6_; have Dg := n7_; have HK := n8_; have HB := n9_; clear n0_ n1_ n2_ n3_ n4_ n5_ n6_ n7_ n8_ n9_; have Lb := Er.out; have Lw := Eq.out; have Lc := Ek.out; have Lx := Ej.out; have Ld := E8.out; have Ly := Ey.out
         have Fk := Cmp.c0 D2
         have Fl := Cmp.c1 D2
         have Fm := Cmp.c2 D2
         have Fn := Cmp.c3 D2
         have G0 := blk_frozen D2.out 0; have G1 := blk_frozen D2.out 1; have G2 := blk_frozen D2.out 2; have G3 := blk_frozen D2.out 3
         try go_wp2_with (first | ((with_reducible refine gate_builtin (b := .append) (xs := #[.tmp 63, .tmp 65]) rfl ?_); at_builtin; refine Kd.R_append k84 w.heap.size rfl (.tmp 63) (.tmp 65) 147 84 (.agg #[(.int .i64 0), (.int .i64 0), (.int .i64 0), (.int .i64 0)]) 32 rfl Try.underlying147 info84 rfl (by decide) (by omega) (.slice Fb Dh.length Fd) Dh (⟨Dt, Du, Dv, wrap64 (3 + Dw)⟩ : S84) [.int .i64 Dt, .int .i64 Du, .int .i64 Dv, .int .i64 (wrap64 (3 + Dw))] (fun k_ => k_ ≠ Da) (fun _ => False) rfl rfl ?aP (fun _ hk => hk.elim) ?aF ?aO (Below.refl _ _) ?aS ?aL ?_; (case aP => exact k84_mkM _ _ _ (⟨Dt, Du, Dv, wrap64 (3 + Dw)⟩ : S84)); (case aF => exact (fun k_ hk => Kd.freshB (g := Da) (o := .cells #[.int .i64 Dt, .int .i64 Du, .int .i64 Dv, .int .i64 (wrap64 (3 + Dw))] 84 (0, 0)) (Cmp.b D2.out) k_ hk)); (case aO => exact (Cmp.rr Dc.out)); (case aS => exact (keep_size (w := w) (g := g) (row := none) (Cmp.kk HK.out))); (case aL => have := LMc49.out; omega); intro v308 w64 ho hb hg hat; rw [← J4.out] at ho; have J2 := Aside0.mk (ho); replace D0 := Aside0.mk (Kd.R_over' (Cmp.rr D0.out) (Kd.R_typed (Cmp.rr Dc.out)) (by decide) hg); replace D4 := Cmp.bg D4 hg (Kd.R_ne Dc.out D4.out (by decide)); replace D1 := Cmp.bg D1 hg (Kd.R_ne Dc.out D1.out (by decide)); replace D2 := Cmp.bg D2 hg (Kd.R_away Dc.out (fun _ hk => hk)); replace Df := Aside0.mk (Kd.R_over' (Cmp.rr Df.out) (Kd.R_typed (Cmp.rr Dc.out)) (by decide) hg); replace D8 := Cmp.bg D8 hg (Kd.R_ne Dc.out D8.out (by decide)); replace HB := Aside0.mk (below_weaken (IsS146.bl HB.out) HL.out hb); replace Dg := Aside0.mk (IsS146.grown (IsS146.go Dg.out) hg (IsS146.own_ne Dg.out Dc.out (by decide))); replace HK := Aside0.mk (KeepBut.trans (Cmp.kk HK.out) (KeepBut.of_grown hg g) (Kd.R_base2 Dc.out)); clear Dc; clear ho hb hg hat; have Fo := Cmp.c0 D8; have Fp := Cmp.c1 D8; have Fq := Cmp.c2 D8; have G4 := blk_frozen D8.out 0; have G5 := blk_frozen D8.out 1; have G6 := blk_frozen D8.out 2; have Le := Ec.out; have Lz := Eb.out; have Lf := Dy.out; have M0 := Em.out; have Fr := Cmp.c0 D1; have Fs := Cmp.c1 D1; have Ft := Cmp.c2 D1; have G7 := blk_frozen D1.out 0; have G8 := blk_frozen D1.out 1; have G9 := blk_frozen D1.out 2))
         go_meet
         case rel => exact ⟨_, (Je), (F5), (F6), (Dz), (E0), (Fa), (Fa), (.slice (some ⟨go48, 0, none⟩) Di.length E6), (.slice (some ⟨go48, 0, none⟩) Di.length E6), H', ⟨by have := HK1.out; first | omega | exact Nat.le_refl _⟩, ⟨by (with_reducible repeat (first | apply Kd.R_alloc | apply Kd.R_drewN | apply Kd.R_drew)); exact Kd.R_mono (Kd.R_far (p := ⟨D9, 2, none⟩) (Kd.R_far (p := ⟨D9, 1, none⟩) (Kd.R_far (p := ⟨D9, 0, none⟩) (Kd.R_types J2.out D1.out (by decide)) (fun _ hk => hk.2) (.int .i64 Dz)) (fun _ hk => hk.2) (.int .i64 E0)) (fun _ hk => hk.2) (.slice (some ⟨go48, 0, none⟩) Di.length E6)) (fun _ hk => hk.1)⟩, ⟨by (with_reducible repeat (first | apply Kd.R_alloc | apply Kd.R_drewN | apply Kd.R_drew)); exact Kd.R_mono (Kd.R_far (p := ⟨D9, 2, none⟩) (Kd.R_far (p := ⟨D9, 1, none⟩) (Kd.R_far (p := ⟨D9, 0, none⟩) (Kd.R_types Df.out D1.out (by decide)) (fun _ hk => hk.2) (.int .i64 Dz)) (fun _ hk => hk.2) (.int .i64 E0)) (fun _ hk => hk.2) (.slice (some ⟨go48, 0, none⟩) Di.length E6)) (fun _ hk => trivial)⟩, ⟨by (with_reducible repeat (first | apply Kd.R_alloc | apply Kd.R_drewN | apply Kd.R_drew)); exact Kd.R_mono (Kd.R_far (p := ⟨D9, 2, none⟩) (Kd.R_far (p := ⟨D9, 1, none⟩) (Kd.R_far (p := ⟨D9, 0, none⟩) (Kd.R_types Df.out D1.out (by decide)) (fun _ hk => hk.2) (.int .i64 Dz)) (fun _ hk => hk.2) (.int .i64 E0)) (fun _ hk => hk.2) (.slice (some ⟨go48, 0, none⟩) Di.length E6)) (fun _ hk => trivial)⟩, ⟨Cmp.bw D4.out⟩, ⟨Cmp.bw D1.out⟩, ⟨Cmp.bw D2.out⟩, ⟨Cmp.bw D8.out⟩, ⟨IsS146.go Dg.out⟩, ⟨Cmp.kk HK.out⟩, ⟨IsS146.bl HB.out⟩⟩
        ·rw [if_neg c49] at H; exact absurd H (by simp)
       ·rw [if_neg c47] at H; exact absurd H (by simp)
      ·rw [if_neg c46] at H; exact absurd H (by simp)
     ·replace c43 := Bool.eq_false_iff.mpr c43
      subst c43
      have H1 : (spec_l14Account.j1 k1 a1 Dh El (wrap64 ((Dh.length : Int) + (wrap64 ((wrap64 (2 * E9)) * (Dh.length : Int))))) s0_0 Eg Eh D6 D7 D5) = some (r1, r2, r3, r4, r5, r6) := by rw [if_neg (show ¬ (false = true) by decide)] at H; exact H
      clear H; have H := H1; clear H1
      have H' := Aside0.mk H
      clear H
      go_wp2
      go_meet
      case rel => exact ⟨_, (Dh), (Eg), (Eh), (D6), (D7), (D5), (Di), (.slice E4 D5.length E5), (.slice Ei Di.length E6), H', ⟨by have := HK1.out; first | omega | exact Nat.le_refl _⟩, ⟨by (with_reducible repeat (first | apply Kd.R_alloc | apply Kd.R_drewN | apply Kd.R_drew)); exact Kd.R_mono (Kd.R_far (p := ⟨D3, 2, none⟩) (Kd.R_far (p := ⟨D3, 1, none⟩) (Kd.R_far (p := ⟨D3, 0, none⟩) (Kd.R_types Dc.out D8.out (by decide)) (fun _ hk => hk.2) (.int .i64 Dz)) (fun _ hk => hk.2) (.int .i64 E0)) (fun _ hk => hk.2) (.slice Ei Di.length E6)) (fun _ hk => hk.1)⟩, ⟨by (with_reducible repeat (first | apply Kd.R_alloc | apply Kd.R_drewN | apply Kd.R_drew)); exact Kd.R_mono (Kd.R_far (p := ⟨D3, 2, none⟩) (Kd.R_far (p := ⟨D3, 1, none⟩) (Kd.R_far (p := ⟨D3, 0, none⟩) (Kd.R_types D0.out D8.out (by decide)) (fun _ hk => hk.2) (.int .i64 Dz)) (fun _ hk => hk.2) (.int .i64 E0)) (fun _ hk => hk.2) (.slice Ei Di.length E6)) (fun _ _ => trivial)⟩, ⟨by (with_reducible repeat (first | apply Kd.R_alloc | apply Kd.R_drewN | apply Kd.R_drew)); exact Kd.R_mono (Kd.R_far (p := ⟨D3, 2, none⟩) (Kd.R_far (p := ⟨D3, 1, none⟩) (Kd.R_far (p := ⟨D3, 0, none⟩) (Kd.R_types Df.out D8.out (by decide)) (fun _ hk => hk.2) (.int .i64 Dz)) (fun _ hk => hk.2) (.int .i64 E0)) (fun _ hk => hk.2) (.slice Ei Di.length E6)) (fun _ _ => trivial)⟩, ⟨Cmp.bw D4.out⟩, ⟨Cmp.bw D1.out⟩, ⟨Cmp.bw D2.out⟩, ⟨Cmp.bw D8.out⟩, ⟨IsS146.go Dg.out⟩, ⟨Cmp.kk HK.out⟩, ⟨IsS146.bl HB.out⟩⟩
    case rest =>
     clear Gj; (try clear c1); (try clear p2); (try clear c4); (try clear p4); (try clear q4); (try clear hx4); (try clear hf4); (try clear c5); (try clear c6); (try clear p6); (try clear c10); (try clear c12); (try clear c14); (try clear c15); (try clear c43); (try clear c46); (try clear c46b0); (try clear c47); (try clear c47b0); (try clear c48); (try clear p48); (try clear q48); (try clear hx48); (try clear hf48); (try clear c49); (try clear c50); (try clear c51); (try clear c52); (try clear c53); (try clear c58); (try clear c60); (try clear c61); (try clear c62); (try clear p64); (try clear c66); (try clear c67); (try clear Fh); (try clear Fi); (try clear Fj); (try clear Fk); (try clear Fl); (try clear Fm); (try clear Fn); (try clear Fo); (try clear Fp); (try clear Fq); (try clear Fr); (try clear Fs); (try clear Ft); (try clear Fx); (try clear Fy); (try clear Fz); (try clear G0); (try clear G1); (try clear G2); (try clear G3); (try clear G4); (try clear G5); (try clear G6); (try clear G7); (try clear G8); (try clear G9); (try clear Gm); (try clear Gn); (try clear Go); (try clear Gp); (try clear p48); (try clear q48)
     obtain ⟨kq, Es, Dr, Ds, Dm, Dn, Dx, Eo, Dl, Ed, HA, HJ21, Dc, D0, E1, D4, D1, D2, D8, Dg, HK, HB⟩ := hcut
     cases kq with
     | zero => exact absurd HA.out (by simp [spec_l14Account.j1])
     | succ kj21 =>
      have H := HA.out; clear HA
      simp only [spec_l14Account.j1] at H
      replace H := Option.bind_eq_some_iff.mp H; obtain ⟨⟨Ks, F7, F8⟩, Gx, H⟩ := H; (try dsimp only at H); have Ky := Aside0.mk Gx; clear Gx
      by_cases c70 : Ks = true
      ·subst c70; rw [if_pos rfl] at H; replace H := Option.bind_eq_some_iff.mp H; obtain ⟨⟨Gd, Ge, F9, Kt⟩, Gy, H⟩ := H; (try dsimp only at H); have Md := Aside0.mk Gy; clear Gy
       have H' := Aside0.mk H
       clear H
       go_wp2_with (first | ((with_reducible refine gate_callee (f := 55) rfl ?_); refine goesL_ (some 69) rfl rfl Try.func55 (by kernel_rfl) rfl #[.pointer (some ⟨g, 0, none⟩), .int .i64 5] rfl Cmp.q ?_; (with_reducible refine (spec_l1Once.calls g s0_0 Dr Ds 5 true F7 F8 w0 _ ?side1 ?side2 Ky.out).mono ?_); (case side1 => exact IsS146.go Dg.out); (case side2 => exact IsS146.bl HB.out); rintro e w72 ⟨rfl, hi, hb, hk⟩; refine ⟨_, rfl, ?_⟩; replace Dc := Aside0.mk (Kd.R_mono (Kd.R_keep (IsS146.apart (show IsS146 w0 _ g s0_0 Dr Ds from IsS146.go Dg.out) (Cmp.rr Dc.out) (by decide)) hk (fun _ h => h.2)) (fun _ h => h.1)); replace D0 := Aside0.mk (Kd.R_mono (Kd.R_keep (IsS146.apart (show IsS146 w0 _ g s0_0 Dr Ds from IsS146.go Dg.out) (Cmp.rr D0.out) (by decide)) hk (fun _ h => h.2)) (fun _ h => h.1)); replace E1 := Aside0.mk (Kd.R_mono (Kd.R_keep (IsS146.apart (show IsS146 w0 _ g s0_0 Dr Ds from IsS146.go Dg.out) (Cmp.rr E1.out) (by decide)) hk (fun _ h => h.2)) (fun _ h => h.1)); replace D4 := Aside0.mk (KeepBut.blk hk (g' := De) (o := .cells #[.int .i64 0, .int .i64 0, .slice none 0 0] 26 (0, 0)) (Cmp.b D4.out) E2.out (by simp)); replace D1 := Aside0.mk (KeepBut.blk hk (g' := D9) (o := .cells #[.int .i64 Dm, .int .i64 Dn, Dl] 26 (0, 0)) (Cmp.b D1.out) Dy.out (by simp)); replace D2 := Aside0.mk (KeepBut.blk hk (g' := Da) (o := .cells #[.int .i64 Dt, .int .i64 Du, .int .i64 Dv, .int .i64 (wrap64 (3 + Dw))] 84 (0, 0)) (Cmp.b D2.out) E8.out (by simp)); replace D8 := Aside0.mk (KeepBut.blk hk (g' := D3) (o := .cells #[.int .i64 Dz, .int .i64 E0, Ed] 26 (0, 0)) (Cmp.b D8.out) E3.out (by simp)); replace HK := Aside0.mk (KeepBut.trans (Cmp.kk HK.out) hk (.inl rfl)); replace HB := Aside0.mk (hb); replace Dg := Aside0.mk (hi); (try clear hb); (try clear hb2); (try clear hk); (try clear hi); have Lg := Ec.out; have M1 := Eb.out; have Lh := Ej.out; have M2 := Ek.out; have Li := Dd.out; have M3 := Dk.out; have Lj := Dy.out; have M4 := Em.out; have Jn := Cmp.c0 D1; have Jo := Cmp.c1 D1; have Jp := Cmp.c2 D1; have K7 := blk_frozen D1.out 0; have K8 := blk_frozen D1.out 1; have K9 := blk_frozen D1.out 2; obtain ⟨Kl, Km, Kp⟩ := Kd.R_slice D0.out; subst Kp) | ((with_reducible refine gate_callee (f := 151) rfl ?_); refine goesL_ (some 73) rfl rfl Try.func151 (by kernel_rfl) rfl #[.agg #[.int .i64 Dm, .int .i64 Dn, .slice Kl Dx.length Km], .int .i64 (wrap64 ((Dh.length : Int) + (wrap64 ((wrap64 (2 * E9)) * (Dh.length : Int)))))] rfl Cmp.q ?_; (with_reducible refine (spec_CutCredential.calls kj21 Dm Dn _ _ Dx (wrap64 ((Dh.length : Int) + (wrap64 ((wrap64 (2 * E9)) * (Dh.length : Int))))) Gd Ge F9 Kt _ ?side1 ?side2 Md.out).mono ?_); (case side1 => exact Cmp.rc (Kd.R_reads' D0.out).2.2); (case side2 => exact (Kd.R_reads' D0.out).2.1); rintro e w79 ⟨v316, rfl, Eu, hb⟩; refine ⟨_, rfl, ?_⟩; have Gf := Aside0.mk (Kd.R_lower (Kd.R_new' (Kd.R_new' Eu (Kd.R_lt (Cmp.rr D0.out))) (Kd.R_lt (Cmp.rr E1.out))) (keep_size (w := w) (g := g) (row := none) (Cmp.kk HK.out))); replace Dc := Aside0.mk (Kd.R_below (Cmp.rr Dc.out) hb); replace D0 := Aside0.mk (Kd.R_elder' (Cmp.rr D0.out) (Kd.R_base Eu) hb); replace E1 := Aside0.mk (Kd.R_elder' (Cmp.rr E1.out) (Kd.R_base Eu) hb); replace D4 := Cmp.be D4 hb; replace D1 := Cmp.be D1 hb; replace D2 := Cmp.be D2 hb; replace D8 := Cmp.be D8 hb; replace HK := Aside0.mk (KeepBut.trans (Cmp.kk HK.out) (KeepBut.of_below hb g none) (.inl rfl)); replace HB := Aside0.mk (below_step (IsS146.bl HB.out) hb); replace Dg := Aside0.mk (IsS146.below (IsS146.go Dg.out) hb); (try clear hb); (try clear hb2); (try clear hk); (try clear hi); (try clear Eu); have Jq := Cmp.c0 D1; have Jr := Cmp.c1 D1; have Js := Cmp.c2 D1; have Ka := blk_frozen D1.out 0; have Kb := blk_frozen D1.out 1; have Kc := blk_frozen D1.out 2; obtain ⟨Gh, Gk, Kq⟩ := Kd.R_slice Gf.out; subst Kq))
       go_roundg kj21
       case measure => have := HK1.out; have := HJ21.out; omega
       case rel => exact ⟨(Es), (wrap64 (El - 1)), (F7), (F8), (Gd), (Ge), (F9), (.slice Gh F9.length Gk), (by first | rfl | simp | simp [*]), H', ⟨by have := HK1.out; have := HJ21.out; omega⟩, ⟨by (with_reducible repeat (first | apply Kd.R_alloc | apply Kd.R_drewN | apply Kd.R_drew)); exact Kd.R_mono (Kd.R_far (p := ⟨D9, 2, none⟩) (Kd.R_far (p := ⟨D9, 1, none⟩) (Kd.R_far (p := ⟨D9, 0, none⟩) (Kd.R_types Dc.out D1.out (by decide)) (fun _ hk => hk.2) (.int .i64 Gd)) (fun _ hk => hk.2) (.int .i64 Ge)) (fun _ hk => hk.2) (.slice Gh F9.length Gk)) (fun _ hk => trivial)⟩, ⟨by (with_reducible repeat (first | apply Kd.R_alloc | apply Kd.R_drewN | apply Kd.R_drew)); exact Kd.R_mono (Kd.R_far (p := ⟨D9, 2, none⟩) (Kd.R_far (p := ⟨D9, 1, none⟩) (Kd.R_far (p := ⟨D9, 0, none⟩) (Kd.R_types Gf.out D1.out (by decide)) (fun _ hk => hk.2) (.int .i64 Gd)) (fun _ hk => hk.2) (.int .i64 Ge)) (fun _ hk => hk.2) (.slice Gh F9.length Gk)) (fun _ hk => trivial)⟩, ⟨Cmp.bw D4.out⟩, ⟨Cmp.bw D1.out⟩, ⟨IsS146.go Dg.out⟩, ⟨Cmp.kk HK.out⟩, ⟨IsS146.bl HB.out⟩⟩
      ·replace c70 := Bool.eq_false_iff.mpr c70
       subst c70
       have H1 : (spec_l14Account.l0 kj21 a1 Es (wrap64 (El - 1)) s0_0 F7 F8 Dm Dn Dx) = some (r1, r2, r3, r4, r5, r6) := by rw [if_neg (show ¬ (false = true) by decide)] at H; exact H
       clear H; have H := H1; clear H1
       have H' := Aside0.mk H
       clear H
       go_wp2_with (first | ((with_reducible refine gate_callee (f := 55) rfl ?_); refine goesL_ (some 69) rfl rfl Try.func55 (by kernel_rfl) rfl #[.pointer (some ⟨g, 0, none⟩), .int .i64 5] rfl Cmp.q ?_; (with_reducible refine (spec_l1Once.calls g s0_0 Dr Ds 5 false F7 F8 w0 _ ?side1 ?side2 Ky.out).mono ?_); (case side1 => exact IsS146.go Dg.out); (case side2 => exact IsS146.bl HB.out); rintro e w82 ⟨rfl, hi, hb, hk⟩; refine ⟨_, rfl, ?_⟩; replace Dc := Aside0.mk (Kd.R_mono (Kd.R_keep (IsS146.apart (show IsS146 w0 _ g s0_0 Dr Ds from IsS146.go Dg.out) (Cmp.rr Dc.out) (by decide)) hk (fun _ h => h.2)) (fun _ h => h.1)); replace D0 := Aside0.mk (Kd.R_mono (Kd.R_keep (IsS146.apart (show IsS146 w0 _ g s0_0 Dr Ds from IsS146.go Dg.out) (Cmp.rr D0.out) (by decide)) hk (fun _ h => h.2)) (fun _ h => h.1)); replace E1 := Aside0.mk (Kd.R_mono (Kd.R_keep (IsS146.apart (show IsS146 w0 _ g s0_0 Dr Ds from IsS146.go Dg.out) (Cmp.rr E1.out) (by decide)) hk (fun _ h => h.2)) (fun _ h => h.1)); replace D4 := Aside0.mk (KeepBut.blk hk (g' := De) (o := .cells #[.int .i64 0, .int .i64 0, .slice none 0 0] 26 (0, 0)) (Cmp.b D4.out) E2.out (by simp)); replace D1 := Aside0.mk (KeepBut.blk hk (g' := D9) (o := .cells #[.int .i64 Dm, .int .i64 Dn, Dl] 26 (0, 0)) (Cmp.b D1.out) Dy.out (by simp)); replace D2 := Aside0.mk (KeepBut.blk hk (g' := Da) (o := .cells #[.int .i64 Dt, .int .i64 Du, .int .i64 Dv, .int .i64 (wrap64 (3 + Dw))] 84 (0, 0)) (Cmp.b D2.out) E8.out (by simp)); replace D8 := Aside0.mk (KeepBut.blk hk (g' := D3) (o := .cells #[.int .i64 Dz, .int .i64 E0, Ed] 26 (0, 0)) (Cmp.b D8.out) E3.out (by simp)); replace HK := Aside0.mk (KeepBut.trans (Cmp.kk HK.out) hk (.inl rfl)); replace HB := Aside0.mk (hb); replace Dg := Aside0.mk (hi); (try clear hb); (try clear hb2); (try clear hk); (try clear hi)))
       go_roundg kj21
       case measure => have := HK1.out; have := HJ21.out; omega
       case rel => exact ⟨(Es), (wrap64 (El - 1)), (F7), (F8), (Dm), (Dn), (Dx), (Dl), (by first | rfl | simp | simp [*]), H', ⟨by have := HK1.out; have := HJ21.out; omega⟩, ⟨by (with_reducible repeat (first | apply Kd.R_alloc | apply Kd.R_drewN | apply Kd.R_drew)); exact Kd.R_mono Dc.out (fun _ hk => trivial)⟩, ⟨by (with_reducible repeat (first | apply Kd.R_alloc | apply Kd.R_drewN | apply Kd.R_drew)); exact Kd.R_mono D0.out (fun _ hk => trivial)⟩, Cmp.bq D4, Cmp.bq D1, ⟨IsS146.go Dg.out⟩, ⟨Cmp.kk HK.out⟩, ⟨IsS146.bl HB.out⟩⟩
   ·rw [if_neg c16] at H; have c16b0 : decide (0 < El) = false := decide_eq_false c16; clear c16
    simp only [Option.some.injEq, Prod.mk.injEq] at H
    obtain ⟨rfl, rfl, rfl, rfl, rfl, rfl⟩ := H; have Lk := Ec.out; have M5 := Eb.out; have Ll := Dy.out; have M6 := Em.out
    have Jt : wr.cell? ⟨D9, 0, none⟩ = some (.int .i64 D6) := (blk_cell D1.out 0).trans rfl
    have Ju : wr.cell? ⟨D9, 1, none⟩ = some (.int .i64 D7) := (blk_cell D1.out 1).trans rfl
    have Jv : wr.cell? ⟨D9, 2, none⟩ = some (Dl) := (blk_cell D1.out 2).trans rfl
    have Ke := blk_frozen D1.out 0; have Kf := blk_frozen D1.out 1; have Kg := blk_frozen D1.out 2; have Lm := E2.out; have M7 := Fc.out
    have Jw : wr.cell? ⟨De, 0, none⟩ = some (.int .i64 0) := (blk_cell D4.out 0).trans rfl
    have Jx : wr.cell? ⟨De, 1, none⟩ = some (.int .i64 0) := (blk_cell D4.out 1).trans rfl
    have Jy : wr.cell? ⟨De, 2, none⟩ = some (.slice none 0 0) := (blk_cell D4.out 2).trans rfl
    have Kh := blk_frozen D4.out 0; have Ki := blk_frozen D4.out 1; have Kj := blk_frozen D4.out 2
    obtain ⟨Gi, Gl, Kr⟩ := Kd.R_slice D0.out
    subst Kr
    go_wp2
    refine bodyPost_ret (results_ct rfl _ _ De 26 #[.int .i64 D6, .int .i64 D7, .slice Gi D5.length Gl] (0, 0) _ rfl (Cmp.bw D4.out) Try.underlying26 rfl (by kernel_rfl)) rfl ?_
    exact ⟨_, _, by first | rfl | (simp [errW_none, errW_some] <;> rfl) | (simp [*, errW_none, errW_some] <;> rfl), by (with_reducible repeat (first | apply Kd.R_alloc | apply Kd.R_drewN | apply Kd.R_drew)); exact Kd.R_mono (Kd.R_far (p := ⟨De, 2, none⟩) (Kd.R_far (p := ⟨De, 1, none⟩) (Kd.R_far (p := ⟨De, 0, none⟩) (Kd.R_types D0.out D4.out (by decide)) (fun _ hk => hk.2) (.int .i64 D6)) (fun _ hk => hk.2) (.int .i64 D7)) (fun _ hk => hk.2) (.slice Gi D5.length Gl)) (fun _ hk => trivial), by (with_reducible repeat (first | apply Kd.R_alloc | apply Kd.R_drewN | apply Kd.R_drew)); exact Kd.R_mono (Kd.R_far (p := ⟨De, 2, none⟩) (Kd.R_far (p := ⟨De, 1, none⟩) (Kd.R_far (p := ⟨De, 0, none⟩) (Kd.R_types Dc.out D4.out (by decide)) (fun _ hk => hk.2) (.int .i64 D6)) (fun _ hk => hk.2) (.int .i64 D7)) (fun _ hk => hk.2) (.slice Gi D5.length Gl)) (fun _ hk => trivial), IsS146.go Dg.out, IsS146.bl HB.out, Cmp.kk HK.out⟩

end Go.Proofs.Ytgcipecdaimjfaa.PFnCredentials

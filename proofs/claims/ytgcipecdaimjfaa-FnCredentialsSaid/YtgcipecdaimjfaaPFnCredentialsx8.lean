/- Printed functions of the program (by a changed copy of the printer). No condition. -/
import Derived.Test.YtgcipecdaimjfaaCmp
import Derived.Test.YtgcipecdaimjfaaPFnCredentialsx0
import Derived.Test.YtgcipecdaimjfaaPFnCredentialsx2
import Derived.Test.YtgcipecdaimjfaaPFnCredentialsx7
namespace Go.Proofs.Ytgcipecdaimjfaa.PFnCredentials
open Go.Proofs.Ytgcipecdaimjfaa
open Go.RowKit Go.Proofs.YtgcipecdaimjfaaW.PrintWords Go.Proofs.YtgcipecdaimjfaaW.PrintLast Go.Proofs.YtgcipecdaimjfaaW.PrintMore
attribute [local go_sem] max2_int min2_int max_two min_two max_three min_three max_four min_four   -- for this text's walks alone
set_option linter.unusedVariables false
set_option linter.unusedSimpArgs false

/-! ### spec_l14Any: function 51 -/
def spec_l14Any.f (k : Nat) (s0_0 : List Int) (s0_1 : Int) (s0_2 : Int) : Option (Int × Int × (List (S35)) × Int × Int) := (spec_l14Account.f k s0_0 s0_1 s0_2 (⟨#[98, 97, 110, 107, 46, 99, 111, 109]⟩ : ByteArray)).bind fun bt320 => ((spec_l1Below.f s0_0 bt320.2.2.2.2.1 bt320.2.2.2.2.2 12).bind fun bt331 => (if bt331.1 = 0 then ((spec_l1Int.f s0_0 bt331.2.1 bt331.2.2 (([(-1), 1000000, 1000001] : List Int))).bind fun bt337 => (some (bt337.1, bt320.2.1, bt320.2.2.1, bt337.2.1, bt337.2.2))) else (if bt331.1 = 1 then ((spec_l1Int.f s0_0 bt331.2.1 bt331.2.2 (([0, 4] : List Int))).bind fun bt343 => (some (bt320.1, bt343.1, bt320.2.2.1, bt343.2.1, bt343.2.2))) else (if bt331.1 = 2 then ((spec_l1Below.f s0_0 bt331.2.1 bt331.2.2 9).bind fun bt346 => ((spec_l1Int.f s0_0 bt346.2.1 bt346.2.2 (([0, 5, 7] : List Int))).bind fun bt352 => ((spec_l1Int.f s0_0 bt352.2.1 bt352.2.2 (([(-1), 0, 1000001] : List Int))).bind fun bt358 => (if bt320.2.2.1.length < 4398046511104 then (some (bt320.1, bt320.2.1, (bt320.2.2.1 ++ [(⟨wrap64 (bt346.1 - 1), bt352.1, bt358.1, false⟩ : S35)]), bt358.2.1, bt358.2.2)) else (none))))) else (some (bt320.1, bt320.2.1, bt320.2.2.1, bt331.2.1, bt331.2.2))))))
theorem spec_l14Any.mono : ∀ a0 a1 a2 k, LeO (spec_l14Any.f k a0 a1 a2) (spec_l14Any.f (k + 1) a0 a1 a2) := by
  intro a0 a1 a2 k
  unfold spec_l14Any.f
  repeat' first
      | (with_reducible exact spec_l14Account.mono _ _ _ _ _)
      | (with_reducible exact LeO.refl _)
      | (with_reducible exact LeO.none _)
      | (with_reducible refine LeO.ite ?_ ?_)
      | (with_reducible refine LeO.bind ?_ (fun _ => ?_))
      | exact spec_l14Account.mono _ _ _ _ _
      | exact LeO.none _
      | refine LeO.ite ?_ ?_
      | refine LeO.bind ?_ (fun _ => ?_)
def spec_l14Any.T8 : Bool × List (List Nat × List Nat) := (true, [([], []), ([0], [0]), ([], []), ([2], [2]), ([3], [3]), ([], []), ([], []), ([5, 6, 3], [5, 6]), ([], []), ([], []), ([8, 9, 7], [8, 9]), ([4, 7, 10], [4, 7, 10]), ([11], [11]), ([1, 12, 10], [1, 12]), ([0, 1, 2, 3, 4, 5, 6, 7, 8, 9, 10, 11, 12, 13], []), ([14, 13, 13, 0, 1, 2, 3, 4, 5, 6, 7, 8, 9, 10, 11, 12, 13], [13, 14])])
def spec_l14Any.B8 : List Nat := [0, 1, 0, 4, 12, 0, 0, 108, 0, 0, 1004, 2044, 4092, 8191, 16383, 32767]
theorem spec_l14Any.tab8 : rtab .any (opsOf Try.f51 8) = spec_l14Any.T8 := by kernel_rfl
theorem spec_l14Any.bits8 : waitsOk spec_l14Any.T8.2 spec_l14Any.B8 = true := by kernel_rfl
set_option maxHeartbeats 8000000 in
set_option maxRecDepth 100000 in
theorem spec_l14Any.calls (k : Nat) (g : Nat) (s0_0 : List Int) (s0_1 : Int) (s0_2 : Int) (r1 : Int) (r2 : Int) (r3 : List (S35)) (r4 : Int) (r5 : Int) (w0 w : World) (hI : IsS146 w0 w g s0_0 s0_1 s0_2) (hB : Below w0.heap.size w0 w) (h : spec_l14Any.f k s0_0 s0_1 s0_2 = some (r1, r2, r3, r4, r5)) :
    Calls Try.prog 51 #[.pointer (some ⟨g, 0, none⟩)] w fun e w' => ∃ v2_ : Value, e = .returned (.agg #[.int .i64 r1, .int .i64 r2, v2_]) ∧ Kd.R k35 35 w' w.heap.size (fun _ => True) v2_ r3 ∧ IsS146 w0 w' g s0_0 r4 r5 ∧ Below w0.heap.size w0 w' ∧ KeepBut w w' g none := by
 have hu26 := Try.underlying26; have hu35 := Try.underlying35; have D7 := Aside0.mk hI
 have HK := Aside0.mk (KeepBut.refl w g none)
 have HL := Aside0.mk hB.size; clear hI; have HW0 := Aside0.mk hB.size; have HB := Aside0.mk hB; clear hB
 have H : ((spec_l14Account.f k s0_0 s0_1 s0_2 (⟨#[98, 97, 110, 107, 46, 99, 111, 109]⟩ : ByteArray)).bind fun bt320 => ((spec_l1Below.f s0_0 bt320.2.2.2.2.1 bt320.2.2.2.2.2 12).bind fun bt331 => (if bt331.1 = 0 then ((spec_l1Int.f s0_0 bt331.2.1 bt331.2.2 (([(-1), 1000000, 1000001] : List Int))).bind fun bt337 => (some (bt337.1, bt320.2.1, bt320.2.2.1, bt337.2.1, bt337.2.2))) else (if bt331.1 = 1 then ((spec_l1Int.f s0_0 bt331.2.1 bt331.2.2 (([0, 4] : List Int))).bind fun bt343 => (some (bt320.1, bt343.1, bt320.2.2.1, bt343.2.1, bt343.2.2))) else (if bt331.1 = 2 then ((spec_l1Below.f s0_0 bt331.2.1 bt331.2.2 9).bind fun bt346 => ((spec_l1Int.f s0_0 bt346.2.1 bt346.2.2 (([0, 5, 7] : List Int))).bind fun bt352 => ((spec_l1Int.f s0_0 bt352.2.1 bt352.2.2 (([(-1), 0, 1000001] : List Int))).bind fun bt358 => (if bt320.2.2.1.length < 4398046511104 then (some (bt320.1, bt320.2.1, (bt320.2.2.1 ++ [(⟨wrap64 (bt346.1 - 1), bt352.1, bt358.1, false⟩ : S35)]), bt358.2.1, bt358.2.2)) else (none))))) else (some (bt320.1, bt320.2.1, bt320.2.2.1, bt331.2.1, bt331.2.2))))))) = some (r1, r2, r3, r4, r5) := h
 clear h; replace H := Option.bind_eq_some_iff.mp H; obtain ⟨⟨D9, Da, D5, Dm, Dk, Dl⟩, Js, H⟩ := H; (try dsimp only at H); have A2 := Aside0.mk Js; clear Js; replace H := Option.bind_eq_some_iff.mp H; obtain ⟨⟨Ds, Dg, Dh⟩, Jt, H⟩ := H; (try dsimp only at H); have A3 := Aside0.mk Jt; clear Jt
 by_cases c4 : Ds = 0
 ·rw [if_pos c4] at H; have c4b0 : (Ds == 0) = true := beq_iff_eq.mpr c4; have c4b1 : (Ds != 0) = false := bne_eq_false_iff_eq.mpr c4; clear c4
  obtain ⟨Eu, hy334⟩ : ∃ y_ : List Int, y_ = (([(-1), 1000000, 1000001] : List Int)) := ⟨_, rfl⟩
  replace H : ((spec_l1Int.f s0_0 Dg Dh Eu).bind fun bt337 => (some (bt337.1, Da, D5, bt337.2.1, bt337.2.2))) = some (r1, r2, r3, r4, r5) := by first | (rw [hy334]; with_reducible exact H) | (have H2_ := (Option.bind_some _ _).symm.trans H; rw [hy334]; with_reducible exact H2_) | (have H2_ := (Option.bind_some _ _).symm.trans H; with_reducible exact H2_) | with_reducible exact H | (rw [hy334]; exact H) | exact H
  have Eq := Aside0.mk hy334; clear hy334; replace H := Option.bind_eq_some_iff.mp H; obtain ⟨⟨Em, Jo, Jp⟩, Jv, H⟩ := H; (try dsimp only at H); have A5 := Aside0.mk Jv; clear Jv
  simp only [Option.some.injEq, Prod.mk.injEq] at H
  obtain ⟨rfl, rfl, rfl, rfl, rfl⟩ := H
  go_enter Try.func51, Try.ntmps51
  go_wp2_with (first | ((with_reducible refine gate_dst (N := 2) rfl ?_); refine box_event ?hg (N := 2) ?hd (cs := #[.int .i64 0, .int .i64 0, .slice none 0 0]) (t := 26) ?hr ?_; (case hd => rfl); (case hg => rfl); (case hr => first | (go_simp; done) | (go_simp; rfl)); intro D6 hg w6 hbox hb; have D1 := Aside0.mk (hbox); have Ee := Aside0.mk ((by rw [hg]; exact (keep_size (w := w) (g := g) (row := none) (Cmp.kk HK.out)) : w.heap.size ≤ D6)); have Ec := Aside0.mk ((Nat.le_trans HW0.out (by rw [hg]; exact (keep_size (w := w) (g := g) (row := none) (Cmp.kk HK.out)) : w.heap.size ≤ D6) : w0.heap.size ≤ D6)); have Dq := Aside0.mk ((by rw [hg]; exact Nat.ne_of_lt (IsS146.lt (show IsS146 w0 _ g s0_0 s0_1 s0_2 from IsS146.go D7.out)) : g ≠ D6)); have De := Aside0.mk ((by rw [hg]; exact Nat.ne_of_gt (IsS146.lt (show IsS146 w0 _ g s0_0 s0_1 s0_2 from IsS146.go D7.out)) : D6 ≠ g)); replace HK := Aside0.mk (KeepBut.trans (Cmp.kk HK.out) (KeepBut.of_below hb g none) (.inl rfl)); replace HB := Aside0.mk (below_step (IsS146.bl HB.out) hb); replace D7 := Aside0.mk (IsS146.below (IsS146.go D7.out) hb); clear hb hbox hg) | ((with_reducible refine gate_callee (f := 113) rfl ?_); refine goesL_ (some 7) rfl rfl Try.func113 (by kernel_rfl) rfl #[.pointer (some ⟨g, 0, none⟩), .string (⟨#[98, 97, 110, 107, 46, 99, 111, 109]⟩ : ByteArray)] rfl Cmp.q ?_; (with_reducible refine (spec_l14Account.calls k g s0_0 s0_1 s0_2 (⟨#[98, 97, 110, 107, 46, 99, 111, 109]⟩ : ByteArray) D9 Da D5 Dm Dk Dl w0 _ ?side1 ?side2 A2.out).mono ?_); (case side1 => exact IsS146.go D7.out); (case side2 => exact IsS146.bl HB.out); rintro e w7 ⟨v323, v326, rfl, Eh, Ei, hi, hb, hk⟩; refine ⟨_, rfl, ?_⟩; have D3 := Aside0.mk (Kd.R_lower Eh (keep_size (w := w) (g := g) (row := none) (Cmp.kk HK.out))); have D4 := Aside0.mk (Kd.R_lower Ei (keep_size (w := w) (g := g) (row := none) (Cmp.kk HK.out))); replace D1 := Aside0.mk (KeepBut.blk hk (g' := D6) (o := .cells #[.int .i64 0, .int .i64 0, .slice none 0 0] 26 (0, 0)) (Cmp.b D1.out) De.out (by simp)); replace HK := Aside0.mk (KeepBut.trans (Cmp.kk HK.out) hk (.inl rfl)); replace HB := Aside0.mk (hb); replace D7 := Aside0.mk (hi); (try clear hb); (try clear hb2); (try clear hk); (try clear hi); (try clear Eh); (try clear Ei)) | ((with_reducible refine gate_dst (N := 3) rfl ?_); refine box_event ?hg (N := 3) ?hd (cs := #[.int .i64 0, .int .i64 0, .slice none 0 0]) (t := 26) ?hr ?_; (case hd => rfl); (case hg => rfl); (case hr => first | (go_simp; done) | (go_simp; rfl)); intro D2 hg w8 hbox hb; have D0 := Aside0.mk (hbox); have Ef := Aside0.mk ((by rw [hg]; exact (keep_size (w := w) (g := g) (row := none) (Cmp.kk HK.out)) : w.heap.size ≤ D2)); have Ed := Aside0.mk ((Nat.le_trans HW0.out (by rw [hg]; exact (keep_size (w := w) (g := g) (row := none) (Cmp.kk HK.out)) : w.heap.size ≤ D2) : w0.heap.size ≤ D2)); have Di := Cmp.nl hg D1; have Dj := Cmp.ng hg D1; have Dr := Aside0.mk ((by rw [hg]; exact Nat.ne_of_lt (IsS146.lt (show IsS146 w0 _ g s0_0 Dk Dl from IsS146.go D7.out)) : g ≠ D2)); have Df := Aside0.mk ((by rw [hg]; exact Nat.ne_of_gt (IsS146.lt (show IsS146 w0 _ g s0_0 Dk Dl from IsS146.go D7.out)) : D2 ≠ g)); replace D3 := Aside0.mk (Kd.R_below (Cmp.rr D3.out) hb); replace D4 := Aside0.mk (Kd.R_below (Cmp.rr D4.out) hb); replace D1 := Cmp.be D1 hb; replace HK := Aside0.mk (KeepBut.trans (Cmp.kk HK.out) (KeepBut.of_below hb g none) (.inl rfl)); replace HB := Aside0.mk (below_step (IsS146.bl HB.out) hb); replace D7 := Aside0.mk (IsS146.below (IsS146.go D7.out) hb); clear hb hbox hg; have Kl := Dj.out; have Km := Di.out; have Jw := Df.out; have K7 := Dr.out; have Fc := Cmp.c0 D0; have Fd := Cmp.c1 D0; have Fe := Cmp.c2 D0; have Gc := blk_frozen D0.out 0; have Gd := blk_frozen D0.out 1; have Ge := blk_frozen D0.out 2; obtain ⟨E6, E8, Ji⟩ := Kd.R_slice D3.out; subst Ji) | ((with_reducible refine gate_callee (f := 106) rfl ?_); refine goesL_ (some 11) rfl rfl Try.func106 (by kernel_rfl) rfl #[.pointer (some ⟨g, 0, none⟩), .int .i64 12] rfl Cmp.q ?_; (with_reducible refine (spec_l1Below.calls g s0_0 Dk Dl 12 Ds Dg Dh w0 _ ?side1 ?side2 A3.out).mono ?_); (case side1 => exact IsS146.go D7.out); (case side2 => exact IsS146.bl HB.out); rintro e w13 ⟨rfl, hi, hb, hk⟩; refine ⟨_, rfl, ?_⟩; replace D1 := Aside0.mk (KeepBut.blk hk (g' := D6) (o := .cells #[.int .i64 0, .int .i64 0, .slice none 0 0] 26 (0, 0)) (Cmp.bw D1.out) De.out (by simp)); replace D3 := Aside0.mk (Kd.R_mono (Kd.R_keep (IsS146.apart (show IsS146 w0 _ g s0_0 Dk Dl from IsS146.go D7.out) (by (with_reducible repeat (first | apply Kd.R_alloc | apply Kd.R_drewN | apply Kd.R_drew)); exact (Kd.R_mono (Kd.R_far (p := ⟨D2, 2, none⟩) (Kd.R_far (p := ⟨D2, 1, none⟩) (Kd.R_far (p := ⟨D2, 0, none⟩) (Kd.R_types D3.out D0.out (by decide)) (fun _ hk => hk.2) (.int .i64 D9)) (fun _ hk => hk.2) (.int .i64 Da)) (fun _ hk => hk.2) (.slice E6 D5.length E8)) (fun _ h_ => h_.1))) (by decide)) hk (fun _ h => h.2)) (fun _ h => h.1)); replace D4 := Aside0.mk (Kd.R_mono (Kd.R_keep (IsS146.apart (show IsS146 w0 _ g s0_0 Dk Dl from IsS146.go D7.out) (by (with_reducible repeat (first | apply Kd.R_alloc | apply Kd.R_drewN | apply Kd.R_drew)); exact (Kd.R_mono (Kd.R_far (p := ⟨D2, 2, none⟩) (Kd.R_far (p := ⟨D2, 1, none⟩) (Kd.R_far (p := ⟨D2, 0, none⟩) (Kd.R_types D4.out D0.out (by decide)) (fun _ hk => hk.2) (.int .i64 D9)) (fun _ hk => hk.2) (.int .i64 Da)) (fun _ hk => hk.2) (.slice E6 D5.length E8)) (fun _ h_ => h_.1))) (by decide)) hk (fun _ h => h.2)) (fun _ h => h.1)); replace D0 := Aside0.mk (KeepBut.blk hk (g' := D2) (o := .cells #[.int .i64 D9, .int .i64 Da, .slice E6 D5.length E8] 26 (0, 0)) (Cmp.bw D0.out) Df.out (by simp)); replace HK := Aside0.mk (KeepBut.trans (Cmp.kk HK.out) hk (.inl rfl)); replace HB := Aside0.mk (hb); replace D7 := Aside0.mk (hi); (try clear hb); (try clear hb2); (try clear hk); (try clear hi)) | ((with_reducible refine gate_dst (N := 15) rfl ?_); refine Kd.R_lit (Kd.int .i64) _ 3 ?hg (N := 15) ?hd (xs := ([(-1), 1000000, 1000001] : List Int)) (inner := [.int .i64 (-1), .int .i64 1000000, .int .i64 1000001]) (ok := fun _ => True) (okp := fun _ => True) ?hr ?hp (fun _ hk => hk) trivial (Below.refl _ _) (Nat.le_refl _) (by simp) ?_; (case hd => rfl); (case hg => rfl); (case hr => first | (go_simp; done) | (go_simp; rfl)); (case hp => exact (Reps.one (show Kd.M (Kd.int .i64) _ _ _ (-1) [.int .i64 (-1)] from rfl) (Reps.one (show Kd.M (Kd.int .i64) _ _ _ 1000000 [.int .i64 1000000] from rfl) (Reps.one (show Kd.M (Kd.int .i64) _ _ _ 1000001 [.int .i64 1000001] from rfl) (Reps.none _ _))))); intro v335 w14 Ej hb hg_ hnew_; clear hg_ hnew_; (first | rw [← Eq.out] at Ej | (simp only [Int.reduceToNat] at Ej; rw [← Eq.out] at Ej)); have E3 := Aside0.mk (Kd.R_lower Ej (keep_size (w := w) (g := g) (row := none) (Cmp.kk HK.out))); replace D3 := Aside0.mk (Kd.R_below (Cmp.rr D3.out) hb); replace D4 := Aside0.mk (Kd.R_below (Cmp.rr D4.out) hb); replace D1 := Cmp.be D1 hb; replace D0 := Cmp.be D0 hb; replace HK := Aside0.mk (KeepBut.trans (Cmp.kk HK.out) (KeepBut.of_below hb g none) (.inl rfl)); replace HB := Aside0.mk (below_step (IsS146.bl HB.out) hb); replace D7 := Aside0.mk (IsS146.below (IsS146.go D7.out) hb); clear hb Ej; obtain ⟨Jc, Jf, Jj⟩ := Kd.R_slice E3.out; subst Jj) | ((with_reducible refine gate_callee (f := 52) rfl ?_); refine goesL_ (some 16) rfl rfl Try.func52 (by kernel_rfl) rfl #[.pointer (some ⟨g, 0, none⟩), .slice Jc Eu.length Jf] rfl Cmp.q ?_; (with_reducible refine (spec_l1Int.calls g s0_0 Dg Dh _ _ Eu Em Jo Jp w0 _ ?side1 ?side2 ?side3 ?side4 ?side5 A5.out).mono ?_); (case side1 => exact IsS146.go D7.out); (case side2 => exact IsS146.bl HB.out); (case side3 => exact Cmp.rc (Kd.R_reads' E3.out).2.2); (case side4 => exact (Kd.R_reads' E3.out).2.1); (case side5 => exact far_slice (IsS146.own_ne D7.out E3.out (by decide))); rintro e w17 ⟨rfl, hi, hb, hk⟩; refine ⟨_, rfl, ?_⟩; replace D1 := Aside0.mk (KeepBut.blk hk (g' := D6) (o := .cells #[.int .i64 0, .int .i64 0, .slice none 0 0] 26 (0, 0)) (Cmp.b D1.out) De.out (by simp)); replace D3 := Aside0.mk (Kd.R_mono (Kd.R_keep (IsS146.apart (show IsS146 w0 _ g s0_0 Dg Dh from IsS146.go D7.out) (Cmp.rr D3.out) (by decide)) hk (fun _ h => h.2)) (fun _ h => h.1)); replace D4 := Aside0.mk (Kd.R_mono (Kd.R_keep (IsS146.apart (show IsS146 w0 _ g s0_0 Dg Dh from IsS146.go D7.out) (Cmp.rr D4.out) (by decide)) hk (fun _ h => h.2)) (fun _ h => h.1)); replace D0 := Aside0.mk (KeepBut.blk hk (g' := D2) (o := .cells #[.int .i64 D9, .int .i64 Da, .slice E6 D5.length E8] 26 (0, 0)) (Cmp.b D0.out) Df.out (by simp)); replace E3 := Aside0.mk (Kd.R_mono (Kd.R_keep (IsS146.apart (show IsS146 w0 _ g s0_0 Dg Dh from IsS146.go D7.out) (Cmp.rr E3.out) (by decide)) hk (fun _ h => h.2)) (fun _ h => h.1)); replace HK := Aside0.mk (KeepBut.trans (Cmp.kk HK.out) hk (.inl rfl)); replace HB := Aside0.mk (hb); replace D7 := Aside0.mk (hi); (try clear hb); (try clear hb2); (try clear hk); (try clear hi); have Ff := Cmp.c0 D0; have Fg := Cmp.c1 D0; have Fh := Cmp.c2 D0; have Gf := blk_frozen D0.out 0; have Gg := blk_frozen D0.out 1; have Gh := blk_frozen D0.out 2; have Jx := De.out; have K8 := Dq.out; have Fi := Cmp.c0 D1; have Fj := Cmp.c1 D1; have Fk := Cmp.c2 D1; have Gi := blk_frozen D1.out 0; have Gj := blk_frozen D1.out 1; have Gk := blk_frozen D1.out 2))
  refine bodyPost_ret (results_cell_row rfl _ _ D6 26 #[.int .i64 Em, .int .i64 Da, .slice E6 D5.length E8] (0, 0) _ rfl (Cmp.bw D1.out) Try.underlying26 rfl (by kernel_rfl)) rfl ?_
  exact ⟨_, by first | rfl | (simp [errW_none, errW_some] <;> rfl) | (simp [*, errW_none, errW_some] <;> rfl), by (with_reducible repeat (first | apply Kd.R_alloc | apply Kd.R_drewN | apply Kd.R_drew)); exact Kd.R_mono (Kd.R_far (p := ⟨D6, 2, none⟩) (Kd.R_far (p := ⟨D6, 1, none⟩) (Kd.R_far (p := ⟨D6, 0, none⟩) (Kd.R_far (p := ⟨D2, 0, none⟩) (Kd.R_types (Kd.R_types D3.out D0.out (by decide)) D1.out (by decide)) (fun _ hk => hk.1.2) (.int .i64 Em)) (fun _ hk => hk.2) (.int .i64 Em)) (fun _ hk => hk.2) (.int .i64 Da)) (fun _ hk => hk.2) (.slice E6 D5.length E8)) (fun _ hk => trivial), IsS146.go D7.out, IsS146.bl HB.out, Cmp.kk HK.out⟩
 ·rw [if_neg c4] at H; have c4b0 : (Ds == 0) = false := beq_eq_false_iff_ne.mpr c4; have c4b1 : (Ds != 0) = true := bne_iff_ne.mpr c4
  by_cases c21 : Ds = 1
  ·rw [if_pos c21] at H; have c21b0 : (Ds == 1) = true := beq_iff_eq.mpr c21; have c21b1 : (Ds != 1) = false := bne_eq_false_iff_eq.mpr c21; clear c21
   obtain ⟨Ev, hy340⟩ : ∃ y_ : List Int, y_ = (([0, 4] : List Int)) := ⟨_, rfl⟩
   replace H : ((spec_l1Int.f s0_0 Dg Dh Ev).bind fun bt343 => (some (D9, bt343.1, D5, bt343.2.1, bt343.2.2))) = some (r1, r2, r3, r4, r5) := by first | (rw [hy340]; with_reducible exact H) | (have H2_ := (Option.bind_some _ _).symm.trans H; rw [hy340]; with_reducible exact H2_) | (have H2_ := (Option.bind_some _ _).symm.trans H; with_reducible exact H2_) | with_reducible exact H | (rw [hy340]; exact H) | exact H
   have Er := Aside0.mk hy340; clear hy340; replace H := Option.bind_eq_some_iff.mp H; obtain ⟨⟨En, Jq, Jr⟩, Ew, H⟩ := H; (try dsimp only at H); have Kj := Aside0.mk Ew; clear Ew
   simp only [Option.some.injEq, Prod.mk.injEq] at H
   obtain ⟨rfl, rfl, rfl, rfl, rfl⟩ := H
   go_enter Try.func51, Try.ntmps51
   go_wp2_with (first | ((with_reducible refine gate_dst (N := 2) rfl ?_); refine box_event ?hg (N := 2) ?hd (cs := #[.int .i64 0, .int .i64 0, .slice none 0 0]) (t := 26) ?hr ?_; (case hd => rfl); (case hg => rfl); (case hr => first | (go_simp; done) | (go_simp; rfl)); intro D6 hg w23 hbox hb; have D1 := Aside0.mk (hbox); have Ee := Aside0.mk ((by rw [hg]; exact (keep_size (w := w) (g := g) (row := none) (Cmp.kk HK.out)) : w.heap.size ≤ D6)); have Ec := Aside0.mk ((Nat.le_trans HW0.out (by rw [hg]; exact (keep_size (w := w) (g := g) (row := none) (Cmp.kk HK.out)) : w.heap.size ≤ D6) : w0.heap.size ≤ D6)); have Dq := Aside0.mk ((by rw [hg]; exact Nat.ne_of_lt (IsS146.lt (show IsS146 w0 _ g s0_0 s0_1 s0_2 from IsS146.go D7.out)) : g ≠ D6)); have De := Aside0.mk ((by rw [hg]; exact Nat.ne_of_gt (IsS146.lt (show IsS146 w0 _ g s0_0 s0_1 s0_2 from IsS146.go D7.out)) : D6 ≠ g)); replace HK := Aside0.mk (KeepBut.trans (Cmp.kk HK.out) (KeepBut.of_below hb g none) (.inl rfl)); replace HB := Aside0.mk (below_step (IsS146.bl HB.out) hb); replace D7 := Aside0.mk (IsS146.below (IsS146.go D7.out) hb); clear hb hbox hg) | ((with_reducible refine gate_callee (f := 113) rfl ?_); refine goesL_ (some 7) rfl rfl Try.func113 (by kernel_rfl) rfl #[.pointer (some ⟨g, 0, none⟩), .string (⟨#[98, 97, 110, 107, 46, 99, 111, 109]⟩ : ByteArray)] rfl Cmp.q ?_; (with_reducible refine (spec_l14Account.calls k g s0_0 s0_1 s0_2 (⟨#[98, 97, 110, 107, 46, 99, 111, 109]⟩ : ByteArray) D9 Da D5 Dm Dk Dl w0 _ ?side1 ?side2 A2.out).mono ?_); (case side1 => exact IsS146.go D7.out); (case side2 => exact IsS146.bl HB.out); rintro e w24 ⟨v323, v326, rfl, Eh, Ei, hi, hb, hk⟩; refine ⟨_, rfl, ?_⟩; have D3 := Aside0.mk (Kd.R_lower Eh (keep_size (w := w) (g := g) (row := none) (Cmp.kk HK.out))); have D4 := Aside0.mk (Kd.R_lower Ei (keep_size (w := w) (g := g) (row := none) (Cmp.kk HK.out))); replace D1 := Aside0.mk (KeepBut.blk hk (g' := D6) (o := .cells #[.int .i64 0, .int .i64 0, .slice none 0 0] 26 (0, 0)) (Cmp.b D1.out) De.out (by simp)); replace HK := Aside0.mk (KeepBut.trans (Cmp.kk HK.out) hk (.inl rfl)); replace HB := Aside0.mk (hb); replace D7 := Aside0.mk (hi); (try clear hb); (try clear hb2); (try clear hk); (try clear hi); (try clear Eh); (try clear Ei)) | ((with_reducible refine gate_dst (N := 3) rfl ?_); refine box_event ?hg (N := 3) ?hd (cs := #[.int .i64 0, .int .i64 0, .slice none 0 0]) (t := 26) ?hr ?_; (case hd => rfl); (case hg => rfl); (case hr => first | (go_simp; done) | (go_simp; rfl)); intro D2 hg w25 hbox hb; have D0 := Aside0.mk (hbox); have Ef := Aside0.mk ((by rw [hg]; exact (keep_size (w := w) (g := g) (row := none) (Cmp.kk HK.out)) : w.heap.size ≤ D2)); have Ed := Aside0.mk ((Nat.le_trans HW0.out (by rw [hg]; exact (keep_size (w := w) (g := g) (row := none) (Cmp.kk HK.out)) : w.heap.size ≤ D2) : w0.heap.size ≤ D2)); have Di := Cmp.nl hg D1; have Dj := Cmp.ng hg D1; have Dr := Aside0.mk ((by rw [hg]; exact Nat.ne_of_lt (IsS146.lt (show IsS146 w0 _ g s0_0 Dk Dl from IsS146.go D7.out)) : g ≠ D2)); have Df := Aside0.mk ((by rw [hg]; exact Nat.ne_of_gt (IsS146.lt (show IsS146 w0 _ g s0_0 Dk Dl from IsS146.go D7.out)) : D2 ≠ g)); replace D3 := Aside0.mk (Kd.R_below (Cmp.rr D3.out) hb); replace D4 := Aside0.mk (Kd.R_below (Cmp.rr D4.out) hb); replace D1 := Cmp.be D1 hb; replace HK := Aside0.mk (KeepBut.trans (Cmp.kk HK.out) (KeepBut.of_below hb g none) (.inl rfl)); replace HB := Aside0.mk (below_step (IsS146.bl HB.out) hb); replace D7 := Aside0.mk (IsS146.below (IsS146.go D7.out) hb); clear hb hbox hg; have Jy := Dj.out; have K9 := Di.out; have Jz := Df.out; have Ka := Dr.out; have Fl := Cmp.c0 D0; have Fm := Cmp.c1 D0; have Fn := Cmp.c2 D0; have Gl := blk_frozen D0.out 0; have Gm := blk_frozen D0.out 1; have Gn := blk_frozen D0.out 2; obtain ⟨E7, E9, Jk⟩ := Kd.R_slice D3.out; subst Jk) | ((with_reducible refine gate_callee (f := 106) rfl ?_); refine goesL_ (some 11) rfl rfl Try.func106 (by kernel_rfl) rfl #[.pointer (some ⟨g, 0, none⟩), .int .i64 12] rfl Cmp.q ?_; (with_reducible refine (spec_l1Below.calls g s0_0 Dk Dl 12 Ds Dg Dh w0 _ ?side1 ?side2 A3.out).mono ?_); (case side1 => exact IsS146.go D7.out); (case side2 => exact IsS146.bl HB.out); rintro e w30 ⟨rfl, hi, hb, hk⟩; refine ⟨_, rfl, ?_⟩; replace D1 := Aside0.mk (KeepBut.blk hk (g' := D6) (o := .cells #[.int .i64 0, .int .i64 0, .slice none 0 0] 26 (0, 0)) (Cmp.bw D1.out) De.out (by simp)); replace D3 := Aside0.mk (Kd.R_mono (Kd.R_keep (IsS146.apart (show IsS146 w0 _ g s0_0 Dk Dl from IsS146.go D7.out) (by (with_reducible repeat (first | apply Kd.R_alloc | apply Kd.R_drewN | apply Kd.R_drew)); exact (Kd.R_mono (Kd.R_far (p := ⟨D2, 2, none⟩) (Kd.R_far (p := ⟨D2, 1, none⟩) (Kd.R_far (p := ⟨D2, 0, none⟩) (Kd.R_types D3.out D0.out (by decide)) (fun _ hk => hk.2) (.int .i64 D9)) (fun _ hk => hk.2) (.int .i64 Da)) (fun _ hk => hk.2) (.slice E7 D5.length E9)) (fun _ h_ => h_.1))) (by decide)) hk (fun _ h => h.2)) (fun _ h => h.1)); replace D4 := Aside0.mk (Kd.R_mono (Kd.R_keep (IsS146.apart (show IsS146 w0 _ g s0_0 Dk Dl from IsS146.go D7.out) (by (with_reducible repeat (first | apply Kd.R_alloc | apply Kd.R_drewN | apply Kd.R_drew)); exact (Kd.R_mono (Kd.R_far (p := ⟨D2, 2, none⟩) (Kd.R_far (p := ⟨D2, 1, none⟩) (Kd.R_far (p := ⟨D2, 0, none⟩) (Kd.R_types D4.out D0.out (by decide)) (fun _ hk => hk.2) (.int .i64 D9)) (fun _ hk => hk.2) (.int .i64 Da)) (fun _ hk => hk.2) (.slice E7 D5.length E9)) (fun _ h_ => h_.1))) (by decide)) hk (fun _ h => h.2)) (fun _ h => h.1)); replace D0 := Aside0.mk (KeepBut.blk hk (g' := D2) (o := .cells #[.int .i64 D9, .int .i64 Da, .slice E7 D5.length E9] 26 (0, 0)) (Cmp.bw D0.out) Df.out (by simp)); replace HK := Aside0.mk (KeepBut.trans (Cmp.kk HK.out) hk (.inl rfl)); replace HB := Aside0.mk (hb); replace D7 := Aside0.mk (hi); (try clear hb); (try clear hb2); (try clear hk); (try clear hi)) | ((with_reducible refine gate_dst (N := 21) rfl ?_); refine Kd.R_lit (Kd.int .i64) _ 3 ?hg (N := 21) ?hd (xs := ([0, 4] : List Int)) (inner := [.int .i64 0, .int .i64 4]) (ok := fun _ => True) (okp := fun _ => True) ?hr ?hp (fun _ hk => hk) trivial (Below.refl _ _) (Nat.le_refl _) (by simp) ?_; (case hd => rfl); (case hg => rfl); (case hr => first | (go_simp; done) | (go_simp; rfl)); (case hp => exact (Reps.one (show Kd.M (Kd.int .i64) _ _ _ 0 [.int .i64 0] from rfl) (Reps.one (show Kd.M (Kd.int .i64) _ _ _ 4 [.int .i64 4] from rfl) (Reps.none _ _)))); intro v341 w31 Ek hb hg_ hnew_; clear hg_ hnew_; (first | rw [← Er.out] at Ek | (simp only [Int.reduceToNat] at Ek; rw [← Er.out] at Ek)); have E4 := Aside0.mk (Kd.R_lower Ek (keep_size (w := w) (g := g) (row := none) (Cmp.kk HK.out))); replace D3 := Aside0.mk (Kd.R_below (Cmp.rr D3.out) hb); replace D4 := Aside0.mk (Kd.R_below (Cmp.rr D4.out) hb); replace D1 := Cmp.be D1 hb; replace D0 := Cmp.be D0 hb; replace HK := Aside0.mk (KeepBut.trans (Cmp.kk HK.out) (KeepBut.of_below hb g none) (.inl rfl)); replace HB := Aside0.mk (below_step (IsS146.bl HB.out) hb); replace D7 := Aside0.mk (IsS146.below (IsS146.go D7.out) hb); clear hb Ek; obtain ⟨Jd, Jg, Jl⟩ := Kd.R_slice E4.out; subst Jl) | ((with_reducible refine gate_callee (f := 52) rfl ?_); refine goesL_ (some 22) rfl rfl Try.func52 (by kernel_rfl) rfl #[.pointer (some ⟨g, 0, none⟩), .slice Jd Ev.length Jg] rfl Cmp.q ?_; (with_reducible refine (spec_l1Int.calls g s0_0 Dg Dh _ _ Ev En Jq Jr w0 _ ?side1 ?side2 ?side3 ?side4 ?side5 Kj.out).mono ?_); (case side1 => exact IsS146.go D7.out); (case side2 => exact IsS146.bl HB.out); (case side3 => exact Cmp.rc (Kd.R_reads' E4.out).2.2); (case side4 => exact (Kd.R_reads' E4.out).2.1); (case side5 => exact far_slice (IsS146.own_ne D7.out E4.out (by decide))); rintro e w34 ⟨rfl, hi, hb, hk⟩; refine ⟨_, rfl, ?_⟩; replace D1 := Aside0.mk (KeepBut.blk hk (g' := D6) (o := .cells #[.int .i64 0, .int .i64 0, .slice none 0 0] 26 (0, 0)) (Cmp.b D1.out) De.out (by simp)); replace D3 := Aside0.mk (Kd.R_mono (Kd.R_keep (IsS146.apart (show IsS146 w0 _ g s0_0 Dg Dh from IsS146.go D7.out) (Cmp.rr D3.out) (by decide)) hk (fun _ h => h.2)) (fun _ h => h.1)); replace D4 := Aside0.mk (Kd.R_mono (Kd.R_keep (IsS146.apart (show IsS146 w0 _ g s0_0 Dg Dh from IsS146.go D7.out) (Cmp.rr D4.out) (by decide)) hk (fun _ h => h.2)) (fun _ h => h.1)); replace D0 := Aside0.mk (KeepBut.blk hk (g' := D2) (o := .cells #[.int .i64 D9, .int .i64 Da, .slice E7 D5.length E9] 26 (0, 0)) (Cmp.b D0.out) Df.out (by simp)); replace E4 := Aside0.mk (Kd.R_mono (Kd.R_keep (IsS146.apart (show IsS146 w0 _ g s0_0 Dg Dh from IsS146.go D7.out) (Cmp.rr E4.out) (by decide)) hk (fun _ h => h.2)) (fun _ h => h.1)); replace HK := Aside0.mk (KeepBut.trans (Cmp.kk HK.out) hk (.inl rfl)); replace HB := Aside0.mk (hb); replace D7 := Aside0.mk (hi); (try clear hb); (try clear hb2); (try clear hk); (try clear hi); have Fo := Cmp.c0 D0; have Fp := Cmp.c1 D0; have Fq := Cmp.c2 D0; have Go := blk_frozen D0.out 0; have Gp := blk_frozen D0.out 1; have Gq := blk_frozen D0.out 2; have K0 := De.out; have Kb := Dq.out; have Fr := Cmp.c0 D1; have Fs := Cmp.c1 D1; have Ft := Cmp.c2 D1; have Gr := blk_frozen D1.out 0; have Gs := blk_frozen D1.out 1; have Gt := blk_frozen D1.out 2))
   refine bodyPost_ret (results_cell_row rfl _ _ D6 26 #[.int .i64 D9, .int .i64 En, .slice E7 D5.length E9] (0, 0) _ rfl (Cmp.bw D1.out) Try.underlying26 rfl (by kernel_rfl)) rfl ?_
   exact ⟨_, by first | rfl | (simp [errW_none, errW_some] <;> rfl) | (simp [*, errW_none, errW_some] <;> rfl), by (with_reducible repeat (first | apply Kd.R_alloc | apply Kd.R_drewN | apply Kd.R_drew)); exact Kd.R_mono (Kd.R_far (p := ⟨D6, 2, none⟩) (Kd.R_far (p := ⟨D6, 1, none⟩) (Kd.R_far (p := ⟨D6, 0, none⟩) (Kd.R_far (p := ⟨D2, 1, none⟩) (Kd.R_types (Kd.R_types D3.out D0.out (by decide)) D1.out (by decide)) (fun _ hk => hk.1.2) (.int .i64 En)) (fun _ hk => hk.2) (.int .i64 D9)) (fun _ hk => hk.2) (.int .i64 En)) (fun _ hk => hk.2) (.slice E7 D5.length E9)) (fun _ hk => trivial), IsS146.go D7.out, IsS146.bl HB.out, Cmp.kk HK.out⟩
  ·rw [if_neg c21] at H; have c21b0 : (Ds == 1) = false := beq_eq_false_iff_ne.mpr c21; have c21b1 : (Ds != 1) = true := bne_iff_ne.mpr c21
   by_cases c38 : Ds = 2
   ·rw [if_pos c38] at H; have c38b0 : (Ds == 2) = true := beq_iff_eq.mpr c38; have c38b1 : (Ds != 2) = false := bne_eq_false_iff_eq.mpr c38; clear c38; replace H := Option.bind_eq_some_iff.mp H; obtain ⟨⟨Dn, Do, Dp⟩, Ex, H⟩ := H; (try dsimp only at H); have Fb := Aside0.mk Ex; clear Ex
    obtain ⟨Dt, hy349⟩ : ∃ y_ : List Int, y_ = (([0, 5, 7] : List Int)) := ⟨_, rfl⟩
    replace H : ((spec_l1Int.f s0_0 Do Dp Dt).bind fun bt352 => ((spec_l1Int.f s0_0 bt352.2.1 bt352.2.2 (([(-1), 0, 1000001] : List Int))).bind fun bt358 => (if D5.length < 4398046511104 then (some (D9, Da, (D5 ++ [(⟨wrap64 (Dn - 1), bt352.1, bt358.1, false⟩ : S35)]), bt358.2.1, bt358.2.2)) else (none)))) = some (r1, r2, r3, r4, r5) := by first | (rw [hy349]; with_reducible exact H) | (have H2_ := (Option.bind_some _ _).symm.trans H; rw [hy349]; with_reducible exact H2_) | (have H2_ := (Option.bind_some _ _).symm.trans H; with_reducible exact H2_) | with_reducible exact H | (rw [hy349]; exact H) | exact H
    have Dy := Aside0.mk hy349; clear hy349; replace H := Option.bind_eq_some_iff.mp H; obtain ⟨⟨E5, Dz, E0⟩, Ey, H⟩ := H; (try dsimp only at H); have Ju := Aside0.mk Ey; clear Ey
    obtain ⟨Dx, hy355⟩ : ∃ y_ : List Int, y_ = (([(-1), 0, 1000001] : List Int)) := ⟨_, rfl⟩
    replace H : ((spec_l1Int.f s0_0 Dz E0 Dx).bind fun bt358 => (if D5.length < 4398046511104 then (some (D9, Da, (D5 ++ [(⟨wrap64 (Dn - 1), E5, bt358.1, false⟩ : S35)]), bt358.2.1, bt358.2.2)) else (none))) = some (r1, r2, r3, r4, r5) := by first | (rw [hy355]; with_reducible exact H) | (have H2_ := (Option.bind_some _ _).symm.trans H; rw [hy355]; with_reducible exact H2_) | (have H2_ := (Option.bind_some _ _).symm.trans H; with_reducible exact H2_) | with_reducible exact H | (rw [hy355]; exact H) | exact H
    have Du := Aside0.mk hy355; clear hy355; replace H := Option.bind_eq_some_iff.mp H; obtain ⟨⟨El, F9, Fa⟩, Ez, H⟩ := H; (try dsimp only at H); have Kk := Aside0.mk Ez; clear Ez
    by_cases c42 : D5.length < 4398046511104
    ·rw [if_pos c42] at H; have LMc42 := Aside0.mk c42; clear c42
     obtain ⟨Eo, hy361⟩ : ∃ y_ : List (S35), y_ = (D5 ++ [(⟨wrap64 (Dn - 1), E5, El, false⟩ : S35)]) := ⟨_, rfl⟩
     replace H : (some (D9, Da, Eo, F9, Fa)) = some (r1, r2, r3, r4, r5) := by first | (rw [hy361]; with_reducible exact H) | (have H2_ := (Option.bind_some _ _).symm.trans H; rw [hy361]; with_reducible exact H2_) | (have H2_ := (Option.bind_some _ _).symm.trans H; with_reducible exact H2_) | with_reducible exact H | (rw [hy361]; exact H) | exact H
     have F2 := Aside0.mk hy361; clear hy361
     simp only [Option.some.injEq, Prod.mk.injEq] at H
     obtain ⟨rfl, rfl, rfl, rfl, rfl⟩ := H
     go_enter Try.func51, Try.ntmps51
     try go_wp2_with (first | ((with_reducible refine gate_dst (N := 2) rfl ?_); refine box_event ?hg (N := 2) ?hd (cs := #[.int .i64 0, .int .i64 0, .slice none 0 0]) (t := 26) ?hr ?_; (case hd => rfl); (case hg => rfl); (case hr => first | (go_simp; done) | (go_simp; rfl)); intro D6 hg w43 hbox hb; have D1 := Aside0.mk (hbox); have Ee := Aside0.mk ((by rw [hg]; exact (keep_size (w := w) (g := g) (row := none) (Cmp.kk HK.out)) : w.heap.size ≤ D6)); have Ec := Aside0.mk ((Nat.le_trans HW0.out (by rw [hg]; exact (keep_size (w := w) (g := g) (row := none) (Cmp.kk HK.out)) : w.heap.size ≤ D6) : w0.heap.size ≤ D6)); have Dq := Aside0.mk ((by rw [hg]; exact Nat.ne_of_lt (IsS146.lt (show IsS146 w0 _ g s0_0 s0_1 s0_2 from IsS146.go D7.out)) : g ≠ D6)); have De := Aside0.mk ((by rw [hg]; exact Nat.ne_of_gt (IsS146.lt (show IsS146 w0 _ g s0_0 s0_1 s0_2 from IsS146.go D7.out)) : D6 ≠ g)); replace HK := Aside0.mk (KeepBut.trans (Cmp.kk HK.out) (KeepBut.of_below hb g none) (.inl rfl)); replace HB := Aside0.mk (below_step (IsS146.bl HB.out) hb); replace D7 := Aside0.mk (IsS146.below (IsS146.go D7.out) hb); clear hb hbox hg) | ((with_reducible refine gate_callee (f := 113) rfl ?_); refine goesL_ (some 7) rfl rfl Try.func113 (by kernel_rfl) rfl #[.pointer (some ⟨g, 0, none⟩), .string (⟨#[98, 97, 110, 107, 46, 99, 111, 109]⟩ : ByteArray)] rfl Cmp.q ?_; (with_reducible refine (spec_l14Account.calls k g s0_0 s0_1 s0_2 (⟨#[98, 97, 110, 107, 46, 99, 111, 109]⟩ : ByteArray) D9 Da D5 Dm Dk Dl w0 _ ?side1 ?side2 A2.out).mono ?_); (case side1 => exact IsS146.go D7.out); (case side2 => exact IsS146.bl HB.out); rintro e w44 ⟨v323, v326, rfl, Eh, Ei, hi, hb, hk⟩; refine ⟨_, rfl, ?_⟩; have D3 := Aside0.mk (Kd.R_lower Eh (keep_size (w := w) (g := g) (row := none) (Cmp.kk HK.out))); have D4 := Aside0.mk (Kd.R_lower Ei (keep_size (w := w) (g := g) (row := none) (Cmp.kk HK.out))); replace D1 := Aside0.mk (KeepBut.blk hk (g' := D6) (o := .cells #[.int .i64 0, .int .i64 0, .slice none 0 0] 26 (0, 0)) (Cmp.b D1.out) De.out (by simp)); replace HK := Aside0.mk (KeepBut.trans (Cmp.kk HK.out) hk (.inl rfl)); replace HB := Aside0.mk (hb); replace D7 := Aside0.mk (hi); (try clear hb); (try clear hb2); (try clear hk); (try clear hi); (try clear Eh); (try clear Ei)) | ((with_reducible refine gate_dst (N := 3) rfl ?_); refine box_event ?hg (N := 3) ?hd (cs := #[.int .i64 0, .int .i64 0, .slice none 0 0]) (t := 26) ?hr ?_; (case hd => rfl); (case hg => rfl); (case hr => first | (go_simp; done) | (go_simp; rfl)); intro D2 hg w45 hbox hb; have D0 := Aside0.mk (hbox); have Ef := Aside0.mk ((by rw [hg]; exact (keep_size (w := w) (g := g) (row := none) (Cmp.kk HK.out)) : w.heap.size ≤ D2)); have Ed := Aside0.mk ((Nat.le_trans HW0.out (by rw [hg]; exact (keep_size (w := w) (g := g) (row := none) (Cmp.kk HK.out)) : w.heap.size ≤ D2) : w0.heap.size ≤ D2)); have Di := Cmp.nl hg D1; have Dj := Cmp.ng hg D1; have Dr := Aside0.mk ((by rw [hg]; exact Nat.ne_of_lt (IsS146.lt (show IsS146 w0 _ g s0_0 Dk Dl from IsS146.go D7.out)) : g ≠ D2)); have Df := Aside0.mk ((by rw [hg]; exact Nat.ne_of_gt (IsS146.lt (show IsS146 w0 _ g s0_0 Dk Dl from IsS146.go D7.out)) : D2 ≠ g)); replace D3 := Aside0.mk (Kd.R_below (Cmp.rr D3.out) hb); replace D4 := Aside0.mk (Kd.R_below (Cmp.rr D4.out) hb); replace D1 := Cmp.be D1 hb; replace HK := Aside0.mk (KeepBut.trans (Cmp.kk HK.out) (KeepBut.of_below hb g none) (.inl rfl)); replace HB := Aside0.mk (below_step (IsS146.bl HB.out) hb); replace D7 := Aside0.mk (IsS146.below (IsS146.go D7.out) hb); clear hb hbox hg; have K1 := Dj.out; have Kc := Di.out; have K2 := Df.out; have Ke := Dr.out; have Fu := Cmp.c0 D0; have Fv := Cmp.c1 D0; have Fw := Cmp.c2 D0; have Gu := blk_frozen D0.out 0; have Gv := blk_frozen D0.out 1; have Gw := blk_frozen D0.out 2; obtain ⟨Dc, Dd, Jm⟩ := Kd.R_slice D3.out; subst Jm) | ((with_reducible refine gate_callee (f := 106) rfl ?_); refine goesL_ (some 11) rfl rfl Try.func106 (by kernel_rfl) rfl #[.pointer (some ⟨g, 0, none⟩), .int .i64 12] rfl Cmp.q ?_; (with_reducible refine (spec_l1Below.calls g s0_0 Dk Dl 12 Ds Dg Dh w0 _ ?side1 ?side2 A3.out).mono ?_); (case side1 => exact IsS146.go D7.out); (case side2 => exact IsS146.bl HB.out); rintro e w50 ⟨rfl, hi, hb, hk⟩; refine ⟨_, rfl, ?_⟩; replace D1 := Aside0.mk (KeepBut.blk hk (g' := D6) (o := .cells #[.int .i64 0, .int .i64 0, .slice none 0 0] 26 (0, 0)) (Cmp.bw D1.out) De.out (by simp)); replace D3 := Aside0.mk (Kd.R_mono (Kd.R_keep (IsS146.apart (show IsS146 w0 _ g s0_0 Dk Dl from IsS146.go D7.out) (by (with_reducible repeat (first | apply Kd.R_alloc | apply Kd.R_drewN | apply Kd.R_drew)); exact (Kd.R_mono (Kd.R_far (p := ⟨D2, 2, none⟩) (Kd.R_far (p := ⟨D2, 1, none⟩) (Kd.R_far (p := ⟨D2, 0, none⟩) (Kd.R_types D3.out D0.out (by decide)) (fun _ hk => hk.2) (.int .i64 D9)) (fun _ hk => hk.2) (.int .i64 Da)) (fun _ hk => hk.2) (.slice Dc D5.length Dd)) (fun _ h_ => h_.1))) (by decide)) hk (fun _ h => h.2)) (fun _ h => h.1)); replace D4 := Aside0.mk (Kd.R_mono (Kd.R_keep (IsS146.apart (show IsS146 w0 _ g s0_0 Dk Dl from IsS146.go D7.out) (by (with_reducible repeat (first | apply Kd.R_alloc | apply Kd.R_drewN | apply Kd.R_drew)); exact (Kd.R_mono (Kd.R_far (p := ⟨D2, 2, none⟩) (Kd.R_far (p := ⟨D2, 1, none⟩) (Kd.R_far (p := ⟨D2, 0, none⟩) (Kd.R_types D4.out D0.out (by decide)) (fun _ hk => hk.2) (.int .i64 D9)) (fun _ hk => hk.2) (.int .i64 Da)) (fun _ hk => hk.2) (.slice Dc D5.length Dd)) (fun _ h_ => h_.1))) (by decide)) hk (fun _ h => h.2)) (fun _ h => h.1)); replace D0 := Aside0.mk (KeepBut.blk hk (g' := D2) (o := .cells #[.int .i64 D9, .int .i64 Da, .slice Dc D5.length Dd] 26 (0, 0)) (Cmp.bw D0.out) Df.out (by simp)); replace HK := Aside0.mk (KeepBut.trans (Cmp.kk HK.out) hk (.inl rfl)); replace HB := Aside0.mk (hb); replace D7 := Aside0.mk (hi); (try clear hb); (try clear hb2); (try clear hk); (try clear hi)))
     have n0_ := Aside0.mk (Kd.R_drew D3.out); have n1_ := Aside0.mk (Kd.R_drew D4.out); have n2_ := Aside0.mk (blk_drew D1.out); have n3_ := Aside0.mk (blk_drew D0.out)
     have n4_ := Aside0.mk (IsS146.drew D7.out)
     have n5_ := Aside0.mk (keep_drew HK.out)
     have n6_ := Aside0.mk (below_drew1 HB.out); clear D3; clear D4; clear D1; clear D0; clear D7; clear HK; clear HB; have D3 := n0_; have D4 := n1_; have D1 := n2_; have D0 := n3_; have D7 := n4_; have HK := n5_; have HB := n6_; clear n0_ n1_ n2_ n3_ n4_ n5_ n6_
     refine start_ (n := 16) (S := fun w' => w'.cell? ⟨D2, 0, none⟩ = some (.int .i64 D9) ∧ w'.cell? ⟨D2, 1, none⟩ = some (.int .i64 Da) ∧ w'.cell? ⟨D2, 2, none⟩ = some (.slice Dc D5.length Dd)) (ds := [15]) (Cmp.bm 0 16) (by kernel_rfl) rfl rfl ⟨(Cmp.c0 D0 :), (Cmp.c1 D0 :), (Cmp.c2 D0 :)⟩ (fun hHeld => ?_); refine with_tabW spec_l14Any.tab8 spec_l14Any.bits8 (fun HT_ HW_ => ?_)
     generalize w50.drew = w51 at D3 D4 D1 D0 D7 HK HB hHeld ⊢
     refine Cmp.pu HT_ 0 26 (Cmp.bm 1 15) ?_; refine Cmp.pu HT_ 2 28 (Cmp.bb 16 5) ?_; refine Cmp.pu HT_ 5 31 (Cmp.bb 16 37) ?_; refine Cmp.pu HT_ 8 34 (Cmp.bb 16 293) ?_; refine Cmp.tk HT_ HW_ hHeld 1 27 (Cmp.bb 16 295) ?_
     refine join_ (σ := Value × Value) 6 (Cmp.bm 10 6) (fun s_ => [(29, .int .i64 Dn), (32, s_.1), (33, .int .i64 E5), (35, s_.2), (30, .int .i64 (wrap64 (Dn - 1)))]) (fun s_ w' => (w'.cell? ⟨D2, 0, none⟩ = some (.int .i64 D9) ∧ w'.cell? ⟨D2, 1, none⟩ = some (.int .i64 Da) ∧ w'.cell? ⟨D2, 2, none⟩ = some (.slice Dc D5.length Dd)) ∧ (Kd.R k35 35 w' w.heap.size (fun _ => True) (.slice Dc D5.length Dd) D5) ∧ (Kd.R k84 84 w' w.heap.size (fun _ => True) v326 Dm) ∧ (Kd.R (Kd.int .i64) 3 w' w.heap.size (fun k_ => some k_ ≠ (s_.2 : Value).ownBlock) s_.1 Dt) ∧ (Kd.R (Kd.int .i64) 3 w' w.heap.size (fun k_ => some k_ ≠ (s_.1 : Value).ownBlock) s_.2 Dx) ∧ (w'.heap[D6]? = some (.cells #[.int .i64 0, .int .i64 0, .slice none 0 0] 26 (0, 0))) ∧ (w'.heap[D2]? = some (.cells #[.int .i64 D9, .int .i64 Da, .slice Dc D5.length Dd] 26 (0, 0))) ∧ (IsS146 w0 w' g s0_0 Dz E0) ∧ (KeepBut w w' g none) ∧ (Below w0.heap.size w0 w')) ?_ ?_
     rotate_left
     ·intro hJ3_6_7_9
      refine join_ (σ := Value) 7 (Cmp.bm 9 7) (fun s_ => [(29, .int .i64 Dn), (32, s_), (33, .int .i64 E5), (30, .int .i64 (wrap64 (Dn - 1)))]) (fun s_ w' => (w'.cell? ⟨D2, 0, none⟩ = some (.int .i64 D9) ∧ w'.cell? ⟨D2, 1, none⟩ = some (.int .i64 Da) ∧ w'.cell? ⟨D2, 2, none⟩ = some (.slice Dc D5.length Dd)) ∧ (Kd.R k35 35 w' w.heap.size (fun _ => True) (.slice Dc D5.length Dd) D5) ∧ (Kd.R k84 84 w' w.heap.size (fun _ => True) v326 Dm) ∧ (Kd.R (Kd.int .i64) 3 w' w.heap.size (fun _ => True) s_ Dt) ∧ (w'.heap[D6]? = some (.cells #[.int .i64 0, .int .i64 0, .slice none 0 0] 26 (0, 0))) ∧ (w'.heap[D2]? = some (.cells #[.int .i64 D9, .int .i64 Da, .slice Dc D5.length Dd] 26 (0, 0))) ∧ (IsS146 w0 w' g s0_0 Dz E0) ∧ (KeepBut w w' g none) ∧ (Below w0.heap.size w0 w')) ?_ ?_
      rotate_left
      ·intro hJ3_6_7
       refine join_ (σ := Value × Value) 7 (Cmp.bb 16 895) (fun s_ => [(29, .int .i64 Dn), (32, s_.1), (35, s_.2), (30, .int .i64 (wrap64 (Dn - 1)))]) (fun s_ w' => (w'.cell? ⟨D2, 0, none⟩ = some (.int .i64 D9) ∧ w'.cell? ⟨D2, 1, none⟩ = some (.int .i64 Da) ∧ w'.cell? ⟨D2, 2, none⟩ = some (.slice Dc D5.length Dd)) ∧ (Kd.R k35 35 w' w.heap.size (fun _ => True) (.slice Dc D5.length Dd) D5) ∧ (Kd.R k84 84 w' w.heap.size (fun _ => True) v326 Dm) ∧ (Kd.R (Kd.int .i64) 3 w' w.heap.size (fun k_ => some k_ ≠ (s_.2 : Value).ownBlock) s_.1 Dt) ∧ (Kd.R (Kd.int .i64) 3 w' w.heap.size (fun k_ => some k_ ≠ (s_.1 : Value).ownBlock) s_.2 Dx) ∧ (w'.heap[D6]? = some (.cells #[.int .i64 0, .int .i64 0, .slice none 0 0] 26 (0, 0))) ∧ (w'.heap[D2]? = some (.cells #[.int .i64 D9, .int .i64 Da, .slice Dc D5.length Dd] 26 (0, 0))) ∧ (IsS146 w0 w' g s0_0 Do Dp) ∧ (KeepBut w w' g none) ∧ (Below w0.heap.size w0 w')) ?_ ?_
       rotate_left
       ·intro hJ3_6_9
        refine join_ (σ := Value) 8 (Cmp.bb 16 383) (fun s_ => [(29, .int .i64 Dn), (32, s_), (30, .int .i64 (wrap64 (Dn - 1)))]) (fun s_ w' => (w'.cell? ⟨D2, 0, none⟩ = some (.int .i64 D9) ∧ w'.cell? ⟨D2, 1, none⟩ = some (.int .i64 Da) ∧ w'.cell? ⟨D2, 2, none⟩ = some (.slice Dc D5.length Dd)) ∧ (Kd.R k35 35 w' w.heap.size (fun _ => True) (.slice Dc D5.length Dd) D5) ∧ (Kd.R k84 84 w' w.heap.size (fun _ => True) v326 Dm) ∧ (Kd.R (Kd.int .i64) 3 w' w.heap.size (fun _ => True) s_ Dt) ∧ (w'.heap[D6]? = some (.cells #[.int .i64 0, .int .i64 0, .slice none 0 0] 26 (0, 0))) ∧ (w'.heap[D2]? = some (.cells #[.int .i64 D9, .int .i64 Da, .slice Dc D5.length Dd] 26 (0, 0))) ∧ (IsS146 w0 w' g s0_0 Do Dp) ∧ (KeepBut w w' g none) ∧ (Below w0.heap.size w0 w')) ?_ ?_
        rotate_left
        ·intro hJ3_6
         refine join_ (σ := Value) 8 (Cmp.bb 16 831) (fun s_ => [(29, .int .i64 Dn), (35, s_), (30, .int .i64 (wrap64 (Dn - 1)))]) (fun s_ w' => (w'.cell? ⟨D2, 0, none⟩ = some (.int .i64 D9) ∧ w'.cell? ⟨D2, 1, none⟩ = some (.int .i64 Da) ∧ w'.cell? ⟨D2, 2, none⟩ = some (.slice Dc D5.length Dd)) ∧ (Kd.R k35 35 w' w.heap.size (fun _ => True) (.slice Dc D5.length Dd) D5) ∧ (Kd.R k84 84 w' w.heap.size (fun _ => True) v326 Dm) ∧ (Kd.R (Kd.int .i64) 3 w' w.heap.size (fun _ => True) s_ Dx) ∧ (w'.heap[D6]? = some (.cells #[.int .i64 0, .int .i64 0, .slice none 0 0] 26 (0, 0))) ∧ (w'.heap[D2]? = some (.cells #[.int .i64 D9, .int .i64 Da, .slice Dc D5.length Dd] 26 (0, 0))) ∧ (IsS146 w0 w' g s0_0 Do Dp) ∧ (KeepBut w w' g none) ∧ (Below w0.heap.size w0 w')) ?_ ?_
         rotate_left
         ·intro hJ3_9
          refine join_ (σ := Value × Value) 9 (Cmp.bb 16 871) (fun s_ => [(32, s_.1), (35, s_.2)]) (fun s_ w' => (w'.cell? ⟨D2, 0, none⟩ = some (.int .i64 D9) ∧ w'.cell? ⟨D2, 1, none⟩ = some (.int .i64 Da) ∧ w'.cell? ⟨D2, 2, none⟩ = some (.slice Dc D5.length Dd)) ∧ (Kd.R k35 35 w' w.heap.size (fun _ => True) (.slice Dc D5.length Dd) D5) ∧ (Kd.R k84 84 w' w.heap.size (fun _ => True) v326 Dm) ∧ (Kd.R (Kd.int .i64) 3 w' w.heap.size (fun k_ => some k_ ≠ (s_.2 : Value).ownBlock) s_.1 Dt) ∧ (Kd.R (Kd.int .i64) 3 w' w.heap.size (fun k_ => some k_ ≠ (s_.1 : Value).ownBlock) s_.2 Dx) ∧ (w'.heap[D6]? = some (.cells #[.int .i64 0, .int .i64 0, .slice none 0 0] 26 (0, 0))) ∧ (w'.heap[D2]? = some (.cells #[.int .i64 D9, .int .i64 Da, .slice Dc D5.length Dd] 26 (0, 0))) ∧ (IsS146 w0 w' g s0_0 Dg Dh) ∧ (KeepBut w w' g none) ∧ (Below w0.heap.size w0 w')) ?_ ?_
          rotate_left
          ·intro hJ6_9
           refine join_ (σ := Unit) 9 (Cmp.bb 16 319) (fun s_ => [(29, .int .i64 Dn), (30, .int .i64 (wrap64 (Dn - 1)))]) (fun s_ w' => (w'.cell? ⟨D2, 0, none⟩ = some (.int .i64 D9) ∧ w'.cell? ⟨D2, 1, none⟩ = some (.int .i64 Da) ∧ w'.cell? ⟨D2, 2, none⟩ = some (.slice Dc D5.length Dd)) ∧ (Kd.R k35 35 w' w.heap.size (fun _ => True) (.slice Dc D5.length Dd) D5) ∧ (Kd.R k84 84 w' w.heap.size (fun _ => True) v326 Dm) ∧ (w'.heap[D6]? = some (.cells #[.int .i64 0, .int .i64 0, .slice none 0 0] 26 (0, 0))) ∧ (w'.heap[D2]? = some (.cells #[.int .i64 D9, .int .i64 Da, .slice Dc D5.length Dd] 26 (0, 0))) ∧ (IsS146 w0 w' g s0_0 Do Dp) ∧ (KeepBut w w' g none) ∧ (Below w0.heap.size w0 w')) ?_ ?_
           rotate_left
           ·intro hJ3
            refine join_ (σ := Value) 10 (Cmp.bb 16 359) (fun s_ => [(32, s_)]) (fun s_ w' => (w'.cell? ⟨D2, 0, none⟩ = some (.int .i64 D9) ∧ w'.cell? ⟨D2, 1, none⟩ = some (.int .i64 Da) ∧ w'.cell? ⟨D2, 2, none⟩ = some (.slice Dc D5.length Dd)) ∧ (Kd.R k35 35 w' w.heap.size (fun _ => True) (.slice Dc D5.length Dd) D5) ∧ (Kd.R k84 84 w' w.heap.size (fun _ => True) v326 Dm) ∧ (Kd.R (Kd.int .i64) 3 w' w.heap.size (fun _ => True) s_ Dt) ∧ (w'.heap[D6]? = some (.cells #[.int .i64 0, .int .i64 0, .slice none 0 0] 26 (0, 0))) ∧ (w'.heap[D2]? = some (.cells #[.int .i64 D9, .int .i64 Da, .slice Dc D5.length Dd] 26 (0, 0))) ∧ (IsS146 w0 w' g s0_0 Dg Dh) ∧ (KeepBut w w' g none) ∧ (Below w0.heap.size w0 w')) ?_ ?_
            rotate_left
            ·intro hJ6
             refine join_ (σ := Value) 10 (Cmp.bb 16 807) (fun s_ => [(35, s_)]) (fun s_ w' => (w'.cell? ⟨D2, 0, none⟩ = some (.int .i64 D9) ∧ w'.cell? ⟨D2, 1, none⟩ = some (.int .i64 Da) ∧ w'.cell? ⟨D2, 2, none⟩ = some (.slice Dc D5.length Dd)) ∧ (Kd.R k35 35 w' w.heap.size (fun _ => True) (.slice Dc D5.length Dd) D5) ∧ (Kd.R k84 84 w' w.heap.size (fun _ => True) v326 Dm) ∧ (Kd.R (Kd.int .i64) 3 w' w.heap.size (fun _ => True) s_ Dx) ∧ (w'.heap[D6]? = some (.cells #[.int .i64 0, .int .i64 0, .slice none 0 0] 26 (0, 0))) ∧ (w'.heap[D2]? = some (.cells #[.int .i64 D9, .int .i64 Da, .slice Dc D5.length Dd] 26 (0, 0))) ∧ (IsS146 w0 w' g s0_0 Dg Dh) ∧ (KeepBut w w' g none) ∧ (Below w0.heap.size w0 w')) ?_ ?_
             rotate_left
             ·intro hJ9
              refine three_ (i := 3) (j := 6) (k := 9) (Ni := some 29) (Nj := some 32) (Nk := some 35) (Cmp.bb 16 303) (Cmp.bb 16 359) (Cmp.bb 16 807) rfl rfl rfl rfl rfl rfl (three_of HT_.out (by kernel_rfl)) (by decide) (by decide) (by decide) (fun K hK => ?_) (fun K hK => ?_) (fun K hK => ?_)
              ·skip
               refine goes_ Try.func106 (by kernel_rfl) rfl #[.pointer (some ⟨g, 0, none⟩), .int .i64 9] (by rfl) rfl rfl Cmp.q ?_
               with_reducible refine (spec_l1Below.calls g s0_0 Dg Dh 9 Dn Do Dp w0 _ ?side1 ?side2 Fb.out).mono ?_
               (case side1 => exact IsS146.go D7.out)
               (case side2 => exact IsS146.bl HB.out)
               rintro e w52 ⟨rfl, hi, hb, hk⟩; refine ⟨_, rfl, ?_⟩
               have n0_ := Aside0.mk (KeepBut.blk hk (g' := D6) (o := .cells #[.int .i64 0, .int .i64 0, .slice none 0 0] 26 (0, 0)) (Cmp.b D1.out) De.out (by simp))
               have n1_ := Aside0.mk (Kd.R_mono (Kd.R_keep (IsS146.apart (show IsS146 w0 _ g s0_0 Dg Dh from IsS146.go D7.out) (Cmp.rr D3.out) (by decide)) hk (fun _ h => h.2)) (fun _ h => h.1))
               have n2_ := Aside0.mk (Kd.R_mono (Kd.R_keep (IsS146.apart (show IsS146 w0 _ g s0_0 Dg Dh from IsS146.go D7.out) (Cmp.rr D4.out) (by decide)) hk (fun _ h => h.2)) (fun _ h => h.1))
               have n3_ := Aside0.mk (KeepBut.blk hk (g' := D2) (o := .cells #[.int .i64 D9, .int .i64 Da, .slice Dc D5.length Dd] 26 (0, 0)) (Cmp.b D0.out) Df.out (by simp))
               have n4_ := Aside0.mk (KeepBut.trans (Cmp.kk HK.out) hk (.inl rfl))
               have n5_ := Aside0.mk (hb)
               have n6_ := Aside0.mk (hi)
               clear D1; clear D3; clear D4; clear D0; clear HK; clear HB; clear D7; have D1 := n0_; have D3 := n1_; have D4 := n2_; have D0 := n3_; have HK := n4_; have HB := n5_; have D7 := n6_; clear n0_ n1_ n2_ n3_ n4_ n5_ n6_; (try clear hb); (try clear hb2); (try clear hk); (try clear hi)
               refine hK.out _ _ ⟨(Cmp.c0 D0 :), (Cmp.c1 D0 :), (Cmp.c2 D0 :)⟩ (fun hHeld => ?_)
               clear hK K
               refine norm_ (a' := ?_) ?_ ?_
               rotate_left
               ·show Act.put _ (some 29) _ = _
                simp only [Act.put, Cmp.s, Cmp.z, Cmp.c, i64_w, i32_w]; rfl
               refine Cmp.pu HT_ 4 30 (Cmp.bb 16 319) ?_
               exact norm_ (by first | (simp only [putAll, Act.put, List.setIfInBounds_toArray, List.set_cons_zero, List.set_cons_succ]; done) | (simp only [putAll, Act.put, List.setIfInBounds_toArray, List.set_cons_zero, List.set_cons_succ]; rfl)) (hJ3 () _ ⟨hHeld, (Cmp.rr D3.out), (Cmp.rr D4.out), (Cmp.b D1.out), (Cmp.b D0.out), (IsS146.go D7.out), (Cmp.kk HK.out), (IsS146.bl HB.out)⟩)
              ·skip
               refine Kd.R_lit_step (Kd.int .i64) _ 3 ?hg (N := 32) ?hd (xs := ([0, 5, 7] : List Int)) (inner := [.int .i64 0, .int .i64 5, .int .i64 7]) (ok := fun _ => True) (okp := fun _ => True) ?hr ?hp (fun _ hk => hk) trivial (Below.refl _ _) (Nat.le_refl _) (by simp) ?_; (case hd => rfl); (case hg => rfl); (case hr => first | (go_simp; done) | (go_simp; rfl)); (case hp => exact (Reps.one (show Kd.M (Kd.int .i64) _ _ _ 0 [.int .i64 0] from rfl) (Reps.one (show Kd.M (Kd.int .i64) _ _ _ 5 [.int .i64 5] from rfl) (Reps.one (show Kd.M (Kd.int .i64) _ _ _ 7 [.int .i64 7] from rfl) (Reps.none _ _)))))
               intro v350 w52 E1 hb hg_ hnew_
               clear hg_ hnew_
               (first | rw [← Dy.out] at E1 | (simp only [Int.reduceToNat] at E1; rw [← Dy.out] at E1))
               have n0_ := Aside0.mk (Kd.R_below (Cmp.rr D3.out) hb)
               have n1_ := Aside0.mk (Kd.R_below (Cmp.rr D4.out) hb)
               have n2_ := Aside0.mk (Kd.R_lower E1 (keep_size (w := w) (g := g) (row := none) (Cmp.kk HK.out)))
               have n3_ := Aside0.mk (IsS146.below (IsS146.go D7.out) hb)
               have n4_ := Cmp.be D1 hb
               have n5_ := Cmp.be D0 hb
               have n6_ := Aside0.mk (KeepBut.trans (Cmp.kk HK.out) (KeepBut.of_below hb g none) (.inl rfl))
               have n7_ := Aside0.mk (below_step (IsS146.bl HB.out) hb)
               clear D3; clear D4; clear D7; clear D1; clear D0; clear HK; clear HB; have D3 := n0_; have D4 := n1_; have D8 := n2_; have D7 := n3_; have D1 := n4_; have D0 := n5_; have HK := n6_; have HB := n7_; clear n0_ n1_ n2_ n3_ n4_ n5_ n6_ n7_; clear hb E1
               refine hK.out _ _ ⟨(Cmp.c0 D0 :), (Cmp.c1 D0 :), (Cmp.c2 D0 :)⟩ (fun hHeld => ?_)
               clear hK K
               refine norm_ (a' := ?_) ?_ ?_
               rotate_left
               ·show Act.put _ (some 32) _ = _
                simp only [Act.put, Cmp.s, Cmp.z, Cmp.c, i64_w, i32_w]; rfl
               exact norm_ (by first | (simp only [putAll, Act.put, List.setIfInBounds_toArray, List.set_cons_zero, List.set_cons_succ]; done) | (simp only [putAll, Act.put, List.setIfInBounds_toArray, List.set_cons_zero, List.set_cons_succ]; rfl)) (hJ6 (v350) _ ⟨hHeld, (Cmp.rr D3.out), (Cmp.rr D4.out), (Cmp.rr D8.out), (Cmp.b D1.out), (Cmp.b D0.out), (IsS146.go D7.out), (Cmp.kk HK.out), (IsS146.bl HB.out)⟩)
              ·skip
               refine Kd.R_lit_step (Kd.int .i64) _ 3 ?hg (N := 35) ?hd (xs := ([(-1), 0, 1000001] : List Int)) (inner := [.int .i64 (-1), .int .i64 0, .int .i64 1000001]) (ok := fun _ => True) (okp := fun _ => True) ?hr ?hp (fun _ hk => hk) trivial (Below.refl _ _) (Nat.le_refl _) (by simp) ?_; (case hd => rfl); (case hg => rfl); (case hr => first | (go_simp; done) | (go_simp; rfl)); (case hp => exact (Reps.one (show Kd.M (Kd.int .i64) _ _ _ (-1) [.int .i64 (-1)] from rfl) (Reps.one (show Kd.M (Kd.int .i64) _ _ _ 0 [.int .i64 0] from rfl) (Reps.one (show Kd.M (Kd.int .i64) _ _ _ 1000001 [.int .i64 1000001] from rfl) (Reps.none _ _)))))
               intro v356 w52 E1 hb hg_ hnew_
               clear hg_ hnew_
               (first | rw [← Du.out] at E1 | (simp only [Int.reduceToNat] at E1; rw [← Du.out] at E1))
               have n0_ := Aside0.mk (Kd.R_below (Cmp.rr D3.out) hb)
               have n1_ := Aside0.mk (Kd.R_below (Cmp.rr D4.out) hb)
               have n2_ := Aside0.mk (Kd.R_lower E1 (keep_size (w := w) (g := g) (row := none) (Cmp.kk HK.out)))
               have n3_ := Aside0.mk (IsS146.below (IsS146.go D7.out) hb)
               have n4_ := Cmp.be D1 hb
               have n5_ := Cmp.be D0 hb
               have n6_ := Aside0.mk (KeepBut.trans (Cmp.kk HK.out) (KeepBut.of_below hb g none) (.inl rfl))
               have n7_ := Aside0.mk (below_step (IsS146.bl HB.out) hb)
               clear D3; clear D4; clear D7; clear D1; clear D0; clear HK; clear HB; have D3 := n0_; have D4 := n1_; have Db := n2_; have D7 := n3_; have D1 := n4_; have D0 := n5_; have HK := n6_; have HB := n7_; clear n0_ n1_ n2_ n3_ n4_ n5_ n6_ n7_; clear hb E1
               refine hK.out _ _ ⟨(Cmp.c0 D0 :), (Cmp.c1 D0 :), (Cmp.c2 D0 :)⟩ (fun hHeld => ?_)
               clear hK K
               refine norm_ (a' := ?_) ?_ ?_
               rotate_left
               ·show Act.put _ (some 35) _ = _
                simp only [Act.put, Cmp.s, Cmp.z, Cmp.c, i64_w, i32_w]; rfl
               exact norm_ (by first | (simp only [putAll, Act.put, List.setIfInBounds_toArray, List.set_cons_zero, List.set_cons_succ]; done) | (simp only [putAll, Act.put, List.setIfInBounds_toArray, List.set_cons_zero, List.set_cons_succ]; rfl)) (hJ9 (v356) _ ⟨hHeld, (Cmp.rr D3.out), (Cmp.rr D4.out), (Cmp.rr Db.out), (Cmp.b D1.out), (Cmp.b D0.out), (IsS146.go D7.out), (Cmp.kk HK.out), (IsS146.bl HB.out)⟩)
             ·skip
              rintro v356 w54 ⟨hS_, h0_, h1_, h2_, h3_, h4_, h5_, h6_, h7_⟩
              have n0_ : Aside0 (Kd.R k35 35 w54 w.heap.size (fun _ => True) (.slice Dc D5.length Dd) D5) := ⟨h0_⟩
              have n1_ : Aside0 (Kd.R k84 84 w54 w.heap.size (fun _ => True) v326 Dm) := ⟨h1_⟩
              have n2_ : Aside0 (Kd.R (Kd.int .i64) 3 w54 w.heap.size (fun _ => True) v356 Dx) := ⟨h2_⟩
              have n3_ : Aside0 (w54.heap[D6]? = some (.cells #[.int .i64 0, .int .i64 0, .slice none 0 0] 26 (0, 0))) := ⟨h3_⟩
              have n4_ : Aside0 (w54.heap[D2]? = some (.cells #[.int .i64 D9, .int .i64 Da, .slice Dc D5.length Dd] 26 (0, 0))) := ⟨h4_⟩
              have n5_ : Aside0 (IsS146 w0 w54 g s0_0 Dg Dh) := ⟨h5_⟩
              have n6_ : Aside0 (KeepBut w w54 g none) := ⟨h6_⟩
              have n7_ : Aside0 (Below w0.heap.size w0 w54) := ⟨h7_⟩
              clear D3; clear D4; clear D1; clear D0; clear D7; clear HK; clear HB; clear h0_ h1_ h2_ h3_ h4_ h5_ h6_ h7_; have D3 := n0_; have D4 := n1_; have Db := n2_; have D1 := n3_; have D0 := n4_; have D7 := n5_; have HK := n6_; have HB := n7_; clear n0_ n1_ n2_ n3_ n4_ n5_ n6_ n7_
              have hHeld : w54.cell? ⟨D2, 0, none⟩ = some (.int .i64 D9) ∧ w54.cell? ⟨D2, 1, none⟩ = some (.int .i64 Da) ∧ w54.cell? ⟨D2, 2, none⟩ = some (.slice Dc D5.length Dd) := hS_
              refine norm_ (a' := ?_) ?_ ?_
              rotate_left
              ·simp only [putAll, Act.put, List.setIfInBounds_toArray, List.set_cons_zero, List.set_cons_succ]; rfl
              refine two_ (i := 3) (j := 6) (Ni := some 29) (Nj := some 32) (Cmp.bb 16 815) (Cmp.bb 16 871) rfl rfl rfl rfl (two_of HT_.out (by kernel_rfl)) (by decide) (by decide) (fun K hK => ?_) (fun K hK => ?_)
              ·skip
               refine goes_ Try.func106 (by kernel_rfl) rfl #[.pointer (some ⟨g, 0, none⟩), .int .i64 9] (by rfl) rfl rfl Cmp.q ?_
               with_reducible refine (spec_l1Below.calls g s0_0 Dg Dh 9 Dn Do Dp w0 _ ?side1 ?side2 Fb.out).mono ?_
               (case side1 => exact IsS146.go D7.out)
               (case side2 => exact IsS146.bl HB.out)
               rintro e w55 ⟨rfl, hi, hb, hk⟩; refine ⟨_, rfl, ?_⟩
               have n0_ := Aside0.mk (KeepBut.blk hk (g' := D6) (o := .cells #[.int .i64 0, .int .i64 0, .slice none 0 0] 26 (0, 0)) (Cmp.b D1.out) De.out (by simp))
               have n1_ := Aside0.mk (Kd.R_mono (Kd.R_keep (IsS146.apart (show IsS146 w0 _ g s0_0 Dg Dh from IsS146.go D7.out) (Cmp.rr D3.out) (by decide)) hk (fun _ h => h.2)) (fun _ h => h.1))
               have n2_ := Aside0.mk (Kd.R_mono (Kd.R_keep (IsS146.apart (show IsS146 w0 _ g s0_0 Dg Dh from IsS146.go D7.out) (Cmp.rr D4.out) (by decide)) hk (fun _ h => h.2)) (fun _ h => h.1))
               have n3_ := Aside0.mk (KeepBut.blk hk (g' := D2) (o := .cells #[.int .i64 D9, .int .i64 Da, .slice Dc D5.length Dd] 26 (0, 0)) (Cmp.b D0.out) Df.out (by simp))
               have n4_ := Aside0.mk (Kd.R_mono (Kd.R_keep (IsS146.apart (show IsS146 w0 _ g s0_0 Dg Dh from IsS146.go D7.out) (Cmp.rr Db.out) (by decide)) hk (fun _ h => h.2)) (fun _ h => h.1))
               have n5_ := Aside0.mk (KeepBut.trans (Cmp.kk HK.out) hk (.inl rfl))
               have n6_ := Aside0.mk (hb)
               have n7_ := Aside0.mk (hi)
               clear D1; clear D3; clear D4; clear D0; clear Db; clear HK; clear HB; clear D7; have D1 := n0_; have D3 := n1_; have D4 := n2_; have D0 := n3_; have Db := n4_; have HK := n5_; have HB := n6_; have D7 := n7_; clear n0_ n1_ n2_ n3_ n4_ n5_ n6_ n7_; (try clear hb); (try clear hb2); (try clear hk); (try clear hi)
               refine hK.out _ _ ⟨(Cmp.c0 D0 :), (Cmp.c1 D0 :), (Cmp.c2 D0 :)⟩ (fun hHeld => ?_)
               clear hK K
               refine norm_ (a' := ?_) ?_ ?_
               rotate_left
               ·show Act.put _ (some 29) _ = _
                simp only [Act.put, Cmp.s, Cmp.z, Cmp.c, i64_w, i32_w]; rfl
               refine Cmp.pu HT_ 4 30 (Cmp.bb 16 831) ?_
               exact norm_ (by first | (simp only [putAll, Act.put, List.setIfInBounds_toArray, List.set_cons_zero, List.set_cons_succ]; done) | (simp only [putAll, Act.put, List.setIfInBounds_toArray, List.set_cons_zero, List.set_cons_succ]; rfl)) (hJ3_9 (v356) _ ⟨hHeld, (Cmp.rr D3.out), (Cmp.rr D4.out), (Cmp.rr Db.out), (Cmp.b D1.out), (Cmp.b D0.out), (IsS146.go D7.out), (Cmp.kk HK.out), (IsS146.bl HB.out)⟩)
              ·skip
               refine Kd.R_lit_step (Kd.int .i64) _ 3 ?hg (N := 32) ?hd (xs := ([0, 5, 7] : List Int)) (inner := [.int .i64 0, .int .i64 5, .int .i64 7]) (ok := fun _ => True) (okp := fun _ => True) ?hr ?hp (fun _ hk => hk) trivial (Below.refl _ _) (Nat.le_refl _) (by simp) ?_; (case hd => rfl); (case hg => rfl); (case hr => first | (go_simp; done) | (go_simp; rfl)); (case hp => exact (Reps.one (show Kd.M (Kd.int .i64) _ _ _ 0 [.int .i64 0] from rfl) (Reps.one (show Kd.M (Kd.int .i64) _ _ _ 5 [.int .i64 5] from rfl) (Reps.one (show Kd.M (Kd.int .i64) _ _ _ 7 [.int .i64 7] from rfl) (Reps.none _ _)))))
               intro v350 w55 Dv hb hg_ hnew_
               clear hg_ hnew_
               (first | rw [← Dy.out] at Dv | (simp only [Int.reduceToNat] at Dv; rw [← Dy.out] at Dv))
               have n0_ := Aside0.mk (Kd.R_below (Cmp.rr D3.out) hb)
               have n1_ := Aside0.mk (Kd.R_below (Cmp.rr D4.out) hb)
               have n2_ := Aside0.mk (Kd.R_elder' (Cmp.rr Db.out) (Kd.R_base Dv) hb)
               have n3_ := Aside0.mk (Kd.R_lower (Kd.R_new' Dv (Kd.R_lt (Cmp.rr Db.out))) (keep_size (w := w) (g := g) (row := none) (Cmp.kk HK.out)))
               have n4_ := Aside0.mk (IsS146.below (IsS146.go D7.out) hb)
               have n5_ := Cmp.be D1 hb
               have n6_ := Cmp.be D0 hb
               have n7_ := Aside0.mk (KeepBut.trans (Cmp.kk HK.out) (KeepBut.of_below hb g none) (.inl rfl))
               have n8_ := Aside0.mk (below_step (IsS146.bl HB.out) hb)
               clear D3; clear D4; clear Db; clear D7; clear D1; clear D0; clear HK; clear HB; have D3 := n0_; have D4 := n1_; have Db := n2_; have D8 := n3_; have D7 := n4_; have D1 := n5_; have D0 := n6_; have HK := n7_; have HB := n8_; clear n0_ n1_ n2_ n3_ n4_ n5_ n6_ n7_ n8_; clear hb Dv
               refine hK.out _ _ ⟨(Cmp.c0 D0 :), (Cmp.c1 D0 :), (Cmp.c2 D0 :)⟩ (fun hHeld => ?_)
               clear hK K
               refine norm_ (a' := ?_) ?_ ?_
               rotate_left
               ·show Act.put _ (some 32) _ = _
                simp only [Act.put, Cmp.s, Cmp.z, Cmp.c, i64_w, i32_w]; rfl
               exact norm_ (by first | (simp only [putAll, Act.put, List.setIfInBounds_toArray, List.set_cons_zero, List.set_cons_succ]; done) | (simp only [putAll, Act.put, List.setIfInBounds_toArray, List.set_cons_zero, List.set_cons_succ]; rfl)) (hJ6_9 (v350, v356) _ ⟨hHeld, (Cmp.rr D3.out), (Cmp.rr D4.out), (by (with_reducible repeat (first | apply Kd.R_alloc | apply Kd.R_drewN | apply Kd.R_drew)); exact Kd.R_mono D8.out (fun _ hk => hk.2)), (by (with_reducible repeat (first | apply Kd.R_alloc | apply Kd.R_drewN | apply Kd.R_drew)); exact Kd.R_mono Db.out (fun _ hk => hk.2)), (Cmp.b D1.out), (Cmp.b D0.out), (IsS146.go D7.out), (Cmp.kk HK.out), (IsS146.bl HB.out)⟩)
            ·skip
             rintro v350 w54 ⟨hS_, h0_, h1_, h2_, h3_, h4_, h5_, h6_, h7_⟩
             have n0_ : Aside0 (Kd.R k35 35 w54 w.heap.size (fun _ => True) (.slice Dc D5.length Dd) D5) := ⟨h0_⟩
             have n1_ : Aside0 (Kd.R k84 84 w54 w.heap.size (fun _ => True) v326 Dm) := ⟨h1_⟩
             have n2_ : Aside0 (Kd.R (Kd.int .i64) 3 w54 w.heap.size (fun _ => True) v350 Dt) := ⟨h2_⟩
             have n3_ : Aside0 (w54.heap[D6]? = some (.cells #[.int .i64 0, .int .i64 0, .slice none 0 0] 26 (0, 0))) := ⟨h3_⟩
             have n4_ : Aside0 (w54.heap[D2]? = some (.cells #[.int .i64 D9, .int .i64 Da, .slice Dc D5.length Dd] 26 (0, 0))) := ⟨h4_⟩
             have n5_ : Aside0 (IsS146 w0 w54 g s0_0 Dg Dh) := ⟨h5_⟩
             have n6_ : Aside0 (KeepBut w w54 g none) := ⟨h6_⟩
             have n7_ : Aside0 (Below w0.heap.size w0 w54) := ⟨h7_⟩
             clear D3; clear D4; clear D1; clear D0; clear D7; clear HK; clear HB; clear h0_ h1_ h2_ h3_ h4_ h5_ h6_ h7_; have D3 := n0_; have D4 := n1_; have D8 := n2_; have D1 := n3_; have D0 := n4_; have D7 := n5_; have HK := n6_; have HB := n7_; clear n0_ n1_ n2_ n3_ n4_ n5_ n6_ n7_
             have hHeld : w54.cell? ⟨D2, 0, none⟩ = some (.int .i64 D9) ∧ w54.cell? ⟨D2, 1, none⟩ = some (.int .i64 Da) ∧ w54.cell? ⟨D2, 2, none⟩ = some (.slice Dc D5.length Dd) := hS_
             refine norm_ (a' := ?_) ?_ ?_
             rotate_left
             ·simp only [putAll, Act.put, List.setIfInBounds_toArray, List.set_cons_zero, List.set_cons_succ]; rfl
             refine two_ (i := 3) (j := 9) (Ni := some 29) (Nj := some 35) (Cmp.bb 16 367) (Cmp.bb 16 871) rfl rfl rfl rfl (two_of HT_.out (by kernel_rfl)) (by decide) (by decide) (fun K hK => ?_) (fun K hK => ?_)
             ·skip
              refine goes_ Try.func106 (by kernel_rfl) rfl #[.pointer (some ⟨g, 0, none⟩), .int .i64 9] (by rfl) rfl rfl Cmp.q ?_
              with_reducible refine (spec_l1Below.calls g s0_0 Dg Dh 9 Dn Do Dp w0 _ ?side1 ?side2 Fb.out).mono ?_
              (case side1 => exact IsS146.go D7.out)
              (case side2 => exact IsS146.bl HB.out)
              rintro e w55 ⟨rfl, hi, hb, hk⟩; refine ⟨_, rfl, ?_⟩
              have n0_ := Aside0.mk (KeepBut.blk hk (g' := D6) (o := .cells #[.int .i64 0, .int .i64 0, .slice none 0 0] 26 (0, 0)) (Cmp.b D1.out) De.out (by simp))
              have n1_ := Aside0.mk (Kd.R_mono (Kd.R_keep (IsS146.apart (show IsS146 w0 _ g s0_0 Dg Dh from IsS146.go D7.out) (Cmp.rr D3.out) (by decide)) hk (fun _ h => h.2)) (fun _ h => h.1))
              have n2_ := Aside0.mk (Kd.R_mono (Kd.R_keep (IsS146.apart (show IsS146 w0 _ g s0_0 Dg Dh from IsS146.go D7.out) (Cmp.rr D4.out) (by decide)) hk (fun _ h => h.2)) (fun _ h => h.1))
              have n3_ := Aside0.mk (KeepBut.blk hk (g' := D2) (o := .cells #[.int .i64 D9, .int .i64 Da, .slice Dc D5.length Dd] 26 (0, 0)) (Cmp.b D0.out) Df.out (by simp))
              have n4_ := Aside0.mk (Kd.R_mono (Kd.R_keep (IsS146.apart (show IsS146 w0 _ g s0_0 Dg Dh from IsS146.go D7.out) (Cmp.rr D8.out) (by decide)) hk (fun _ h => h.2)) (fun _ h => h.1))
              have n5_ := Aside0.mk (KeepBut.trans (Cmp.kk HK.out) hk (.inl rfl))
              have n6_ := Aside0.mk (hb)
              have n7_ := Aside0.mk (hi)
              clear D1; clear D3; clear D4; clear D0; clear D8; clear HK; clear HB; clear D7; have D1 := n0_; have D3 := n1_; have D4 := n2_; have D0 := n3_; have D8 := n4_; have HK := n5_; have HB := n6_; have D7 := n7_; clear n0_ n1_ n2_ n3_ n4_ n5_ n6_ n7_; (try clear hb); (try clear hb2); (try clear hk); (try clear hi)
              refine hK.out _ _ ⟨(Cmp.c0 D0 :), (Cmp.c1 D0 :), (Cmp.c2 D0 :)⟩ (fun hHeld => ?_)
              clear hK K
              refine norm_ (a' := ?_) ?_ ?_
              rotate_left
              ·show Act.put _ (some 29) _ = _
               simp only [Act.put, Cmp.s, Cmp.z, Cmp.c, i64_w, i32_w]; rfl
              refine Cmp.pu HT_ 4 30 (Cmp.bb 16 383) ?_
              exact norm_ (by first | (simp only [putAll, Act.put, List.setIfInBounds_toArray, List.set_cons_zero, List.set_cons_succ]; done) | (simp only [putAll, Act.put, List.setIfInBounds_toArray, List.set_cons_zero, List.set_cons_succ]; rfl)) (hJ3_6 (v350) _ ⟨hHeld, (Cmp.rr D3.out), (Cmp.rr D4.out), (Cmp.rr D8.out), (Cmp.b D1.out), (Cmp.b D0.out), (IsS146.go D7.out), (Cmp.kk HK.out), (IsS146.bl HB.out)⟩)
             ·skip
              refine Kd.R_lit_step (Kd.int .i64) _ 3 ?hg (N := 35) ?hd (xs := ([(-1), 0, 1000001] : List Int)) (inner := [.int .i64 (-1), .int .i64 0, .int .i64 1000001]) (ok := fun _ => True) (okp := fun _ => True) ?hr ?hp (fun _ hk => hk) trivial (Below.refl _ _) (Nat.le_refl _) (by simp) ?_; (case hd => rfl); (case hg => rfl); (case hr => first | (go_simp; done) | (go_simp; rfl)); (case hp => exact (Reps.one (show Kd.M (Kd.int .i64) _ _ _ (-1) [.int .i64 (-1)] from rfl) (Reps.one (show Kd.M (Kd.int .i64) _ _ _ 0 [.int .i64 0] from rfl) (Reps.one (show Kd.M (Kd.int .i64) _ _ _ 1000001 [.int .i64 1000001] from rfl) (Reps.none _ _)))))
              intro v356 w55 Dv hb hg_ hnew_
              clear hg_ hnew_
              (first | rw [← Du.out] at Dv | (simp only [Int.reduceToNat] at Dv; rw [← Du.out] at Dv))
              have n0_ := Aside0.mk (Kd.R_below (Cmp.rr D3.out) hb)
              have n1_ := Aside0.mk (Kd.R_below (Cmp.rr D4.out) hb)
              have n2_ := Aside0.mk (Kd.R_elder' (Cmp.rr D8.out) (Kd.R_base Dv) hb)
              have n3_ := Aside0.mk (Kd.R_lower (Kd.R_new' Dv (Kd.R_lt (Cmp.rr D8.out))) (keep_size (w := w) (g := g) (row := none) (Cmp.kk HK.out)))
              have n4_ := Aside0.mk (IsS146.below (IsS146.go D7.out) hb)
              have n5_ := Cmp.be D1 hb
              have n6_ := Cmp.be D0 hb
              have n7_ := Aside0.mk (KeepBut.trans (Cmp.kk HK.out) (KeepBut.of_below hb g none) (.inl rfl))
              have n8_ := Aside0.mk (below_step (IsS146.bl HB.out) hb)
              clear D3; clear D4; clear D8; clear D7; clear D1; clear D0; clear HK; clear HB; have D3 := n0_; have D4 := n1_; have D8 := n2_; have Db := n3_; have D7 := n4_; have D1 := n5_; have D0 := n6_; have HK := n7_; have HB := n8_; clear n0_ n1_ n2_ n3_ n4_ n5_ n6_ n7_ n8_; clear hb Dv
              refine hK.out _ _ ⟨(Cmp.c0 D0 :), (Cmp.c1 D0 :), (Cmp.c2 D0 :)⟩ (fun hHeld => ?_)
              clear hK K
              refine norm_ (a' := ?_) ?_ ?_
              rotate_left
              ·show Act.put _ (some 35) _ = _
               simp only [Act.put, Cmp.s, Cmp.z, Cmp.c, i64_w, i32_w]; rfl
              exact norm_ (by first | (simp only [putAll, Act.put, List.setIfInBounds_toArray, List.set_cons_zero, List.set_cons_succ]; done) | (simp only [putAll, Act.put, List.setIfInBounds_toArray, List.set_cons_zero, List.set_cons_succ]; rfl)) (hJ6_9 (v350, v356) _ ⟨hHeld, (Cmp.rr D3.out), (Cmp.rr D4.out), (by (with_reducible repeat (first | apply Kd.R_alloc | apply Kd.R_drewN | apply Kd.R_drew)); exact Kd.R_mono D8.out (fun _ hk => hk.2)), (by (with_reducible repeat (first | apply Kd.R_alloc | apply Kd.R_drewN | apply Kd.R_drew)); exact Kd.R_mono Db.out (fun _ hk => hk.2)), (Cmp.b D1.out), (Cmp.b D0.out), (IsS146.go D7.out), (Cmp.kk HK.out), (IsS146.bl HB.out)⟩)
           ·skip
            rintro _ w53 ⟨hS_, h0_, h1_, h2_, h3_, h4_, h5_, h6_⟩
            have n0_ : Aside0 (Kd.R k35 35 w53 w.heap.size (fun _ => True) (.slice Dc D5.length Dd) D5) := ⟨h0_⟩
            have n1_ : Aside0 (Kd.R k84 84 w53 w.heap.size (fun _ => True) v326 Dm) := ⟨h1_⟩
            have n2_ : Aside0 (w53.heap[D6]? = some (.cells #[.int .i64 0, .int .i64 0, .slice none 0 0] 26 (0, 0))) := ⟨h2_⟩
            have n3_ : Aside0 (w53.heap[D2]? = some (.cells #[.int .i64 D9, .int .i64 Da, .slice Dc D5.length Dd] 26 (0, 0))) := ⟨h3_⟩
            have n4_ : Aside0 (IsS146 w0 w53 g s0_0 Do Dp) := ⟨h4_⟩
            have n5_ : Aside0 (KeepBut w w53 g none) := ⟨h5_⟩
            have n6_ : Aside0 (Below w0.heap.size w0 w53) := ⟨h6_⟩
            clear D3; clear D4; clear D1; clear D0; clear D7; clear HK; clear HB; clear h0_ h1_ h2_ h3_ h4_ h5_ h6_; have D3 := n0_; have D4 := n1_; have D1 := n2_; have D0 := n3_; have D7 := n4_; have HK := n5_; have HB := n6_; clear n0_ n1_ n2_ n3_ n4_ n5_ n6_
            have hHeld : w53.cell? ⟨D2, 0, none⟩ = some (.int .i64 D9) ∧ w53.cell? ⟨D2, 1, none⟩ = some (.int .i64 Da) ∧ w53.cell? ⟨D2, 2, none⟩ = some (.slice Dc D5.length Dd) := hS_
            refine norm_ (a' := ?_) ?_ ?_
            rotate_left
            ·simp only [putAll, Act.put, List.setIfInBounds_toArray, List.set_cons_zero, List.set_cons_succ]; rfl
            refine two_ (i := 6) (j := 9) (Ni := some 32) (Nj := some 35) (Cmp.bb 16 383) (Cmp.bb 16 831) rfl rfl rfl rfl (two_of HT_.out (by kernel_rfl)) (by decide) (by decide) (fun K hK => ?_) (fun K hK => ?_)
            ·skip
             refine Kd.R_lit_step (Kd.int .i64) _ 3 ?hg (N := 32) ?hd (xs := ([0, 5, 7] : List Int)) (inner := [.int .i64 0, .int .i64 5, .int .i64 7]) (ok := fun _ => True) (okp := fun _ => True) ?hr ?hp (fun _ hk => hk) trivial (Below.refl _ _) (Nat.le_refl _) (by simp) ?_; (case hd => rfl); (case hg => rfl); (case hr => first | (go_simp; done) | (go_simp; rfl)); (case hp => exact (Reps.one (show Kd.M (Kd.int .i64) _ _ _ 0 [.int .i64 0] from rfl) (Reps.one (show Kd.M (Kd.int .i64) _ _ _ 5 [.int .i64 5] from rfl) (Reps.one (show Kd.M (Kd.int .i64) _ _ _ 7 [.int .i64 7] from rfl) (Reps.none _ _)))))
             intro v350 w54 E2 hb hg_ hnew_
             clear hg_ hnew_
             (first | rw [← Dy.out] at E2 | (simp only [Int.reduceToNat] at E2; rw [← Dy.out] at E2))
             have n0_ := Aside0.mk (Kd.R_below (Cmp.rr D3.out) hb)
             have n1_ := Aside0.mk (Kd.R_below (Cmp.rr D4.out) hb)
             have n2_ := Aside0.mk (Kd.R_lower E2 (keep_size (w := w) (g := g) (row := none) (Cmp.kk HK.out)))
             have n3_ := Aside0.mk (IsS146.below (IsS146.go D7.out) hb)
             have n4_ := Cmp.be D1 hb
             have n5_ := Cmp.be D0 hb
             have n6_ := Aside0.mk (KeepBut.trans (Cmp.kk HK.out) (KeepBut.of_below hb g none) (.inl rfl))
             have n7_ := Aside0.mk (below_step (IsS146.bl HB.out) hb)
             clear D3; clear D4; clear D7; clear D1; clear D0; clear HK; clear HB; have D3 := n0_; have D4 := n1_; have D8 := n2_; have D7 := n3_; have D1 := n4_; have D0 := n5_; have HK := n6_; have HB := n7_; clear n0_ n1_ n2_ n3_ n4_ n5_ n6_ n7_; clear hb E2
             refine hK.out _ _ ⟨(Cmp.c0 D0 :), (Cmp.c1 D0 :), (Cmp.c2 D0 :)⟩ (fun hHeld => ?_)
             clear hK K
             refine norm_ (a' := ?_) ?_ ?_
             rotate_left
             ·show Act.put _ (some 32) _ = _
              simp only [Act.put, Cmp.s, Cmp.z, Cmp.c, i64_w, i32_w]; rfl
             exact norm_ (by first | (simp only [putAll, Act.put, List.setIfInBounds_toArray, List.set_cons_zero, List.set_cons_succ]; done) | (simp only [putAll, Act.put, List.setIfInBounds_toArray, List.set_cons_zero, List.set_cons_succ]; rfl)) (hJ3_6 (v350) _ ⟨hHeld, (Cmp.rr D3.out), (Cmp.rr D4.out), (Cmp.rr D8.out), (Cmp.b D1.out), (Cmp.b D0.out), (IsS146.go D7.out), (Cmp.kk HK.out), (IsS146.bl HB.out)⟩)
            ·skip
             refine Kd.R_lit_step (Kd.int .i64) _ 3 ?hg (N := 35) ?hd (xs := ([(-1), 0, 1000001] : List Int)) (inner := [.int .i64 (-1), .int .i64 0, .int .i64 1000001]) (ok := fun _ => True) (okp := fun _ => True) ?hr ?hp (fun _ hk => hk) trivial (Below.refl _ _) (Nat.le_refl _) (by simp) ?_; (case hd => rfl); (case hg => rfl); (case hr => first | (go_simp; done) | (go_simp; rfl)); (case hp => exact (Reps.one (show Kd.M (Kd.int .i64) _ _ _ (-1) [.int .i64 (-1)] from rfl) (Reps.one (show Kd.M (Kd.int .i64) _ _ _ 0 [.int .i64 0] from rfl) (Reps.one (show Kd.M (Kd.int .i64) _ _ _ 1000001 [.int .i64 1000001] from rfl) (Reps.none _ _)))))
             intro v356 w54 E2 hb hg_ hnew_
             clear hg_ hnew_
             (first | rw [← Du.out] at E2 | (simp only [Int.reduceToNat] at E2; rw [← Du.out] at E2))
             have n0_ := Aside0.mk (Kd.R_below (Cmp.rr D3.out) hb)
             have n1_ := Aside0.mk (Kd.R_below (Cmp.rr D4.out) hb)
             have n2_ := Aside0.mk (Kd.R_lower E2 (keep_size (w := w) (g := g) (row := none) (Cmp.kk HK.out)))
             have n3_ := Aside0.mk (IsS146.below (IsS146.go D7.out) hb)
             have n4_ := Cmp.be D1 hb
             have n5_ := Cmp.be D0 hb
             have n6_ := Aside0.mk (KeepBut.trans (Cmp.kk HK.out) (KeepBut.of_below hb g none) (.inl rfl))
             have n7_ := Aside0.mk (below_step (IsS146.bl HB.out) hb)
             clear D3; clear D4; clear D7; clear D1; clear D0; clear HK; clear HB; have D3 := n0_; have D4 := n1_; have Db := n2_; have D7 := n3_; have D1 := n4_; have D0 := n5_; have HK := n6_; have HB := n7_; clear n0_ n1_ n2_ n3_ n4_ n5_ n6_ n7_; clear hb E2
             refine hK.out _ _ ⟨(Cmp.c0 D0 :), (Cmp.c1 D0 :), (Cmp.c2 D0 :)⟩ (fun hHeld => ?_)
             clear hK K
             refine norm_ (a' := ?_) ?_ ?_
             rotate_left
             ·show Act.put _ (some 35) _ = _
              simp only [Act.put, Cmp.s, Cmp.z, Cmp.c, i64_w, i32_w]; rfl
             exact norm_ (by first | (simp only [putAll, Act.put, List.setIfInBounds_toArray, List.set_cons_zero, List.set_cons_succ]; done) | (simp only [putAll, Act.put, List.setIfInBounds_toArray, List.set_cons_zero, List.set_cons_succ]; rfl)) (hJ3_9 (v356) _ ⟨hHeld, (Cmp.rr D3.out), (Cmp.rr D4.out), (Cmp.rr Db.out), (Cmp.b D1.out), (Cmp.b D0.out), (IsS146.go D7.out), (Cmp.kk HK.out), (IsS146.bl HB.out)⟩)
          ·skip
           rintro ⟨v350, v356⟩ w56 ⟨hS_, h0_, h1_, h2_, h3_, h4_, h5_, h6_, h7_, h8_⟩
           have n0_ : Aside0 (Kd.R k35 35 w56 w.heap.size (fun _ => True) (.slice Dc D5.length Dd) D5) := ⟨h0_⟩
           have n1_ : Aside0 (Kd.R k84 84 w56 w.heap.size (fun _ => True) v326 Dm) := ⟨h1_⟩
           have n2_ : Aside0 (Kd.R (Kd.int .i64) 3 w56 w.heap.size (fun k_ => some k_ ≠ (v356 : Value).ownBlock) v350 Dt) := ⟨h2_⟩
           have n3_ : Aside0 (Kd.R (Kd.int .i64) 3 w56 w.heap.size (fun k_ => some k_ ≠ (v350 : Value).ownBlock) v356 Dx) := ⟨h3_⟩
           have n4_ : Aside0 (w56.heap[D6]? = some (.cells #[.int .i64 0, .int .i64 0, .slice none 0 0] 26 (0, 0))) := ⟨h4_⟩
           have n5_ : Aside0 (w56.heap[D2]? = some (.cells #[.int .i64 D9, .int .i64 Da, .slice Dc D5.length Dd] 26 (0, 0))) := ⟨h5_⟩
           have n6_ : Aside0 (IsS146 w0 w56 g s0_0 Dg Dh) := ⟨h6_⟩
           have n7_ : Aside0 (KeepBut w w56 g none) := ⟨h7_⟩
           have n8_ : Aside0 (Below w0.heap.size w0 w56) := ⟨h8_⟩
           clear D3; clear D4; clear D1; clear D0; clear D7; clear HK; clear HB; clear h0_ h1_ h2_ h3_ h4_ h5_ h6_ h7_ h8_; have D3 := n0_; have D4 := n1_; have D8 := n2_; have Db := n3_; have D1 := n4_; have D0 := n5_; have D7 := n6_; have HK := n7_; have HB := n8_; clear n0_ n1_ n2_ n3_ n4_ n5_ n6_ n7_ n8_
           have hHeld : w56.cell? ⟨D2, 0, none⟩ = some (.int .i64 D9) ∧ w56.cell? ⟨D2, 1, none⟩ = some (.int .i64 Da) ∧ w56.cell? ⟨D2, 2, none⟩ = some (.slice Dc D5.length Dd) := hS_
           refine norm_ (a' := ?_) ?_ ?_
           rotate_left
           ·simp only [putAll, Act.put, List.setIfInBounds_toArray, List.set_cons_zero, List.set_cons_succ]; rfl
           refine one_ (i := 3) (N := some 29) (Cmp.bb 16 879) rfl rfl (one_of HT_.out (by kernel_rfl)) (by decide) (fun K hK => ?_)
           refine goes_ Try.func106 (by kernel_rfl) rfl #[.pointer (some ⟨g, 0, none⟩), .int .i64 9] (by rfl) rfl rfl Cmp.q ?_
           with_reducible refine (spec_l1Below.calls g s0_0 Dg Dh 9 Dn Do Dp w0 _ ?side1 ?side2 Fb.out).mono ?_
           (case side1 => exact IsS146.go D7.out)
           (case side2 => exact IsS146.bl HB.out)
           rintro e w57 ⟨rfl, hi, hb, hk⟩; refine ⟨_, rfl, ?_⟩
           have n0_ := Aside0.mk (KeepBut.blk hk (g' := D6) (o := .cells #[.int .i64 0, .int .i64 0, .slice none 0 0] 26 (0, 0)) (Cmp.b D1.out) De.out (by simp))
           have n1_ := Aside0.mk (Kd.R_mono (Kd.R_keep (IsS146.apart (show IsS146 w0 _ g s0_0 Dg Dh from IsS146.go D7.out) (Cmp.rr D3.out) (by decide)) hk (fun _ h => h.2)) (fun _ h => h.1))
           have n2_ := Aside0.mk (Kd.R_mono (Kd.R_keep (IsS146.apart (show IsS146 w0 _ g s0_0 Dg Dh from IsS146.go D7.out) (Cmp.rr D4.out) (by decide)) hk (fun _ h => h.2)) (fun _ h => h.1))
           have n3_ := Aside0.mk (KeepBut.blk hk (g' := D2) (o := .cells #[.int .i64 D9, .int .i64 Da, .slice Dc D5.length Dd] 26 (0, 0)) (Cmp.b D0.out) Df.out (by simp))
           have n4_ := Aside0.mk (Kd.R_mono (Kd.R_keep (IsS146.apart (show IsS146 w0 _ g s0_0 Dg Dh from IsS146.go D7.out) (Cmp.rr D8.out) (by decide)) hk (fun _ h => h.2)) (fun _ h => h.1))
           have n5_ := Aside0.mk (Kd.R_mono (Kd.R_keep (IsS146.apart (show IsS146 w0 _ g s0_0 Dg Dh from IsS146.go D7.out) (Cmp.rr Db.out) (by decide)) hk (fun _ h => h.2)) (fun _ h => h.1))
           have n6_ := Aside0.mk (KeepBut.trans (Cmp.kk HK.out) hk (.inl rfl))
           have n7_ := Aside0.mk (hb)
           have n8_ := Aside0.mk (hi)
           clear D1; clear D3; clear D4; clear D0; clear D8; clear Db; clear HK; clear HB; clear D7; have D1 := n0_; have D3 := n1_; have D4 := n2_; have D0 := n3_; have D8 := n4_; have Db := n5_; have HK := n6_; have HB := n7_; have D7 := n8_; clear n0_ n1_ n2_ n3_ n4_ n5_ n6_ n7_ n8_; (try clear hb); (try clear hb2); (try clear hk); (try clear hi)
           refine hK.out _ _ ⟨(Cmp.c0 D0 :), (Cmp.c1 D0 :), (Cmp.c2 D0 :)⟩ (fun hHeld => ?_)
           clear hK K
           refine norm_ (a' := ?_) ?_ ?_
           rotate_left
           ·show Act.put _ (some 29) _ = _
            simp only [Act.put, Cmp.s, Cmp.z, Cmp.c, i64_w, i32_w]; rfl
           refine Cmp.pu HT_ 4 30 (Cmp.bb 16 895) ?_
           exact norm_ (by first | (simp only [putAll, Act.put, List.setIfInBounds_toArray, List.set_cons_zero, List.set_cons_succ]; done) | (simp only [putAll, Act.put, List.setIfInBounds_toArray, List.set_cons_zero, List.set_cons_succ]; rfl)) (hJ3_6_9 (v350, v356) _ ⟨hHeld, (Cmp.rr D3.out), (Cmp.rr D4.out), (Cmp.rr D8.out), (Cmp.rr Db.out), (Cmp.b D1.out), (Cmp.b D0.out), (IsS146.go D7.out), (Cmp.kk HK.out), (IsS146.bl HB.out)⟩)
         ·skip
          rintro v356 w55 ⟨hS_, h0_, h1_, h2_, h3_, h4_, h5_, h6_, h7_⟩
          have n0_ : Aside0 (Kd.R k35 35 w55 w.heap.size (fun _ => True) (.slice Dc D5.length Dd) D5) := ⟨h0_⟩
          have n1_ : Aside0 (Kd.R k84 84 w55 w.heap.size (fun _ => True) v326 Dm) := ⟨h1_⟩
          have n2_ : Aside0 (Kd.R (Kd.int .i64) 3 w55 w.heap.size (fun _ => True) v356 Dx) := ⟨h2_⟩
          have n3_ : Aside0 (w55.heap[D6]? = some (.cells #[.int .i64 0, .int .i64 0, .slice none 0 0] 26 (0, 0))) := ⟨h3_⟩
          have n4_ : Aside0 (w55.heap[D2]? = some (.cells #[.int .i64 D9, .int .i64 Da, .slice Dc D5.length Dd] 26 (0, 0))) := ⟨h4_⟩
          have n5_ : Aside0 (IsS146 w0 w55 g s0_0 Do Dp) := ⟨h5_⟩
          have n6_ : Aside0 (KeepBut w w55 g none) := ⟨h6_⟩
          have n7_ : Aside0 (Below w0.heap.size w0 w55) := ⟨h7_⟩
          clear D3; clear D4; clear D1; clear D0; clear D7; clear HK; clear HB; clear h0_ h1_ h2_ h3_ h4_ h5_ h6_ h7_; have D3 := n0_; have D4 := n1_; have Db := n2_; have D1 := n3_; have D0 := n4_; have D7 := n5_; have HK := n6_; have HB := n7_; clear n0_ n1_ n2_ n3_ n4_ n5_ n6_ n7_
          have hHeld : w55.cell? ⟨D2, 0, none⟩ = some (.int .i64 D9) ∧ w55.cell? ⟨D2, 1, none⟩ = some (.int .i64 Da) ∧ w55.cell? ⟨D2, 2, none⟩ = some (.slice Dc D5.length Dd) := hS_
          refine norm_ (a' := ?_) ?_ ?_
          rotate_left
          ·simp only [putAll, Act.put, List.setIfInBounds_toArray, List.set_cons_zero, List.set_cons_succ]; rfl
          refine one_ (i := 6) (N := some 32) (Cmp.bb 16 895) rfl rfl (one_of HT_.out (by kernel_rfl)) (by decide) (fun K hK => ?_)
          refine Kd.R_lit_step (Kd.int .i64) _ 3 ?hg (N := 32) ?hd (xs := ([0, 5, 7] : List Int)) (inner := [.int .i64 0, .int .i64 5, .int .i64 7]) (ok := fun _ => True) (okp := fun _ => True) ?hr ?hp (fun _ hk => hk) trivial (Below.refl _ _) (Nat.le_refl _) (by simp) ?_; (case hd => rfl); (case hg => rfl); (case hr => first | (go_simp; done) | (go_simp; rfl)); (case hp => exact (Reps.one (show Kd.M (Kd.int .i64) _ _ _ 0 [.int .i64 0] from rfl) (Reps.one (show Kd.M (Kd.int .i64) _ _ _ 5 [.int .i64 5] from rfl) (Reps.one (show Kd.M (Kd.int .i64) _ _ _ 7 [.int .i64 7] from rfl) (Reps.none _ _)))))
          intro v350 w56 Dw hb hg_ hnew_
          clear hg_ hnew_
          (first | rw [← Dy.out] at Dw | (simp only [Int.reduceToNat] at Dw; rw [← Dy.out] at Dw))
          have n0_ := Aside0.mk (Kd.R_below (Cmp.rr D3.out) hb)
          have n1_ := Aside0.mk (Kd.R_below (Cmp.rr D4.out) hb)
          have n2_ := Aside0.mk (Kd.R_elder' (Cmp.rr Db.out) (Kd.R_base Dw) hb)
          have n3_ := Aside0.mk (Kd.R_lower (Kd.R_new' Dw (Kd.R_lt (Cmp.rr Db.out))) (keep_size (w := w) (g := g) (row := none) (Cmp.kk HK.out)))
          have n4_ := Aside0.mk (IsS146.below (IsS146.go D7.out) hb)
          have n5_ := Cmp.be D1 hb
          have n6_ := Cmp.be D0 hb
          have n7_ := Aside0.mk (KeepBut.trans (Cmp.kk HK.out) (KeepBut.of_below hb g none) (.inl rfl))
          have n8_ := Aside0.mk (below_step (IsS146.bl HB.out) hb)
          clear D3; clear D4; clear Db; clear D7; clear D1; clear D0; clear HK; clear HB; have D3 := n0_; have D4 := n1_; have Db := n2_; have D8 := n3_; have D7 := n4_; have D1 := n5_; have D0 := n6_; have HK := n7_; have HB := n8_; clear n0_ n1_ n2_ n3_ n4_ n5_ n6_ n7_ n8_; clear hb Dw
          refine hK.out _ _ ⟨(Cmp.c0 D0 :), (Cmp.c1 D0 :), (Cmp.c2 D0 :)⟩ (fun hHeld => ?_)
          clear hK K
          refine norm_ (a' := ?_) ?_ ?_
          rotate_left
          ·show Act.put _ (some 32) _ = _
           simp only [Act.put, Cmp.s, Cmp.z, Cmp.c, i64_w, i32_w]; rfl
          exact norm_ (by first | (simp only [putAll, Act.put, List.setIfInBounds_toArray, List.set_cons_zero, List.set_cons_succ]; done) | (simp only [putAll, Act.put, List.setIfInBounds_toArray, List.set_cons_zero, List.set_cons_succ]; rfl)) (hJ3_6_9 (v350, v356) _ ⟨hHeld, (Cmp.rr D3.out), (Cmp.rr D4.out), (by (with_reducible repeat (first | apply Kd.R_alloc | apply Kd.R_drewN | apply Kd.R_drew)); exact Kd.R_mono D8.out (fun _ hk => hk.2)), (by (with_reducible repeat (first | apply Kd.R_alloc | apply Kd.R_drewN | apply Kd.R_drew)); exact Kd.R_mono Db.out (fun _ hk => hk.2)), (Cmp.b D1.out), (Cmp.b D0.out), (IsS146.go D7.out), (Cmp.kk HK.out), (IsS146.bl HB.out)⟩)
        ·skip
         rintro v350 w55 ⟨hS_, h0_, h1_, h2_, h3_, h4_, h5_, h6_, h7_⟩
         have n0_ : Aside0 (Kd.R k35 35 w55 w.heap.size (fun _ => True) (.slice Dc D5.length Dd) D5) := ⟨h0_⟩
         have n1_ : Aside0 (Kd.R k84 84 w55 w.heap.size (fun _ => True) v326 Dm) := ⟨h1_⟩
         have n2_ : Aside0 (Kd.R (Kd.int .i64) 3 w55 w.heap.size (fun _ => True) v350 Dt) := ⟨h2_⟩
         have n3_ : Aside0 (w55.heap[D6]? = some (.cells #[.int .i64 0, .int .i64 0, .slice none 0 0] 26 (0, 0))) := ⟨h3_⟩
         have n4_ : Aside0 (w55.heap[D2]? = some (.cells #[.int .i64 D9, .int .i64 Da, .slice Dc D5.length Dd] 26 (0, 0))) := ⟨h4_⟩
         have n5_ : Aside0 (IsS146 w0 w55 g s0_0 Do Dp) := ⟨h5_⟩
         have n6_ : Aside0 (KeepBut w w55 g none) := ⟨h6_⟩
         have n7_ : Aside0 (Below w0.heap.size w0 w55) := ⟨h7_⟩
         clear D3; clear D4; clear D1; clear D0; clear D7; clear HK; clear HB; clear h0_ h1_ h2_ h3_ h4_ h5_ h6_ h7_; have D3 := n0_; have D4 := n1_; have D8 := n2_; have D1 := n3_; have D0 := n4_; have D7 := n5_; have HK := n6_; have HB := n7_; clear n0_ n1_ n2_ n3_ n4_ n5_ n6_ n7_
         have hHeld : w55.cell? ⟨D2, 0, none⟩ = some (.int .i64 D9) ∧ w55.cell? ⟨D2, 1, none⟩ = some (.int .i64 Da) ∧ w55.cell? ⟨D2, 2, none⟩ = some (.slice Dc D5.length Dd) := hS_
         obtain ⟨F0, F3, F5⟩ := Kd.R_slice D8.out
         (first | subst F5 | (injection F5 with f1_ f2_ f3_; have f4_ := f1_.symm; have f5_ := f3_.symm; clear f1_ f2_ f3_; subst f4_; subst f5_))
         refine norm_ (a' := ?_) ?_ ?_
         rotate_left
         ·simp only [putAll, Act.put, List.setIfInBounds_toArray, List.set_cons_zero, List.set_cons_succ]; rfl
         refine two_ (i := 7) (j := 9) (Ni := some 33) (Nj := some 35) (Cmp.bm 9 7) (Cmp.bb 16 895) rfl rfl rfl rfl (two_of HT_.out (by kernel_rfl)) (by decide) (by decide) (fun K hK => ?_) (fun K hK => ?_)
         ·skip
          refine goes_ Try.func52 (by kernel_rfl) rfl #[.pointer (some ⟨g, 0, none⟩), .slice F0 Dt.length F3] (by rfl) rfl rfl Cmp.q ?_
          with_reducible refine (spec_l1Int.calls g s0_0 Do Dp _ _ Dt E5 Dz E0 w0 _ ?side1 ?side2 ?side3 ?side4 ?side5 Ju.out).mono ?_
          (case side1 => exact IsS146.go D7.out)
          (case side2 => exact IsS146.bl HB.out)
          (case side3 => exact Cmp.rc (Kd.R_reads' D8.out).2.2)
          (case side4 => exact (Kd.R_reads' D8.out).2.1)
          (case side5 => exact far_slice (IsS146.own_ne D7.out D8.out (by decide)))
          rintro e w57 ⟨rfl, hi, hb, hk⟩; refine ⟨_, rfl, ?_⟩
          have n0_ := Aside0.mk (KeepBut.blk hk (g' := D6) (o := .cells #[.int .i64 0, .int .i64 0, .slice none 0 0] 26 (0, 0)) (Cmp.b D1.out) De.out (by simp))
          have n1_ := Aside0.mk (Kd.R_mono (Kd.R_keep (IsS146.apart (show IsS146 w0 _ g s0_0 Do Dp from IsS146.go D7.out) (Cmp.rr D3.out) (by decide)) hk (fun _ h => h.2)) (fun _ h => h.1))
          have n2_ := Aside0.mk (Kd.R_mono (Kd.R_keep (IsS146.apart (show IsS146 w0 _ g s0_0 Do Dp from IsS146.go D7.out) (Cmp.rr D4.out) (by decide)) hk (fun _ h => h.2)) (fun _ h => h.1))
          have n3_ := Aside0.mk (KeepBut.blk hk (g' := D2) (o := .cells #[.int .i64 D9, .int .i64 Da, .slice Dc D5.length Dd] 26 (0, 0)) (Cmp.b D0.out) Df.out (by simp))
          have n4_ := Aside0.mk (Kd.R_mono (Kd.R_keep (IsS146.apart (show IsS146 w0 _ g s0_0 Do Dp from IsS146.go D7.out) (Cmp.rr D8.out) (by decide)) hk (fun _ h => h.2)) (fun _ h => h.1))
          have n5_ := Aside0.mk (KeepBut.trans (Cmp.kk HK.out) hk (.inl rfl))
          have n6_ := Aside0.mk (hb)
          have n7_ := Aside0.mk (hi)
          clear D1; clear D3; clear D4; clear D0; clear D8; clear HK; clear HB; clear D7; have D1 := n0_; have D3 := n1_; have D4 := n2_; have D0 := n3_; have D8 := n4_; have HK := n5_; have HB := n6_; have D7 := n7_; clear n0_ n1_ n2_ n3_ n4_ n5_ n6_ n7_; (try clear hb); (try clear hb2); (try clear hk); (try clear hi)
          refine hK.out _ _ ⟨(Cmp.c0 D0 :), (Cmp.c1 D0 :), (Cmp.c2 D0 :)⟩ (fun hHeld => ?_)
          clear hK K
          refine norm_ (a' := ?_) ?_ ?_
          rotate_left
          ·show Act.put _ (some 33) _ = _
           simp only [Act.put, Cmp.s, Cmp.z, Cmp.c, i64_w, i32_w]; rfl
          exact norm_ (by first | (simp only [putAll, Act.put, List.setIfInBounds_toArray, List.set_cons_zero, List.set_cons_succ]; done) | (simp only [putAll, Act.put, List.setIfInBounds_toArray, List.set_cons_zero, List.set_cons_succ]; rfl)) (hJ3_6_7 (.slice F0 Dt.length F3) _ ⟨hHeld, (Cmp.rr D3.out), (Cmp.rr D4.out), (Cmp.rr D8.out), (Cmp.b D1.out), (Cmp.b D0.out), (IsS146.go D7.out), (Cmp.kk HK.out), (IsS146.bl HB.out)⟩)
         ·skip
          refine Kd.R_lit_step (Kd.int .i64) _ 3 ?hg (N := 35) ?hd (xs := ([(-1), 0, 1000001] : List Int)) (inner := [.int .i64 (-1), .int .i64 0, .int .i64 1000001]) (ok := fun _ => True) (okp := fun _ => True) ?hr ?hp (fun _ hk => hk) trivial (Below.refl _ _) (Nat.le_refl _) (by simp) ?_; (case hd => rfl); (case hg => rfl); (case hr => first | (go_simp; done) | (go_simp; rfl)); (case hp => exact (Reps.one (show Kd.M (Kd.int .i64) _ _ _ (-1) [.int .i64 (-1)] from rfl) (Reps.one (show Kd.M (Kd.int .i64) _ _ _ 0 [.int .i64 0] from rfl) (Reps.one (show Kd.M (Kd.int .i64) _ _ _ 1000001 [.int .i64 1000001] from rfl) (Reps.none _ _)))))
          intro v356 w56 Dw hb hg_ hnew_
          clear hg_ hnew_
          (first | rw [← Du.out] at Dw | (simp only [Int.reduceToNat] at Dw; rw [← Du.out] at Dw))
          have n0_ := Aside0.mk (Kd.R_below (Cmp.rr D3.out) hb)
          have n1_ := Aside0.mk (Kd.R_below (Cmp.rr D4.out) hb)
          have n2_ := Aside0.mk (Kd.R_elder' (Cmp.rr D8.out) (Kd.R_base Dw) hb)
          have n3_ := Aside0.mk (Kd.R_lower (Kd.R_new' Dw (Kd.R_lt (Cmp.rr D8.out))) (keep_size (w := w) (g := g) (row := none) (Cmp.kk HK.out)))
          have n4_ := Aside0.mk (IsS146.below (IsS146.go D7.out) hb)
          have n5_ := Cmp.be D1 hb
          have n6_ := Cmp.be D0 hb
          have n7_ := Aside0.mk (KeepBut.trans (Cmp.kk HK.out) (KeepBut.of_below hb g none) (.inl rfl))
          have n8_ := Aside0.mk (below_step (IsS146.bl HB.out) hb)
          clear D3; clear D4; clear D8; clear D7; clear D1; clear D0; clear HK; clear HB; have D3 := n0_; have D4 := n1_; have D8 := n2_; have Db := n3_; have D7 := n4_; have D1 := n5_; have D0 := n6_; have HK := n7_; have HB := n8_; clear n0_ n1_ n2_ n3_ n4_ n5_ n6_ n7_ n8_; clear hb Dw
          refine hK.out _ _ ⟨(Cmp.c0 D0 :), (Cmp.c1 D0 :), (Cmp.c2 D0 :)⟩ (fun hHeld => ?_)
          clear hK K
          refine norm_ (a' := ?_) ?_ ?_
          rotate_left
          ·show Act.put _ (some 35) _ = _
           simp only [Act.put, Cmp.s, Cmp.z, Cmp.c, i64_w, i32_w]; rfl
          exact norm_ (by first | (simp only [putAll, Act.put, List.setIfInBounds_toArray, List.set_cons_zero, List.set_cons_succ]; done) | (simp only [putAll, Act.put, List.setIfInBounds_toArray, List.set_cons_zero, List.set_cons_succ]; rfl)) (hJ3_6_9 (_, v356) _ ⟨hHeld, (Cmp.rr D3.out), (Cmp.rr D4.out), (by (with_reducible repeat (first | apply Kd.R_alloc | apply Kd.R_drewN | apply Kd.R_drew)); exact Kd.R_mono D8.out (fun _ hk => hk.2)), (by (with_reducible repeat (first | apply Kd.R_alloc | apply Kd.R_drewN | apply Kd.R_drew)); exact Kd.R_mono Db.out (fun _ hk => hk.2)), (Cmp.b D1.out), (Cmp.b D0.out), (IsS146.go D7.out), (Cmp.kk HK.out), (IsS146.bl HB.out)⟩)
       ·skip
        rintro ⟨v350, v356⟩ w57 ⟨hS_, h0_, h1_, h2_, h3_, h4_, h5_, h6_, h7_, h8_⟩
        have n0_ : Aside0 (Kd.R k35 35 w57 w.heap.size (fun _ => True) (.slice Dc D5.length Dd) D5) := ⟨h0_⟩
        have n1_ : Aside0 (Kd.R k84 84 w57 w.heap.size (fun _ => True) v326 Dm) := ⟨h1_⟩
        have n2_ : Aside0 (Kd.R (Kd.int .i64) 3 w57 w.heap.size (fun k_ => some k_ ≠ (v356 : Value).ownBlock) v350 Dt) := ⟨h2_⟩
        have n3_ : Aside0 (Kd.R (Kd.int .i64) 3 w57 w.heap.size (fun k_ => some k_ ≠ (v350 : Value).ownBlock) v356 Dx) := ⟨h3_⟩
        have n4_ : Aside0 (w57.heap[D6]? = some (.cells #[.int .i64 0, .int .i64 0, .slice none 0 0] 26 (0, 0))) := ⟨h4_⟩
        have n5_ : Aside0 (w57.heap[D2]? = some (.cells #[.int .i64 D9, .int .i64 Da, .slice Dc D5.length Dd] 26 (0, 0))) := ⟨h5_⟩
        have n6_ : Aside0 (IsS146 w0 w57 g s0_0 Do Dp) := ⟨h6_⟩
        have n7_ : Aside0 (KeepBut w w57 g none) := ⟨h7_⟩
        have n8_ : Aside0 (Below w0.heap.size w0 w57) := ⟨h8_⟩
        clear D3; clear D4; clear D1; clear D0; clear D7; clear HK; clear HB; clear h0_ h1_ h2_ h3_ h4_ h5_ h6_ h7_ h8_; have D3 := n0_; have D4 := n1_; have D8 := n2_; have Db := n3_; have D1 := n4_; have D0 := n5_; have D7 := n6_; have HK := n7_; have HB := n8_; clear n0_ n1_ n2_ n3_ n4_ n5_ n6_ n7_ n8_
        have hHeld : w57.cell? ⟨D2, 0, none⟩ = some (.int .i64 D9) ∧ w57.cell? ⟨D2, 1, none⟩ = some (.int .i64 Da) ∧ w57.cell? ⟨D2, 2, none⟩ = some (.slice Dc D5.length Dd) := hS_
        obtain ⟨F1, F4, F6⟩ := Kd.R_slice D8.out
        (first | subst F6 | (injection F6 with f1_ f2_ f3_; have f4_ := f1_.symm; have f5_ := f3_.symm; clear f1_ f2_ f3_; subst f4_; subst f5_))
        refine norm_ (a' := ?_) ?_ ?_
        rotate_left
        ·simp only [putAll, Act.put, List.setIfInBounds_toArray, List.set_cons_zero, List.set_cons_succ]; rfl
        refine one_ (i := 7) (N := some 33) (Cmp.bm 10 6) rfl rfl (one_of HT_.out (by kernel_rfl)) (by decide) (fun K hK => ?_)
        refine goes_ Try.func52 (by kernel_rfl) rfl #[.pointer (some ⟨g, 0, none⟩), .slice F1 Dt.length F4] (by rfl) rfl rfl Cmp.q ?_
        with_reducible refine (spec_l1Int.calls g s0_0 Do Dp _ _ Dt E5 Dz E0 w0 _ ?side1 ?side2 ?side3 ?side4 ?side5 Ju.out).mono ?_
        (case side1 => exact IsS146.go D7.out)
        (case side2 => exact IsS146.bl HB.out)
        (case side3 => exact Cmp.rc (Kd.R_reads' D8.out).2.2)
        (case side4 => exact (Kd.R_reads' D8.out).2.1)
        (case side5 => exact far_slice (IsS146.own_ne D7.out D8.out (by decide)))
        rintro e w59 ⟨rfl, hi, hb, hk⟩; refine ⟨_, rfl, ?_⟩
        have n0_ := Aside0.mk (KeepBut.blk hk (g' := D6) (o := .cells #[.int .i64 0, .int .i64 0, .slice none 0 0] 26 (0, 0)) (Cmp.b D1.out) De.out (by simp))
        have n1_ := Aside0.mk (Kd.R_mono (Kd.R_keep (IsS146.apart (show IsS146 w0 _ g s0_0 Do Dp from IsS146.go D7.out) (Cmp.rr D3.out) (by decide)) hk (fun _ h => h.2)) (fun _ h => h.1))
        have n2_ := Aside0.mk (Kd.R_mono (Kd.R_keep (IsS146.apart (show IsS146 w0 _ g s0_0 Do Dp from IsS146.go D7.out) (Cmp.rr D4.out) (by decide)) hk (fun _ h => h.2)) (fun _ h => h.1))
        have n3_ := Aside0.mk (KeepBut.blk hk (g' := D2) (o := .cells #[.int .i64 D9, .int .i64 Da, .slice Dc D5.length Dd] 26 (0, 0)) (Cmp.b D0.out) Df.out (by simp))
        have n4_ := Aside0.mk (Kd.R_mono (Kd.R_keep (IsS146.apart (show IsS146 w0 _ g s0_0 Do Dp from IsS146.go D7.out) (Cmp.rr D8.out) (by decide)) hk (fun _ h => h.2)) (fun _ h => h.1))
        have n5_ := Aside0.mk (Kd.R_mono (Kd.R_keep (IsS146.apart (show IsS146 w0 _ g s0_0 Do Dp from IsS146.go D7.out) (Cmp.rr Db.out) (by decide)) hk (fun _ h => h.2)) (fun _ h => h.1))
        have n6_ := Aside0.mk (KeepBut.trans (Cmp.kk HK.out) hk (.inl rfl))
        have n7_ := Aside0.mk (hb)
        have n8_ := Aside0.mk (hi)
        clear D1; clear D3; clear D4; clear D0; clear D8; clear Db; clear HK; clear HB; clear D7; have D1 := n0_; have D3 := n1_; have D4 := n2_; have D0 := n3_; have D8 := n4_; have Db := n5_; have HK := n6_; have HB := n7_; have D7 := n8_; clear n0_ n1_ n2_ n3_ n4_ n5_ n6_ n7_ n8_; (try clear hb); (try clear hb2); (try clear hk); (try clear hi)
        refine hK.out _ _ ⟨(Cmp.c0 D0 :), (Cmp.c1 D0 :), (Cmp.c2 D0 :)⟩ (fun hHeld => ?_)
        clear hK K
        refine norm_ (a' := ?_) ?_ ?_
        rotate_left
        ·show Act.put _ (some 33) _ = _
         simp only [Act.put, Cmp.s, Cmp.z, Cmp.c, i64_w, i32_w]; rfl
        exact norm_ (by first | (simp only [putAll, Act.put, List.setIfInBounds_toArray, List.set_cons_zero, List.set_cons_succ]; done) | (simp only [putAll, Act.put, List.setIfInBounds_toArray, List.set_cons_zero, List.set_cons_succ]; rfl)) (hJ3_6_7_9 (.slice F1 Dt.length F4, v356) _ ⟨hHeld, (Cmp.rr D3.out), (Cmp.rr D4.out), (Cmp.rr D8.out), (Cmp.rr Db.out), (Cmp.b D1.out), (Cmp.b D0.out), (IsS146.go D7.out), (Cmp.kk HK.out), (IsS146.bl HB.out)⟩)
      ·skip
       rintro v350 w57 ⟨hS_, h0_, h1_, h2_, h3_, h4_, h5_, h6_, h7_⟩
       have n0_ : Aside0 (Kd.R k35 35 w57 w.heap.size (fun _ => True) (.slice Dc D5.length Dd) D5) := ⟨h0_⟩
       have n1_ : Aside0 (Kd.R k84 84 w57 w.heap.size (fun _ => True) v326 Dm) := ⟨h1_⟩
       have n2_ : Aside0 (Kd.R (Kd.int .i64) 3 w57 w.heap.size (fun _ => True) v350 Dt) := ⟨h2_⟩
       have n3_ : Aside0 (w57.heap[D6]? = some (.cells #[.int .i64 0, .int .i64 0, .slice none 0 0] 26 (0, 0))) := ⟨h3_⟩
       have n4_ : Aside0 (w57.heap[D2]? = some (.cells #[.int .i64 D9, .int .i64 Da, .slice Dc D5.length Dd] 26 (0, 0))) := ⟨h4_⟩
       have n5_ : Aside0 (IsS146 w0 w57 g s0_0 Dz E0) := ⟨h5_⟩
       have n6_ : Aside0 (KeepBut w w57 g none) := ⟨h6_⟩
       have n7_ : Aside0 (Below w0.heap.size w0 w57) := ⟨h7_⟩
       clear D3; clear D4; clear D1; clear D0; clear D7; clear HK; clear HB; clear h0_ h1_ h2_ h3_ h4_ h5_ h6_ h7_; have D3 := n0_; have D4 := n1_; have D8 := n2_; have D1 := n3_; have D0 := n4_; have D7 := n5_; have HK := n6_; have HB := n7_; clear n0_ n1_ n2_ n3_ n4_ n5_ n6_ n7_
       have hHeld : w57.cell? ⟨D2, 0, none⟩ = some (.int .i64 D9) ∧ w57.cell? ⟨D2, 1, none⟩ = some (.int .i64 Da) ∧ w57.cell? ⟨D2, 2, none⟩ = some (.slice Dc D5.length Dd) := hS_
       refine norm_ (a' := ?_) ?_ ?_
       rotate_left
       ·simp only [putAll, Act.put, List.setIfInBounds_toArray, List.set_cons_zero, List.set_cons_succ]; rfl
       refine one_ (i := 9) (N := some 35) (Cmp.bm 10 6) rfl rfl (one_of HT_.out (by kernel_rfl)) (by decide) (fun K hK => ?_)
       refine Kd.R_lit_step (Kd.int .i64) _ 3 ?hg (N := 35) ?hd (xs := ([(-1), 0, 1000001] : List Int)) (inner := [.int .i64 (-1), .int .i64 0, .int .i64 1000001]) (ok := fun _ => True) (okp := fun _ => True) ?hr ?hp (fun _ hk => hk) trivial (Below.refl _ _) (Nat.le_refl _) (by simp) ?_; (case hd => rfl); (case hg => rfl); (case hr => first | (go_simp; done) | (go_simp; rfl)); (case hp => exact (Reps.one (show Kd.M (Kd.int .i64) _ _ _ (-1) [.int .i64 (-1)] from rfl) (Reps.one (show Kd.M (Kd.int .i64) _ _ _ 0 [.int .i64 0] from rfl) (Reps.one (show Kd.M (Kd.int .i64) _ _ _ 1000001 [.int .i64 1000001] from rfl) (Reps.none _ _)))))
       intro v356 w58 Ea hb hg_ hnew_
       clear hg_ hnew_
       (first | rw [← Du.out] at Ea | (simp only [Int.reduceToNat] at Ea; rw [← Du.out] at Ea))
       have n0_ := Aside0.mk (Kd.R_below (Cmp.rr D3.out) hb)
       have n1_ := Aside0.mk (Kd.R_below (Cmp.rr D4.out) hb)
       have n2_ := Aside0.mk (Kd.R_elder' (Cmp.rr D8.out) (Kd.R_base Ea) hb)
       have n3_ := Aside0.mk (Kd.R_lower (Kd.R_new' Ea (Kd.R_lt (Cmp.rr D8.out))) (keep_size (w := w) (g := g) (row := none) (Cmp.kk HK.out)))
       have n4_ := Aside0.mk (IsS146.below (IsS146.go D7.out) hb)
       have n5_ := Cmp.be D1 hb
       have n6_ := Cmp.be D0 hb
       have n7_ := Aside0.mk (KeepBut.trans (Cmp.kk HK.out) (KeepBut.of_below hb g none) (.inl rfl))
       have n8_ := Aside0.mk (below_step (IsS146.bl HB.out) hb)
       clear D3; clear D4; clear D8; clear D7; clear D1; clear D0; clear HK; clear HB; have D3 := n0_; have D4 := n1_; have D8 := n2_; have Db := n3_; have D7 := n4_; have D1 := n5_; have D0 := n6_; have HK := n7_; have HB := n8_; clear n0_ n1_ n2_ n3_ n4_ n5_ n6_ n7_ n8_; clear hb Ea
       refine hK.out _ _ ⟨(Cmp.c0 D0 :), (Cmp.c1 D0 :), (Cmp.c2 D0 :)⟩ (fun hHeld => ?_)
       clear hK K
       refine norm_ (a' := ?_) ?_ ?_
       rotate_left
       ·show Act.put _ (some 35) _ = _
        simp only [Act.put, Cmp.s, Cmp.z, Cmp.c, i64_w, i32_w]; rfl
       exact norm_ (by first | (simp only [putAll, Act.put, List.setIfInBounds_toArray, List.set_cons_zero, List.set_cons_succ]; done) | (simp only [putAll, Act.put, List.setIfInBounds_toArray, List.set_cons_zero, List.set_cons_succ]; rfl)) (hJ3_6_7_9 (v350, v356) _ ⟨hHeld, (Cmp.rr D3.out), (Cmp.rr D4.out), (by (with_reducible repeat (first | apply Kd.R_alloc | apply Kd.R_drewN | apply Kd.R_drew)); exact Kd.R_mono D8.out (fun _ hk => hk.2)), (by (with_reducible repeat (first | apply Kd.R_alloc | apply Kd.R_drewN | apply Kd.R_drew)); exact Kd.R_mono Db.out (fun _ hk => hk.2)), (Cmp.b D1.out), (Cmp.b D0.out), (IsS146.go D7.out), (Cmp.kk HK.out), (IsS146.bl HB.out)⟩)
     rintro ⟨v350, v356⟩ w59 ⟨hS_, h0_, h1_, h2_, h3_, h4_, h5_, h6_, h7_, h8_⟩
     have n0_ : Aside0 (Kd.R k35 35 w59 w.heap.size (fun _ => True) (.slice Dc D5.length Dd) D5) := ⟨h0_⟩
     have n1_ : Aside0 (Kd.R k84 84 w59 w.heap.size (fun _ => True) v326 Dm) := ⟨h1_⟩
     have n2_ : Aside0 (Kd.R (Kd.int .i64) 3 w59 w.heap.size (fun k_ => some k_ ≠ (v356 : Value).ownBlock) v350 Dt) := ⟨h2_⟩
     have n3_ : Aside0 (Kd.R (Kd.int .i64) 3 w59 w.heap.size (fun k_ => some k_ ≠ (v350 : Value).ownBlock) v356 Dx) := ⟨h3_⟩
     have n4_ : Aside0 (w59.heap[D6]? = some (.cells #[.int .i64 0, .int .i64 0, .slice none 0 0] 26 (0, 0))) := ⟨h4_⟩
     have n5_ : Aside0 (w59.heap[D2]? = some (.cells #[.int .i64 D9, .int .i64 Da, .slice Dc D5.length Dd] 26 (0, 0))) := ⟨h5_⟩
     have n6_ : Aside0 (IsS146 w0 w59 g s0_0 Dz E0) := ⟨h6_⟩
     have n7_ : Aside0 (KeepBut w w59 g none) := ⟨h7_⟩
     have n8_ : Aside0 (Below w0.heap.size w0 w59) := ⟨h8_⟩
     clear D3; clear D4; clear D1; clear D0; clear D7; clear HK; clear HB; clear h0_ h1_ h2_ h3_ h4_ h5_ h6_ h7_ h8_; have D3 := n0_; have D4 := n1_; have D8 := n2_; have Db := n3_; have D1 := n4_; have D0 := n5_; have D7 := n6_; have HK := n7_; have HB := n8_; clear n0_ n1_ n2_ n3_ n4_ n5_ n6_ n7_ n8_
     have hHeld : w59.cell? ⟨D2, 0, none⟩ = some (.int .i64 D9) ∧ w59.cell? ⟨D2, 1, none⟩ = some (.int .i64 Da) ∧ w59.cell? ⟨D2, 2, none⟩ = some (.slice Dc D5.length Dd) := hS_
     obtain ⟨Je, Jh, F7⟩ := Kd.R_slice Db.out
     (first | subst F7 | (injection F7 with f1_ f2_ f3_; have f4_ := f1_.symm; have f5_ := f3_.symm; clear f1_ f2_ f3_; subst f4_; subst f5_))
     refine norm_ (a' := ?_) ?_ ?_
     rotate_left
     ·simp only [putAll, Act.put, List.setIfInBounds_toArray, List.set_cons_zero, List.set_cons_succ]; rfl
     refine one_ (i := 10) (N := some 36) (Cmp.bm 11 5) rfl rfl (one_of HT_.out (by kernel_rfl)) (by decide) (fun K hK => ?_)
     refine goes_ Try.func52 (by kernel_rfl) rfl #[.pointer (some ⟨g, 0, none⟩), .slice Je Dx.length Jh] (by rfl) rfl rfl Cmp.q ?_
     with_reducible refine (spec_l1Int.calls g s0_0 Dz E0 _ _ Dx El F9 Fa w0 _ ?side1 ?side2 ?side3 ?side4 ?side5 Kk.out).mono ?_
     (case side1 => exact IsS146.go D7.out)
     (case side2 => exact IsS146.bl HB.out)
     (case side3 => exact Cmp.rc (Kd.R_reads' Db.out).2.2)
     (case side4 => exact (Kd.R_reads' Db.out).2.1)
     (case side5 => exact far_slice (IsS146.own_ne D7.out Db.out (by decide)))
     rintro e w61 ⟨rfl, hi, hb, hk⟩; refine ⟨_, rfl, ?_⟩
     have n0_ := Aside0.mk (KeepBut.blk hk (g' := D6) (o := .cells #[.int .i64 0, .int .i64 0, .slice none 0 0] 26 (0, 0)) (Cmp.b D1.out) De.out (by simp))
     have n1_ := Aside0.mk (Kd.R_mono (Kd.R_keep (IsS146.apart (show IsS146 w0 _ g s0_0 Dz E0 from IsS146.go D7.out) (Cmp.rr D3.out) (by decide)) hk (fun _ h => h.2)) (fun _ h => h.1))
     have n2_ := Aside0.mk (Kd.R_mono (Kd.R_keep (IsS146.apart (show IsS146 w0 _ g s0_0 Dz E0 from IsS146.go D7.out) (Cmp.rr D4.out) (by decide)) hk (fun _ h => h.2)) (fun _ h => h.1))
     have n3_ := Aside0.mk (KeepBut.blk hk (g' := D2) (o := .cells #[.int .i64 D9, .int .i64 Da, .slice Dc D5.length Dd] 26 (0, 0)) (Cmp.b D0.out) Df.out (by simp))
     have n4_ := Aside0.mk (Kd.R_mono (Kd.R_keep (IsS146.apart (show IsS146 w0 _ g s0_0 Dz E0 from IsS146.go D7.out) (Cmp.rr D8.out) (by decide)) hk (fun _ h => h.2)) (fun _ h => h.1))
     have n5_ := Aside0.mk (Kd.R_mono (Kd.R_keep (IsS146.apart (show IsS146 w0 _ g s0_0 Dz E0 from IsS146.go D7.out) (Cmp.rr Db.out) (by decide)) hk (fun _ h => h.2)) (fun _ h => h.1))
     have n6_ := Aside0.mk (KeepBut.trans (Cmp.kk HK.out) hk (.inl rfl))
     have n7_ := Aside0.mk (hb)
     have n8_ := Aside0.mk (hi)
     clear D1; clear D3; clear D4; clear D0; clear D8; clear Db; clear HK; clear HB; clear D7; have D1 := n0_; have D3 := n1_; have D4 := n2_; have D0 := n3_; have D8 := n4_; have Db := n5_; have HK := n6_; have HB := n7_; have D7 := n8_; clear n0_ n1_ n2_ n3_ n4_ n5_ n6_ n7_ n8_; (try clear hb); (try clear hb2); (try clear hk); (try clear hi)
     refine hK.out _ _ ⟨(Cmp.c0 D0 :), (Cmp.c1 D0 :), (Cmp.c2 D0 :)⟩ (fun hHeld => ?_)
     clear hK K
     refine norm_ (a' := ?_) ?_ ?_
     rotate_left
     ·show Act.put _ (some 36) _ = _
      simp only [Act.put, Cmp.s, Cmp.z, Cmp.c, i64_w, i32_w]; rfl
     refine Cmp.pu HT_ 11 37 (Cmp.bm 12 4) ?_
     refine one_ (i := 12) (N := some 38) (Cmp.bm 13 3) rfl rfl (one_of HT_.out (by kernel_rfl)) (by decide) (fun K hK => ?_)
     refine value_ (w1 := ?_) (v := ?_) (by rfl) rfl ?_ ?_
     rotate_left 2
     ·go_simp
      constructor
      ·rfl
      ·rfl
     refine hK.out _ _ ⟨(blk_cell (blk_alloc D0.out _) 0).trans rfl, (blk_cell (blk_alloc D0.out _) 1).trans rfl, (blk_cell (blk_alloc D0.out _) 2).trans rfl⟩ (fun hHeld => ?_)
     clear hK K
     refine norm_ (a' := ?_) ?_ ?_
     rotate_left
     ·show Act.put _ (some 38) _ = _
      simp only [Act.put, Cmp.s, Cmp.z, Cmp.c, i64_w, i32_w]; rfl
     refine one_ (i := 13) (N := some 39) (Cmp.bm 14 2) rfl rfl (one_of HT_.out (by kernel_rfl)) (by decide) (fun K hK => ?_)
     refine Kd.R_append_step k35 w.heap.size (by rfl) (.tmp 27) (.tmp 38) 24 35 (.agg #[(.int .i64 0), (.int .i64 0), (.int .i64 0), (.bool false)]) 32 rfl Try.underlying24 info35 rfl (by decide) (by omega) (.slice Dc D5.length Dd) D5 (⟨wrap64 (Dn - 1), E5, El, false⟩ : S35) [.int .i64 (wrap64 (Dn - 1)), .int .i64 E5, .int .i64 El, .bool false] (fun _ => True) (fun _ => False) rfl rfl ?aP (fun _ hk => hk.elim) ?aF ?aO (Below.refl _ _) ?aS ?aL ?_
     (case aP => exact k35_mkM _ _ _ (⟨wrap64 (Dn - 1), E5, El, false⟩ : S35))
     (case aF => exact (fun _ _ => trivial))
     (case aO => exact (Cmp.rr D3.out))
     (case aS => exact (keep_size (w := w) (g := g) (row := none) (Cmp.kk HK.out)))
     (case aL => have := LMc42.out; omega)
     intro v362 w62 ho hb hg hat
     rw [← F2.out] at ho
     have n0_ := Aside0.mk (IsS146.grown (IsS146.go D7.out) hg (IsS146.own_ne D7.out D3.out (by decide)))
     have n1_ := Cmp.bg D1 hg (Kd.R_ne D3.out D1.out (by decide))
     have n2_ := Aside0.mk (Kd.R_over' (Cmp.rr D4.out) (Kd.R_typed (Cmp.rr D3.out)) (by decide) hg)
     have n3_ := Cmp.bg D0 hg (Kd.R_ne D3.out D0.out (by decide))
     have n4_ := Aside0.mk (Kd.R_over' (Cmp.rr D8.out) (Kd.R_typed (Cmp.rr D3.out)) (by decide) hg)
     have n5_ := Aside0.mk (Kd.R_over' (Cmp.rr Db.out) (Kd.R_typed (Cmp.rr D3.out)) (by decide) hg)
     have n6_ := Aside0.mk (below_weaken (IsS146.bl HB.out) HL.out hb)
     have n7_ := Aside0.mk (KeepBut.trans (Cmp.kk HK.out) (KeepBut.of_grown hg g) (Kd.R_base2 D3.out))
     have n8_ := Aside0.mk (ho)
     clear D7; clear D1; clear D4; clear D0; clear D8; clear Db; clear HB; clear HK; clear D3; have D7 := n0_; have D1 := n1_; have D4 := n2_; have D0 := n3_; have D8 := n4_; have Db := n5_; have HB := n6_; have HK := n7_; have Ep := n8_; clear n0_ n1_ n2_ n3_ n4_ n5_ n6_ n7_ n8_; clear ho hb hg hat
     obtain ⟨Es, Et, F8⟩ := Kd.R_slice Ep.out
     (first | subst F8 | (injection F8 with f1_ f2_ f3_; have f4_ := f1_.symm; have f5_ := f3_.symm; clear f1_ f2_ f3_; subst f4_; subst f5_))
     refine hK.out _ _ ⟨(Cmp.c0 D0 :), (Cmp.c1 D0 :), (Cmp.c2 D0 :)⟩ (fun hHeld => ?_)
     clear hK K
     refine norm_ (a' := ?_) ?_ ?_
     rotate_left
     ·show Act.put _ (some 39) _ = _
      simp only [Act.put, Cmp.s, Cmp.z, Cmp.c, i64_w, i32_w]; rfl
     refine Cmp.pu HT_ 14 40 (Cmp.bm 15 1) ?_
     refine last_ (i := 15) (N := none) (Cmp.bm 16 0) rfl rfl (one_of HT_.out (by kernel_rfl)) (by decide) (fun K hK => ?_)
     have hs64 : w62.cell? ⟨D2, 2, none⟩ = some (.slice Dc D5.length Dd) := (blk_cell D0.out 2).trans rfl
     have hfs64 := blk_frozen D0.out 2; have hns64_0 := Di.out; have hms64_0 := Dj.out
     refine skip_ (w1 := ?_) (by rfl) rfl ?_ ?_
     rotate_left
     ·go_simp; rfl
     refine hK.out _ _ ?_
     clear hK K
     refine done_ (done_of HT_.out (by kernel_rfl)) ?_
     have Fx := Cmp.c0 D0
     have Fy := Cmp.c1 D0
     have Fz := Cmp.c2 D0
     have Gx := blk_frozen D0.out 0; have Gy := blk_frozen D0.out 1; have Gz := blk_frozen D0.out 2; have K3 := De.out; have Kf := Dq.out
     have G0 := Cmp.c0 D1
     have G1 := Cmp.c1 D1
     have G2 := Cmp.c2 D1
     have J0 := blk_frozen D1.out 0; have J1 := blk_frozen D1.out 1; have J2 := blk_frozen D1.out 2
     try go_wp2
     refine bodyPost_ret (results_cell_row rfl _ _ D6 26 #[.int .i64 D9, .int .i64 Da, .slice Es Eo.length Et] (0, 0) _ rfl (Cmp.bw D1.out) Try.underlying26 rfl (by kernel_rfl)) rfl ?_
     exact ⟨_, by first | rfl | (simp [errW_none, errW_some] <;> rfl) | (simp [*, errW_none, errW_some] <;> rfl), by (with_reducible repeat (first | apply Kd.R_alloc | apply Kd.R_drewN | apply Kd.R_drew)); exact Kd.R_mono (Kd.R_far (p := ⟨D6, 2, none⟩) (Kd.R_far (p := ⟨D6, 1, none⟩) (Kd.R_far (p := ⟨D6, 0, none⟩) (Kd.R_far (p := ⟨D2, 2, none⟩) (Kd.R_types (Kd.R_types Ep.out D0.out (by decide)) D1.out (by decide)) (fun _ hk => hk.1.2) (.slice Es Eo.length Et)) (fun _ hk => hk.2) (.int .i64 D9)) (fun _ hk => hk.2) (.int .i64 Da)) (fun _ hk => hk.2) (.slice Es Eo.length Et)) (fun _ hk => trivial), IsS146.go D7.out, IsS146.bl HB.out, Cmp.kk HK.out⟩
    ·rw [if_neg c42] at H; exact absurd H (by simp)
   ·rw [if_neg c38] at H; have c38b0 : (Ds == 2) = false := beq_eq_false_iff_ne.mpr c38; have c38b1 : (Ds != 2) = true := bne_iff_ne.mpr c38
    simp only [Option.some.injEq, Prod.mk.injEq] at H
    obtain ⟨rfl, rfl, rfl, rfl, rfl⟩ := H
    go_enter Try.func51, Try.ntmps51
    go_wp2_with (first | ((with_reducible refine gate_dst (N := 2) rfl ?_); refine box_event ?hg (N := 2) ?hd (cs := #[.int .i64 0, .int .i64 0, .slice none 0 0]) (t := 26) ?hr ?_; (case hd => rfl); (case hg => rfl); (case hr => first | (go_simp; done) | (go_simp; rfl)); intro D6 hg w68 hbox hb; have D1 := Aside0.mk (hbox); have Ee := Aside0.mk ((by rw [hg]; exact (keep_size (w := w) (g := g) (row := none) (Cmp.kk HK.out)) : w.heap.size ≤ D6)); have Ec := Aside0.mk ((Nat.le_trans HW0.out (by rw [hg]; exact (keep_size (w := w) (g := g) (row := none) (Cmp.kk HK.out)) : w.heap.size ≤ D6) : w0.heap.size ≤ D6)); have Dq := Aside0.mk ((by rw [hg]; exact Nat.ne_of_lt (IsS146.lt (show IsS146 w0 _ g s0_0 s0_1 s0_2 from IsS146.go D7.out)) : g ≠ D6)); have De := Aside0.mk ((by rw [hg]; exact Nat.ne_of_gt (IsS146.lt (show IsS146 w0 _ g s0_0 s0_1 s0_2 from IsS146.go D7.out)) : D6 ≠ g)); replace HK := Aside0.mk (KeepBut.trans (Cmp.kk HK.out) (KeepBut.of_below hb g none) (.inl rfl)); replace HB := Aside0.mk (below_step (IsS146.bl HB.out) hb); replace D7 := Aside0.mk (IsS146.below (IsS146.go D7.out) hb); clear hb hbox hg) | ((with_reducible refine gate_callee (f := 113) rfl ?_); refine goesL_ (some 7) rfl rfl Try.func113 (by kernel_rfl) rfl #[.pointer (some ⟨g, 0, none⟩), .string (⟨#[98, 97, 110, 107, 46, 99, 111, 109]⟩ : ByteArray)] rfl Cmp.q ?_; (with_reducible refine (spec_l14Account.calls k g s0_0 s0_1 s0_2 (⟨#[98, 97, 110, 107, 46, 99, 111, 109]⟩ : ByteArray) D9 Da D5 Dm Dk Dl w0 _ ?side1 ?side2 A2.out).mono ?_); (case side1 => exact IsS146.go D7.out); (case side2 => exact IsS146.bl HB.out); rintro e w69 ⟨v323, v326, rfl, Eh, Ei, hi, hb, hk⟩; refine ⟨_, rfl, ?_⟩; have D3 := Aside0.mk (Kd.R_lower Eh (keep_size (w := w) (g := g) (row := none) (Cmp.kk HK.out))); have D4 := Aside0.mk (Kd.R_lower Ei (keep_size (w := w) (g := g) (row := none) (Cmp.kk HK.out))); replace D1 := Aside0.mk (KeepBut.blk hk (g' := D6) (o := .cells #[.int .i64 0, .int .i64 0, .slice none 0 0] 26 (0, 0)) (Cmp.b D1.out) De.out (by simp)); replace HK := Aside0.mk (KeepBut.trans (Cmp.kk HK.out) hk (.inl rfl)); replace HB := Aside0.mk (hb); replace D7 := Aside0.mk (hi); (try clear hb); (try clear hb2); (try clear hk); (try clear hi); (try clear Eh); (try clear Ei)) | ((with_reducible refine gate_dst (N := 3) rfl ?_); refine box_event ?hg (N := 3) ?hd (cs := #[.int .i64 0, .int .i64 0, .slice none 0 0]) (t := 26) ?hr ?_; (case hd => rfl); (case hg => rfl); (case hr => first | (go_simp; done) | (go_simp; rfl)); intro D2 hg w70 hbox hb; have D0 := Aside0.mk (hbox); have Ef := Aside0.mk ((by rw [hg]; exact (keep_size (w := w) (g := g) (row := none) (Cmp.kk HK.out)) : w.heap.size ≤ D2)); have Ed := Aside0.mk ((Nat.le_trans HW0.out (by rw [hg]; exact (keep_size (w := w) (g := g) (row := none) (Cmp.kk HK.out)) : w.heap.size ≤ D2) : w0.heap.size ≤ D2)); have Di := Cmp.nl hg D1; have Dj := Cmp.ng hg D1; have Dr := Aside0.mk ((by rw [hg]; exact Nat.ne_of_lt (IsS146.lt (show IsS146 w0 _ g s0_0 Dk Dl from IsS146.go D7.out)) : g ≠ D2)); have Df := Aside0.mk ((by rw [hg]; exact Nat.ne_of_gt (IsS146.lt (show IsS146 w0 _ g s0_0 Dk Dl from IsS146.go D7.out)) : D2 ≠ g)); replace D3 := Aside0.mk (Kd.R_below (Cmp.rr D3.out) hb); replace D4 := Aside0.mk (Kd.R_below (Cmp.rr D4.out) hb); replace D1 := Cmp.be D1 hb; replace HK := Aside0.mk (KeepBut.trans (Cmp.kk HK.out) (KeepBut.of_below hb g none) (.inl rfl)); replace HB := Aside0.mk (below_step (IsS146.bl HB.out) hb); replace D7 := Aside0.mk (IsS146.below (IsS146.go D7.out) hb); clear hb hbox hg; have K4 := Dj.out; have Kg := Di.out; have K5 := Df.out; have Kh := Dr.out; have G3 := Cmp.c0 D0; have G4 := Cmp.c1 D0; have G5 := Cmp.c2 D0; have J3 := blk_frozen D0.out 0; have J4 := blk_frozen D0.out 1; have J5 := blk_frozen D0.out 2; obtain ⟨Eb, Eg, Jn⟩ := Kd.R_slice D3.out; subst Jn) | ((with_reducible refine gate_callee (f := 106) rfl ?_); refine goesL_ (some 11) rfl rfl Try.func106 (by kernel_rfl) rfl #[.pointer (some ⟨g, 0, none⟩), .int .i64 12] rfl Cmp.q ?_; (with_reducible refine (spec_l1Below.calls g s0_0 Dk Dl 12 Ds Dg Dh w0 _ ?side1 ?side2 A3.out).mono ?_); (case side1 => exact IsS146.go D7.out); (case side2 => exact IsS146.bl HB.out); rintro e w75 ⟨rfl, hi, hb, hk⟩; refine ⟨_, rfl, ?_⟩; replace D1 := Aside0.mk (KeepBut.blk hk (g' := D6) (o := .cells #[.int .i64 0, .int .i64 0, .slice none 0 0] 26 (0, 0)) (Cmp.bw D1.out) De.out (by simp)); replace D3 := Aside0.mk (Kd.R_mono (Kd.R_keep (IsS146.apart (show IsS146 w0 _ g s0_0 Dk Dl from IsS146.go D7.out) (by (with_reducible repeat (first | apply Kd.R_alloc | apply Kd.R_drewN | apply Kd.R_drew)); exact (Kd.R_mono (Kd.R_far (p := ⟨D2, 2, none⟩) (Kd.R_far (p := ⟨D2, 1, none⟩) (Kd.R_far (p := ⟨D2, 0, none⟩) (Kd.R_types D3.out D0.out (by decide)) (fun _ hk => hk.2) (.int .i64 D9)) (fun _ hk => hk.2) (.int .i64 Da)) (fun _ hk => hk.2) (.slice Eb D5.length Eg)) (fun _ h_ => h_.1))) (by decide)) hk (fun _ h => h.2)) (fun _ h => h.1)); replace D4 := Aside0.mk (Kd.R_mono (Kd.R_keep (IsS146.apart (show IsS146 w0 _ g s0_0 Dk Dl from IsS146.go D7.out) (by (with_reducible repeat (first | apply Kd.R_alloc | apply Kd.R_drewN | apply Kd.R_drew)); exact (Kd.R_mono (Kd.R_far (p := ⟨D2, 2, none⟩) (Kd.R_far (p := ⟨D2, 1, none⟩) (Kd.R_far (p := ⟨D2, 0, none⟩) (Kd.R_types D4.out D0.out (by decide)) (fun _ hk => hk.2) (.int .i64 D9)) (fun _ hk => hk.2) (.int .i64 Da)) (fun _ hk => hk.2) (.slice Eb D5.length Eg)) (fun _ h_ => h_.1))) (by decide)) hk (fun _ h => h.2)) (fun _ h => h.1)); replace D0 := Aside0.mk (KeepBut.blk hk (g' := D2) (o := .cells #[.int .i64 D9, .int .i64 Da, .slice Eb D5.length Eg] 26 (0, 0)) (Cmp.bw D0.out) Df.out (by simp)); replace HK := Aside0.mk (KeepBut.trans (Cmp.kk HK.out) hk (.inl rfl)); replace HB := Aside0.mk (hb); replace D7 := Aside0.mk (hi); (try clear hb); (try clear hb2); (try clear hk); (try clear hi); have G6 := Cmp.c0 D0; have G7 := Cmp.c1 D0; have G8 := Cmp.c2 D0; have J6 := blk_frozen D0.out 0; have J7 := blk_frozen D0.out 1; have J8 := blk_frozen D0.out 2; have K6 := De.out; have Ki := Dq.out; have G9 := Cmp.c0 D1; have Ga := Cmp.c1 D1; have Gb := Cmp.c2 D1; have J9 := blk_frozen D1.out 0; have Ja := blk_frozen D1.out 1; have Jb := blk_frozen D1.out 2))
    refine bodyPost_ret (results_cell_row rfl _ _ D6 26 #[.int .i64 D9, .int .i64 Da, .slice Eb D5.length Eg] (0, 0) _ rfl (Cmp.bw D1.out) Try.underlying26 rfl (by kernel_rfl)) rfl ?_
    exact ⟨_, by first | rfl | (simp [errW_none, errW_some] <;> rfl) | (simp [*, errW_none, errW_some] <;> rfl), by (with_reducible repeat (first | apply Kd.R_alloc | apply Kd.R_drewN | apply Kd.R_drew)); exact Kd.R_mono (Kd.R_far (p := ⟨D6, 2, none⟩) (Kd.R_far (p := ⟨D6, 1, none⟩) (Kd.R_far (p := ⟨D6, 0, none⟩) (Kd.R_types D3.out D1.out (by decide)) (fun _ hk => hk.2) (.int .i64 D9)) (fun _ hk => hk.2) (.int .i64 Da)) (fun _ hk => hk.2) (.slice Eb D5.length Eg)) (fun _ hk => trivial), IsS146.go D7.out, IsS146.bl HB.out, Cmp.kk HK.out⟩

end Go.Proofs.Ytgcipecdaimjfaa.PFnCredentials

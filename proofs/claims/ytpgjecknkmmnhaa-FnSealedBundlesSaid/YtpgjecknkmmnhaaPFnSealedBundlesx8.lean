/- Printed functions of the program, out of print.sh, told more shortly. No condition. -/
import Derived.Test.YtpgjecknkmmnhaaCmp
import Derived.Test.YtpgjecknkmmnhaaPFnSealedBundlesx0
import Derived.Test.YtpgjecknkmmnhaaPFnSealedBundlesx2
import Derived.Test.YtpgjecknkmmnhaaPFnSealedBundlesx7
namespace Go.Proofs.Ytpgjecknkmmnhaa.PFnSealedBundles
open Go.Proofs.Ytpgjecknkmmnhaa
open Go.RowKit Go.Proofs.YtpgjecknkmmnhaaW.PrintWords Go.Proofs.YtpgjecknkmmnhaaW.PrintLast Go.Proofs.YtpgjecknkmmnhaaW.PrintMore
attribute [local go_sem] max2_int min2_int max_two min_two max_three min_three max_four min_four   -- for this text's walks alone
set_option linter.unusedVariables false
set_option linter.unusedSimpArgs false
/-! ### spec_l17Any: function 58 -/
def spec_l17Any.f (k : Nat) (s0_0 : List Int) (s0_1 : Int) (s0_2 : Int) : Option ((List (S94)) × Int × Int) := (spec_l17Bundle.f k s0_0 s0_1 s0_2).bind fun bt287 => ((spec_l1Below.f s0_0 bt287.2.1 bt287.2.2 8).bind fun bt293 => (if bt293.1 = 0 then ((spec_l1Int.f s0_0 bt293.2.1 bt293.2.2 (([(-1), 0, 99, 2147483646, 2147483647] : List Int))).bind fun bt299 => ((spec_l1Int.f s0_0 bt299.2.1 bt299.2.2 (([(-1), 0, 1000001] : List Int))).bind fun bt305 => ((spec_l1Int.f s0_0 bt305.2.1 bt305.2.2 (([0, 1, 1000001] : List Int))).bind fun bt311 => (if bt287.1.length < 4398046511104 then (some ((bt287.1 ++ [(⟨bt299.1, bt305.1, bt311.1, false⟩ : S94)]), bt311.2.1, bt311.2.2)) else (none))))) else (if bt293.1 = 1 then (if (bt287.1.length : Int) > 0 then (if 0 < (bt287.1.length : Int) then (some ((bt287.1.set (0 : Int).toNat (⟨(rd_T94 bt287.1 0).f0, (rd_T94 bt287.1 0).f1, 1000000, (rd_T94 bt287.1 0).f3⟩ : S94)), bt293.2.1, bt293.2.2)) else (none)) else (some (bt287.1, bt293.2.1, bt293.2.2))) else (some (bt287.1, bt293.2.1, bt293.2.2)))))
theorem spec_l17Any.mono : ∀ a0 a1 a2 k, LeO (spec_l17Any.f k a0 a1 a2) (spec_l17Any.f (k + 1) a0 a1 a2) := by
  intro a0 a1 a2 k
  unfold spec_l17Any.f
  repeat' first
 | (with_reducible exact spec_l17Bundle.mono _ _ _ _)
 | (with_reducible exact LeO.refl _)
 | (with_reducible exact LeO.none _)
 | (with_reducible refine LeO.ite ?_ ?_)
 | (with_reducible refine LeO.bind ?_ (fun _ => ?_))
def spec_l17Any.T4 : Bool × List (List Nat × List Nat) := (true, [([], []), ([0], [0]), ([], []), ([], []), ([2, 3], [2, 3]), ([], []), ([], []), ([5, 6, 4], [5, 6]), ([], []), ([], []), ([8, 9, 7], [8, 9]), ([4, 7, 10], [4, 7, 10]), ([11], [11]), ([1, 12, 10], [1, 12]), ([0, 1, 2, 3, 4, 5, 6, 7, 8, 9, 10, 11, 12, 13], []), ([14, 13, 13, 0, 1, 2, 3, 4, 5, 6, 7, 8, 9, 10, 11, 12, 13], [13, 14])])
def spec_l17Any.B4 : List Nat := [0, 1, 0, 0, 12, 0, 0, 124, 0, 0, 1020, 2044, 4092, 8191, 16383, 32767]
theorem spec_l17Any.tab4 : rtab .any (opsOf Try.f58 4) = spec_l17Any.T4 := by kernel_rfl
theorem spec_l17Any.bits4 : waitsOk spec_l17Any.T4.2 spec_l17Any.B4 = true := by kernel_rfl
set_option maxHeartbeats 8000000 in
set_option maxRecDepth 100000 in
theorem spec_l17Any.calls (k : Nat) (g : Nat) (s0_0 : List Int) (s0_1 : Int) (s0_2 : Int) (r1 : List (S94)) (r2 : Int) (r3 : Int) (w0 w : World) (hI : IsS103 w0 w g s0_0 s0_1 s0_2) (hB : Below w0.heap.size w0 w) (h : spec_l17Any.f k s0_0 s0_1 s0_2 = some (r1, r2, r3)) :
    Calls Try.prog 58 #[.pointer (some ⟨g, 0, none⟩)] w fun e w' => ∃ v0_ : Value, e = .returned (.agg #[v0_]) ∧ Kd.R k94 94 w' w.heap.size (fun _ => True) v0_ r1 ∧ IsS103 w0 w' g s0_0 r2 r3 ∧ Below w0.heap.size w0 w' ∧ KeepBut w w' g none := by
 have hu45 := Try.underlying45; have hu94 := Try.underlying94; have D7 := Cmp.A hI
 have HK := Cmp.A (KeepBut.refl w g none)
 have HL := Cmp.A hB.size; clear hI; have HW0 := Cmp.A hB.size; have HB := Cmp.A hB; clear hB
 have H : ((spec_l17Bundle.f k s0_0 s0_1 s0_2).bind fun bt287 => ((spec_l1Below.f s0_0 bt287.2.1 bt287.2.2 8).bind fun bt293 => (if bt293.1 = 0 then ((spec_l1Int.f s0_0 bt293.2.1 bt293.2.2 (([(-1), 0, 99, 2147483646, 2147483647] : List Int))).bind fun bt299 => ((spec_l1Int.f s0_0 bt299.2.1 bt299.2.2 (([(-1), 0, 1000001] : List Int))).bind fun bt305 => ((spec_l1Int.f s0_0 bt305.2.1 bt305.2.2 (([0, 1, 1000001] : List Int))).bind fun bt311 => (if bt287.1.length < 4398046511104 then (some ((bt287.1 ++ [(⟨bt299.1, bt305.1, bt311.1, false⟩ : S94)]), bt311.2.1, bt311.2.2)) else (none))))) else (if bt293.1 = 1 then (if (bt287.1.length : Int) > 0 then (if 0 < (bt287.1.length : Int) then (some ((bt287.1.set (0 : Int).toNat (⟨(rd_T94 bt287.1 0).f0, (rd_T94 bt287.1 0).f1, 1000000, (rd_T94 bt287.1 0).f3⟩ : S94)), bt293.2.1, bt293.2.2)) else (none)) else (some (bt287.1, bt293.2.1, bt293.2.2))) else (some (bt287.1, bt293.2.1, bt293.2.2)))))) = some (r1, r2, r3) := h
 clear h; replace H := Option.bind_eq_some_iff.mp H; obtain ⟨⟨D3, Dp, Dq⟩, G6, H⟩ := H; (try dsimp only at H); have A2 := Cmp.A G6; clear G6; replace H := Option.bind_eq_some_iff.mp H; obtain ⟨⟨Dy, Dg, Dh⟩, G7, H⟩ := H; (try dsimp only at H); have A3 := Cmp.A G7; clear G7
 by_cases c4 : Dy = 0
 ·rw [if_pos c4] at H; have c4b0 : (Dy == 0) = true := beq_iff_eq.mpr c4; have c4b1 : (Dy != 0) = false := bne_eq_false_iff_eq.mpr c4; clear c4
  obtain ⟨Di, hy296⟩ : ∃ y_ : List Int, y_ = (([(-1), 0, 99, 2147483646, 2147483647] : List Int)) := ⟨_, rfl⟩
  replace H : ((spec_l1Int.f s0_0 Dg Dh Di).bind fun bt299 => ((spec_l1Int.f s0_0 bt299.2.1 bt299.2.2 (([(-1), 0, 1000001] : List Int))).bind fun bt305 => ((spec_l1Int.f s0_0 bt305.2.1 bt305.2.2 (([0, 1, 1000001] : List Int))).bind fun bt311 => (if D3.length < 4398046511104 then (some ((D3 ++ [(⟨bt299.1, bt305.1, bt311.1, false⟩ : S94)]), bt311.2.1, bt311.2.2)) else (none))))) = some (r1, r2, r3) := Cmp.hy hy296 H
  have Dz := Cmp.A hy296; clear hy296; replace H := Option.bind_eq_some_iff.mp H; obtain ⟨⟨Dw, Dm, Dn⟩, G8, H⟩ := H; (try dsimp only at H); have A5 := Cmp.A G8; clear G8
  obtain ⟨Dl, hy302⟩ : ∃ y_ : List Int, y_ = (([(-1), 0, 1000001] : List Int)) := ⟨_, rfl⟩
  replace H : ((spec_l1Int.f s0_0 Dm Dn Dl).bind fun bt305 => ((spec_l1Int.f s0_0 bt305.2.1 bt305.2.2 (([0, 1, 1000001] : List Int))).bind fun bt311 => (if D3.length < 4398046511104 then (some ((D3 ++ [(⟨Dw, bt305.1, bt311.1, false⟩ : S94)]), bt311.2.1, bt311.2.2)) else (none)))) = some (r1, r2, r3) := Cmp.hy hy302 H
  have Dt := Cmp.A hy302; clear hy302; replace H := Option.bind_eq_some_iff.mp H; obtain ⟨⟨E2, E0, E1⟩, G9, H⟩ := H; (try dsimp only at H); have A6 := Cmp.A G9; clear G9
  obtain ⟨Dv, hy308⟩ : ∃ y_ : List Int, y_ = (([0, 1, 1000001] : List Int)) := ⟨_, rfl⟩
  replace H : ((spec_l1Int.f s0_0 E0 E1 Dv).bind fun bt311 => (if D3.length < 4398046511104 then (some ((D3 ++ [(⟨Dw, E2, bt311.1, false⟩ : S94)]), bt311.2.1, bt311.2.2)) else (none))) = some (r1, r2, r3) := Cmp.hy hy308 H
  have Do := Cmp.A hy308; clear hy308; replace H := Option.bind_eq_some_iff.mp H; obtain ⟨⟨El, F7, F8⟩, Ga, H⟩ := H; (try dsimp only at H); have A7 := Cmp.A Ga; clear Ga
  by_cases c8 : D3.length < 4398046511104
  ·rw [if_pos c8] at H; have LMc8 := Cmp.A c8; clear c8
   obtain ⟨Eq, hy314⟩ : ∃ y_ : List (S94), y_ = (D3 ++ [(⟨Dw, E2, El, false⟩ : S94)]) := ⟨_, rfl⟩
   replace H : (some (Eq, F7, F8)) = some (r1, r2, r3) := Cmp.hy hy314 H
   have Ex := Cmp.A hy314; clear hy314
   simp only [Option.some.injEq, Prod.mk.injEq] at H
   obtain ⟨rfl, rfl, rfl⟩ := H
   go_enter Try.func58, Try.ntmps58
   try go_wp2_with (first | ((with_reducible refine gate_dst (N := 2) rfl ?_); refine box_event ?hg (N := 2) ?hd (cs := #[.slice none 0 0]) (t := 45) ?hr ?_; (case hd => rfl); (case hg => rfl); (case hr => first | (go_simp; done) | (go_simp; rfl)); intro D8 hg w9 hbox hb; have D1 := Cmp.A (hbox); have Ea := Cmp.A ((by rw [hg]; exact (keep_size (w := w) (g := g) (row := none) (Cmp.kk HK.out)) : w.heap.size ≤ D8)); have E8 := Cmp.A ((Nat.le_trans HW0.out (by rw [hg]; exact (keep_size (w := w) (g := g) (row := none) (Cmp.kk HK.out)) : w.heap.size ≤ D8) : w0.heap.size ≤ D8)); have Dr := Cmp.A ((by rw [hg]; exact Nat.ne_of_lt (IsS103.lt (show IsS103 w0 _ g s0_0 s0_1 s0_2 from IsS103.go D7.out)) : g ≠ D8)); have Dc := Cmp.A ((by rw [hg]; exact Nat.ne_of_gt (IsS103.lt (show IsS103 w0 _ g s0_0 s0_1 s0_2 from IsS103.go D7.out)) : D8 ≠ g)); replace HK := Cmp.A (KeepBut.trans (Cmp.kk HK.out) (KeepBut.of_below hb g none) (.inl rfl)); replace HB := Cmp.A (below_step (IsS103.bl HB.out) hb); replace D7 := Cmp.A (IsS103.below (IsS103.go D7.out) hb); clear hb hbox hg) | ((with_reducible refine gate_callee (f := 100) rfl ?_); refine goesL_ (some 5) rfl rfl Try.func100 (by kernel_rfl) rfl #[.pointer (some ⟨g, 0, none⟩)] rfl Cmp.q ?_; (with_reducible refine (spec_l17Bundle.calls k g s0_0 s0_1 s0_2 D3 Dp Dq w0 _ ?side1 ?side2 A2.out).mono ?_); (case side1 => exact IsS103.go D7.out); (case side2 => exact IsS103.bl HB.out); rintro e w10 ⟨v288, rfl, Eg, hi, hb, hk⟩; refine ⟨_, rfl, ?_⟩; have D2 := Cmp.A (Kd.R_lower Eg (keep_size (w := w) (g := g) (row := none) (Cmp.kk HK.out))); replace D1 := Cmp.A (KeepBut.blk hk (g' := D8) (o := .cells #[.slice none 0 0] 45 (0, 0)) (Cmp.b D1.out) Dc.out (by simp)); replace HK := Cmp.A (KeepBut.trans (Cmp.kk HK.out) hk (.inl rfl)); replace HB := Cmp.A (hb); replace D7 := Cmp.A (hi); (try clear hb); (try clear hb2); (try clear hk); (try clear hi); (try clear Eg)) | ((with_reducible refine gate_dst (N := 3) rfl ?_); refine box_event ?hg (N := 3) ?hd (cs := #[.slice none 0 0]) (t := 45) ?hr ?_; (case hd => rfl); (case hg => rfl); (case hr => first | (go_simp; done) | (go_simp; rfl)); intro D5 hg w11 hbox hb; have D0 := Cmp.A (hbox); have Eb := Cmp.A ((by rw [hg]; exact (keep_size (w := w) (g := g) (row := none) (Cmp.kk HK.out)) : w.heap.size ≤ D5)); have E9 := Cmp.A ((Nat.le_trans HW0.out (by rw [hg]; exact (keep_size (w := w) (g := g) (row := none) (Cmp.kk HK.out)) : w.heap.size ≤ D5) : w0.heap.size ≤ D5)); have Dj := Cmp.nl hg D1; have Dk := Cmp.ng hg D1; have Ds := Cmp.A ((by rw [hg]; exact Nat.ne_of_lt (IsS103.lt (show IsS103 w0 _ g s0_0 Dp Dq from IsS103.go D7.out)) : g ≠ D5)); have Dd := Cmp.A ((by rw [hg]; exact Nat.ne_of_gt (IsS103.lt (show IsS103 w0 _ g s0_0 Dp Dq from IsS103.go D7.out)) : D5 ≠ g)); replace D2 := Cmp.A (Kd.R_below (Cmp.rr D2.out) hb); replace D1 := Cmp.be D1 hb; replace HK := Cmp.A (KeepBut.trans (Cmp.kk HK.out) (KeepBut.of_below hb g none) (.inl rfl)); replace HB := Cmp.A (below_step (IsS103.bl HB.out) hb); replace D7 := Cmp.A (IsS103.below (IsS103.go D7.out) hb); clear hb hbox hg; obtain ⟨Da, Db, G2⟩ := Kd.R_slice D2.out; subst G2; have Gb := Dk.out; have Gn := Dj.out; have Gc := Dd.out; have Go := Ds.out; have Fa := Cmp.c0 D0; have Fn := blk_frozen D0.out 0) | ((with_reducible refine gate_callee (f := 42) rfl ?_); refine goesL_ (some 7) rfl rfl Try.func42 (by kernel_rfl) rfl #[.pointer (some ⟨g, 0, none⟩), .int .i64 8] rfl Cmp.q ?_; (with_reducible refine (spec_l1Below.calls g s0_0 Dp Dq 8 Dy Dg Dh w0 _ ?side1 ?side2 A3.out).mono ?_); (case side1 => exact IsS103.go D7.out); (case side2 => exact IsS103.bl HB.out); rintro e w16 ⟨rfl, hi, hb, hk⟩; refine ⟨_, rfl, ?_⟩; replace D1 := Cmp.A (KeepBut.blk hk (g' := D8) (o := .cells #[.slice none 0 0] 45 (0, 0)) (Cmp.bw D1.out) Dc.out (by simp)); replace D2 := Cmp.A (Kd.R_mono (Kd.R_keep (IsS103.apart (show IsS103 w0 _ g s0_0 Dp Dq from IsS103.go D7.out) (Cmp.rm (Kd.R_far (p := ⟨D5, 0, none⟩) (Kd.R_types D2.out D0.out (by decide)) (fun _ hk => hk.2) (.slice Da D3.length Db)) (fun _ h_ => h_.1)) (by decide)) hk (fun _ h => h.2)) (fun _ h => h.1)); replace D0 := Cmp.A (KeepBut.blk hk (g' := D5) (o := .cells #[.slice Da D3.length Db] 45 (0, 0)) (Cmp.bw D0.out) Dd.out (by simp)); replace HK := Cmp.A (KeepBut.trans (Cmp.kk HK.out) hk (.inl rfl)); replace HB := Cmp.A (hb); replace D7 := Cmp.A (hi); (try clear hb); (try clear hb2); (try clear hk); (try clear hi)))
   replace D2 := Cmp.A (Kd.R_drew D2.out); replace D1 := Cmp.A (blk_drew D1.out); replace D0 := Cmp.A (blk_drew D0.out); replace D7 := Cmp.A (IsS103.drew D7.out); replace HK := Cmp.A (keep_drew HK.out); replace HB := Cmp.A (below_drew1 HB.out)
   refine start_ (n := 16) (S := fun w' => w'.cell? ⟨D5, 0, none⟩ = some (.slice Da D3.length Db)) (ds := [15]) (Cmp.bm 0 16) (by kernel_rfl) rfl rfl (Cmp.c0 D0 :) (fun hHeld => ?_); refine with_tabW spec_l17Any.tab4 spec_l17Any.bits4 (fun HT_ HW_ => ?_)
   generalize w16.drew = w17 at D2 D1 D0 D7 HK HB hHeld ⊢
   refine Cmp.pu HT_ 0 10 (Cmp.bm 1 15) ?_; refine Cmp.pu HT_ 2 12 (Cmp.bb 16 5) ?_; refine Cmp.pu HT_ 5 15 (Cmp.bb 16 37) ?_; refine Cmp.pu HT_ 8 18 (Cmp.bb 16 293) ?_
   refine take_ (i := 1) (N := some 11) (v := ?_) (a' := ?_) (Cmp.bb 16 295) rfl rfl (take_ofW HT_.out HW_.out (by kernel_rfl)) (fun _ _ _ h => h) (Or.inl ⟨by rfl, ?_⟩) hHeld ?_ ?_
   rotate_left
   ·intro w' s0
    go_simp; with_reducible rfl
   rotate_left
   ·simp only [Act.put, Cmp.s, Cmp.z, Cmp.c, i64_w, i32_w]; rfl
   refine join_ (σ := Value × Value × Value) 6 (Cmp.bm 10 6) (fun s_ => [(13, s_.1), (14, .int .i64 Dw), (16, s_.2.1), (17, .int .i64 E2), (19, s_.2.2)]) (fun s_ w' => (w'.cell? ⟨D5, 0, none⟩ = some (.slice Da D3.length Db)) ∧ (Kd.R k94 94 w' w.heap.size (fun _ => True) (.slice Da D3.length Db) D3) ∧ (Kd.R (Kd.int .i64) 3 w' w.heap.size (fun k_ => some k_ ≠ (s_.2.1 : Value).ownBlock ∧ some k_ ≠ (s_.2.2 : Value).ownBlock) s_.1 Di) ∧ (Kd.R (Kd.int .i64) 3 w' w.heap.size (fun k_ => some k_ ≠ (s_.1 : Value).ownBlock ∧ some k_ ≠ (s_.2.2 : Value).ownBlock) s_.2.1 Dl) ∧ (Kd.R (Kd.int .i64) 3 w' w.heap.size (fun k_ => some k_ ≠ (s_.1 : Value).ownBlock ∧ some k_ ≠ (s_.2.1 : Value).ownBlock) s_.2.2 Dv) ∧ (w'.heap[D8]? = some (.cells #[.slice none 0 0] 45 (0, 0))) ∧ (w'.heap[D5]? = some (.cells #[.slice Da D3.length Db] 45 (0, 0))) ∧ (IsS103 w0 w' g s0_0 E0 E1) ∧ (KeepBut w w' g none) ∧ (Below w0.heap.size w0 w')) ?_ ?_
   rotate_left
   ·intro hJ3_4_6_7_9
    refine join_ (σ := Value × Value) 7 (Cmp.bm 9 7) (fun s_ => [(13, s_.1), (14, .int .i64 Dw), (16, s_.2), (17, .int .i64 E2)]) (fun s_ w' => (w'.cell? ⟨D5, 0, none⟩ = some (.slice Da D3.length Db)) ∧ (Kd.R k94 94 w' w.heap.size (fun _ => True) (.slice Da D3.length Db) D3) ∧ (Kd.R (Kd.int .i64) 3 w' w.heap.size (fun k_ => some k_ ≠ (s_.2 : Value).ownBlock) s_.1 Di) ∧ (Kd.R (Kd.int .i64) 3 w' w.heap.size (fun k_ => some k_ ≠ (s_.1 : Value).ownBlock) s_.2 Dl) ∧ (w'.heap[D8]? = some (.cells #[.slice none 0 0] 45 (0, 0))) ∧ (w'.heap[D5]? = some (.cells #[.slice Da D3.length Db] 45 (0, 0))) ∧ (IsS103 w0 w' g s0_0 E0 E1) ∧ (KeepBut w w' g none) ∧ (Below w0.heap.size w0 w')) ?_ ?_
    rotate_left
    ·intro hJ3_4_6_7
     refine join_ (σ := Value × Value × Value) 7 (Cmp.bb 16 895) (fun s_ => [(13, s_.1), (14, .int .i64 Dw), (16, s_.2.1), (19, s_.2.2)]) (fun s_ w' => (w'.cell? ⟨D5, 0, none⟩ = some (.slice Da D3.length Db)) ∧ (Kd.R k94 94 w' w.heap.size (fun _ => True) (.slice Da D3.length Db) D3) ∧ (Kd.R (Kd.int .i64) 3 w' w.heap.size (fun k_ => some k_ ≠ (s_.2.1 : Value).ownBlock ∧ some k_ ≠ (s_.2.2 : Value).ownBlock) s_.1 Di) ∧ (Kd.R (Kd.int .i64) 3 w' w.heap.size (fun k_ => some k_ ≠ (s_.1 : Value).ownBlock ∧ some k_ ≠ (s_.2.2 : Value).ownBlock) s_.2.1 Dl) ∧ (Kd.R (Kd.int .i64) 3 w' w.heap.size (fun k_ => some k_ ≠ (s_.1 : Value).ownBlock ∧ some k_ ≠ (s_.2.1 : Value).ownBlock) s_.2.2 Dv) ∧ (w'.heap[D8]? = some (.cells #[.slice none 0 0] 45 (0, 0))) ∧ (w'.heap[D5]? = some (.cells #[.slice Da D3.length Db] 45 (0, 0))) ∧ (IsS103 w0 w' g s0_0 Dm Dn) ∧ (KeepBut w w' g none) ∧ (Below w0.heap.size w0 w')) ?_ ?_
     rotate_left
     ·intro hJ3_4_6_9
      refine join_ (σ := Value × Value) 8 (Cmp.bb 16 383) (fun s_ => [(13, s_.1), (14, .int .i64 Dw), (16, s_.2)]) (fun s_ w' => (w'.cell? ⟨D5, 0, none⟩ = some (.slice Da D3.length Db)) ∧ (Kd.R k94 94 w' w.heap.size (fun _ => True) (.slice Da D3.length Db) D3) ∧ (Kd.R (Kd.int .i64) 3 w' w.heap.size (fun k_ => some k_ ≠ (s_.2 : Value).ownBlock) s_.1 Di) ∧ (Kd.R (Kd.int .i64) 3 w' w.heap.size (fun k_ => some k_ ≠ (s_.1 : Value).ownBlock) s_.2 Dl) ∧ (w'.heap[D8]? = some (.cells #[.slice none 0 0] 45 (0, 0))) ∧ (w'.heap[D5]? = some (.cells #[.slice Da D3.length Db] 45 (0, 0))) ∧ (IsS103 w0 w' g s0_0 Dm Dn) ∧ (KeepBut w w' g none) ∧ (Below w0.heap.size w0 w')) ?_ ?_
      rotate_left
      ·intro hJ3_4_6
       refine join_ (σ := Value × Value) 8 (Cmp.bb 16 831) (fun s_ => [(13, s_.1), (14, .int .i64 Dw), (19, s_.2)]) (fun s_ w' => (w'.cell? ⟨D5, 0, none⟩ = some (.slice Da D3.length Db)) ∧ (Kd.R k94 94 w' w.heap.size (fun _ => True) (.slice Da D3.length Db) D3) ∧ (Kd.R (Kd.int .i64) 3 w' w.heap.size (fun k_ => some k_ ≠ (s_.2 : Value).ownBlock) s_.1 Di) ∧ (Kd.R (Kd.int .i64) 3 w' w.heap.size (fun k_ => some k_ ≠ (s_.1 : Value).ownBlock) s_.2 Dv) ∧ (w'.heap[D8]? = some (.cells #[.slice none 0 0] 45 (0, 0))) ∧ (w'.heap[D5]? = some (.cells #[.slice Da D3.length Db] 45 (0, 0))) ∧ (IsS103 w0 w' g s0_0 Dm Dn) ∧ (KeepBut w w' g none) ∧ (Below w0.heap.size w0 w')) ?_ ?_
       rotate_left
       ·intro hJ3_4_9
        refine join_ (σ := Value × Value × Value) 8 (Cmp.bb 16 879) (fun s_ => [(13, s_.1), (16, s_.2.1), (19, s_.2.2)]) (fun s_ w' => (w'.cell? ⟨D5, 0, none⟩ = some (.slice Da D3.length Db)) ∧ (Kd.R k94 94 w' w.heap.size (fun _ => True) (.slice Da D3.length Db) D3) ∧ (Kd.R (Kd.int .i64) 3 w' w.heap.size (fun k_ => some k_ ≠ (s_.2.1 : Value).ownBlock ∧ some k_ ≠ (s_.2.2 : Value).ownBlock) s_.1 Di) ∧ (Kd.R (Kd.int .i64) 3 w' w.heap.size (fun k_ => some k_ ≠ (s_.1 : Value).ownBlock ∧ some k_ ≠ (s_.2.2 : Value).ownBlock) s_.2.1 Dl) ∧ (Kd.R (Kd.int .i64) 3 w' w.heap.size (fun k_ => some k_ ≠ (s_.1 : Value).ownBlock ∧ some k_ ≠ (s_.2.1 : Value).ownBlock) s_.2.2 Dv) ∧ (w'.heap[D8]? = some (.cells #[.slice none 0 0] 45 (0, 0))) ∧ (w'.heap[D5]? = some (.cells #[.slice Da D3.length Db] 45 (0, 0))) ∧ (IsS103 w0 w' g s0_0 Dg Dh) ∧ (KeepBut w w' g none) ∧ (Below w0.heap.size w0 w')) ?_ ?_
        rotate_left
        ·intro hJ3_6_9
         refine join_ (σ := Value) 9 (Cmp.bb 16 319) (fun s_ => [(13, s_), (14, .int .i64 Dw)]) (fun s_ w' => (w'.cell? ⟨D5, 0, none⟩ = some (.slice Da D3.length Db)) ∧ (Kd.R k94 94 w' w.heap.size (fun _ => True) (.slice Da D3.length Db) D3) ∧ (Kd.R (Kd.int .i64) 3 w' w.heap.size (fun _ => True) s_ Di) ∧ (w'.heap[D8]? = some (.cells #[.slice none 0 0] 45 (0, 0))) ∧ (w'.heap[D5]? = some (.cells #[.slice Da D3.length Db] 45 (0, 0))) ∧ (IsS103 w0 w' g s0_0 Dm Dn) ∧ (KeepBut w w' g none) ∧ (Below w0.heap.size w0 w')) ?_ ?_
         rotate_left
         ·intro hJ3_4
          refine join_ (σ := Value × Value) 9 (Cmp.bb 16 367) (fun s_ => [(13, s_.1), (16, s_.2)]) (fun s_ w' => (w'.cell? ⟨D5, 0, none⟩ = some (.slice Da D3.length Db)) ∧ (Kd.R k94 94 w' w.heap.size (fun _ => True) (.slice Da D3.length Db) D3) ∧ (Kd.R (Kd.int .i64) 3 w' w.heap.size (fun k_ => some k_ ≠ (s_.2 : Value).ownBlock) s_.1 Di) ∧ (Kd.R (Kd.int .i64) 3 w' w.heap.size (fun k_ => some k_ ≠ (s_.1 : Value).ownBlock) s_.2 Dl) ∧ (w'.heap[D8]? = some (.cells #[.slice none 0 0] 45 (0, 0))) ∧ (w'.heap[D5]? = some (.cells #[.slice Da D3.length Db] 45 (0, 0))) ∧ (IsS103 w0 w' g s0_0 Dg Dh) ∧ (KeepBut w w' g none) ∧ (Below w0.heap.size w0 w')) ?_ ?_
          rotate_left
          ·intro hJ3_6
           refine join_ (σ := Value × Value) 9 (Cmp.bb 16 815) (fun s_ => [(13, s_.1), (19, s_.2)]) (fun s_ w' => (w'.cell? ⟨D5, 0, none⟩ = some (.slice Da D3.length Db)) ∧ (Kd.R k94 94 w' w.heap.size (fun _ => True) (.slice Da D3.length Db) D3) ∧ (Kd.R (Kd.int .i64) 3 w' w.heap.size (fun k_ => some k_ ≠ (s_.2 : Value).ownBlock) s_.1 Di) ∧ (Kd.R (Kd.int .i64) 3 w' w.heap.size (fun k_ => some k_ ≠ (s_.1 : Value).ownBlock) s_.2 Dv) ∧ (w'.heap[D8]? = some (.cells #[.slice none 0 0] 45 (0, 0))) ∧ (w'.heap[D5]? = some (.cells #[.slice Da D3.length Db] 45 (0, 0))) ∧ (IsS103 w0 w' g s0_0 Dg Dh) ∧ (KeepBut w w' g none) ∧ (Below w0.heap.size w0 w')) ?_ ?_
           rotate_left
           ·intro hJ3_9
            refine join_ (σ := Value × Value) 9 (Cmp.bb 16 871) (fun s_ => [(16, s_.1), (19, s_.2)]) (fun s_ w' => (w'.cell? ⟨D5, 0, none⟩ = some (.slice Da D3.length Db)) ∧ (Kd.R k94 94 w' w.heap.size (fun _ => True) (.slice Da D3.length Db) D3) ∧ (Kd.R (Kd.int .i64) 3 w' w.heap.size (fun k_ => some k_ ≠ (s_.2 : Value).ownBlock) s_.1 Dl) ∧ (Kd.R (Kd.int .i64) 3 w' w.heap.size (fun k_ => some k_ ≠ (s_.1 : Value).ownBlock) s_.2 Dv) ∧ (w'.heap[D8]? = some (.cells #[.slice none 0 0] 45 (0, 0))) ∧ (w'.heap[D5]? = some (.cells #[.slice Da D3.length Db] 45 (0, 0))) ∧ (IsS103 w0 w' g s0_0 Dg Dh) ∧ (KeepBut w w' g none) ∧ (Below w0.heap.size w0 w')) ?_ ?_
            rotate_left
            ·intro hJ6_9
             refine join_ (σ := Value) 10 (Cmp.bb 16 303) (fun s_ => [(13, s_)]) (fun s_ w' => (w'.cell? ⟨D5, 0, none⟩ = some (.slice Da D3.length Db)) ∧ (Kd.R k94 94 w' w.heap.size (fun _ => True) (.slice Da D3.length Db) D3) ∧ (Kd.R (Kd.int .i64) 3 w' w.heap.size (fun _ => True) s_ Di) ∧ (w'.heap[D8]? = some (.cells #[.slice none 0 0] 45 (0, 0))) ∧ (w'.heap[D5]? = some (.cells #[.slice Da D3.length Db] 45 (0, 0))) ∧ (IsS103 w0 w' g s0_0 Dg Dh) ∧ (KeepBut w w' g none) ∧ (Below w0.heap.size w0 w')) ?_ ?_
             rotate_left
             ·intro hJ3
              refine join_ (σ := Value) 10 (Cmp.bb 16 359) (fun s_ => [(16, s_)]) (fun s_ w' => (w'.cell? ⟨D5, 0, none⟩ = some (.slice Da D3.length Db)) ∧ (Kd.R k94 94 w' w.heap.size (fun _ => True) (.slice Da D3.length Db) D3) ∧ (Kd.R (Kd.int .i64) 3 w' w.heap.size (fun _ => True) s_ Dl) ∧ (w'.heap[D8]? = some (.cells #[.slice none 0 0] 45 (0, 0))) ∧ (w'.heap[D5]? = some (.cells #[.slice Da D3.length Db] 45 (0, 0))) ∧ (IsS103 w0 w' g s0_0 Dg Dh) ∧ (KeepBut w w' g none) ∧ (Below w0.heap.size w0 w')) ?_ ?_
              rotate_left
              ·intro hJ6
               refine join_ (σ := Value) 10 (Cmp.bb 16 807) (fun s_ => [(19, s_)]) (fun s_ w' => (w'.cell? ⟨D5, 0, none⟩ = some (.slice Da D3.length Db)) ∧ (Kd.R k94 94 w' w.heap.size (fun _ => True) (.slice Da D3.length Db) D3) ∧ (Kd.R (Kd.int .i64) 3 w' w.heap.size (fun _ => True) s_ Dv) ∧ (w'.heap[D8]? = some (.cells #[.slice none 0 0] 45 (0, 0))) ∧ (w'.heap[D5]? = some (.cells #[.slice Da D3.length Db] 45 (0, 0))) ∧ (IsS103 w0 w' g s0_0 Dg Dh) ∧ (KeepBut w w' g none) ∧ (Below w0.heap.size w0 w')) ?_ ?_
               rotate_left
               ·intro hJ9
                refine three_ (i := 3) (j := 6) (k := 9) (Ni := some 13) (Nj := some 16) (Nk := some 19) (Cmp.bb 16 303) (Cmp.bb 16 359) (Cmp.bb 16 807) rfl rfl rfl rfl rfl rfl (three_of HT_.out (by kernel_rfl)) (by decide) (by decide) (by decide) (fun K hK => ?_) (fun K hK => ?_) (fun K hK => ?_)
                ·skip
                 refine Kd.R_lit_step (Kd.int .i64) _ 3 ?hg (N := 13) ?hd (xs := ([(-1), 0, 99, 2147483646, 2147483647] : List Int)) (inner := [.int .i64 (-1), .int .i64 0, .int .i64 99, .int .i64 2147483646, .int .i64 2147483647]) (ok := fun _ => True) (okp := fun _ => True) ?hr ?hp (fun _ hk => hk) trivial (Below.refl _ _) (Nat.le_refl _) (by simp) ?_; (case hd => rfl); (case hg => rfl); (case hr => first | (go_simp; done) | (go_simp; rfl)); (case hp => exact (Reps.one (Cmp.mi (-1)) (Reps.one (Cmp.mi 0) (Reps.one (Cmp.mi 99) (Reps.one (Cmp.mi 2147483646) (Reps.one (Cmp.mi 2147483647) (Reps.none _ _)))))))
                 intro v297 w18 Du hb hg_ hnew_
                 clear hg_ hnew_
                 (first | rw [← Dz.out] at Du | (simp only [Int.reduceToNat] at Du; rw [← Dz.out] at Du))
                 have D4 := Cmp.A (Kd.R_lower Du (keep_size (w := w) (g := g) (row := none) (Cmp.kk HK.out))); replace D2 := Cmp.A (Kd.R_below (Cmp.rr D2.out) hb); replace D7 := Cmp.A (IsS103.below (IsS103.go D7.out) hb); replace D1 := Cmp.be D1 hb; replace D0 := Cmp.be D0 hb; replace HK := Cmp.A (KeepBut.trans (Cmp.kk HK.out) (KeepBut.of_below hb g none) (.inl rfl)); replace HB := Cmp.A (below_step (IsS103.bl HB.out) hb); clear hb Du
                 refine hK.out _ _ (Cmp.c0 D0 :) (fun hHeld => ?_)
                 clear hK K
                 refine Cmp.no ?_
                 exact norm_ Cmp.na (hJ3 (v297) _ ⟨hHeld, (Cmp.rr D2.out), (Cmp.rr D4.out), (Cmp.b D1.out), (Cmp.b D0.out), (IsS103.go D7.out), (Cmp.kk HK.out), (IsS103.bl HB.out)⟩)
                ·skip
                 refine Kd.R_lit_step (Kd.int .i64) _ 3 ?hg (N := 16) ?hd (xs := ([(-1), 0, 1000001] : List Int)) (inner := [.int .i64 (-1), .int .i64 0, .int .i64 1000001]) (ok := fun _ => True) (okp := fun _ => True) ?hr ?hp (fun _ hk => hk) trivial (Below.refl _ _) (Nat.le_refl _) (by simp) ?_; (case hd => rfl); (case hg => rfl); (case hr => first | (go_simp; done) | (go_simp; rfl)); (case hp => exact (Reps.one (Cmp.mi (-1)) (Reps.one (Cmp.mi 0) (Reps.one (Cmp.mi 1000001) (Reps.none _ _)))))
                 intro v303 w18 Du hb hg_ hnew_
                 clear hg_ hnew_
                 (first | rw [← Dt.out] at Du | (simp only [Int.reduceToNat] at Du; rw [← Dt.out] at Du))
                 have D6 := Cmp.A (Kd.R_lower Du (keep_size (w := w) (g := g) (row := none) (Cmp.kk HK.out))); replace D2 := Cmp.A (Kd.R_below (Cmp.rr D2.out) hb); replace D7 := Cmp.A (IsS103.below (IsS103.go D7.out) hb); replace D1 := Cmp.be D1 hb; replace D0 := Cmp.be D0 hb; replace HK := Cmp.A (KeepBut.trans (Cmp.kk HK.out) (KeepBut.of_below hb g none) (.inl rfl)); replace HB := Cmp.A (below_step (IsS103.bl HB.out) hb); clear hb Du
                 refine hK.out _ _ (Cmp.c0 D0 :) (fun hHeld => ?_)
                 clear hK K
                 refine Cmp.no ?_
                 exact norm_ Cmp.na (hJ6 (v303) _ ⟨hHeld, (Cmp.rr D2.out), (Cmp.rr D6.out), (Cmp.b D1.out), (Cmp.b D0.out), (IsS103.go D7.out), (Cmp.kk HK.out), (IsS103.bl HB.out)⟩)
                ·skip
                 refine Kd.R_lit_step (Kd.int .i64) _ 3 ?hg (N := 19) ?hd (xs := ([0, 1, 1000001] : List Int)) (inner := [.int .i64 0, .int .i64 1, .int .i64 1000001]) (ok := fun _ => True) (okp := fun _ => True) ?hr ?hp (fun _ hk => hk) trivial (Below.refl _ _) (Nat.le_refl _) (by simp) ?_; (case hd => rfl); (case hg => rfl); (case hr => first | (go_simp; done) | (go_simp; rfl)); (case hp => exact (Reps.one (Cmp.mi 0) (Reps.one (Cmp.mi 1) (Reps.one (Cmp.mi 1000001) (Reps.none _ _)))))
                 intro v309 w18 Du hb hg_ hnew_
                 clear hg_ hnew_
                 (first | rw [← Do.out] at Du | (simp only [Int.reduceToNat] at Du; rw [← Do.out] at Du))
                 have D9 := Cmp.A (Kd.R_lower Du (keep_size (w := w) (g := g) (row := none) (Cmp.kk HK.out))); replace D2 := Cmp.A (Kd.R_below (Cmp.rr D2.out) hb); replace D7 := Cmp.A (IsS103.below (IsS103.go D7.out) hb); replace D1 := Cmp.be D1 hb; replace D0 := Cmp.be D0 hb; replace HK := Cmp.A (KeepBut.trans (Cmp.kk HK.out) (KeepBut.of_below hb g none) (.inl rfl)); replace HB := Cmp.A (below_step (IsS103.bl HB.out) hb); clear hb Du
                 refine hK.out _ _ (Cmp.c0 D0 :) (fun hHeld => ?_)
                 clear hK K
                 refine Cmp.no ?_
                 exact norm_ Cmp.na (hJ9 (v309) _ ⟨hHeld, (Cmp.rr D2.out), (Cmp.rr D9.out), (Cmp.b D1.out), (Cmp.b D0.out), (IsS103.go D7.out), (Cmp.kk HK.out), (IsS103.bl HB.out)⟩)
               ·skip
                rintro v309 w20 ⟨hS_, h0_, h1_, h2_, h3_, h4_, h5_, h6_⟩
                have n0_ : Aside0 (Kd.R k94 94 w20 w.heap.size (fun _ => True) (.slice Da D3.length Db) D3) := ⟨h0_⟩
                have n1_ : Aside0 (Kd.R (Kd.int .i64) 3 w20 w.heap.size (fun _ => True) v309 Dv) := ⟨h1_⟩
                have n2_ : Aside0 (w20.heap[D8]? = some (.cells #[.slice none 0 0] 45 (0, 0))) := ⟨h2_⟩
                have n3_ : Aside0 (w20.heap[D5]? = some (.cells #[.slice Da D3.length Db] 45 (0, 0))) := ⟨h3_⟩
                have n4_ : Aside0 (IsS103 w0 w20 g s0_0 Dg Dh) := ⟨h4_⟩
                have n5_ : Aside0 (KeepBut w w20 g none) := ⟨h5_⟩
                have n6_ : Aside0 (Below w0.heap.size w0 w20) := ⟨h6_⟩
                clear D2; clear D1; clear D0; clear D7; clear HK; clear HB; clear h0_ h1_ h2_ h3_ h4_ h5_ h6_; have D2 := n0_; have D9 := n1_; have D1 := n2_; have D0 := n3_; have D7 := n4_; have HK := n5_; have HB := n6_; clear n0_ n1_ n2_ n3_ n4_ n5_ n6_
                have hHeld : w20.cell? ⟨D5, 0, none⟩ = some (.slice Da D3.length Db) := hS_
                refine norm_ (a' := ?_) ?_ ?_
                rotate_left
                ·simp only [putAll, Act.put, List.setIfInBounds_toArray, List.set_cons_zero, List.set_cons_succ]; rfl
                refine two_ (i := 3) (j := 6) (Ni := some 13) (Nj := some 16) (Cmp.bb 16 815) (Cmp.bb 16 871) rfl rfl rfl rfl (two_of HT_.out (by kernel_rfl)) (by decide) (by decide) (fun K hK => ?_) (fun K hK => ?_)
                ·skip
                 refine Kd.R_lit_step (Kd.int .i64) _ 3 ?hg (N := 13) ?hd (xs := ([(-1), 0, 99, 2147483646, 2147483647] : List Int)) (inner := [.int .i64 (-1), .int .i64 0, .int .i64 99, .int .i64 2147483646, .int .i64 2147483647]) (ok := fun _ => True) (okp := fun _ => True) ?hr ?hp (fun _ hk => hk) trivial (Below.refl _ _) (Nat.le_refl _) (by simp) ?_; (case hd => rfl); (case hg => rfl); (case hr => first | (go_simp; done) | (go_simp; rfl)); (case hp => exact (Reps.one (Cmp.mi (-1)) (Reps.one (Cmp.mi 0) (Reps.one (Cmp.mi 99) (Reps.one (Cmp.mi 2147483646) (Reps.one (Cmp.mi 2147483647) (Reps.none _ _)))))))
                 intro v297 w21 De hb hg_ hnew_
                 clear hg_ hnew_
                 (first | rw [← Dz.out] at De | (simp only [Int.reduceToNat] at De; rw [← Dz.out] at De))
                 have D4 := Cmp.A (Kd.R_lower (Kd.R_new' De (Kd.R_lt (Cmp.rr D9.out))) (keep_size (w := w) (g := g) (row := none) (Cmp.kk HK.out))); replace D2 := Cmp.A (Kd.R_below (Cmp.rr D2.out) hb); replace D9 := Cmp.A (Kd.R_elder' (Cmp.rr D9.out) (Kd.R_base De) hb); replace D7 := Cmp.A (IsS103.below (IsS103.go D7.out) hb); replace D1 := Cmp.be D1 hb; replace D0 := Cmp.be D0 hb; replace HK := Cmp.A (KeepBut.trans (Cmp.kk HK.out) (KeepBut.of_below hb g none) (.inl rfl)); replace HB := Cmp.A (below_step (IsS103.bl HB.out) hb); clear hb De
                 refine hK.out _ _ (Cmp.c0 D0 :) (fun hHeld => ?_)
                 clear hK K
                 refine Cmp.no ?_
                 exact norm_ Cmp.na (hJ3_9 (v297, v309) _ ⟨hHeld, (Cmp.rr D2.out), (Cmp.rm D4.out (fun _ hk => hk.2)), (Cmp.rm D9.out (fun _ hk => hk.2)), (Cmp.b D1.out), (Cmp.b D0.out), (IsS103.go D7.out), (Cmp.kk HK.out), (IsS103.bl HB.out)⟩)
                ·skip
                 refine Kd.R_lit_step (Kd.int .i64) _ 3 ?hg (N := 16) ?hd (xs := ([(-1), 0, 1000001] : List Int)) (inner := [.int .i64 (-1), .int .i64 0, .int .i64 1000001]) (ok := fun _ => True) (okp := fun _ => True) ?hr ?hp (fun _ hk => hk) trivial (Below.refl _ _) (Nat.le_refl _) (by simp) ?_; (case hd => rfl); (case hg => rfl); (case hr => first | (go_simp; done) | (go_simp; rfl)); (case hp => exact (Reps.one (Cmp.mi (-1)) (Reps.one (Cmp.mi 0) (Reps.one (Cmp.mi 1000001) (Reps.none _ _)))))
                 intro v303 w21 De hb hg_ hnew_
                 clear hg_ hnew_
                 (first | rw [← Dt.out] at De | (simp only [Int.reduceToNat] at De; rw [← Dt.out] at De))
                 have D6 := Cmp.A (Kd.R_lower (Kd.R_new' De (Kd.R_lt (Cmp.rr D9.out))) (keep_size (w := w) (g := g) (row := none) (Cmp.kk HK.out))); replace D2 := Cmp.A (Kd.R_below (Cmp.rr D2.out) hb); replace D9 := Cmp.A (Kd.R_elder' (Cmp.rr D9.out) (Kd.R_base De) hb); replace D7 := Cmp.A (IsS103.below (IsS103.go D7.out) hb); replace D1 := Cmp.be D1 hb; replace D0 := Cmp.be D0 hb; replace HK := Cmp.A (KeepBut.trans (Cmp.kk HK.out) (KeepBut.of_below hb g none) (.inl rfl)); replace HB := Cmp.A (below_step (IsS103.bl HB.out) hb); clear hb De
                 refine hK.out _ _ (Cmp.c0 D0 :) (fun hHeld => ?_)
                 clear hK K
                 refine Cmp.no ?_
                 exact norm_ Cmp.na (hJ6_9 (v303, v309) _ ⟨hHeld, (Cmp.rr D2.out), (Cmp.rm D6.out (fun _ hk => hk.2)), (Cmp.rm D9.out (fun _ hk => hk.2)), (Cmp.b D1.out), (Cmp.b D0.out), (IsS103.go D7.out), (Cmp.kk HK.out), (IsS103.bl HB.out)⟩)
              ·skip
               rintro v303 w20 ⟨hS_, h0_, h1_, h2_, h3_, h4_, h5_, h6_⟩
               have n0_ : Aside0 (Kd.R k94 94 w20 w.heap.size (fun _ => True) (.slice Da D3.length Db) D3) := ⟨h0_⟩
               have n1_ : Aside0 (Kd.R (Kd.int .i64) 3 w20 w.heap.size (fun _ => True) v303 Dl) := ⟨h1_⟩
               have n2_ : Aside0 (w20.heap[D8]? = some (.cells #[.slice none 0 0] 45 (0, 0))) := ⟨h2_⟩
               have n3_ : Aside0 (w20.heap[D5]? = some (.cells #[.slice Da D3.length Db] 45 (0, 0))) := ⟨h3_⟩
               have n4_ : Aside0 (IsS103 w0 w20 g s0_0 Dg Dh) := ⟨h4_⟩
               have n5_ : Aside0 (KeepBut w w20 g none) := ⟨h5_⟩
               have n6_ : Aside0 (Below w0.heap.size w0 w20) := ⟨h6_⟩
               clear D2; clear D1; clear D0; clear D7; clear HK; clear HB; clear h0_ h1_ h2_ h3_ h4_ h5_ h6_; have D2 := n0_; have D6 := n1_; have D1 := n2_; have D0 := n3_; have D7 := n4_; have HK := n5_; have HB := n6_; clear n0_ n1_ n2_ n3_ n4_ n5_ n6_
               have hHeld : w20.cell? ⟨D5, 0, none⟩ = some (.slice Da D3.length Db) := hS_
               refine norm_ (a' := ?_) ?_ ?_
               rotate_left
               ·simp only [putAll, Act.put, List.setIfInBounds_toArray, List.set_cons_zero, List.set_cons_succ]; rfl
               refine two_ (i := 3) (j := 9) (Ni := some 13) (Nj := some 19) (Cmp.bb 16 367) (Cmp.bb 16 871) rfl rfl rfl rfl (two_of HT_.out (by kernel_rfl)) (by decide) (by decide) (fun K hK => ?_) (fun K hK => ?_)
               ·skip
                refine Kd.R_lit_step (Kd.int .i64) _ 3 ?hg (N := 13) ?hd (xs := ([(-1), 0, 99, 2147483646, 2147483647] : List Int)) (inner := [.int .i64 (-1), .int .i64 0, .int .i64 99, .int .i64 2147483646, .int .i64 2147483647]) (ok := fun _ => True) (okp := fun _ => True) ?hr ?hp (fun _ hk => hk) trivial (Below.refl _ _) (Nat.le_refl _) (by simp) ?_; (case hd => rfl); (case hg => rfl); (case hr => first | (go_simp; done) | (go_simp; rfl)); (case hp => exact (Reps.one (Cmp.mi (-1)) (Reps.one (Cmp.mi 0) (Reps.one (Cmp.mi 99) (Reps.one (Cmp.mi 2147483646) (Reps.one (Cmp.mi 2147483647) (Reps.none _ _)))))))
                intro v297 w21 De hb hg_ hnew_
                clear hg_ hnew_
                (first | rw [← Dz.out] at De | (simp only [Int.reduceToNat] at De; rw [← Dz.out] at De))
                have D4 := Cmp.A (Kd.R_lower (Kd.R_new' De (Kd.R_lt (Cmp.rr D6.out))) (keep_size (w := w) (g := g) (row := none) (Cmp.kk HK.out))); replace D2 := Cmp.A (Kd.R_below (Cmp.rr D2.out) hb); replace D6 := Cmp.A (Kd.R_elder' (Cmp.rr D6.out) (Kd.R_base De) hb); replace D7 := Cmp.A (IsS103.below (IsS103.go D7.out) hb); replace D1 := Cmp.be D1 hb; replace D0 := Cmp.be D0 hb; replace HK := Cmp.A (KeepBut.trans (Cmp.kk HK.out) (KeepBut.of_below hb g none) (.inl rfl)); replace HB := Cmp.A (below_step (IsS103.bl HB.out) hb); clear hb De
                refine hK.out _ _ (Cmp.c0 D0 :) (fun hHeld => ?_)
                clear hK K
                refine Cmp.no ?_
                exact norm_ Cmp.na (hJ3_6 (v297, v303) _ ⟨hHeld, (Cmp.rr D2.out), (Cmp.rm D4.out (fun _ hk => hk.2)), (Cmp.rm D6.out (fun _ hk => hk.2)), (Cmp.b D1.out), (Cmp.b D0.out), (IsS103.go D7.out), (Cmp.kk HK.out), (IsS103.bl HB.out)⟩)
               ·skip
                refine Kd.R_lit_step (Kd.int .i64) _ 3 ?hg (N := 19) ?hd (xs := ([0, 1, 1000001] : List Int)) (inner := [.int .i64 0, .int .i64 1, .int .i64 1000001]) (ok := fun _ => True) (okp := fun _ => True) ?hr ?hp (fun _ hk => hk) trivial (Below.refl _ _) (Nat.le_refl _) (by simp) ?_; (case hd => rfl); (case hg => rfl); (case hr => first | (go_simp; done) | (go_simp; rfl)); (case hp => exact (Reps.one (Cmp.mi 0) (Reps.one (Cmp.mi 1) (Reps.one (Cmp.mi 1000001) (Reps.none _ _)))))
                intro v309 w21 De hb hg_ hnew_
                clear hg_ hnew_
                (first | rw [← Do.out] at De | (simp only [Int.reduceToNat] at De; rw [← Do.out] at De))
                have D9 := Cmp.A (Kd.R_lower (Kd.R_new' De (Kd.R_lt (Cmp.rr D6.out))) (keep_size (w := w) (g := g) (row := none) (Cmp.kk HK.out))); replace D2 := Cmp.A (Kd.R_below (Cmp.rr D2.out) hb); replace D6 := Cmp.A (Kd.R_elder' (Cmp.rr D6.out) (Kd.R_base De) hb); replace D7 := Cmp.A (IsS103.below (IsS103.go D7.out) hb); replace D1 := Cmp.be D1 hb; replace D0 := Cmp.be D0 hb; replace HK := Cmp.A (KeepBut.trans (Cmp.kk HK.out) (KeepBut.of_below hb g none) (.inl rfl)); replace HB := Cmp.A (below_step (IsS103.bl HB.out) hb); clear hb De
                refine hK.out _ _ (Cmp.c0 D0 :) (fun hHeld => ?_)
                clear hK K
                refine Cmp.no ?_
                exact norm_ Cmp.na (hJ6_9 (v303, v309) _ ⟨hHeld, (Cmp.rr D2.out), (Cmp.rm D6.out (fun _ hk => hk.2)), (Cmp.rm D9.out (fun _ hk => hk.2)), (Cmp.b D1.out), (Cmp.b D0.out), (IsS103.go D7.out), (Cmp.kk HK.out), (IsS103.bl HB.out)⟩)
             ·skip
              rintro v297 w20 ⟨hS_, h0_, h1_, h2_, h3_, h4_, h5_, h6_⟩
              have n0_ : Aside0 (Kd.R k94 94 w20 w.heap.size (fun _ => True) (.slice Da D3.length Db) D3) := ⟨h0_⟩
              have n1_ : Aside0 (Kd.R (Kd.int .i64) 3 w20 w.heap.size (fun _ => True) v297 Di) := ⟨h1_⟩
              have n2_ : Aside0 (w20.heap[D8]? = some (.cells #[.slice none 0 0] 45 (0, 0))) := ⟨h2_⟩
              have n3_ : Aside0 (w20.heap[D5]? = some (.cells #[.slice Da D3.length Db] 45 (0, 0))) := ⟨h3_⟩
              have n4_ : Aside0 (IsS103 w0 w20 g s0_0 Dg Dh) := ⟨h4_⟩
              have n5_ : Aside0 (KeepBut w w20 g none) := ⟨h5_⟩
              have n6_ : Aside0 (Below w0.heap.size w0 w20) := ⟨h6_⟩
              clear D2; clear D1; clear D0; clear D7; clear HK; clear HB; clear h0_ h1_ h2_ h3_ h4_ h5_ h6_; have D2 := n0_; have D4 := n1_; have D1 := n2_; have D0 := n3_; have D7 := n4_; have HK := n5_; have HB := n6_; clear n0_ n1_ n2_ n3_ n4_ n5_ n6_
              have hHeld : w20.cell? ⟨D5, 0, none⟩ = some (.slice Da D3.length Db) := hS_
              obtain ⟨Eu, Ez, F1⟩ := Kd.R_slice D4.out
              (first | subst F1 | (injection F1 with f1_ f2_ f3_; have f4_ := f1_.symm; have f5_ := f3_.symm; clear f1_ f2_ f3_; subst f4_; subst f5_))
              refine norm_ (a' := ?_) ?_ ?_
              rotate_left
              ·simp only [putAll, Act.put, List.setIfInBounds_toArray, List.set_cons_zero, List.set_cons_succ]; rfl
              refine three_ (i := 4) (j := 6) (k := 9) (Ni := some 14) (Nj := some 16) (Nk := some 19) (Cmp.bb 16 319) (Cmp.bb 16 367) (Cmp.bb 16 815) rfl rfl rfl rfl rfl rfl (three_of HT_.out (by kernel_rfl)) (by decide) (by decide) (by decide) (fun K hK => ?_) (fun K hK => ?_) (fun K hK => ?_)
              ·skip
               refine goes_ Try.func39 (by kernel_rfl) rfl #[.pointer (some ⟨g, 0, none⟩), .slice Eu Di.length Ez] (by rfl) rfl rfl Cmp.q ?_
               with_reducible refine (spec_l1Int.calls g s0_0 Dg Dh _ _ Di Dw Dm Dn w0 _ ?side1 ?side2 ?side3 ?side4 ?side5 A5.out).mono ?_
               (case side1 => exact IsS103.go D7.out)
               (case side2 => exact IsS103.bl HB.out)
               (case side3 => exact Cmp.rc (Kd.R_reads' D4.out).2.2)
               (case side4 => exact (Kd.R_reads' D4.out).2.1)
               (case side5 => exact far_slice (IsS103.own_ne D7.out D4.out (by decide)))
               rintro e w22 ⟨rfl, hi, hb, hk⟩; refine ⟨_, rfl, ?_⟩
               replace D1 := Cmp.A (KeepBut.blk hk (g' := D8) (o := .cells #[.slice none 0 0] 45 (0, 0)) (Cmp.b D1.out) Dc.out (by simp)); replace D2 := Cmp.A (Kd.R_mono (Kd.R_keep (IsS103.apart (show IsS103 w0 _ g s0_0 Dg Dh from IsS103.go D7.out) (Cmp.rr D2.out) (by decide)) hk (fun _ h => h.2)) (fun _ h => h.1)); replace D0 := Cmp.A (KeepBut.blk hk (g' := D5) (o := .cells #[.slice Da D3.length Db] 45 (0, 0)) (Cmp.b D0.out) Dd.out (by simp)); replace D4 := Cmp.A (Kd.R_mono (Kd.R_keep (IsS103.apart (show IsS103 w0 _ g s0_0 Dg Dh from IsS103.go D7.out) (Cmp.rr D4.out) (by decide)) hk (fun _ h => h.2)) (fun _ h => h.1)); replace HK := Cmp.A (KeepBut.trans (Cmp.kk HK.out) hk (.inl rfl)); replace HB := Cmp.A (hb); replace D7 := Cmp.A (hi); (try clear hb); (try clear hb2); (try clear hk); (try clear hi)
               refine hK.out _ _ (Cmp.c0 D0 :) (fun hHeld => ?_)
               clear hK K
               refine Cmp.no ?_
               exact norm_ Cmp.na (hJ3_4 (.slice Eu Di.length Ez) _ ⟨hHeld, (Cmp.rr D2.out), (Cmp.rr D4.out), (Cmp.b D1.out), (Cmp.b D0.out), (IsS103.go D7.out), (Cmp.kk HK.out), (IsS103.bl HB.out)⟩)
              ·skip
               refine Kd.R_lit_step (Kd.int .i64) _ 3 ?hg (N := 16) ?hd (xs := ([(-1), 0, 1000001] : List Int)) (inner := [.int .i64 (-1), .int .i64 0, .int .i64 1000001]) (ok := fun _ => True) (okp := fun _ => True) ?hr ?hp (fun _ hk => hk) trivial (Below.refl _ _) (Nat.le_refl _) (by simp) ?_; (case hd => rfl); (case hg => rfl); (case hr => first | (go_simp; done) | (go_simp; rfl)); (case hp => exact (Reps.one (Cmp.mi (-1)) (Reps.one (Cmp.mi 0) (Reps.one (Cmp.mi 1000001) (Reps.none _ _)))))
               intro v303 w21 De hb hg_ hnew_
               clear hg_ hnew_
               (first | rw [← Dt.out] at De | (simp only [Int.reduceToNat] at De; rw [← Dt.out] at De))
               have D6 := Cmp.A (Kd.R_lower (Kd.R_new' De (Kd.R_lt (Cmp.rr D4.out))) (keep_size (w := w) (g := g) (row := none) (Cmp.kk HK.out))); replace D2 := Cmp.A (Kd.R_below (Cmp.rr D2.out) hb); replace D4 := Cmp.A (Kd.R_elder' (Cmp.rr D4.out) (Kd.R_base De) hb); replace D7 := Cmp.A (IsS103.below (IsS103.go D7.out) hb); replace D1 := Cmp.be D1 hb; replace D0 := Cmp.be D0 hb; replace HK := Cmp.A (KeepBut.trans (Cmp.kk HK.out) (KeepBut.of_below hb g none) (.inl rfl)); replace HB := Cmp.A (below_step (IsS103.bl HB.out) hb); clear hb De
               refine hK.out _ _ (Cmp.c0 D0 :) (fun hHeld => ?_)
               clear hK K
               refine Cmp.no ?_
               exact norm_ Cmp.na (hJ3_6 (_, v303) _ ⟨hHeld, (Cmp.rr D2.out), (Cmp.rm D4.out (fun _ hk => hk.2)), (Cmp.rm D6.out (fun _ hk => hk.2)), (Cmp.b D1.out), (Cmp.b D0.out), (IsS103.go D7.out), (Cmp.kk HK.out), (IsS103.bl HB.out)⟩)
              ·skip
               refine Kd.R_lit_step (Kd.int .i64) _ 3 ?hg (N := 19) ?hd (xs := ([0, 1, 1000001] : List Int)) (inner := [.int .i64 0, .int .i64 1, .int .i64 1000001]) (ok := fun _ => True) (okp := fun _ => True) ?hr ?hp (fun _ hk => hk) trivial (Below.refl _ _) (Nat.le_refl _) (by simp) ?_; (case hd => rfl); (case hg => rfl); (case hr => first | (go_simp; done) | (go_simp; rfl)); (case hp => exact (Reps.one (Cmp.mi 0) (Reps.one (Cmp.mi 1) (Reps.one (Cmp.mi 1000001) (Reps.none _ _)))))
               intro v309 w21 De hb hg_ hnew_
               clear hg_ hnew_
               (first | rw [← Do.out] at De | (simp only [Int.reduceToNat] at De; rw [← Do.out] at De))
               have D9 := Cmp.A (Kd.R_lower (Kd.R_new' De (Kd.R_lt (Cmp.rr D4.out))) (keep_size (w := w) (g := g) (row := none) (Cmp.kk HK.out))); replace D2 := Cmp.A (Kd.R_below (Cmp.rr D2.out) hb); replace D4 := Cmp.A (Kd.R_elder' (Cmp.rr D4.out) (Kd.R_base De) hb); replace D7 := Cmp.A (IsS103.below (IsS103.go D7.out) hb); replace D1 := Cmp.be D1 hb; replace D0 := Cmp.be D0 hb; replace HK := Cmp.A (KeepBut.trans (Cmp.kk HK.out) (KeepBut.of_below hb g none) (.inl rfl)); replace HB := Cmp.A (below_step (IsS103.bl HB.out) hb); clear hb De
               refine hK.out _ _ (Cmp.c0 D0 :) (fun hHeld => ?_)
               clear hK K
               refine Cmp.no ?_
               exact norm_ Cmp.na (hJ3_9 (_, v309) _ ⟨hHeld, (Cmp.rr D2.out), (Cmp.rm D4.out (fun _ hk => hk.2)), (Cmp.rm D9.out (fun _ hk => hk.2)), (Cmp.b D1.out), (Cmp.b D0.out), (IsS103.go D7.out), (Cmp.kk HK.out), (IsS103.bl HB.out)⟩)
            ·skip
             rintro ⟨v303, v309⟩ w22 ⟨hS_, h0_, h1_, h2_, h3_, h4_, h5_, h6_, h7_⟩
             have n0_ : Aside0 (Kd.R k94 94 w22 w.heap.size (fun _ => True) (.slice Da D3.length Db) D3) := ⟨h0_⟩
             have n1_ : Aside0 (Kd.R (Kd.int .i64) 3 w22 w.heap.size (fun k_ => some k_ ≠ (v309 : Value).ownBlock) v303 Dl) := ⟨h1_⟩
             have n2_ : Aside0 (Kd.R (Kd.int .i64) 3 w22 w.heap.size (fun k_ => some k_ ≠ (v303 : Value).ownBlock) v309 Dv) := ⟨h2_⟩
             have n3_ : Aside0 (w22.heap[D8]? = some (.cells #[.slice none 0 0] 45 (0, 0))) := ⟨h3_⟩
             have n4_ : Aside0 (w22.heap[D5]? = some (.cells #[.slice Da D3.length Db] 45 (0, 0))) := ⟨h4_⟩
             have n5_ : Aside0 (IsS103 w0 w22 g s0_0 Dg Dh) := ⟨h5_⟩
             have n6_ : Aside0 (KeepBut w w22 g none) := ⟨h6_⟩
             have n7_ : Aside0 (Below w0.heap.size w0 w22) := ⟨h7_⟩
             clear D2; clear D1; clear D0; clear D7; clear HK; clear HB; clear h0_ h1_ h2_ h3_ h4_ h5_ h6_ h7_; have D2 := n0_; have D6 := n1_; have D9 := n2_; have D1 := n3_; have D0 := n4_; have D7 := n5_; have HK := n6_; have HB := n7_; clear n0_ n1_ n2_ n3_ n4_ n5_ n6_ n7_
             have hHeld : w22.cell? ⟨D5, 0, none⟩ = some (.slice Da D3.length Db) := hS_
             refine norm_ (a' := ?_) ?_ ?_
             rotate_left
             ·simp only [putAll, Act.put, List.setIfInBounds_toArray, List.set_cons_zero, List.set_cons_succ]; rfl
             refine one_ (i := 3) (N := some 13) (Cmp.bb 16 879) rfl rfl (one_of HT_.out (by kernel_rfl)) (by decide) (fun K hK => ?_)
             refine Kd.R_lit_step (Kd.int .i64) _ 3 ?hg (N := 13) ?hd (xs := ([(-1), 0, 99, 2147483646, 2147483647] : List Int)) (inner := [.int .i64 (-1), .int .i64 0, .int .i64 99, .int .i64 2147483646, .int .i64 2147483647]) (ok := fun _ => True) (okp := fun _ => True) ?hr ?hp (fun _ hk => hk) trivial (Below.refl _ _) (Nat.le_refl _) (by simp) ?_; (case hd => rfl); (case hg => rfl); (case hr => first | (go_simp; done) | (go_simp; rfl)); (case hp => exact (Reps.one (Cmp.mi (-1)) (Reps.one (Cmp.mi 0) (Reps.one (Cmp.mi 99) (Reps.one (Cmp.mi 2147483646) (Reps.one (Cmp.mi 2147483647) (Reps.none _ _)))))))
             intro v297 w23 Df hb hg_ hnew_
             clear hg_ hnew_
             (first | rw [← Dz.out] at Df | (simp only [Int.reduceToNat] at Df; rw [← Dz.out] at Df))
             have D4 := Cmp.A (Kd.R_lower (Kd.R_new' (Kd.R_new' Df (Kd.R_lt (Cmp.rr D6.out))) (Kd.R_lt (Cmp.rr D9.out))) (keep_size (w := w) (g := g) (row := none) (Cmp.kk HK.out))); replace D2 := Cmp.A (Kd.R_below (Cmp.rr D2.out) hb); replace D6 := Cmp.A (Kd.R_elder' (Cmp.rr D6.out) (Kd.R_base Df) hb); replace D9 := Cmp.A (Kd.R_elder' (Cmp.rr D9.out) (Kd.R_base Df) hb); replace D7 := Cmp.A (IsS103.below (IsS103.go D7.out) hb); replace D1 := Cmp.be D1 hb; replace D0 := Cmp.be D0 hb; replace HK := Cmp.A (KeepBut.trans (Cmp.kk HK.out) (KeepBut.of_below hb g none) (.inl rfl)); replace HB := Cmp.A (below_step (IsS103.bl HB.out) hb); clear hb Df
             refine hK.out _ _ (Cmp.c0 D0 :) (fun hHeld => ?_)
             clear hK K
             refine Cmp.no ?_
             exact norm_ Cmp.na (hJ3_6_9 (v297, v303, v309) _ ⟨hHeld, (Cmp.rr D2.out), (Cmp.rm D4.out (fun _ hk => ⟨hk.1.2, hk.2⟩)), (Cmp.rm D6.out (fun _ hk => ⟨hk.2, hk.1⟩)), (Cmp.rm D9.out (fun _ hk => ⟨hk.2, hk.1⟩)), (Cmp.b D1.out), (Cmp.b D0.out), (IsS103.go D7.out), (Cmp.kk HK.out), (IsS103.bl HB.out)⟩)
           ·skip
            rintro ⟨v297, v309⟩ w22 ⟨hS_, h0_, h1_, h2_, h3_, h4_, h5_, h6_, h7_⟩
            have n0_ : Aside0 (Kd.R k94 94 w22 w.heap.size (fun _ => True) (.slice Da D3.length Db) D3) := ⟨h0_⟩
            have n1_ : Aside0 (Kd.R (Kd.int .i64) 3 w22 w.heap.size (fun k_ => some k_ ≠ (v309 : Value).ownBlock) v297 Di) := ⟨h1_⟩
            have n2_ : Aside0 (Kd.R (Kd.int .i64) 3 w22 w.heap.size (fun k_ => some k_ ≠ (v297 : Value).ownBlock) v309 Dv) := ⟨h2_⟩
            have n3_ : Aside0 (w22.heap[D8]? = some (.cells #[.slice none 0 0] 45 (0, 0))) := ⟨h3_⟩
            have n4_ : Aside0 (w22.heap[D5]? = some (.cells #[.slice Da D3.length Db] 45 (0, 0))) := ⟨h4_⟩
            have n5_ : Aside0 (IsS103 w0 w22 g s0_0 Dg Dh) := ⟨h5_⟩
            have n6_ : Aside0 (KeepBut w w22 g none) := ⟨h6_⟩
            have n7_ : Aside0 (Below w0.heap.size w0 w22) := ⟨h7_⟩
            clear D2; clear D1; clear D0; clear D7; clear HK; clear HB; clear h0_ h1_ h2_ h3_ h4_ h5_ h6_ h7_; have D2 := n0_; have D4 := n1_; have D9 := n2_; have D1 := n3_; have D0 := n4_; have D7 := n5_; have HK := n6_; have HB := n7_; clear n0_ n1_ n2_ n3_ n4_ n5_ n6_ n7_
            have hHeld : w22.cell? ⟨D5, 0, none⟩ = some (.slice Da D3.length Db) := hS_
            obtain ⟨E6, Ec, Ee⟩ := Kd.R_slice D4.out
            (first | subst Ee | (injection Ee with f1_ f2_ f3_; have f4_ := f1_.symm; have f5_ := f3_.symm; clear f1_ f2_ f3_; subst f4_; subst f5_))
            refine norm_ (a' := ?_) ?_ ?_
            rotate_left
            ·simp only [putAll, Act.put, List.setIfInBounds_toArray, List.set_cons_zero, List.set_cons_succ]; rfl
            refine two_ (i := 4) (j := 6) (Ni := some 14) (Nj := some 16) (Cmp.bb 16 831) (Cmp.bb 16 879) rfl rfl rfl rfl (two_of HT_.out (by kernel_rfl)) (by decide) (by decide) (fun K hK => ?_) (fun K hK => ?_)
            ·skip
             refine goes_ Try.func39 (by kernel_rfl) rfl #[.pointer (some ⟨g, 0, none⟩), .slice E6 Di.length Ec] (by rfl) rfl rfl Cmp.q ?_
             with_reducible refine (spec_l1Int.calls g s0_0 Dg Dh _ _ Di Dw Dm Dn w0 _ ?side1 ?side2 ?side3 ?side4 ?side5 A5.out).mono ?_
             (case side1 => exact IsS103.go D7.out)
             (case side2 => exact IsS103.bl HB.out)
             (case side3 => exact Cmp.rc (Kd.R_reads' D4.out).2.2)
             (case side4 => exact (Kd.R_reads' D4.out).2.1)
             (case side5 => exact far_slice (IsS103.own_ne D7.out D4.out (by decide)))
             rintro e w24 ⟨rfl, hi, hb, hk⟩; refine ⟨_, rfl, ?_⟩
             replace D1 := Cmp.A (KeepBut.blk hk (g' := D8) (o := .cells #[.slice none 0 0] 45 (0, 0)) (Cmp.b D1.out) Dc.out (by simp)); replace D2 := Cmp.A (Kd.R_mono (Kd.R_keep (IsS103.apart (show IsS103 w0 _ g s0_0 Dg Dh from IsS103.go D7.out) (Cmp.rr D2.out) (by decide)) hk (fun _ h => h.2)) (fun _ h => h.1)); replace D0 := Cmp.A (KeepBut.blk hk (g' := D5) (o := .cells #[.slice Da D3.length Db] 45 (0, 0)) (Cmp.b D0.out) Dd.out (by simp)); replace D4 := Cmp.A (Kd.R_mono (Kd.R_keep (IsS103.apart (show IsS103 w0 _ g s0_0 Dg Dh from IsS103.go D7.out) (Cmp.rr D4.out) (by decide)) hk (fun _ h => h.2)) (fun _ h => h.1)); replace D9 := Cmp.A (Kd.R_mono (Kd.R_keep (IsS103.apart (show IsS103 w0 _ g s0_0 Dg Dh from IsS103.go D7.out) (Cmp.rr D9.out) (by decide)) hk (fun _ h => h.2)) (fun _ h => h.1)); replace HK := Cmp.A (KeepBut.trans (Cmp.kk HK.out) hk (.inl rfl)); replace HB := Cmp.A (hb); replace D7 := Cmp.A (hi); (try clear hb); (try clear hb2); (try clear hk); (try clear hi)
             refine hK.out _ _ (Cmp.c0 D0 :) (fun hHeld => ?_)
             clear hK K
             refine Cmp.no ?_
             exact norm_ Cmp.na (hJ3_4_9 (.slice E6 Di.length Ec, v309) _ ⟨hHeld, (Cmp.rr D2.out), (Cmp.rr D4.out), (Cmp.rr D9.out), (Cmp.b D1.out), (Cmp.b D0.out), (IsS103.go D7.out), (Cmp.kk HK.out), (IsS103.bl HB.out)⟩)
            ·skip
             refine Kd.R_lit_step (Kd.int .i64) _ 3 ?hg (N := 16) ?hd (xs := ([(-1), 0, 1000001] : List Int)) (inner := [.int .i64 (-1), .int .i64 0, .int .i64 1000001]) (ok := fun _ => True) (okp := fun _ => True) ?hr ?hp (fun _ hk => hk) trivial (Below.refl _ _) (Nat.le_refl _) (by simp) ?_; (case hd => rfl); (case hg => rfl); (case hr => first | (go_simp; done) | (go_simp; rfl)); (case hp => exact (Reps.one (Cmp.mi (-1)) (Reps.one (Cmp.mi 0) (Reps.one (Cmp.mi 1000001) (Reps.none _ _)))))
             intro v303 w23 Df hb hg_ hnew_
             clear hg_ hnew_
             (first | rw [← Dt.out] at Df | (simp only [Int.reduceToNat] at Df; rw [← Dt.out] at Df))
             have D6 := Cmp.A (Kd.R_lower (Kd.R_new' (Kd.R_new' Df (Kd.R_lt (Cmp.rr D4.out))) (Kd.R_lt (Cmp.rr D9.out))) (keep_size (w := w) (g := g) (row := none) (Cmp.kk HK.out))); replace D2 := Cmp.A (Kd.R_below (Cmp.rr D2.out) hb); replace D4 := Cmp.A (Kd.R_elder' (Cmp.rr D4.out) (Kd.R_base Df) hb); replace D9 := Cmp.A (Kd.R_elder' (Cmp.rr D9.out) (Kd.R_base Df) hb); replace D7 := Cmp.A (IsS103.below (IsS103.go D7.out) hb); replace D1 := Cmp.be D1 hb; replace D0 := Cmp.be D0 hb; replace HK := Cmp.A (KeepBut.trans (Cmp.kk HK.out) (KeepBut.of_below hb g none) (.inl rfl)); replace HB := Cmp.A (below_step (IsS103.bl HB.out) hb); clear hb Df
             refine hK.out _ _ (Cmp.c0 D0 :) (fun hHeld => ?_)
             clear hK K
             refine Cmp.no ?_
             exact norm_ Cmp.na (hJ3_6_9 (_, v303, v309) _ ⟨hHeld, (Cmp.rr D2.out), (Cmp.rm D4.out (fun _ hk => ⟨hk.2, hk.1⟩)), (Cmp.rm D6.out (fun _ hk => ⟨hk.1.2, hk.2⟩)), (Cmp.rr D9.out), (Cmp.b D1.out), (Cmp.b D0.out), (IsS103.go D7.out), (Cmp.kk HK.out), (IsS103.bl HB.out)⟩)
          ·skip
           rintro ⟨v297, v303⟩ w22 ⟨hS_, h0_, h1_, h2_, h3_, h4_, h5_, h6_, h7_⟩
           have n0_ : Aside0 (Kd.R k94 94 w22 w.heap.size (fun _ => True) (.slice Da D3.length Db) D3) := ⟨h0_⟩
           have n1_ : Aside0 (Kd.R (Kd.int .i64) 3 w22 w.heap.size (fun k_ => some k_ ≠ (v303 : Value).ownBlock) v297 Di) := ⟨h1_⟩
           have n2_ : Aside0 (Kd.R (Kd.int .i64) 3 w22 w.heap.size (fun k_ => some k_ ≠ (v297 : Value).ownBlock) v303 Dl) := ⟨h2_⟩
           have n3_ : Aside0 (w22.heap[D8]? = some (.cells #[.slice none 0 0] 45 (0, 0))) := ⟨h3_⟩
           have n4_ : Aside0 (w22.heap[D5]? = some (.cells #[.slice Da D3.length Db] 45 (0, 0))) := ⟨h4_⟩
           have n5_ : Aside0 (IsS103 w0 w22 g s0_0 Dg Dh) := ⟨h5_⟩
           have n6_ : Aside0 (KeepBut w w22 g none) := ⟨h6_⟩
           have n7_ : Aside0 (Below w0.heap.size w0 w22) := ⟨h7_⟩
           clear D2; clear D1; clear D0; clear D7; clear HK; clear HB; clear h0_ h1_ h2_ h3_ h4_ h5_ h6_ h7_; have D2 := n0_; have D4 := n1_; have D6 := n2_; have D1 := n3_; have D0 := n4_; have D7 := n5_; have HK := n6_; have HB := n7_; clear n0_ n1_ n2_ n3_ n4_ n5_ n6_ n7_
           have hHeld : w22.cell? ⟨D5, 0, none⟩ = some (.slice Da D3.length Db) := hS_
           obtain ⟨E6, Ec, Ee⟩ := Kd.R_slice D4.out
           (first | subst Ee | (injection Ee with f1_ f2_ f3_; have f4_ := f1_.symm; have f5_ := f3_.symm; clear f1_ f2_ f3_; subst f4_; subst f5_))
           refine norm_ (a' := ?_) ?_ ?_
           rotate_left
           ·simp only [putAll, Act.put, List.setIfInBounds_toArray, List.set_cons_zero, List.set_cons_succ]; rfl
           refine two_ (i := 4) (j := 9) (Ni := some 14) (Nj := some 19) (Cmp.bb 16 383) (Cmp.bb 16 879) rfl rfl rfl rfl (two_of HT_.out (by kernel_rfl)) (by decide) (by decide) (fun K hK => ?_) (fun K hK => ?_)
           ·skip
            refine goes_ Try.func39 (by kernel_rfl) rfl #[.pointer (some ⟨g, 0, none⟩), .slice E6 Di.length Ec] (by rfl) rfl rfl Cmp.q ?_
            with_reducible refine (spec_l1Int.calls g s0_0 Dg Dh _ _ Di Dw Dm Dn w0 _ ?side1 ?side2 ?side3 ?side4 ?side5 A5.out).mono ?_
            (case side1 => exact IsS103.go D7.out)
            (case side2 => exact IsS103.bl HB.out)
            (case side3 => exact Cmp.rc (Kd.R_reads' D4.out).2.2)
            (case side4 => exact (Kd.R_reads' D4.out).2.1)
            (case side5 => exact far_slice (IsS103.own_ne D7.out D4.out (by decide)))
            rintro e w24 ⟨rfl, hi, hb, hk⟩; refine ⟨_, rfl, ?_⟩
            replace D1 := Cmp.A (KeepBut.blk hk (g' := D8) (o := .cells #[.slice none 0 0] 45 (0, 0)) (Cmp.b D1.out) Dc.out (by simp)); replace D2 := Cmp.A (Kd.R_mono (Kd.R_keep (IsS103.apart (show IsS103 w0 _ g s0_0 Dg Dh from IsS103.go D7.out) (Cmp.rr D2.out) (by decide)) hk (fun _ h => h.2)) (fun _ h => h.1)); replace D0 := Cmp.A (KeepBut.blk hk (g' := D5) (o := .cells #[.slice Da D3.length Db] 45 (0, 0)) (Cmp.b D0.out) Dd.out (by simp)); replace D4 := Cmp.A (Kd.R_mono (Kd.R_keep (IsS103.apart (show IsS103 w0 _ g s0_0 Dg Dh from IsS103.go D7.out) (Cmp.rr D4.out) (by decide)) hk (fun _ h => h.2)) (fun _ h => h.1)); replace D6 := Cmp.A (Kd.R_mono (Kd.R_keep (IsS103.apart (show IsS103 w0 _ g s0_0 Dg Dh from IsS103.go D7.out) (Cmp.rr D6.out) (by decide)) hk (fun _ h => h.2)) (fun _ h => h.1)); replace HK := Cmp.A (KeepBut.trans (Cmp.kk HK.out) hk (.inl rfl)); replace HB := Cmp.A (hb); replace D7 := Cmp.A (hi); (try clear hb); (try clear hb2); (try clear hk); (try clear hi)
            refine hK.out _ _ (Cmp.c0 D0 :) (fun hHeld => ?_)
            clear hK K
            refine Cmp.no ?_
            exact norm_ Cmp.na (hJ3_4_6 (.slice E6 Di.length Ec, v303) _ ⟨hHeld, (Cmp.rr D2.out), (Cmp.rr D4.out), (Cmp.rr D6.out), (Cmp.b D1.out), (Cmp.b D0.out), (IsS103.go D7.out), (Cmp.kk HK.out), (IsS103.bl HB.out)⟩)
           ·skip
            refine Kd.R_lit_step (Kd.int .i64) _ 3 ?hg (N := 19) ?hd (xs := ([0, 1, 1000001] : List Int)) (inner := [.int .i64 0, .int .i64 1, .int .i64 1000001]) (ok := fun _ => True) (okp := fun _ => True) ?hr ?hp (fun _ hk => hk) trivial (Below.refl _ _) (Nat.le_refl _) (by simp) ?_; (case hd => rfl); (case hg => rfl); (case hr => first | (go_simp; done) | (go_simp; rfl)); (case hp => exact (Reps.one (Cmp.mi 0) (Reps.one (Cmp.mi 1) (Reps.one (Cmp.mi 1000001) (Reps.none _ _)))))
            intro v309 w23 Df hb hg_ hnew_
            clear hg_ hnew_
            (first | rw [← Do.out] at Df | (simp only [Int.reduceToNat] at Df; rw [← Do.out] at Df))
            have D9 := Cmp.A (Kd.R_lower (Kd.R_new' (Kd.R_new' Df (Kd.R_lt (Cmp.rr D4.out))) (Kd.R_lt (Cmp.rr D6.out))) (keep_size (w := w) (g := g) (row := none) (Cmp.kk HK.out))); replace D2 := Cmp.A (Kd.R_below (Cmp.rr D2.out) hb); replace D4 := Cmp.A (Kd.R_elder' (Cmp.rr D4.out) (Kd.R_base Df) hb); replace D6 := Cmp.A (Kd.R_elder' (Cmp.rr D6.out) (Kd.R_base Df) hb); replace D7 := Cmp.A (IsS103.below (IsS103.go D7.out) hb); replace D1 := Cmp.be D1 hb; replace D0 := Cmp.be D0 hb; replace HK := Cmp.A (KeepBut.trans (Cmp.kk HK.out) (KeepBut.of_below hb g none) (.inl rfl)); replace HB := Cmp.A (below_step (IsS103.bl HB.out) hb); clear hb Df
            refine hK.out _ _ (Cmp.c0 D0 :) (fun hHeld => ?_)
            clear hK K
            refine Cmp.no ?_
            exact norm_ Cmp.na (hJ3_6_9 (_, v303, v309) _ ⟨hHeld, (Cmp.rr D2.out), (Cmp.rr D4.out), (Cmp.rr D6.out), (Cmp.rm D9.out (fun _ hk => ⟨hk.1.2, hk.2⟩)), (Cmp.b D1.out), (Cmp.b D0.out), (IsS103.go D7.out), (Cmp.kk HK.out), (IsS103.bl HB.out)⟩)
         ·skip
          rintro v297 w22 ⟨hS_, h0_, h1_, h2_, h3_, h4_, h5_, h6_⟩
          have n0_ : Aside0 (Kd.R k94 94 w22 w.heap.size (fun _ => True) (.slice Da D3.length Db) D3) := ⟨h0_⟩
          have n1_ : Aside0 (Kd.R (Kd.int .i64) 3 w22 w.heap.size (fun _ => True) v297 Di) := ⟨h1_⟩
          have n2_ : Aside0 (w22.heap[D8]? = some (.cells #[.slice none 0 0] 45 (0, 0))) := ⟨h2_⟩
          have n3_ : Aside0 (w22.heap[D5]? = some (.cells #[.slice Da D3.length Db] 45 (0, 0))) := ⟨h3_⟩
          have n4_ : Aside0 (IsS103 w0 w22 g s0_0 Dm Dn) := ⟨h4_⟩
          have n5_ : Aside0 (KeepBut w w22 g none) := ⟨h5_⟩
          have n6_ : Aside0 (Below w0.heap.size w0 w22) := ⟨h6_⟩
          clear D2; clear D1; clear D0; clear D7; clear HK; clear HB; clear h0_ h1_ h2_ h3_ h4_ h5_ h6_; have D2 := n0_; have D4 := n1_; have D1 := n2_; have D0 := n3_; have D7 := n4_; have HK := n5_; have HB := n6_; clear n0_ n1_ n2_ n3_ n4_ n5_ n6_
          have hHeld : w22.cell? ⟨D5, 0, none⟩ = some (.slice Da D3.length Db) := hS_
          refine norm_ (a' := ?_) ?_ ?_
          rotate_left
          ·simp only [putAll, Act.put, List.setIfInBounds_toArray, List.set_cons_zero, List.set_cons_succ]; rfl
          refine two_ (i := 6) (j := 9) (Ni := some 16) (Nj := some 19) (Cmp.bb 16 383) (Cmp.bb 16 831) rfl rfl rfl rfl (two_of HT_.out (by kernel_rfl)) (by decide) (by decide) (fun K hK => ?_) (fun K hK => ?_)
          ·skip
           refine Kd.R_lit_step (Kd.int .i64) _ 3 ?hg (N := 16) ?hd (xs := ([(-1), 0, 1000001] : List Int)) (inner := [.int .i64 (-1), .int .i64 0, .int .i64 1000001]) (ok := fun _ => True) (okp := fun _ => True) ?hr ?hp (fun _ hk => hk) trivial (Below.refl _ _) (Nat.le_refl _) (by simp) ?_; (case hd => rfl); (case hg => rfl); (case hr => first | (go_simp; done) | (go_simp; rfl)); (case hp => exact (Reps.one (Cmp.mi (-1)) (Reps.one (Cmp.mi 0) (Reps.one (Cmp.mi 1000001) (Reps.none _ _)))))
           intro v303 w23 Df hb hg_ hnew_
           clear hg_ hnew_
           (first | rw [← Dt.out] at Df | (simp only [Int.reduceToNat] at Df; rw [← Dt.out] at Df))
           have D6 := Cmp.A (Kd.R_lower (Kd.R_new' Df (Kd.R_lt (Cmp.rr D4.out))) (keep_size (w := w) (g := g) (row := none) (Cmp.kk HK.out))); replace D2 := Cmp.A (Kd.R_below (Cmp.rr D2.out) hb); replace D4 := Cmp.A (Kd.R_elder' (Cmp.rr D4.out) (Kd.R_base Df) hb); replace D7 := Cmp.A (IsS103.below (IsS103.go D7.out) hb); replace D1 := Cmp.be D1 hb; replace D0 := Cmp.be D0 hb; replace HK := Cmp.A (KeepBut.trans (Cmp.kk HK.out) (KeepBut.of_below hb g none) (.inl rfl)); replace HB := Cmp.A (below_step (IsS103.bl HB.out) hb); clear hb Df
           refine hK.out _ _ (Cmp.c0 D0 :) (fun hHeld => ?_)
           clear hK K
           refine Cmp.no ?_
           exact norm_ Cmp.na (hJ3_4_6 (v297, v303) _ ⟨hHeld, (Cmp.rr D2.out), (Cmp.rm D4.out (fun _ hk => hk.2)), (Cmp.rm D6.out (fun _ hk => hk.2)), (Cmp.b D1.out), (Cmp.b D0.out), (IsS103.go D7.out), (Cmp.kk HK.out), (IsS103.bl HB.out)⟩)
          ·skip
           refine Kd.R_lit_step (Kd.int .i64) _ 3 ?hg (N := 19) ?hd (xs := ([0, 1, 1000001] : List Int)) (inner := [.int .i64 0, .int .i64 1, .int .i64 1000001]) (ok := fun _ => True) (okp := fun _ => True) ?hr ?hp (fun _ hk => hk) trivial (Below.refl _ _) (Nat.le_refl _) (by simp) ?_; (case hd => rfl); (case hg => rfl); (case hr => first | (go_simp; done) | (go_simp; rfl)); (case hp => exact (Reps.one (Cmp.mi 0) (Reps.one (Cmp.mi 1) (Reps.one (Cmp.mi 1000001) (Reps.none _ _)))))
           intro v309 w23 Df hb hg_ hnew_
           clear hg_ hnew_
           (first | rw [← Do.out] at Df | (simp only [Int.reduceToNat] at Df; rw [← Do.out] at Df))
           have D9 := Cmp.A (Kd.R_lower (Kd.R_new' Df (Kd.R_lt (Cmp.rr D4.out))) (keep_size (w := w) (g := g) (row := none) (Cmp.kk HK.out))); replace D2 := Cmp.A (Kd.R_below (Cmp.rr D2.out) hb); replace D4 := Cmp.A (Kd.R_elder' (Cmp.rr D4.out) (Kd.R_base Df) hb); replace D7 := Cmp.A (IsS103.below (IsS103.go D7.out) hb); replace D1 := Cmp.be D1 hb; replace D0 := Cmp.be D0 hb; replace HK := Cmp.A (KeepBut.trans (Cmp.kk HK.out) (KeepBut.of_below hb g none) (.inl rfl)); replace HB := Cmp.A (below_step (IsS103.bl HB.out) hb); clear hb Df
           refine hK.out _ _ (Cmp.c0 D0 :) (fun hHeld => ?_)
           clear hK K
           refine Cmp.no ?_
           exact norm_ Cmp.na (hJ3_4_9 (v297, v309) _ ⟨hHeld, (Cmp.rr D2.out), (Cmp.rm D4.out (fun _ hk => hk.2)), (Cmp.rm D9.out (fun _ hk => hk.2)), (Cmp.b D1.out), (Cmp.b D0.out), (IsS103.go D7.out), (Cmp.kk HK.out), (IsS103.bl HB.out)⟩)
        ·skip
         rintro ⟨v297, v303, v309⟩ w24 ⟨hS_, h0_, h1_, h2_, h3_, h4_, h5_, h6_, h7_, h8_⟩
         have n0_ : Aside0 (Kd.R k94 94 w24 w.heap.size (fun _ => True) (.slice Da D3.length Db) D3) := ⟨h0_⟩
         have n1_ : Aside0 (Kd.R (Kd.int .i64) 3 w24 w.heap.size (fun k_ => some k_ ≠ (v303 : Value).ownBlock ∧ some k_ ≠ (v309 : Value).ownBlock) v297 Di) := ⟨h1_⟩
         have n2_ : Aside0 (Kd.R (Kd.int .i64) 3 w24 w.heap.size (fun k_ => some k_ ≠ (v297 : Value).ownBlock ∧ some k_ ≠ (v309 : Value).ownBlock) v303 Dl) := ⟨h2_⟩
         have n3_ : Aside0 (Kd.R (Kd.int .i64) 3 w24 w.heap.size (fun k_ => some k_ ≠ (v297 : Value).ownBlock ∧ some k_ ≠ (v303 : Value).ownBlock) v309 Dv) := ⟨h3_⟩
         have n4_ : Aside0 (w24.heap[D8]? = some (.cells #[.slice none 0 0] 45 (0, 0))) := ⟨h4_⟩
         have n5_ : Aside0 (w24.heap[D5]? = some (.cells #[.slice Da D3.length Db] 45 (0, 0))) := ⟨h5_⟩
         have n6_ : Aside0 (IsS103 w0 w24 g s0_0 Dg Dh) := ⟨h6_⟩
         have n7_ : Aside0 (KeepBut w w24 g none) := ⟨h7_⟩
         have n8_ : Aside0 (Below w0.heap.size w0 w24) := ⟨h8_⟩
         clear D2; clear D1; clear D0; clear D7; clear HK; clear HB; clear h0_ h1_ h2_ h3_ h4_ h5_ h6_ h7_ h8_; have D2 := n0_; have D4 := n1_; have D6 := n2_; have D9 := n3_; have D1 := n4_; have D0 := n5_; have D7 := n6_; have HK := n7_; have HB := n8_; clear n0_ n1_ n2_ n3_ n4_ n5_ n6_ n7_ n8_
         have hHeld : w24.cell? ⟨D5, 0, none⟩ = some (.slice Da D3.length Db) := hS_
         obtain ⟨E7, Ed, Ef⟩ := Kd.R_slice D4.out
         (first | subst Ef | (injection Ef with f1_ f2_ f3_; have f4_ := f1_.symm; have f5_ := f3_.symm; clear f1_ f2_ f3_; subst f4_; subst f5_))
         refine norm_ (a' := ?_) ?_ ?_
         rotate_left
         ·simp only [putAll, Act.put, List.setIfInBounds_toArray, List.set_cons_zero, List.set_cons_succ]; rfl
         refine one_ (i := 4) (N := some 14) (Cmp.bb 16 895) rfl rfl (one_of HT_.out (by kernel_rfl)) (by decide) (fun K hK => ?_)
         refine goes_ Try.func39 (by kernel_rfl) rfl #[.pointer (some ⟨g, 0, none⟩), .slice E7 Di.length Ed] (by rfl) rfl rfl Cmp.q ?_
         with_reducible refine (spec_l1Int.calls g s0_0 Dg Dh _ _ Di Dw Dm Dn w0 _ ?side1 ?side2 ?side3 ?side4 ?side5 A5.out).mono ?_
         (case side1 => exact IsS103.go D7.out)
         (case side2 => exact IsS103.bl HB.out)
         (case side3 => exact Cmp.rc (Kd.R_reads' D4.out).2.2)
         (case side4 => exact (Kd.R_reads' D4.out).2.1)
         (case side5 => exact far_slice (IsS103.own_ne D7.out D4.out (by decide)))
         rintro e w26 ⟨rfl, hi, hb, hk⟩; refine ⟨_, rfl, ?_⟩
         replace D1 := Cmp.A (KeepBut.blk hk (g' := D8) (o := .cells #[.slice none 0 0] 45 (0, 0)) (Cmp.b D1.out) Dc.out (by simp)); replace D2 := Cmp.A (Kd.R_mono (Kd.R_keep (IsS103.apart (show IsS103 w0 _ g s0_0 Dg Dh from IsS103.go D7.out) (Cmp.rr D2.out) (by decide)) hk (fun _ h => h.2)) (fun _ h => h.1)); replace D0 := Cmp.A (KeepBut.blk hk (g' := D5) (o := .cells #[.slice Da D3.length Db] 45 (0, 0)) (Cmp.b D0.out) Dd.out (by simp)); replace D4 := Cmp.A (Kd.R_mono (Kd.R_keep (IsS103.apart (show IsS103 w0 _ g s0_0 Dg Dh from IsS103.go D7.out) (Cmp.rr D4.out) (by decide)) hk (fun _ h => h.2)) (fun _ h => h.1)); replace D6 := Cmp.A (Kd.R_mono (Kd.R_keep (IsS103.apart (show IsS103 w0 _ g s0_0 Dg Dh from IsS103.go D7.out) (Cmp.rr D6.out) (by decide)) hk (fun _ h => h.2)) (fun _ h => h.1)); replace D9 := Cmp.A (Kd.R_mono (Kd.R_keep (IsS103.apart (show IsS103 w0 _ g s0_0 Dg Dh from IsS103.go D7.out) (Cmp.rr D9.out) (by decide)) hk (fun _ h => h.2)) (fun _ h => h.1)); replace HK := Cmp.A (KeepBut.trans (Cmp.kk HK.out) hk (.inl rfl)); replace HB := Cmp.A (hb); replace D7 := Cmp.A (hi); (try clear hb); (try clear hb2); (try clear hk); (try clear hi)
         refine hK.out _ _ (Cmp.c0 D0 :) (fun hHeld => ?_)
         clear hK K
         refine Cmp.no ?_
         exact norm_ Cmp.na (hJ3_4_6_9 (.slice E7 Di.length Ed, v303, v309) _ ⟨hHeld, (Cmp.rr D2.out), (Cmp.rr D4.out), (Cmp.rr D6.out), (Cmp.rr D9.out), (Cmp.b D1.out), (Cmp.b D0.out), (IsS103.go D7.out), (Cmp.kk HK.out), (IsS103.bl HB.out)⟩)
       ·skip
        rintro ⟨v297, v309⟩ w24 ⟨hS_, h0_, h1_, h2_, h3_, h4_, h5_, h6_, h7_⟩
        have n0_ : Aside0 (Kd.R k94 94 w24 w.heap.size (fun _ => True) (.slice Da D3.length Db) D3) := ⟨h0_⟩
        have n1_ : Aside0 (Kd.R (Kd.int .i64) 3 w24 w.heap.size (fun k_ => some k_ ≠ (v309 : Value).ownBlock) v297 Di) := ⟨h1_⟩
        have n2_ : Aside0 (Kd.R (Kd.int .i64) 3 w24 w.heap.size (fun k_ => some k_ ≠ (v297 : Value).ownBlock) v309 Dv) := ⟨h2_⟩
        have n3_ : Aside0 (w24.heap[D8]? = some (.cells #[.slice none 0 0] 45 (0, 0))) := ⟨h3_⟩
        have n4_ : Aside0 (w24.heap[D5]? = some (.cells #[.slice Da D3.length Db] 45 (0, 0))) := ⟨h4_⟩
        have n5_ : Aside0 (IsS103 w0 w24 g s0_0 Dm Dn) := ⟨h5_⟩
        have n6_ : Aside0 (KeepBut w w24 g none) := ⟨h6_⟩
        have n7_ : Aside0 (Below w0.heap.size w0 w24) := ⟨h7_⟩
        clear D2; clear D1; clear D0; clear D7; clear HK; clear HB; clear h0_ h1_ h2_ h3_ h4_ h5_ h6_ h7_; have D2 := n0_; have D4 := n1_; have D9 := n2_; have D1 := n3_; have D0 := n4_; have D7 := n5_; have HK := n6_; have HB := n7_; clear n0_ n1_ n2_ n3_ n4_ n5_ n6_ n7_
        have hHeld : w24.cell? ⟨D5, 0, none⟩ = some (.slice Da D3.length Db) := hS_
        refine norm_ (a' := ?_) ?_ ?_
        rotate_left
        ·simp only [putAll, Act.put, List.setIfInBounds_toArray, List.set_cons_zero, List.set_cons_succ]; rfl
        refine one_ (i := 6) (N := some 16) (Cmp.bb 16 895) rfl rfl (one_of HT_.out (by kernel_rfl)) (by decide) (fun K hK => ?_)
        refine Kd.R_lit_step (Kd.int .i64) _ 3 ?hg (N := 16) ?hd (xs := ([(-1), 0, 1000001] : List Int)) (inner := [.int .i64 (-1), .int .i64 0, .int .i64 1000001]) (ok := fun _ => True) (okp := fun _ => True) ?hr ?hp (fun _ hk => hk) trivial (Below.refl _ _) (Nat.le_refl _) (by simp) ?_; (case hd => rfl); (case hg => rfl); (case hr => first | (go_simp; done) | (go_simp; rfl)); (case hp => exact (Reps.one (Cmp.mi (-1)) (Reps.one (Cmp.mi 0) (Reps.one (Cmp.mi 1000001) (Reps.none _ _)))))
        intro v303 w25 Dx hb hg_ hnew_
        clear hg_ hnew_
        (first | rw [← Dt.out] at Dx | (simp only [Int.reduceToNat] at Dx; rw [← Dt.out] at Dx))
        have D6 := Cmp.A (Kd.R_lower (Kd.R_new' (Kd.R_new' Dx (Kd.R_lt (Cmp.rr D4.out))) (Kd.R_lt (Cmp.rr D9.out))) (keep_size (w := w) (g := g) (row := none) (Cmp.kk HK.out))); replace D2 := Cmp.A (Kd.R_below (Cmp.rr D2.out) hb); replace D4 := Cmp.A (Kd.R_elder' (Cmp.rr D4.out) (Kd.R_base Dx) hb); replace D9 := Cmp.A (Kd.R_elder' (Cmp.rr D9.out) (Kd.R_base Dx) hb); replace D7 := Cmp.A (IsS103.below (IsS103.go D7.out) hb); replace D1 := Cmp.be D1 hb; replace D0 := Cmp.be D0 hb; replace HK := Cmp.A (KeepBut.trans (Cmp.kk HK.out) (KeepBut.of_below hb g none) (.inl rfl)); replace HB := Cmp.A (below_step (IsS103.bl HB.out) hb); clear hb Dx
        refine hK.out _ _ (Cmp.c0 D0 :) (fun hHeld => ?_)
        clear hK K
        refine Cmp.no ?_
        exact norm_ Cmp.na (hJ3_4_6_9 (v297, v303, v309) _ ⟨hHeld, (Cmp.rr D2.out), (Cmp.rm D4.out (fun _ hk => ⟨hk.2, hk.1⟩)), (Cmp.rm D6.out (fun _ hk => ⟨hk.1.2, hk.2⟩)), (Cmp.rr D9.out), (Cmp.b D1.out), (Cmp.b D0.out), (IsS103.go D7.out), (Cmp.kk HK.out), (IsS103.bl HB.out)⟩)
      ·skip
       rintro ⟨v297, v303⟩ w24 ⟨hS_, h0_, h1_, h2_, h3_, h4_, h5_, h6_, h7_⟩
       have n0_ : Aside0 (Kd.R k94 94 w24 w.heap.size (fun _ => True) (.slice Da D3.length Db) D3) := ⟨h0_⟩
       have n1_ : Aside0 (Kd.R (Kd.int .i64) 3 w24 w.heap.size (fun k_ => some k_ ≠ (v303 : Value).ownBlock) v297 Di) := ⟨h1_⟩
       have n2_ : Aside0 (Kd.R (Kd.int .i64) 3 w24 w.heap.size (fun k_ => some k_ ≠ (v297 : Value).ownBlock) v303 Dl) := ⟨h2_⟩
       have n3_ : Aside0 (w24.heap[D8]? = some (.cells #[.slice none 0 0] 45 (0, 0))) := ⟨h3_⟩
       have n4_ : Aside0 (w24.heap[D5]? = some (.cells #[.slice Da D3.length Db] 45 (0, 0))) := ⟨h4_⟩
       have n5_ : Aside0 (IsS103 w0 w24 g s0_0 Dm Dn) := ⟨h5_⟩
       have n6_ : Aside0 (KeepBut w w24 g none) := ⟨h6_⟩
       have n7_ : Aside0 (Below w0.heap.size w0 w24) := ⟨h7_⟩
       clear D2; clear D1; clear D0; clear D7; clear HK; clear HB; clear h0_ h1_ h2_ h3_ h4_ h5_ h6_ h7_; have D2 := n0_; have D4 := n1_; have D6 := n2_; have D1 := n3_; have D0 := n4_; have D7 := n5_; have HK := n6_; have HB := n7_; clear n0_ n1_ n2_ n3_ n4_ n5_ n6_ n7_
       have hHeld : w24.cell? ⟨D5, 0, none⟩ = some (.slice Da D3.length Db) := hS_
       obtain ⟨E7, Ed, Ef⟩ := Kd.R_slice D6.out
       (first | subst Ef | (injection Ef with f1_ f2_ f3_; have f4_ := f1_.symm; have f5_ := f3_.symm; clear f1_ f2_ f3_; subst f4_; subst f5_))
       refine norm_ (a' := ?_) ?_ ?_
       rotate_left
       ·simp only [putAll, Act.put, List.setIfInBounds_toArray, List.set_cons_zero, List.set_cons_succ]; rfl
       refine two_ (i := 7) (j := 9) (Ni := some 17) (Nj := some 19) (Cmp.bm 9 7) (Cmp.bb 16 895) rfl rfl rfl rfl (two_of HT_.out (by kernel_rfl)) (by decide) (by decide) (fun K hK => ?_) (fun K hK => ?_)
       ·skip
        refine goes_ Try.func39 (by kernel_rfl) rfl #[.pointer (some ⟨g, 0, none⟩), .slice E7 Dl.length Ed] (by rfl) rfl rfl Cmp.q ?_
        with_reducible refine (spec_l1Int.calls g s0_0 Dm Dn _ _ Dl E2 E0 E1 w0 _ ?side1 ?side2 ?side3 ?side4 ?side5 A6.out).mono ?_
        (case side1 => exact IsS103.go D7.out)
        (case side2 => exact IsS103.bl HB.out)
        (case side3 => exact Cmp.rc (Kd.R_reads' D6.out).2.2)
        (case side4 => exact (Kd.R_reads' D6.out).2.1)
        (case side5 => exact far_slice (IsS103.own_ne D7.out D6.out (by decide)))
        rintro e w26 ⟨rfl, hi, hb, hk⟩; refine ⟨_, rfl, ?_⟩
        replace D1 := Cmp.A (KeepBut.blk hk (g' := D8) (o := .cells #[.slice none 0 0] 45 (0, 0)) (Cmp.b D1.out) Dc.out (by simp)); replace D2 := Cmp.A (Kd.R_mono (Kd.R_keep (IsS103.apart (show IsS103 w0 _ g s0_0 Dm Dn from IsS103.go D7.out) (Cmp.rr D2.out) (by decide)) hk (fun _ h => h.2)) (fun _ h => h.1)); replace D0 := Cmp.A (KeepBut.blk hk (g' := D5) (o := .cells #[.slice Da D3.length Db] 45 (0, 0)) (Cmp.b D0.out) Dd.out (by simp)); replace D4 := Cmp.A (Kd.R_mono (Kd.R_keep (IsS103.apart (show IsS103 w0 _ g s0_0 Dm Dn from IsS103.go D7.out) (Cmp.rr D4.out) (by decide)) hk (fun _ h => h.2)) (fun _ h => h.1)); replace D6 := Cmp.A (Kd.R_mono (Kd.R_keep (IsS103.apart (show IsS103 w0 _ g s0_0 Dm Dn from IsS103.go D7.out) (Cmp.rr D6.out) (by decide)) hk (fun _ h => h.2)) (fun _ h => h.1)); replace HK := Cmp.A (KeepBut.trans (Cmp.kk HK.out) hk (.inl rfl)); replace HB := Cmp.A (hb); replace D7 := Cmp.A (hi); (try clear hb); (try clear hb2); (try clear hk); (try clear hi)
        refine hK.out _ _ (Cmp.c0 D0 :) (fun hHeld => ?_)
        clear hK K
        refine Cmp.no ?_
        exact norm_ Cmp.na (hJ3_4_6_7 (v297, .slice E7 Dl.length Ed) _ ⟨hHeld, (Cmp.rr D2.out), (Cmp.rr D4.out), (Cmp.rr D6.out), (Cmp.b D1.out), (Cmp.b D0.out), (IsS103.go D7.out), (Cmp.kk HK.out), (IsS103.bl HB.out)⟩)
       ·skip
        refine Kd.R_lit_step (Kd.int .i64) _ 3 ?hg (N := 19) ?hd (xs := ([0, 1, 1000001] : List Int)) (inner := [.int .i64 0, .int .i64 1, .int .i64 1000001]) (ok := fun _ => True) (okp := fun _ => True) ?hr ?hp (fun _ hk => hk) trivial (Below.refl _ _) (Nat.le_refl _) (by simp) ?_; (case hd => rfl); (case hg => rfl); (case hr => first | (go_simp; done) | (go_simp; rfl)); (case hp => exact (Reps.one (Cmp.mi 0) (Reps.one (Cmp.mi 1) (Reps.one (Cmp.mi 1000001) (Reps.none _ _)))))
        intro v309 w25 Dx hb hg_ hnew_
        clear hg_ hnew_
        (first | rw [← Do.out] at Dx | (simp only [Int.reduceToNat] at Dx; rw [← Do.out] at Dx))
        have D9 := Cmp.A (Kd.R_lower (Kd.R_new' (Kd.R_new' Dx (Kd.R_lt (Cmp.rr D4.out))) (Kd.R_lt (Cmp.rr D6.out))) (keep_size (w := w) (g := g) (row := none) (Cmp.kk HK.out))); replace D2 := Cmp.A (Kd.R_below (Cmp.rr D2.out) hb); replace D4 := Cmp.A (Kd.R_elder' (Cmp.rr D4.out) (Kd.R_base Dx) hb); replace D6 := Cmp.A (Kd.R_elder' (Cmp.rr D6.out) (Kd.R_base Dx) hb); replace D7 := Cmp.A (IsS103.below (IsS103.go D7.out) hb); replace D1 := Cmp.be D1 hb; replace D0 := Cmp.be D0 hb; replace HK := Cmp.A (KeepBut.trans (Cmp.kk HK.out) (KeepBut.of_below hb g none) (.inl rfl)); replace HB := Cmp.A (below_step (IsS103.bl HB.out) hb); clear hb Dx
        refine hK.out _ _ (Cmp.c0 D0 :) (fun hHeld => ?_)
        clear hK K
        refine Cmp.no ?_
        exact norm_ Cmp.na (hJ3_4_6_9 (v297, _, v309) _ ⟨hHeld, (Cmp.rr D2.out), (Cmp.rr D4.out), (Cmp.rr D6.out), (Cmp.rm D9.out (fun _ hk => ⟨hk.1.2, hk.2⟩)), (Cmp.b D1.out), (Cmp.b D0.out), (IsS103.go D7.out), (Cmp.kk HK.out), (IsS103.bl HB.out)⟩)
     ·skip
      rintro ⟨v297, v303, v309⟩ w26 ⟨hS_, h0_, h1_, h2_, h3_, h4_, h5_, h6_, h7_, h8_⟩
      have n0_ : Aside0 (Kd.R k94 94 w26 w.heap.size (fun _ => True) (.slice Da D3.length Db) D3) := ⟨h0_⟩
      have n1_ : Aside0 (Kd.R (Kd.int .i64) 3 w26 w.heap.size (fun k_ => some k_ ≠ (v303 : Value).ownBlock ∧ some k_ ≠ (v309 : Value).ownBlock) v297 Di) := ⟨h1_⟩
      have n2_ : Aside0 (Kd.R (Kd.int .i64) 3 w26 w.heap.size (fun k_ => some k_ ≠ (v297 : Value).ownBlock ∧ some k_ ≠ (v309 : Value).ownBlock) v303 Dl) := ⟨h2_⟩
      have n3_ : Aside0 (Kd.R (Kd.int .i64) 3 w26 w.heap.size (fun k_ => some k_ ≠ (v297 : Value).ownBlock ∧ some k_ ≠ (v303 : Value).ownBlock) v309 Dv) := ⟨h3_⟩
      have n4_ : Aside0 (w26.heap[D8]? = some (.cells #[.slice none 0 0] 45 (0, 0))) := ⟨h4_⟩
      have n5_ : Aside0 (w26.heap[D5]? = some (.cells #[.slice Da D3.length Db] 45 (0, 0))) := ⟨h5_⟩
      have n6_ : Aside0 (IsS103 w0 w26 g s0_0 Dm Dn) := ⟨h6_⟩
      have n7_ : Aside0 (KeepBut w w26 g none) := ⟨h7_⟩
      have n8_ : Aside0 (Below w0.heap.size w0 w26) := ⟨h8_⟩
      clear D2; clear D1; clear D0; clear D7; clear HK; clear HB; clear h0_ h1_ h2_ h3_ h4_ h5_ h6_ h7_ h8_; have D2 := n0_; have D4 := n1_; have D6 := n2_; have D9 := n3_; have D1 := n4_; have D0 := n5_; have D7 := n6_; have HK := n7_; have HB := n8_; clear n0_ n1_ n2_ n3_ n4_ n5_ n6_ n7_ n8_
      have hHeld : w26.cell? ⟨D5, 0, none⟩ = some (.slice Da D3.length Db) := hS_
      obtain ⟨Ev, F0, F2⟩ := Kd.R_slice D6.out
      (first | subst F2 | (injection F2 with f1_ f2_ f3_; have f4_ := f1_.symm; have f5_ := f3_.symm; clear f1_ f2_ f3_; subst f4_; subst f5_))
      refine norm_ (a' := ?_) ?_ ?_
      rotate_left
      ·simp only [putAll, Act.put, List.setIfInBounds_toArray, List.set_cons_zero, List.set_cons_succ]; rfl
      refine one_ (i := 7) (N := some 17) (Cmp.bm 10 6) rfl rfl (one_of HT_.out (by kernel_rfl)) (by decide) (fun K hK => ?_)
      refine goes_ Try.func39 (by kernel_rfl) rfl #[.pointer (some ⟨g, 0, none⟩), .slice Ev Dl.length F0] (by rfl) rfl rfl Cmp.q ?_
      with_reducible refine (spec_l1Int.calls g s0_0 Dm Dn _ _ Dl E2 E0 E1 w0 _ ?side1 ?side2 ?side3 ?side4 ?side5 A6.out).mono ?_
      (case side1 => exact IsS103.go D7.out)
      (case side2 => exact IsS103.bl HB.out)
      (case side3 => exact Cmp.rc (Kd.R_reads' D6.out).2.2)
      (case side4 => exact (Kd.R_reads' D6.out).2.1)
      (case side5 => exact far_slice (IsS103.own_ne D7.out D6.out (by decide)))
      rintro e w28 ⟨rfl, hi, hb, hk⟩; refine ⟨_, rfl, ?_⟩
      replace D1 := Cmp.A (KeepBut.blk hk (g' := D8) (o := .cells #[.slice none 0 0] 45 (0, 0)) (Cmp.b D1.out) Dc.out (by simp)); replace D2 := Cmp.A (Kd.R_mono (Kd.R_keep (IsS103.apart (show IsS103 w0 _ g s0_0 Dm Dn from IsS103.go D7.out) (Cmp.rr D2.out) (by decide)) hk (fun _ h => h.2)) (fun _ h => h.1)); replace D0 := Cmp.A (KeepBut.blk hk (g' := D5) (o := .cells #[.slice Da D3.length Db] 45 (0, 0)) (Cmp.b D0.out) Dd.out (by simp)); replace D4 := Cmp.A (Kd.R_mono (Kd.R_keep (IsS103.apart (show IsS103 w0 _ g s0_0 Dm Dn from IsS103.go D7.out) (Cmp.rr D4.out) (by decide)) hk (fun _ h => h.2)) (fun _ h => h.1)); replace D6 := Cmp.A (Kd.R_mono (Kd.R_keep (IsS103.apart (show IsS103 w0 _ g s0_0 Dm Dn from IsS103.go D7.out) (Cmp.rr D6.out) (by decide)) hk (fun _ h => h.2)) (fun _ h => h.1)); replace D9 := Cmp.A (Kd.R_mono (Kd.R_keep (IsS103.apart (show IsS103 w0 _ g s0_0 Dm Dn from IsS103.go D7.out) (Cmp.rr D9.out) (by decide)) hk (fun _ h => h.2)) (fun _ h => h.1)); replace HK := Cmp.A (KeepBut.trans (Cmp.kk HK.out) hk (.inl rfl)); replace HB := Cmp.A (hb); replace D7 := Cmp.A (hi); (try clear hb); (try clear hb2); (try clear hk); (try clear hi)
      refine hK.out _ _ (Cmp.c0 D0 :) (fun hHeld => ?_)
      clear hK K
      refine Cmp.no ?_
      exact norm_ Cmp.na (hJ3_4_6_7_9 (v297, .slice Ev Dl.length F0, v309) _ ⟨hHeld, (Cmp.rr D2.out), (Cmp.rr D4.out), (Cmp.rr D6.out), (Cmp.rr D9.out), (Cmp.b D1.out), (Cmp.b D0.out), (IsS103.go D7.out), (Cmp.kk HK.out), (IsS103.bl HB.out)⟩)
    ·skip
     rintro ⟨v297, v303⟩ w26 ⟨hS_, h0_, h1_, h2_, h3_, h4_, h5_, h6_, h7_⟩
     have n0_ : Aside0 (Kd.R k94 94 w26 w.heap.size (fun _ => True) (.slice Da D3.length Db) D3) := ⟨h0_⟩
     have n1_ : Aside0 (Kd.R (Kd.int .i64) 3 w26 w.heap.size (fun k_ => some k_ ≠ (v303 : Value).ownBlock) v297 Di) := ⟨h1_⟩
     have n2_ : Aside0 (Kd.R (Kd.int .i64) 3 w26 w.heap.size (fun k_ => some k_ ≠ (v297 : Value).ownBlock) v303 Dl) := ⟨h2_⟩
     have n3_ : Aside0 (w26.heap[D8]? = some (.cells #[.slice none 0 0] 45 (0, 0))) := ⟨h3_⟩
     have n4_ : Aside0 (w26.heap[D5]? = some (.cells #[.slice Da D3.length Db] 45 (0, 0))) := ⟨h4_⟩
     have n5_ : Aside0 (IsS103 w0 w26 g s0_0 E0 E1) := ⟨h5_⟩
     have n6_ : Aside0 (KeepBut w w26 g none) := ⟨h6_⟩
     have n7_ : Aside0 (Below w0.heap.size w0 w26) := ⟨h7_⟩
     clear D2; clear D1; clear D0; clear D7; clear HK; clear HB; clear h0_ h1_ h2_ h3_ h4_ h5_ h6_ h7_; have D2 := n0_; have D4 := n1_; have D6 := n2_; have D1 := n3_; have D0 := n4_; have D7 := n5_; have HK := n6_; have HB := n7_; clear n0_ n1_ n2_ n3_ n4_ n5_ n6_ n7_
     have hHeld : w26.cell? ⟨D5, 0, none⟩ = some (.slice Da D3.length Db) := hS_
     refine norm_ (a' := ?_) ?_ ?_
     rotate_left
     ·simp only [putAll, Act.put, List.setIfInBounds_toArray, List.set_cons_zero, List.set_cons_succ]; rfl
     refine one_ (i := 9) (N := some 19) (Cmp.bm 10 6) rfl rfl (one_of HT_.out (by kernel_rfl)) (by decide) (fun K hK => ?_)
     refine Kd.R_lit_step (Kd.int .i64) _ 3 ?hg (N := 19) ?hd (xs := ([0, 1, 1000001] : List Int)) (inner := [.int .i64 0, .int .i64 1, .int .i64 1000001]) (ok := fun _ => True) (okp := fun _ => True) ?hr ?hp (fun _ hk => hk) trivial (Below.refl _ _) (Nat.le_refl _) (by simp) ?_; (case hd => rfl); (case hg => rfl); (case hr => first | (go_simp; done) | (go_simp; rfl)); (case hp => exact (Reps.one (Cmp.mi 0) (Reps.one (Cmp.mi 1) (Reps.one (Cmp.mi 1000001) (Reps.none _ _)))))
     intro v309 w27 E3 hb hg_ hnew_
     clear hg_ hnew_
     (first | rw [← Do.out] at E3 | (simp only [Int.reduceToNat] at E3; rw [← Do.out] at E3))
     have D9 := Cmp.A (Kd.R_lower (Kd.R_new' (Kd.R_new' E3 (Kd.R_lt (Cmp.rr D4.out))) (Kd.R_lt (Cmp.rr D6.out))) (keep_size (w := w) (g := g) (row := none) (Cmp.kk HK.out))); replace D2 := Cmp.A (Kd.R_below (Cmp.rr D2.out) hb); replace D4 := Cmp.A (Kd.R_elder' (Cmp.rr D4.out) (Kd.R_base E3) hb); replace D6 := Cmp.A (Kd.R_elder' (Cmp.rr D6.out) (Kd.R_base E3) hb); replace D7 := Cmp.A (IsS103.below (IsS103.go D7.out) hb); replace D1 := Cmp.be D1 hb; replace D0 := Cmp.be D0 hb; replace HK := Cmp.A (KeepBut.trans (Cmp.kk HK.out) (KeepBut.of_below hb g none) (.inl rfl)); replace HB := Cmp.A (below_step (IsS103.bl HB.out) hb); clear hb E3
     refine hK.out _ _ (Cmp.c0 D0 :) (fun hHeld => ?_)
     clear hK K
     refine Cmp.no ?_
     exact norm_ Cmp.na (hJ3_4_6_7_9 (v297, v303, v309) _ ⟨hHeld, (Cmp.rr D2.out), (Cmp.rr D4.out), (Cmp.rr D6.out), (Cmp.rm D9.out (fun _ hk => ⟨hk.1.2, hk.2⟩)), (Cmp.b D1.out), (Cmp.b D0.out), (IsS103.go D7.out), (Cmp.kk HK.out), (IsS103.bl HB.out)⟩)
   rintro ⟨v297, v303, v309⟩ w28 ⟨hS_, h0_, h1_, h2_, h3_, h4_, h5_, h6_, h7_, h8_⟩
   have n0_ : Aside0 (Kd.R k94 94 w28 w.heap.size (fun _ => True) (.slice Da D3.length Db) D3) := ⟨h0_⟩
   have n1_ : Aside0 (Kd.R (Kd.int .i64) 3 w28 w.heap.size (fun k_ => some k_ ≠ (v303 : Value).ownBlock ∧ some k_ ≠ (v309 : Value).ownBlock) v297 Di) := ⟨h1_⟩
   have n2_ : Aside0 (Kd.R (Kd.int .i64) 3 w28 w.heap.size (fun k_ => some k_ ≠ (v297 : Value).ownBlock ∧ some k_ ≠ (v309 : Value).ownBlock) v303 Dl) := ⟨h2_⟩
   have n3_ : Aside0 (Kd.R (Kd.int .i64) 3 w28 w.heap.size (fun k_ => some k_ ≠ (v297 : Value).ownBlock ∧ some k_ ≠ (v303 : Value).ownBlock) v309 Dv) := ⟨h3_⟩
   have n4_ : Aside0 (w28.heap[D8]? = some (.cells #[.slice none 0 0] 45 (0, 0))) := ⟨h4_⟩
   have n5_ : Aside0 (w28.heap[D5]? = some (.cells #[.slice Da D3.length Db] 45 (0, 0))) := ⟨h5_⟩
   have n6_ : Aside0 (IsS103 w0 w28 g s0_0 E0 E1) := ⟨h6_⟩
   have n7_ : Aside0 (KeepBut w w28 g none) := ⟨h7_⟩
   have n8_ : Aside0 (Below w0.heap.size w0 w28) := ⟨h8_⟩
   clear D2; clear D1; clear D0; clear D7; clear HK; clear HB; clear h0_ h1_ h2_ h3_ h4_ h5_ h6_ h7_ h8_; have D2 := n0_; have D4 := n1_; have D6 := n2_; have D9 := n3_; have D1 := n4_; have D0 := n5_; have D7 := n6_; have HK := n7_; have HB := n8_; clear n0_ n1_ n2_ n3_ n4_ n5_ n6_ n7_ n8_
   have hHeld : w28.cell? ⟨D5, 0, none⟩ = some (.slice Da D3.length Db) := hS_
   obtain ⟨G0, G1, F3⟩ := Kd.R_slice D9.out
   (first | subst F3 | (injection F3 with f1_ f2_ f3_; have f4_ := f1_.symm; have f5_ := f3_.symm; clear f1_ f2_ f3_; subst f4_; subst f5_))
   refine norm_ (a' := ?_) ?_ ?_
   rotate_left
   ·simp only [putAll, Act.put, List.setIfInBounds_toArray, List.set_cons_zero, List.set_cons_succ]; rfl
   refine one_ (i := 10) (N := some 20) (Cmp.bm 11 5) rfl rfl (one_of HT_.out (by kernel_rfl)) (by decide) (fun K hK => ?_)
   refine goes_ Try.func39 (by kernel_rfl) rfl #[.pointer (some ⟨g, 0, none⟩), .slice G0 Dv.length G1] (by rfl) rfl rfl Cmp.q ?_
   with_reducible refine (spec_l1Int.calls g s0_0 E0 E1 _ _ Dv El F7 F8 w0 _ ?side1 ?side2 ?side3 ?side4 ?side5 A7.out).mono ?_
   (case side1 => exact IsS103.go D7.out)
   (case side2 => exact IsS103.bl HB.out)
   (case side3 => exact Cmp.rc (Kd.R_reads' D9.out).2.2)
   (case side4 => exact (Kd.R_reads' D9.out).2.1)
   (case side5 => exact far_slice (IsS103.own_ne D7.out D9.out (by decide)))
   rintro e w30 ⟨rfl, hi, hb, hk⟩; refine ⟨_, rfl, ?_⟩
   replace D1 := Cmp.A (KeepBut.blk hk (g' := D8) (o := .cells #[.slice none 0 0] 45 (0, 0)) (Cmp.b D1.out) Dc.out (by simp)); replace D2 := Cmp.A (Kd.R_mono (Kd.R_keep (IsS103.apart (show IsS103 w0 _ g s0_0 E0 E1 from IsS103.go D7.out) (Cmp.rr D2.out) (by decide)) hk (fun _ h => h.2)) (fun _ h => h.1)); replace D0 := Cmp.A (KeepBut.blk hk (g' := D5) (o := .cells #[.slice Da D3.length Db] 45 (0, 0)) (Cmp.b D0.out) Dd.out (by simp)); replace D4 := Cmp.A (Kd.R_mono (Kd.R_keep (IsS103.apart (show IsS103 w0 _ g s0_0 E0 E1 from IsS103.go D7.out) (Cmp.rr D4.out) (by decide)) hk (fun _ h => h.2)) (fun _ h => h.1)); replace D6 := Cmp.A (Kd.R_mono (Kd.R_keep (IsS103.apart (show IsS103 w0 _ g s0_0 E0 E1 from IsS103.go D7.out) (Cmp.rr D6.out) (by decide)) hk (fun _ h => h.2)) (fun _ h => h.1)); replace D9 := Cmp.A (Kd.R_mono (Kd.R_keep (IsS103.apart (show IsS103 w0 _ g s0_0 E0 E1 from IsS103.go D7.out) (Cmp.rr D9.out) (by decide)) hk (fun _ h => h.2)) (fun _ h => h.1)); replace HK := Cmp.A (KeepBut.trans (Cmp.kk HK.out) hk (.inl rfl)); replace HB := Cmp.A (hb); replace D7 := Cmp.A (hi); (try clear hb); (try clear hb2); (try clear hk); (try clear hi)
   refine hK.out _ _ (Cmp.c0 D0 :) (fun hHeld => ?_)
   clear hK K
   refine Cmp.no ?_
   refine Cmp.pu HT_ 11 21 (Cmp.bm 12 4) ?_
   refine one_ (i := 12) (N := some 22) (Cmp.bm 13 3) rfl rfl (one_of HT_.out (by kernel_rfl)) (by decide) (fun K hK => ?_)
   refine value_ (w1 := ?_) (v := ?_) (by rfl) rfl ?_ ?_
   rotate_left 2
   ·go_simp
    constructor
    ·rfl
    ·rfl
   refine hK.out _ _ ((blk_cell (blk_alloc D0.out _) 0).trans rfl) (fun hHeld => ?_)
   clear hK K
   refine Cmp.no ?_
   refine one_ (i := 13) (N := some 23) (Cmp.bm 14 2) rfl rfl (one_of HT_.out (by kernel_rfl)) (by decide) (fun K hK => ?_)
   refine Kd.R_append_step k94 w.heap.size (by rfl) (.tmp 11) (.tmp 22) 43 94 (.agg #[(.int .i64 0), (.int .i64 0), (.int .i64 0), (.bool false)]) 32 rfl Try.underlying43 info94 rfl (by decide) (by omega) (.slice Da D3.length Db) D3 (⟨Dw, E2, El, false⟩ : S94) [.int .i64 Dw, .int .i64 E2, .int .i64 El, .bool false] (fun _ => True) (fun _ => False) rfl rfl ?aP (fun _ hk => hk.elim) ?aF ?aO (Below.refl _ _) ?aS ?aL ?_
   (case aP => exact k94_mkM _ _ _ (⟨Dw, E2, El, false⟩ : S94))
   (case aF => exact (fun _ _ => trivial))
   (case aO => exact (Cmp.rr D2.out))
   (case aS => exact (keep_size (w := w) (g := g) (row := none) (Cmp.kk HK.out)))
   (case aL => have := LMc8.out; omega)
   intro v315 w31 ho hb hg hat
   rw [← Ex.out] at ho
   have Er := Cmp.A (ho); replace D7 := Cmp.A (IsS103.grown (IsS103.go D7.out) hg (IsS103.own_ne D7.out D2.out (by decide))); replace D1 := Cmp.bg D1 hg (Kd.R_ne D2.out D1.out (by decide)); replace D0 := Cmp.bg D0 hg (Kd.R_ne D2.out D0.out (by decide)); replace D4 := Cmp.A (Kd.R_over' (Cmp.rr D4.out) (Kd.R_typed (Cmp.rr D2.out)) (by decide) hg); replace D6 := Cmp.A (Kd.R_over' (Cmp.rr D6.out) (Kd.R_typed (Cmp.rr D2.out)) (by decide) hg); replace D9 := Cmp.A (Kd.R_over' (Cmp.rr D9.out) (Kd.R_typed (Cmp.rr D2.out)) (by decide) hg); replace HB := Cmp.A (below_weaken (IsS103.bl HB.out) HL.out hb); replace HK := Cmp.A (KeepBut.trans (Cmp.kk HK.out) (KeepBut.of_grown hg g) (Kd.R_base2 D2.out)); clear D2; clear ho hb hg hat
   obtain ⟨Es, Et, F4⟩ := Kd.R_slice Er.out
   (first | subst F4 | (injection F4 with f1_ f2_ f3_; have f4_ := f1_.symm; have f5_ := f3_.symm; clear f1_ f2_ f3_; subst f4_; subst f5_))
   refine hK.out _ _ (Cmp.c0 D0 :) (fun hHeld => ?_)
   clear hK K
   refine Cmp.no ?_
   refine Cmp.pu HT_ 14 24 (Cmp.bm 15 1) ?_
   refine last_ (i := 15) (N := none) (Cmp.bm 16 0) rfl rfl (one_of HT_.out (by kernel_rfl)) (by decide) (fun K hK => ?_)
   have hs33 : w31.cell? ⟨D5, 0, none⟩ = some (.slice Da D3.length Db) := (blk_cell D0.out 0).trans rfl
   have hfs33 := blk_frozen D0.out 0; have hns33_0 := Dj.out; have hms33_0 := Dk.out
   refine skip_ (w1 := ?_) (by rfl) rfl ?_ ?_
   rotate_left
   ·go_simp; rfl
   refine hK.out _ _ ?_
   clear hK K
   refine done_ (done_of HT_.out (by kernel_rfl)) ?_
   have Fb := Cmp.c0 D0
   have Fo := blk_frozen D0.out 0; have Gd := Dc.out; have Gp := Dr.out
   have Fc := Cmp.c0 D1
   have Fp := blk_frozen D1.out 0
   try go_wp2
   refine bodyPost_ret (results_cell_row rfl _ _ D8 45 #[.slice Es Eq.length Et] (0, 0) _ rfl (Cmp.bw D1.out) Try.underlying45 rfl (by kernel_rfl)) rfl ?_
   exact ⟨_, by first | rfl | (simp [errW_none, errW_some] <;> rfl) | (simp [*, errW_none, errW_some] <;> rfl), by (with_reducible repeat (first | apply Kd.R_alloc | apply Kd.R_drewN | apply Kd.R_drew)); exact Kd.R_mono (Kd.R_far (p := ⟨D8, 0, none⟩) (Kd.R_far (p := ⟨D5, 0, none⟩) (Kd.R_types (Kd.R_types Er.out D0.out (by decide)) D1.out (by decide)) (fun _ hk => hk.1.2) (.slice Es Eq.length Et)) (fun _ hk => hk.2) (.slice Es Eq.length Et)) (fun _ hk => trivial), IsS103.go D7.out, IsS103.bl HB.out, Cmp.kk HK.out⟩
  ·rw [if_neg c8] at H; exact absurd H (by simp)
 ·rw [if_neg c4] at H; have c4b0 : (Dy == 0) = false := beq_eq_false_iff_ne.mpr c4; have c4b1 : (Dy != 0) = true := bne_iff_ne.mpr c4
  by_cases c37 : Dy = 1
  ·rw [if_pos c37] at H; have c37b0 : (Dy == 1) = true := beq_iff_eq.mpr c37; have c37b1 : (Dy != 1) = false := bne_eq_false_iff_eq.mpr c37; clear c37
   by_cases c38 : (D3.length : Int) > 0
   ·rw [if_pos c38] at H
    have c38b0 : decide (0 < (D3.length : Int)) = true := decide_eq_true c38
    have c38b1 : decide (0 < D3.length) = true := decide_eq_true (by omega)
    clear c38
    by_cases c39 : 0 < (D3.length : Int)
    ·rw [if_pos c39] at H
     have c39b0 : decide (0 < (D3.length : Int)) = true := decide_eq_true c39
     have c39b1 : decide (0 < D3.length) = true := decide_eq_true (by omega)
     clear c39
     obtain ⟨F9, hy317⟩ : ∃ y_ : List (S94), y_ = (D3.set (0 : Int).toNat (⟨(rd_T94 D3 0).f0, (rd_T94 D3 0).f1, 1000000, (rd_T94 D3 0).f3⟩ : S94)) := ⟨_, rfl⟩
     replace H : (some (F9, Dg, Dh)) = some (r1, r2, r3) := Cmp.hy hy317 H
     have Ey := Cmp.A hy317; clear hy317
     simp only [Option.some.injEq, Prod.mk.injEq] at H
     obtain ⟨rfl, rfl, rfl⟩ := H
     go_enter Try.func58, Try.ntmps58
     go_wp2_with (first | ((with_reducible refine gate_dst (N := 2) rfl ?_); refine box_event ?hg (N := 2) ?hd (cs := #[.slice none 0 0]) (t := 45) ?hr ?_; (case hd => rfl); (case hg => rfl); (case hr => first | (go_simp; done) | (go_simp; rfl)); intro D8 hg w41 hbox hb; have D1 := Cmp.A (hbox); have Ea := Cmp.A ((by rw [hg]; exact (keep_size (w := w) (g := g) (row := none) (Cmp.kk HK.out)) : w.heap.size ≤ D8)); have E8 := Cmp.A ((Nat.le_trans HW0.out (by rw [hg]; exact (keep_size (w := w) (g := g) (row := none) (Cmp.kk HK.out)) : w.heap.size ≤ D8) : w0.heap.size ≤ D8)); have Dr := Cmp.A ((by rw [hg]; exact Nat.ne_of_lt (IsS103.lt (show IsS103 w0 _ g s0_0 s0_1 s0_2 from IsS103.go D7.out)) : g ≠ D8)); have Dc := Cmp.A ((by rw [hg]; exact Nat.ne_of_gt (IsS103.lt (show IsS103 w0 _ g s0_0 s0_1 s0_2 from IsS103.go D7.out)) : D8 ≠ g)); replace HK := Cmp.A (KeepBut.trans (Cmp.kk HK.out) (KeepBut.of_below hb g none) (.inl rfl)); replace HB := Cmp.A (below_step (IsS103.bl HB.out) hb); replace D7 := Cmp.A (IsS103.below (IsS103.go D7.out) hb); clear hb hbox hg) | ((with_reducible refine gate_callee (f := 100) rfl ?_); refine goesL_ (some 5) rfl rfl Try.func100 (by kernel_rfl) rfl #[.pointer (some ⟨g, 0, none⟩)] rfl Cmp.q ?_; (with_reducible refine (spec_l17Bundle.calls k g s0_0 s0_1 s0_2 D3 Dp Dq w0 _ ?side1 ?side2 A2.out).mono ?_); (case side1 => exact IsS103.go D7.out); (case side2 => exact IsS103.bl HB.out); rintro e w42 ⟨v288, rfl, Eg, hi, hb, hk⟩; refine ⟨_, rfl, ?_⟩; have D2 := Cmp.A (Kd.R_lower Eg (keep_size (w := w) (g := g) (row := none) (Cmp.kk HK.out))); replace D1 := Cmp.A (KeepBut.blk hk (g' := D8) (o := .cells #[.slice none 0 0] 45 (0, 0)) (Cmp.b D1.out) Dc.out (by simp)); replace HK := Cmp.A (KeepBut.trans (Cmp.kk HK.out) hk (.inl rfl)); replace HB := Cmp.A (hb); replace D7 := Cmp.A (hi); (try clear hb); (try clear hb2); (try clear hk); (try clear hi); (try clear Eg)) | ((with_reducible refine gate_dst (N := 3) rfl ?_); refine box_event ?hg (N := 3) ?hd (cs := #[.slice none 0 0]) (t := 45) ?hr ?_; (case hd => rfl); (case hg => rfl); (case hr => first | (go_simp; done) | (go_simp; rfl)); intro D5 hg w43 hbox hb; have D0 := Cmp.A (hbox); have Eb := Cmp.A ((by rw [hg]; exact (keep_size (w := w) (g := g) (row := none) (Cmp.kk HK.out)) : w.heap.size ≤ D5)); have E9 := Cmp.A ((Nat.le_trans HW0.out (by rw [hg]; exact (keep_size (w := w) (g := g) (row := none) (Cmp.kk HK.out)) : w.heap.size ≤ D5) : w0.heap.size ≤ D5)); have Dj := Cmp.nl hg D1; have Dk := Cmp.ng hg D1; have Ds := Cmp.A ((by rw [hg]; exact Nat.ne_of_lt (IsS103.lt (show IsS103 w0 _ g s0_0 Dp Dq from IsS103.go D7.out)) : g ≠ D5)); have Dd := Cmp.A ((by rw [hg]; exact Nat.ne_of_gt (IsS103.lt (show IsS103 w0 _ g s0_0 Dp Dq from IsS103.go D7.out)) : D5 ≠ g)); replace D2 := Cmp.A (Kd.R_below (Cmp.rr D2.out) hb); replace D1 := Cmp.be D1 hb; replace HK := Cmp.A (KeepBut.trans (Cmp.kk HK.out) (KeepBut.of_below hb g none) (.inl rfl)); replace HB := Cmp.A (below_step (IsS103.bl HB.out) hb); replace D7 := Cmp.A (IsS103.below (IsS103.go D7.out) hb); clear hb hbox hg; obtain ⟨Ew, E5, G3⟩ := Kd.R_slice D2.out; subst G3; have Ge := Dk.out; have Gq := Dj.out; have Gf := Dd.out; have Gr := Ds.out; have Fd := Cmp.c0 D0; have Fq := blk_frozen D0.out 0) | ((with_reducible refine gate_callee (f := 42) rfl ?_); refine goesL_ (some 7) rfl rfl Try.func42 (by kernel_rfl) rfl #[.pointer (some ⟨g, 0, none⟩), .int .i64 8] rfl Cmp.q ?_; (with_reducible refine (spec_l1Below.calls g s0_0 Dp Dq 8 Dy Dg Dh w0 _ ?side1 ?side2 A3.out).mono ?_); (case side1 => exact IsS103.go D7.out); (case side2 => exact IsS103.bl HB.out); rintro e w48 ⟨rfl, hi, hb, hk⟩; refine ⟨_, rfl, ?_⟩; replace D1 := Cmp.A (KeepBut.blk hk (g' := D8) (o := .cells #[.slice none 0 0] 45 (0, 0)) (Cmp.bw D1.out) Dc.out (by simp)); replace D2 := Cmp.A (Kd.R_mono (Kd.R_keep (IsS103.apart (show IsS103 w0 _ g s0_0 Dp Dq from IsS103.go D7.out) (Cmp.rm (Kd.R_far (p := ⟨D5, 0, none⟩) (Kd.R_types D2.out D0.out (by decide)) (fun _ hk => hk.2) (.slice Ew D3.length E5)) (fun _ h_ => h_.1)) (by decide)) hk (fun _ h => h.2)) (fun _ h => h.1)); replace D0 := Cmp.A (KeepBut.blk hk (g' := D5) (o := .cells #[.slice Ew D3.length E5] 45 (0, 0)) (Cmp.bw D0.out) Dd.out (by simp)); replace HK := Cmp.A (KeepBut.trans (Cmp.kk HK.out) hk (.inl rfl)); replace HB := Cmp.A (hb); replace D7 := Cmp.A (hi); (try clear hb); (try clear hb2); (try clear hk); (try clear hi); have Fe := Cmp.c0 D0; have Fr := blk_frozen D0.out 0; have p40 : 0 ≤ (0 : Int) := (by omega); have q40 : (0 : Int) < ((D3.length : Int) : Int) := of_decide_eq_true Cmp.d; have qi40 : (0 < D3.length) = True := eq_true (by omega); obtain ⟨go40, Gz, F5, F6, gl40, cl40, HG40⟩ := Kd.R_form D2.out (by omega); (first | cases F5 | (injection F5 with ea_ en_ ec_; (first | subst ea_ | (injection ea_ with ea_; subst ea_)); subst ec_; clear en_)); have GB40 := Cmp.A F6; have GG40 := Cmp.A HG40; clear F6 gl40 HG40; obtain ⟨ce40, hcl40, hM40, hcc40, hfr40⟩ := Kd.R_elem D2.out z94 (0 : Int) p40 q40; obtain rfl := k94_openM hM40; have Eh : w48.cell? ⟨go40, (0 : Int).toNat * 4, none⟩ = some (.int .i64 ((rd_T94 D3 0).f0)) := hcc40 0 _ rfl; have Ei : w48.cell? ⟨go40, (0 : Int).toNat * 4 + 1, none⟩ = some (.int .i64 ((rd_T94 D3 0).f1)) := hcc40 1 _ rfl; have Ej : w48.cell? ⟨go40, (0 : Int).toNat * 4 + 2, none⟩ = some (.int .i64 ((rd_T94 D3 0).f2)) := hcc40 2 _ rfl; have Ek : w48.cell? ⟨go40, (0 : Int).toNat * 4 + 3, none⟩ = some (.bool ((rd_T94 D3 0).f3)) := hcc40 3 _ rfl; have hf40_0 : w48.frozen? ⟨go40, (0 : Int).toNat * 4, none⟩ = false := hfr40 0; have hf40_1 : w48.frozen? ⟨go40, (0 : Int).toNat * 4 + 1, none⟩ = false := hfr40 1; have hf40_2 : w48.frozen? ⟨go40, (0 : Int).toNat * 4 + 2, none⟩ = false := hfr40 2; have hf40_3 : w48.frozen? ⟨go40, (0 : Int).toNat * 4 + 3, none⟩ = false := hfr40 3; clear hcl40 hcc40 hfr40 hM40; (try rw [show ((0 : Int)).toNat = 0 from rfl] at Eh); (try simp only [Nat.reduceMul, Nat.zero_mul, Nat.zero_add, Nat.reduceAdd] at Eh); (try rw [show ((0 : Int)).toNat = 0 from rfl] at hf40_0); (try simp only [Nat.reduceMul, Nat.zero_mul, Nat.zero_add, Nat.reduceAdd] at hf40_0); (try rw [show ((0 : Int)).toNat = 0 from rfl] at Ei); (try simp only [Nat.reduceMul, Nat.zero_mul, Nat.zero_add, Nat.reduceAdd] at Ei); (try rw [show ((0 : Int)).toNat = 0 from rfl] at hf40_1); (try simp only [Nat.reduceMul, Nat.zero_mul, Nat.zero_add, Nat.reduceAdd] at hf40_1); (try rw [show ((0 : Int)).toNat = 0 from rfl] at Ej); (try simp only [Nat.reduceMul, Nat.zero_mul, Nat.zero_add, Nat.reduceAdd] at Ej); (try rw [show ((0 : Int)).toNat = 0 from rfl] at hf40_2); (try simp only [Nat.reduceMul, Nat.zero_mul, Nat.zero_add, Nat.reduceAdd] at hf40_2); (try rw [show ((0 : Int)).toNat = 0 from rfl] at Ek); (try simp only [Nat.reduceMul, Nat.zero_mul, Nat.zero_add, Nat.reduceAdd] at Ek); (try rw [show ((0 : Int)).toNat = 0 from rfl] at hf40_3); (try simp only [Nat.reduceMul, Nat.zero_mul, Nat.zero_add, Nat.reduceAdd] at hf40_3); replace p40 := eq_true p40; replace q40 := eq_true q40; have HX50 := Cmp.A (show Kd.R k94 94 w48 w.heap.size (fun _ => True) (.slice (some ⟨go40, 0, none⟩) D3.length E5) D3 from (Cmp.rr D2.out)); obtain ⟨ce50, hcl50, hM50, hcc50, hfr50⟩ := Kd.R_elem HX50.out z94 (0 : Int) (by omega) (by have h_ : (0 : Int) < ((D3.length : Int) : Int) := of_decide_eq_true Cmp.d; first | exact h_ | (have e_ := (Kd.R_reads' D2.out).1; omega) | simpa using h_); obtain rfl := k94_openM hM50; have HP50 := Kd.R_seg HX50.out (0 : Int) (by omega) (by have h_ : (0 : Int) < ((D3.length : Int) : Int) := of_decide_eq_true Cmp.d; first | exact h_ | (have e_ := (Kd.R_reads' D2.out).1; omega) | simpa using h_) (seg := [.int .i64 1000000]) (j := 2) hcl50 hcc50 (show 3 ≤ 4 from by decide) (x' := (⟨(rd_T94 D3 0).f0, (rd_T94 D3 0).f1, 1000000, (rd_T94 D3 0).f3⟩ : S94)) (k94_mkM _ _ _ (⟨(rd_T94 D3 0).f0, (rd_T94 D3 0).f1, 1000000, (rd_T94 D3 0).f3⟩ : S94) ) (fun _ hk => hk); have E4 := hcc50 2 _ rfl; (try simp only [show (k94).sz = 4 from rfl, Nat.mul_one, Nat.add_zero] at E4); (try rw [show ((0 : Int)).toNat = 0 from rfl] at E4); (try simp only [Nat.reduceMul, Nat.zero_mul, Nat.zero_add, Nat.reduceAdd] at E4); have hf50_2 := hfr50 2; (try simp only [show (k94).sz = 4 from rfl, Nat.mul_one, Nat.add_zero] at hf50_2); (try rw [show ((0 : Int)).toNat = 0 from rfl] at hf50_2); (try simp only [Nat.reduceMul, Nat.zero_mul, Nat.zero_add, Nat.reduceAdd] at hf50_2); clear hcl50 hcc50 hfr50 hM50) | ((with_reducible refine gate_store (t := 3) (p := 34) rfl ?_); refine store_event (t := 3) (p := 34) (v := ?vo_w51) (w1 := (w48.setCell ⟨go40, 2, none⟩ (.int .i64 1000000))) ?hg ?ho ?hn ?hr ?_; (case ho => rfl); (case hg => rfl); (case hn => rfl); (case hr => first | (go_simp; done) | (go_simp; rfl)); intro w51 hw; have hg : w48.grownBy w51 (some go40) := (by rw [hw]; exact HP50.2); have hp_ : Kd.R k94 94 w51 w.heap.size (fun _ => True) (.slice (some ⟨go40, 0, none⟩) D3.length E5) F9 := (by rw [hw, Ey.out]; exact HP50.1); clear HP50; replace D7 := Cmp.A (IsS103.grown (IsS103.go D7.out) hg (IsS103.own_ne D7.out D2.out (by decide))); replace D1 := Cmp.bg D1 hg (Kd.R_ne D2.out D1.out (by decide)); replace D0 := Cmp.bg D0 hg (Kd.R_ne D2.out D0.out (by decide)); replace HB := Cmp.A ((by rw [hw]; exact below_set (HB.out) (Nat.le_trans HL.out GB40.out) : Below w0.heap.size w0 w51)); replace HK := Cmp.A (KeepBut.trans (Cmp.kk HK.out) (KeepBut.of_grown hg g) (Kd.R_base2 D2.out)); replace D2 := Cmp.A (hp_); clear hg hw hp_; have Ff := Cmp.c0 D0; have Fs := blk_frozen D0.out 0; have Gg := Dc.out; have Gs := Dr.out; have Fg := Cmp.c0 D1; have Ft := blk_frozen D1.out 0))
     refine bodyPost_ret (results_cell_row rfl _ _ D8 45 #[.slice (some ⟨go40, 0, none⟩) D3.length E5] (0, 0) _ rfl (Cmp.bw D1.out) Try.underlying45 rfl (by kernel_rfl)) rfl ?_
     exact ⟨_, by first | rfl | (simp [errW_none, errW_some] <;> rfl) | (simp [*, errW_none, errW_some] <;> rfl), by (with_reducible repeat (first | apply Kd.R_alloc | apply Kd.R_drewN | apply Kd.R_drew)); exact Kd.R_mono (Kd.R_far (p := ⟨D8, 0, none⟩) (Kd.R_types D2.out D1.out (by decide)) (fun _ hk => hk.2) (.slice (some ⟨go40, 0, none⟩) D3.length E5)) (fun _ hk => trivial), IsS103.go D7.out, IsS103.bl HB.out, Cmp.kk HK.out⟩
    ·rw [if_neg c39] at H; exact absurd H (by simp)
   ·rw [if_neg c38] at H
    have c38b0 : decide (0 < (D3.length : Int)) = false := decide_eq_false c38
    have c38b1 : decide (0 < D3.length) = false := decide_eq_false (by omega)
    clear c38
    simp only [Option.some.injEq, Prod.mk.injEq] at H
    obtain ⟨rfl, rfl, rfl⟩ := H
    go_enter Try.func58, Try.ntmps58
    go_wp2_with (first | ((with_reducible refine gate_dst (N := 2) rfl ?_); refine box_event ?hg (N := 2) ?hd (cs := #[.slice none 0 0]) (t := 45) ?hr ?_; (case hd => rfl); (case hg => rfl); (case hr => first | (go_simp; done) | (go_simp; rfl)); intro D8 hg w55 hbox hb; have D1 := Cmp.A (hbox); have Ea := Cmp.A ((by rw [hg]; exact (keep_size (w := w) (g := g) (row := none) (Cmp.kk HK.out)) : w.heap.size ≤ D8)); have E8 := Cmp.A ((Nat.le_trans HW0.out (by rw [hg]; exact (keep_size (w := w) (g := g) (row := none) (Cmp.kk HK.out)) : w.heap.size ≤ D8) : w0.heap.size ≤ D8)); have Dr := Cmp.A ((by rw [hg]; exact Nat.ne_of_lt (IsS103.lt (show IsS103 w0 _ g s0_0 s0_1 s0_2 from IsS103.go D7.out)) : g ≠ D8)); have Dc := Cmp.A ((by rw [hg]; exact Nat.ne_of_gt (IsS103.lt (show IsS103 w0 _ g s0_0 s0_1 s0_2 from IsS103.go D7.out)) : D8 ≠ g)); replace HK := Cmp.A (KeepBut.trans (Cmp.kk HK.out) (KeepBut.of_below hb g none) (.inl rfl)); replace HB := Cmp.A (below_step (IsS103.bl HB.out) hb); replace D7 := Cmp.A (IsS103.below (IsS103.go D7.out) hb); clear hb hbox hg) | ((with_reducible refine gate_callee (f := 100) rfl ?_); refine goesL_ (some 5) rfl rfl Try.func100 (by kernel_rfl) rfl #[.pointer (some ⟨g, 0, none⟩)] rfl Cmp.q ?_; (with_reducible refine (spec_l17Bundle.calls k g s0_0 s0_1 s0_2 D3 Dp Dq w0 _ ?side1 ?side2 A2.out).mono ?_); (case side1 => exact IsS103.go D7.out); (case side2 => exact IsS103.bl HB.out); rintro e w56 ⟨v288, rfl, Eg, hi, hb, hk⟩; refine ⟨_, rfl, ?_⟩; have D2 := Cmp.A (Kd.R_lower Eg (keep_size (w := w) (g := g) (row := none) (Cmp.kk HK.out))); replace D1 := Cmp.A (KeepBut.blk hk (g' := D8) (o := .cells #[.slice none 0 0] 45 (0, 0)) (Cmp.b D1.out) Dc.out (by simp)); replace HK := Cmp.A (KeepBut.trans (Cmp.kk HK.out) hk (.inl rfl)); replace HB := Cmp.A (hb); replace D7 := Cmp.A (hi); (try clear hb); (try clear hb2); (try clear hk); (try clear hi); (try clear Eg)) | ((with_reducible refine gate_dst (N := 3) rfl ?_); refine box_event ?hg (N := 3) ?hd (cs := #[.slice none 0 0]) (t := 45) ?hr ?_; (case hd => rfl); (case hg => rfl); (case hr => first | (go_simp; done) | (go_simp; rfl)); intro D5 hg w57 hbox hb; have D0 := Cmp.A (hbox); have Eb := Cmp.A ((by rw [hg]; exact (keep_size (w := w) (g := g) (row := none) (Cmp.kk HK.out)) : w.heap.size ≤ D5)); have E9 := Cmp.A ((Nat.le_trans HW0.out (by rw [hg]; exact (keep_size (w := w) (g := g) (row := none) (Cmp.kk HK.out)) : w.heap.size ≤ D5) : w0.heap.size ≤ D5)); have Dj := Cmp.nl hg D1; have Dk := Cmp.ng hg D1; have Ds := Cmp.A ((by rw [hg]; exact Nat.ne_of_lt (IsS103.lt (show IsS103 w0 _ g s0_0 Dp Dq from IsS103.go D7.out)) : g ≠ D5)); have Dd := Cmp.A ((by rw [hg]; exact Nat.ne_of_gt (IsS103.lt (show IsS103 w0 _ g s0_0 Dp Dq from IsS103.go D7.out)) : D5 ≠ g)); replace D2 := Cmp.A (Kd.R_below (Cmp.rr D2.out) hb); replace D1 := Cmp.be D1 hb; replace HK := Cmp.A (KeepBut.trans (Cmp.kk HK.out) (KeepBut.of_below hb g none) (.inl rfl)); replace HB := Cmp.A (below_step (IsS103.bl HB.out) hb); replace D7 := Cmp.A (IsS103.below (IsS103.go D7.out) hb); clear hb hbox hg; obtain ⟨Em, Eo, G4⟩ := Kd.R_slice D2.out; subst G4; have Gh := Dk.out; have Gt := Dj.out; have Gi := Dd.out; have Gu := Ds.out; have Fh := Cmp.c0 D0; have Fu := blk_frozen D0.out 0) | ((with_reducible refine gate_callee (f := 42) rfl ?_); refine goesL_ (some 7) rfl rfl Try.func42 (by kernel_rfl) rfl #[.pointer (some ⟨g, 0, none⟩), .int .i64 8] rfl Cmp.q ?_; (with_reducible refine (spec_l1Below.calls g s0_0 Dp Dq 8 Dy Dg Dh w0 _ ?side1 ?side2 A3.out).mono ?_); (case side1 => exact IsS103.go D7.out); (case side2 => exact IsS103.bl HB.out); rintro e w62 ⟨rfl, hi, hb, hk⟩; refine ⟨_, rfl, ?_⟩; replace D1 := Cmp.A (KeepBut.blk hk (g' := D8) (o := .cells #[.slice none 0 0] 45 (0, 0)) (Cmp.bw D1.out) Dc.out (by simp)); replace D2 := Cmp.A (Kd.R_mono (Kd.R_keep (IsS103.apart (show IsS103 w0 _ g s0_0 Dp Dq from IsS103.go D7.out) (Cmp.rm (Kd.R_far (p := ⟨D5, 0, none⟩) (Kd.R_types D2.out D0.out (by decide)) (fun _ hk => hk.2) (.slice Em D3.length Eo)) (fun _ h_ => h_.1)) (by decide)) hk (fun _ h => h.2)) (fun _ h => h.1)); replace D0 := Cmp.A (KeepBut.blk hk (g' := D5) (o := .cells #[.slice Em D3.length Eo] 45 (0, 0)) (Cmp.bw D0.out) Dd.out (by simp)); replace HK := Cmp.A (KeepBut.trans (Cmp.kk HK.out) hk (.inl rfl)); replace HB := Cmp.A (hb); replace D7 := Cmp.A (hi); (try clear hb); (try clear hb2); (try clear hk); (try clear hi); have Fi := Cmp.c0 D0; have Fv := blk_frozen D0.out 0; have Gj := Dc.out; have Gv := Dr.out; have Fj := Cmp.c0 D1; have Fw := blk_frozen D1.out 0))
    refine bodyPost_ret (results_cell_row rfl _ _ D8 45 #[.slice Em D3.length Eo] (0, 0) _ rfl (Cmp.bw D1.out) Try.underlying45 rfl (by kernel_rfl)) rfl ?_
    exact ⟨_, by first | rfl | (simp [errW_none, errW_some] <;> rfl) | (simp [*, errW_none, errW_some] <;> rfl), by (with_reducible repeat (first | apply Kd.R_alloc | apply Kd.R_drewN | apply Kd.R_drew)); exact Kd.R_mono (Kd.R_far (p := ⟨D8, 0, none⟩) (Kd.R_types D2.out D1.out (by decide)) (fun _ hk => hk.2) (.slice Em D3.length Eo)) (fun _ hk => trivial), IsS103.go D7.out, IsS103.bl HB.out, Cmp.kk HK.out⟩
  ·rw [if_neg c37] at H; have c37b0 : (Dy == 1) = false := beq_eq_false_iff_ne.mpr c37; have c37b1 : (Dy != 1) = true := bne_iff_ne.mpr c37
   simp only [Option.some.injEq, Prod.mk.injEq] at H
   obtain ⟨rfl, rfl, rfl⟩ := H
   go_enter Try.func58, Try.ntmps58
   go_wp2_with (first | ((with_reducible refine gate_dst (N := 2) rfl ?_); refine box_event ?hg (N := 2) ?hd (cs := #[.slice none 0 0]) (t := 45) ?hr ?_; (case hd => rfl); (case hg => rfl); (case hr => first | (go_simp; done) | (go_simp; rfl)); intro D8 hg w66 hbox hb; have D1 := Cmp.A (hbox); have Ea := Cmp.A ((by rw [hg]; exact (keep_size (w := w) (g := g) (row := none) (Cmp.kk HK.out)) : w.heap.size ≤ D8)); have E8 := Cmp.A ((Nat.le_trans HW0.out (by rw [hg]; exact (keep_size (w := w) (g := g) (row := none) (Cmp.kk HK.out)) : w.heap.size ≤ D8) : w0.heap.size ≤ D8)); have Dr := Cmp.A ((by rw [hg]; exact Nat.ne_of_lt (IsS103.lt (show IsS103 w0 _ g s0_0 s0_1 s0_2 from IsS103.go D7.out)) : g ≠ D8)); have Dc := Cmp.A ((by rw [hg]; exact Nat.ne_of_gt (IsS103.lt (show IsS103 w0 _ g s0_0 s0_1 s0_2 from IsS103.go D7.out)) : D8 ≠ g)); replace HK := Cmp.A (KeepBut.trans (Cmp.kk HK.out) (KeepBut.of_below hb g none) (.inl rfl)); replace HB := Cmp.A (below_step (IsS103.bl HB.out) hb); replace D7 := Cmp.A (IsS103.below (IsS103.go D7.out) hb); clear hb hbox hg) | ((with_reducible refine gate_callee (f := 100) rfl ?_); refine goesL_ (some 5) rfl rfl Try.func100 (by kernel_rfl) rfl #[.pointer (some ⟨g, 0, none⟩)] rfl Cmp.q ?_; (with_reducible refine (spec_l17Bundle.calls k g s0_0 s0_1 s0_2 D3 Dp Dq w0 _ ?side1 ?side2 A2.out).mono ?_); (case side1 => exact IsS103.go D7.out); (case side2 => exact IsS103.bl HB.out); rintro e w67 ⟨v288, rfl, Eg, hi, hb, hk⟩; refine ⟨_, rfl, ?_⟩; have D2 := Cmp.A (Kd.R_lower Eg (keep_size (w := w) (g := g) (row := none) (Cmp.kk HK.out))); replace D1 := Cmp.A (KeepBut.blk hk (g' := D8) (o := .cells #[.slice none 0 0] 45 (0, 0)) (Cmp.b D1.out) Dc.out (by simp)); replace HK := Cmp.A (KeepBut.trans (Cmp.kk HK.out) hk (.inl rfl)); replace HB := Cmp.A (hb); replace D7 := Cmp.A (hi); (try clear hb); (try clear hb2); (try clear hk); (try clear hi); (try clear Eg)) | ((with_reducible refine gate_dst (N := 3) rfl ?_); refine box_event ?hg (N := 3) ?hd (cs := #[.slice none 0 0]) (t := 45) ?hr ?_; (case hd => rfl); (case hg => rfl); (case hr => first | (go_simp; done) | (go_simp; rfl)); intro D5 hg w68 hbox hb; have D0 := Cmp.A (hbox); have Eb := Cmp.A ((by rw [hg]; exact (keep_size (w := w) (g := g) (row := none) (Cmp.kk HK.out)) : w.heap.size ≤ D5)); have E9 := Cmp.A ((Nat.le_trans HW0.out (by rw [hg]; exact (keep_size (w := w) (g := g) (row := none) (Cmp.kk HK.out)) : w.heap.size ≤ D5) : w0.heap.size ≤ D5)); have Dj := Cmp.nl hg D1; have Dk := Cmp.ng hg D1; have Ds := Cmp.A ((by rw [hg]; exact Nat.ne_of_lt (IsS103.lt (show IsS103 w0 _ g s0_0 Dp Dq from IsS103.go D7.out)) : g ≠ D5)); have Dd := Cmp.A ((by rw [hg]; exact Nat.ne_of_gt (IsS103.lt (show IsS103 w0 _ g s0_0 Dp Dq from IsS103.go D7.out)) : D5 ≠ g)); replace D2 := Cmp.A (Kd.R_below (Cmp.rr D2.out) hb); replace D1 := Cmp.be D1 hb; replace HK := Cmp.A (KeepBut.trans (Cmp.kk HK.out) (KeepBut.of_below hb g none) (.inl rfl)); replace HB := Cmp.A (below_step (IsS103.bl HB.out) hb); replace D7 := Cmp.A (IsS103.below (IsS103.go D7.out) hb); clear hb hbox hg; obtain ⟨En, Ep, G5⟩ := Kd.R_slice D2.out; subst G5; have Gk := Dk.out; have Gw := Dj.out; have Gl := Dd.out; have Gx := Ds.out; have Fk := Cmp.c0 D0; have Fx := blk_frozen D0.out 0) | ((with_reducible refine gate_callee (f := 42) rfl ?_); refine goesL_ (some 7) rfl rfl Try.func42 (by kernel_rfl) rfl #[.pointer (some ⟨g, 0, none⟩), .int .i64 8] rfl Cmp.q ?_; (with_reducible refine (spec_l1Below.calls g s0_0 Dp Dq 8 Dy Dg Dh w0 _ ?side1 ?side2 A3.out).mono ?_); (case side1 => exact IsS103.go D7.out); (case side2 => exact IsS103.bl HB.out); rintro e w73 ⟨rfl, hi, hb, hk⟩; refine ⟨_, rfl, ?_⟩; replace D1 := Cmp.A (KeepBut.blk hk (g' := D8) (o := .cells #[.slice none 0 0] 45 (0, 0)) (Cmp.bw D1.out) Dc.out (by simp)); replace D2 := Cmp.A (Kd.R_mono (Kd.R_keep (IsS103.apart (show IsS103 w0 _ g s0_0 Dp Dq from IsS103.go D7.out) (Cmp.rm (Kd.R_far (p := ⟨D5, 0, none⟩) (Kd.R_types D2.out D0.out (by decide)) (fun _ hk => hk.2) (.slice En D3.length Ep)) (fun _ h_ => h_.1)) (by decide)) hk (fun _ h => h.2)) (fun _ h => h.1)); replace D0 := Cmp.A (KeepBut.blk hk (g' := D5) (o := .cells #[.slice En D3.length Ep] 45 (0, 0)) (Cmp.bw D0.out) Dd.out (by simp)); replace HK := Cmp.A (KeepBut.trans (Cmp.kk HK.out) hk (.inl rfl)); replace HB := Cmp.A (hb); replace D7 := Cmp.A (hi); (try clear hb); (try clear hb2); (try clear hk); (try clear hi); have Fl := Cmp.c0 D0; have Fy := blk_frozen D0.out 0; have Gm := Dc.out; have Gy := Dr.out; have Fm := Cmp.c0 D1; have Fz := blk_frozen D1.out 0))
   refine bodyPost_ret (results_cell_row rfl _ _ D8 45 #[.slice En D3.length Ep] (0, 0) _ rfl (Cmp.bw D1.out) Try.underlying45 rfl (by kernel_rfl)) rfl ?_
   exact ⟨_, by first | rfl | (simp [errW_none, errW_some] <;> rfl) | (simp [*, errW_none, errW_some] <;> rfl), by (with_reducible repeat (first | apply Kd.R_alloc | apply Kd.R_drewN | apply Kd.R_drew)); exact Kd.R_mono (Kd.R_far (p := ⟨D8, 0, none⟩) (Kd.R_types D2.out D1.out (by decide)) (fun _ hk => hk.2) (.slice En D3.length Ep)) (fun _ hk => trivial), IsS103.go D7.out, IsS103.bl HB.out, Cmp.kk HK.out⟩
end Go.Proofs.Ytpgjecknkmmnhaa.PFnSealedBundles

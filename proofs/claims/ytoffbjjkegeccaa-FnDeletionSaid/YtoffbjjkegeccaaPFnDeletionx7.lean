/- Printed functions of the program (by a changed copy of the printer). No condition. -/
import Derived.Test.YtoffbjjkegeccaaCmp
import Derived.Test.YtoffbjjkegeccaaPFnDeletionx0
import Derived.Test.YtoffbjjkegeccaaPFnDeletionx2
import Derived.Test.YtoffbjjkegeccaaPFnDeletionx6
namespace Go.Proofs.Ytoffbjjkegeccaa.PFnDeletion
open Go.Proofs.Ytoffbjjkegeccaa
open Go.RowKit Go.Proofs.YtoffbjjkegeccaaW.PrintWords Go.Proofs.YtoffbjjkegeccaaW.PrintLast Go.Proofs.YtoffbjjkegeccaaW.PrintMore
attribute [local go_sem] max2_int min2_int max_two min_two max_three min_three max_four min_four   -- for this text's walks alone
set_option linter.unusedVariables false
set_option linter.unusedSimpArgs false

/-! ### spec_l17Step: function 106 -/
def spec_l17Step.f (k : Nat) (s0_0 : List Int) (s0_1 : Int) (s0_2 : Int) (l1_0 : List (S49)) : Option ((List (S49)) × Int × Int) := (spec_l1Below.f s0_0 s0_1 s0_2 4).bind fun bt237 => ((spec_l1Below.f s0_0 bt237.2.1 bt237.2.2 3).bind fun bt240 => ((spec_l1Once.f s0_0 bt240.2.1 bt240.2.2 3).bind fun bt243 => (if bt243.1 = true then ((spec_DeleteEntry.f k l1_0 bt237.1 bt240.1).bind fun bt246 => (some (bt246.1, bt243.2.1, bt243.2.2))) else ((spec_PutEntry.f k l1_0 bt237.1 bt240.1).bind fun bt250 => (some (bt250.1, bt243.2.1, bt243.2.2))))))
theorem spec_l17Step.mono : ∀ a0 a1 a2 a3 k, LeO (spec_l17Step.f k a0 a1 a2 a3) (spec_l17Step.f (k + 1) a0 a1 a2 a3) := by
  intro a0 a1 a2 a3 k
  unfold spec_l17Step.f
  repeat' first
      | (with_reducible exact spec_DeleteEntry.mono _ _ _ _)
      | (with_reducible exact spec_PutEntry.mono _ _ _ _)
      | (with_reducible exact LeO.refl _)
      | (with_reducible exact LeO.none _)
      | (with_reducible refine LeO.ite ?_ ?_)
      | (with_reducible refine LeO.bind ?_ (fun _ => ?_))
      | exact spec_DeleteEntry.mono _ _ _ _
      | exact spec_PutEntry.mono _ _ _ _
      | exact LeO.none _
      | refine LeO.ite ?_ ?_
      | refine LeO.bind ?_ (fun _ => ?_)
set_option maxHeartbeats 8000000 in
set_option maxRecDepth 100000 in
theorem spec_l17Step.calls (k : Nat) (g : Nat) (s0_0 : List Int) (s0_1 : Int) (s0_2 : Int) (A1_0 : Option Addr) (c1_0 : Nat) (l1_0 : List (S49)) (r1 : List (S49)) (r2 : Int) (r3 : Int) (w0 w : World) (hI : IsS121 w0 w g s0_0 s0_1 s0_2) (hB : Below w0.heap.size w0 w) (hr1_0 : ∀ W_, KeepBut w W_ g none → Kd.C k49 W_ A1_0 l1_0.length l1_0) (hc1_0 : l1_0.length ≤ c1_0) (h : spec_l17Step.f k s0_0 s0_1 s0_2 l1_0 = some (r1, r2, r3)) :
    Calls Try.prog 106 #[.pointer (some ⟨g, 0, none⟩), .agg #[.slice A1_0 l1_0.length c1_0]] w fun e w' => ∃ v0_ : Value, e = .returned (.agg #[v0_]) ∧ Kd.R k49 49 w' w.heap.size (fun _ => True) v0_ r1 ∧ IsS121 w0 w' g s0_0 r2 r3 ∧ Below w0.heap.size w0 w' ∧ KeepBut w w' g none := by
 have hu41 := Try.underlying41; have Dl := Aside0.mk hr1_0; have HC1_0 := Aside0.mk hc1_0; clear hr1_0 hc1_0; have D6 := Aside0.mk hI
 have HK := Aside0.mk (KeepBut.refl w g none)
 have HL := Aside0.mk hB.size; clear hI; have HW0 := Aside0.mk hB.size; have HB := Aside0.mk hB; clear hB
 have H : ((spec_l1Below.f s0_0 s0_1 s0_2 4).bind fun bt237 => ((spec_l1Below.f s0_0 bt237.2.1 bt237.2.2 3).bind fun bt240 => ((spec_l1Once.f s0_0 bt240.2.1 bt240.2.2 3).bind fun bt243 => (if bt243.1 = true then ((spec_DeleteEntry.f k l1_0 bt237.1 bt240.1).bind fun bt246 => (some (bt246.1, bt243.2.1, bt243.2.2))) else ((spec_PutEntry.f k l1_0 bt237.1 bt240.1).bind fun bt250 => (some (bt250.1, bt243.2.1, bt243.2.2))))))) = some (r1, r2, r3) := h
 clear h; replace H := Option.bind_eq_some_iff.mp H; obtain ⟨⟨Db, Dd, De⟩, Ef, H⟩ := H; (try dsimp only at H); have A3 := Aside0.mk Ef; clear Ef; replace H := Option.bind_eq_some_iff.mp H; obtain ⟨⟨Dc, Df, Dg⟩, Eg, H⟩ := H; (try dsimp only at H); have A4 := Aside0.mk Eg; clear Eg; replace H := Option.bind_eq_some_iff.mp H; obtain ⟨⟨Ec, Dq, Dr⟩, Eh, H⟩ := H; (try dsimp only at H); have A5 := Aside0.mk Eh; clear Eh
 by_cases c6 : Ec = true
 ·subst c6; rw [if_pos rfl] at H; replace H := Option.bind_eq_some_iff.mp H; obtain ⟨⟨Dh, Ed⟩, Ei, H⟩ := H; (try dsimp only at H); have A7 := Aside0.mk Ei; clear Ei
  simp only [Option.some.injEq, Prod.mk.injEq] at H
  obtain ⟨rfl, rfl, rfl⟩ := H
  go_enter Try.func106, Try.ntmps106
  go_wp2_with (first | ((with_reducible refine gate_dst (N := 3) rfl ?_); refine box_event ?hg (N := 3) ?hd (cs := #[.slice A1_0 l1_0.length c1_0]) (t := 41) ?hr ?_; (case hd => rfl); (case hg => rfl); (case hr => first | (go_simp; done) | (go_simp; rfl)); intro D3 hg w8 hbox hb; have D0 := Aside0.mk (hbox); have Dv := Aside0.mk ((by rw [hg]; exact (keep_size (w := w) (g := g) (row := none) (Cmp.kk HK.out)) : w.heap.size ≤ D3)); have Dt := Aside0.mk ((Nat.le_trans HW0.out (by rw [hg]; exact (keep_size (w := w) (g := g) (row := none) (Cmp.kk HK.out)) : w.heap.size ≤ D3) : w0.heap.size ≤ D3)); have D9 := Aside0.mk ((by rw [hg]; exact Nat.ne_of_lt (IsS121.lt (show IsS121 w0 _ g s0_0 s0_1 s0_2 from IsS121.go D6.out)) : g ≠ D3)); have D4 := Aside0.mk ((by rw [hg]; exact Nat.ne_of_gt (IsS121.lt (show IsS121 w0 _ g s0_0 s0_1 s0_2 from IsS121.go D6.out)) : D3 ≠ g)); replace HK := Aside0.mk (KeepBut.trans (Cmp.kk HK.out) (KeepBut.of_below hb g none) (.inl rfl)); replace HB := Aside0.mk (below_step (IsS121.bl HB.out) hb); replace D6 := Aside0.mk (IsS121.below (IsS121.go D6.out) hb); clear hb hbox hg) | ((with_reducible refine gate_dst (N := 4) rfl ?_); refine box_event ?hg (N := 4) ?hd (cs := #[.slice none 0 0]) (t := 41) ?hr ?_; (case hd => rfl); (case hg => rfl); (case hr => first | (go_simp; done) | (go_simp; rfl)); intro D2 hg w9 hbox hb; have D1 := Aside0.mk (hbox); have Dw := Aside0.mk ((by rw [hg]; exact (keep_size (w := w) (g := g) (row := none) (Cmp.kk HK.out)) : w.heap.size ≤ D2)); have Du := Aside0.mk ((Nat.le_trans HW0.out (by rw [hg]; exact (keep_size (w := w) (g := g) (row := none) (Cmp.kk HK.out)) : w.heap.size ≤ D2) : w0.heap.size ≤ D2)); have D7 := Cmp.nl hg D0; have D8 := Cmp.ng hg D0; have Da := Aside0.mk ((by rw [hg]; exact Nat.ne_of_lt (IsS121.lt (show IsS121 w0 _ g s0_0 s0_1 s0_2 from IsS121.go D6.out)) : g ≠ D2)); have D5 := Aside0.mk ((by rw [hg]; exact Nat.ne_of_gt (IsS121.lt (show IsS121 w0 _ g s0_0 s0_1 s0_2 from IsS121.go D6.out)) : D2 ≠ g)); replace D0 := Cmp.be D0 hb; replace HK := Aside0.mk (KeepBut.trans (Cmp.kk HK.out) (KeepBut.of_below hb g none) (.inl rfl)); replace HB := Aside0.mk (below_step (IsS121.bl HB.out) hb); replace D6 := Aside0.mk (IsS121.below (IsS121.go D6.out) hb); clear hb hbox hg) | ((with_reducible refine gate_callee (f := 88) rfl ?_); refine goesL_ (some 8) rfl rfl Try.func88 (by kernel_rfl) rfl #[.pointer (some ⟨g, 0, none⟩), .int .i64 4] rfl Cmp.q ?_; (with_reducible refine (spec_l1Below.calls g s0_0 s0_1 s0_2 4 Db Dd De w0 _ ?side1 ?side2 A3.out).mono ?_); (case side1 => exact IsS121.go D6.out); (case side2 => exact IsS121.bl HB.out); rintro e w10 ⟨rfl, hi, hb, hk⟩; refine ⟨_, rfl, ?_⟩; replace D0 := Aside0.mk (KeepBut.blk hk (g' := D3) (o := .cells #[.slice A1_0 l1_0.length c1_0] 41 (0, 0)) (Cmp.b D0.out) D4.out (by simp)); replace D1 := Aside0.mk (KeepBut.blk hk (g' := D2) (o := .cells #[.slice none 0 0] 41 (0, 0)) (Cmp.b D1.out) D5.out (by simp)); replace HK := Aside0.mk (KeepBut.trans (Cmp.kk HK.out) hk (.inl rfl)); replace HB := Aside0.mk (hb); replace D6 := Aside0.mk (hi); (try clear hb); (try clear hb2); (try clear hk); (try clear hi)) | ((with_reducible refine gate_callee (f := 88) rfl ?_); refine goesL_ (some 10) rfl rfl Try.func88 (by kernel_rfl) rfl #[.pointer (some ⟨g, 0, none⟩), .int .i64 3] rfl Cmp.q ?_; (with_reducible refine (spec_l1Below.calls g s0_0 Dd De 3 Dc Df Dg w0 _ ?side1 ?side2 A4.out).mono ?_); (case side1 => exact IsS121.go D6.out); (case side2 => exact IsS121.bl HB.out); rintro e w11 ⟨rfl, hi, hb, hk⟩; refine ⟨_, rfl, ?_⟩; replace D0 := Aside0.mk (KeepBut.blk hk (g' := D3) (o := .cells #[.slice A1_0 l1_0.length c1_0] 41 (0, 0)) (Cmp.b D0.out) D4.out (by simp)); replace D1 := Aside0.mk (KeepBut.blk hk (g' := D2) (o := .cells #[.slice none 0 0] 41 (0, 0)) (Cmp.b D1.out) D5.out (by simp)); replace HK := Aside0.mk (KeepBut.trans (Cmp.kk HK.out) hk (.inl rfl)); replace HB := Aside0.mk (hb); replace D6 := Aside0.mk (hi); (try clear hb); (try clear hb2); (try clear hk); (try clear hi)) | ((with_reducible refine gate_callee (f := 107) rfl ?_); refine goesL_ (some 12) rfl rfl Try.func107 (by kernel_rfl) rfl #[.pointer (some ⟨g, 0, none⟩), .int .i64 3] rfl Cmp.q ?_; (with_reducible refine (spec_l1Once.calls g s0_0 Df Dg 3 true Dq Dr w0 _ ?side1 ?side2 A5.out).mono ?_); (case side1 => exact IsS121.go D6.out); (case side2 => exact IsS121.bl HB.out); rintro e w12 ⟨rfl, hi, hb, hk⟩; refine ⟨_, rfl, ?_⟩; replace D0 := Aside0.mk (KeepBut.blk hk (g' := D3) (o := .cells #[.slice A1_0 l1_0.length c1_0] 41 (0, 0)) (Cmp.b D0.out) D4.out (by simp)); replace D1 := Aside0.mk (KeepBut.blk hk (g' := D2) (o := .cells #[.slice none 0 0] 41 (0, 0)) (Cmp.b D1.out) D5.out (by simp)); replace HK := Aside0.mk (KeepBut.trans (Cmp.kk HK.out) hk (.inl rfl)); replace HB := Aside0.mk (hb); replace D6 := Aside0.mk (hi); (try clear hb); (try clear hb2); (try clear hk); (try clear hi); have Ej := D7.out; have Ep := D8.out; have Ek := D4.out; have Eq := D9.out; have Dy := Cmp.c0 D0; have E4 := blk_frozen D0.out 0) | ((with_reducible refine gate_callee (f := 23) rfl ?_); refine goesL_ (some 17) rfl rfl Try.func23 (by kernel_rfl) rfl #[.agg #[.slice A1_0 l1_0.length c1_0], .int .i64 Db, .int .i64 Dc] rfl Cmp.q ?_; (with_reducible refine (spec_DeleteEntry.calls k _ _ l1_0 Db Dc Dh Ed _ ?side1 ?side2 A7.out).mono ?_); (case side1 => exact Kd.C_foot_now Dl.out (Cmp.kk HK.out)); (case side2 => exact HC1_0.out); rintro e w16 ⟨v247, rfl, Dx, hb⟩; refine ⟨_, rfl, ?_⟩; have Dj := Aside0.mk (Kd.R_lower Dx (keep_size (w := w) (g := g) (row := none) (Cmp.kk HK.out))); replace D0 := Cmp.be D0 hb; replace D1 := Cmp.be D1 hb; replace HK := Aside0.mk (KeepBut.trans (Cmp.kk HK.out) (KeepBut.of_below hb g none) (.inl rfl)); replace HB := Aside0.mk (below_step (IsS121.bl HB.out) hb); replace D6 := Aside0.mk (IsS121.below (IsS121.go D6.out) hb); (try clear hb); (try clear hb2); (try clear hk); (try clear hi); (try clear Dx); obtain ⟨Dm, Do, Ea⟩ := Kd.R_slice Dj.out; subst Ea; have Dz := Cmp.c0 D0; have E5 := blk_frozen D0.out 0; have El := D5.out; have Er := Da.out; have E0 := Cmp.c0 D1; have E6 := blk_frozen D1.out 0))
  refine bodyPost_ret (results_cell_row rfl _ _ D2 41 #[.slice Dm Dh.length Do] (0, 0) _ rfl (Cmp.bw D1.out) Try.underlying41 rfl (by kernel_rfl)) rfl ?_
  exact ⟨_, by first | rfl | (simp [errW_none, errW_some] <;> rfl) | (simp [*, errW_none, errW_some] <;> rfl), by (with_reducible repeat (first | apply Kd.R_alloc | apply Kd.R_drewN | apply Kd.R_drew)); exact Kd.R_mono (Kd.R_far (p := ⟨D2, 0, none⟩) (Kd.R_far (p := ⟨D3, 0, none⟩) (Kd.R_types (Kd.R_types Dj.out D0.out (by decide)) D1.out (by decide)) (fun _ hk => hk.1.2) (.slice Dm Dh.length Do)) (fun _ hk => hk.2) (.slice Dm Dh.length Do)) (fun _ hk => trivial), IsS121.go D6.out, IsS121.bl HB.out, Cmp.kk HK.out⟩
 ·replace c6 := Bool.eq_false_iff.mpr c6
  subst c6
  have H1 : ((spec_PutEntry.f k l1_0 Db Dc).bind fun bt250 => (some (bt250.1, Dq, Dr))) = some (r1, r2, r3) := by rw [if_neg (show ¬ (false = true) by decide)] at H; exact H
  clear H; have H := H1; clear H1; replace H := Option.bind_eq_some_iff.mp H; obtain ⟨⟨Di, Ee⟩, Ds, H⟩ := H; (try dsimp only at H); have Ev := Aside0.mk Ds; clear Ds
  simp only [Option.some.injEq, Prod.mk.injEq] at H
  obtain ⟨rfl, rfl, rfl⟩ := H
  go_enter Try.func106, Try.ntmps106
  go_wp2_with (first | ((with_reducible refine gate_dst (N := 3) rfl ?_); refine box_event ?hg (N := 3) ?hd (cs := #[.slice A1_0 l1_0.length c1_0]) (t := 41) ?hr ?_; (case hd => rfl); (case hg => rfl); (case hr => first | (go_simp; done) | (go_simp; rfl)); intro D3 hg w22 hbox hb; have D0 := Aside0.mk (hbox); have Dv := Aside0.mk ((by rw [hg]; exact (keep_size (w := w) (g := g) (row := none) (Cmp.kk HK.out)) : w.heap.size ≤ D3)); have Dt := Aside0.mk ((Nat.le_trans HW0.out (by rw [hg]; exact (keep_size (w := w) (g := g) (row := none) (Cmp.kk HK.out)) : w.heap.size ≤ D3) : w0.heap.size ≤ D3)); have D9 := Aside0.mk ((by rw [hg]; exact Nat.ne_of_lt (IsS121.lt (show IsS121 w0 _ g s0_0 s0_1 s0_2 from IsS121.go D6.out)) : g ≠ D3)); have D4 := Aside0.mk ((by rw [hg]; exact Nat.ne_of_gt (IsS121.lt (show IsS121 w0 _ g s0_0 s0_1 s0_2 from IsS121.go D6.out)) : D3 ≠ g)); replace HK := Aside0.mk (KeepBut.trans (Cmp.kk HK.out) (KeepBut.of_below hb g none) (.inl rfl)); replace HB := Aside0.mk (below_step (IsS121.bl HB.out) hb); replace D6 := Aside0.mk (IsS121.below (IsS121.go D6.out) hb); clear hb hbox hg) | ((with_reducible refine gate_dst (N := 4) rfl ?_); refine box_event ?hg (N := 4) ?hd (cs := #[.slice none 0 0]) (t := 41) ?hr ?_; (case hd => rfl); (case hg => rfl); (case hr => first | (go_simp; done) | (go_simp; rfl)); intro D2 hg w23 hbox hb; have D1 := Aside0.mk (hbox); have Dw := Aside0.mk ((by rw [hg]; exact (keep_size (w := w) (g := g) (row := none) (Cmp.kk HK.out)) : w.heap.size ≤ D2)); have Du := Aside0.mk ((Nat.le_trans HW0.out (by rw [hg]; exact (keep_size (w := w) (g := g) (row := none) (Cmp.kk HK.out)) : w.heap.size ≤ D2) : w0.heap.size ≤ D2)); have D7 := Cmp.nl hg D0; have D8 := Cmp.ng hg D0; have Da := Aside0.mk ((by rw [hg]; exact Nat.ne_of_lt (IsS121.lt (show IsS121 w0 _ g s0_0 s0_1 s0_2 from IsS121.go D6.out)) : g ≠ D2)); have D5 := Aside0.mk ((by rw [hg]; exact Nat.ne_of_gt (IsS121.lt (show IsS121 w0 _ g s0_0 s0_1 s0_2 from IsS121.go D6.out)) : D2 ≠ g)); replace D0 := Cmp.be D0 hb; replace HK := Aside0.mk (KeepBut.trans (Cmp.kk HK.out) (KeepBut.of_below hb g none) (.inl rfl)); replace HB := Aside0.mk (below_step (IsS121.bl HB.out) hb); replace D6 := Aside0.mk (IsS121.below (IsS121.go D6.out) hb); clear hb hbox hg) | ((with_reducible refine gate_callee (f := 88) rfl ?_); refine goesL_ (some 8) rfl rfl Try.func88 (by kernel_rfl) rfl #[.pointer (some ⟨g, 0, none⟩), .int .i64 4] rfl Cmp.q ?_; (with_reducible refine (spec_l1Below.calls g s0_0 s0_1 s0_2 4 Db Dd De w0 _ ?side1 ?side2 A3.out).mono ?_); (case side1 => exact IsS121.go D6.out); (case side2 => exact IsS121.bl HB.out); rintro e w24 ⟨rfl, hi, hb, hk⟩; refine ⟨_, rfl, ?_⟩; replace D0 := Aside0.mk (KeepBut.blk hk (g' := D3) (o := .cells #[.slice A1_0 l1_0.length c1_0] 41 (0, 0)) (Cmp.b D0.out) D4.out (by simp)); replace D1 := Aside0.mk (KeepBut.blk hk (g' := D2) (o := .cells #[.slice none 0 0] 41 (0, 0)) (Cmp.b D1.out) D5.out (by simp)); replace HK := Aside0.mk (KeepBut.trans (Cmp.kk HK.out) hk (.inl rfl)); replace HB := Aside0.mk (hb); replace D6 := Aside0.mk (hi); (try clear hb); (try clear hb2); (try clear hk); (try clear hi)) | ((with_reducible refine gate_callee (f := 88) rfl ?_); refine goesL_ (some 10) rfl rfl Try.func88 (by kernel_rfl) rfl #[.pointer (some ⟨g, 0, none⟩), .int .i64 3] rfl Cmp.q ?_; (with_reducible refine (spec_l1Below.calls g s0_0 Dd De 3 Dc Df Dg w0 _ ?side1 ?side2 A4.out).mono ?_); (case side1 => exact IsS121.go D6.out); (case side2 => exact IsS121.bl HB.out); rintro e w25 ⟨rfl, hi, hb, hk⟩; refine ⟨_, rfl, ?_⟩; replace D0 := Aside0.mk (KeepBut.blk hk (g' := D3) (o := .cells #[.slice A1_0 l1_0.length c1_0] 41 (0, 0)) (Cmp.b D0.out) D4.out (by simp)); replace D1 := Aside0.mk (KeepBut.blk hk (g' := D2) (o := .cells #[.slice none 0 0] 41 (0, 0)) (Cmp.b D1.out) D5.out (by simp)); replace HK := Aside0.mk (KeepBut.trans (Cmp.kk HK.out) hk (.inl rfl)); replace HB := Aside0.mk (hb); replace D6 := Aside0.mk (hi); (try clear hb); (try clear hb2); (try clear hk); (try clear hi)) | ((with_reducible refine gate_callee (f := 107) rfl ?_); refine goesL_ (some 12) rfl rfl Try.func107 (by kernel_rfl) rfl #[.pointer (some ⟨g, 0, none⟩), .int .i64 3] rfl Cmp.q ?_; (with_reducible refine (spec_l1Once.calls g s0_0 Df Dg 3 false Dq Dr w0 _ ?side1 ?side2 A5.out).mono ?_); (case side1 => exact IsS121.go D6.out); (case side2 => exact IsS121.bl HB.out); rintro e w26 ⟨rfl, hi, hb, hk⟩; refine ⟨_, rfl, ?_⟩; replace D0 := Aside0.mk (KeepBut.blk hk (g' := D3) (o := .cells #[.slice A1_0 l1_0.length c1_0] 41 (0, 0)) (Cmp.b D0.out) D4.out (by simp)); replace D1 := Aside0.mk (KeepBut.blk hk (g' := D2) (o := .cells #[.slice none 0 0] 41 (0, 0)) (Cmp.b D1.out) D5.out (by simp)); replace HK := Aside0.mk (KeepBut.trans (Cmp.kk HK.out) hk (.inl rfl)); replace HB := Aside0.mk (hb); replace D6 := Aside0.mk (hi); (try clear hb); (try clear hb2); (try clear hk); (try clear hi); have Em := D7.out; have Es := D8.out; have En := D4.out; have Et := D9.out; have E1 := Cmp.c0 D0; have E7 := blk_frozen D0.out 0) | ((with_reducible refine gate_callee (f := 29) rfl ?_); refine goesL_ (some 25) rfl rfl Try.func29 (by kernel_rfl) rfl #[.agg #[.slice A1_0 l1_0.length c1_0], .int .i64 Db, .int .i64 Dc] rfl Cmp.q ?_; (with_reducible refine (spec_PutEntry.calls k _ _ l1_0 Db Dc Di Ee _ ?side1 ?side2 Ev.out).mono ?_); (case side1 => exact Kd.C_foot_now Dl.out (Cmp.kk HK.out)); (case side2 => exact HC1_0.out); rintro e w30 ⟨v251, rfl, Dx, hb⟩; refine ⟨_, rfl, ?_⟩; have Dk := Aside0.mk (Kd.R_lower Dx (keep_size (w := w) (g := g) (row := none) (Cmp.kk HK.out))); replace D0 := Cmp.be D0 hb; replace D1 := Cmp.be D1 hb; replace HK := Aside0.mk (KeepBut.trans (Cmp.kk HK.out) (KeepBut.of_below hb g none) (.inl rfl)); replace HB := Aside0.mk (below_step (IsS121.bl HB.out) hb); replace D6 := Aside0.mk (IsS121.below (IsS121.go D6.out) hb); (try clear hb); (try clear hb2); (try clear hk); (try clear hi); (try clear Dx); obtain ⟨Dn, Dp, Eb⟩ := Kd.R_slice Dk.out; subst Eb; have E2 := Cmp.c0 D0; have E8 := blk_frozen D0.out 0; have Eo := D5.out; have Eu := Da.out; have E3 := Cmp.c0 D1; have E9 := blk_frozen D1.out 0))
  refine bodyPost_ret (results_cell_row rfl _ _ D2 41 #[.slice Dn Di.length Dp] (0, 0) _ rfl (Cmp.bw D1.out) Try.underlying41 rfl (by kernel_rfl)) rfl ?_
  exact ⟨_, by first | rfl | (simp [errW_none, errW_some] <;> rfl) | (simp [*, errW_none, errW_some] <;> rfl), by (with_reducible repeat (first | apply Kd.R_alloc | apply Kd.R_drewN | apply Kd.R_drew)); exact Kd.R_mono (Kd.R_far (p := ⟨D2, 0, none⟩) (Kd.R_far (p := ⟨D3, 0, none⟩) (Kd.R_types (Kd.R_types Dk.out D0.out (by decide)) D1.out (by decide)) (fun _ hk => hk.1.2) (.slice Dn Di.length Dp)) (fun _ hk => hk.2) (.slice Dn Di.length Dp)) (fun _ hk => trivial), IsS121.go D6.out, IsS121.bl HB.out, Cmp.kk HK.out⟩

/-! ### spec_l17Bundle: function 99 -/
mutual
def spec_l17Bundle.l0 : Nat → Int → List Int → Int → Int → List (S49) → Option ((List (S49)) × Int × Int)
  | 0, _, _, _, _, _ => none
  | k + 1, x4, x1000, x1001, x1002, x256000 => if x4 > 0 then ((spec_l17Step.f k x1000 x1001 x1002 x256000).bind fun bt262 => (spec_l17Bundle.l0 k (wrap64 (x4 - 1)) x1000 bt262.2.1 bt262.2.2 bt262.1)) else ((spec_l1Once.f x1000 x1001 x1002 8).bind fun bt267 => (if bt267.1 = true then (spec_l17Bundle.l1 k 0 x1000 bt267.2.1 bt267.2.2 x256000) else (some (x256000, bt267.2.1, bt267.2.2))))
def spec_l17Bundle.l1 : Nat → Int → List Int → Int → Int → List (S49) → Option ((List (S49)) × Int × Int)
  | 0, _, _, _, _, _ => none
  | k + 1, x5, x1000, x1001, x1002, x256000 => if (x256000.length : Int) < 20 then ((spec_PutEntry.f k x256000 (wrap64 (10 + x5)) 0).bind fun bt270 => (spec_l17Bundle.l1 k (wrap64 (x5 + 1)) x1000 x1001 x1002 bt270.1)) else (some (x256000, x1001, x1002))
end
def spec_l17Bundle.f (k : Nat) (s0_0 : List Int) (s0_1 : Int) (s0_2 : Int) : Option ((List (S49)) × Int × Int) := (spec_l1Int.f s0_0 s0_1 s0_2 (([0, 2, 5, 9] : List Int))).bind fun bt259 => (spec_l17Bundle.l0 k bt259.1 s0_0 bt259.2.1 bt259.2.2 ([] : List (S49)))
theorem spec_l17Bundle.mono_l : ∀ k, (∀ y0 y1 y2 y3 y4, LeO (spec_l17Bundle.l0 k y0 y1 y2 y3 y4) (spec_l17Bundle.l0 (k + 1) y0 y1 y2 y3 y4)) ∧ (∀ y0 y1 y2 y3 y4, LeO (spec_l17Bundle.l1 k y0 y1 y2 y3 y4) (spec_l17Bundle.l1 (k + 1) y0 y1 y2 y3 y4))
  | 0 => ⟨fun _ _ _ _ _ r h => by simp [spec_l17Bundle.l0] at h, fun _ _ _ _ _ r h => by simp [spec_l17Bundle.l1] at h⟩
  | k + 1 => by
    obtain ⟨ih0, ih1⟩ := spec_l17Bundle.mono_l k
    refine ⟨?_, ?_⟩
    · intro y0 y1 y2 y3 y4
      unfold spec_l17Bundle.l0
      repeat' first
      | (with_reducible exact ih0 _ _ _ _ _)
      | (with_reducible exact ih1 _ _ _ _ _)
      | (with_reducible exact spec_PutEntry.mono _ _ _ _)
      | (with_reducible exact spec_l17Step.mono _ _ _ _ _)
      | (with_reducible exact LeO.refl _)
      | (with_reducible exact LeO.none _)
      | (with_reducible refine LeO.ite ?_ ?_)
      | (with_reducible refine LeO.bind ?_ (fun _ => ?_))
      | exact ih0 _ _ _ _ _
      | exact ih1 _ _ _ _ _
      | exact spec_PutEntry.mono _ _ _ _
      | exact spec_l17Step.mono _ _ _ _ _
      | exact LeO.none _
      | refine LeO.ite ?_ ?_
      | refine LeO.bind ?_ (fun _ => ?_)
    · intro y0 y1 y2 y3 y4
      unfold spec_l17Bundle.l1
      repeat' first
      | (with_reducible exact ih0 _ _ _ _ _)
      | (with_reducible exact ih1 _ _ _ _ _)
      | (with_reducible exact spec_PutEntry.mono _ _ _ _)
      | (with_reducible exact spec_l17Step.mono _ _ _ _ _)
      | (with_reducible exact LeO.refl _)
      | (with_reducible exact LeO.none _)
      | (with_reducible refine LeO.ite ?_ ?_)
      | (with_reducible refine LeO.bind ?_ (fun _ => ?_))
      | exact ih0 _ _ _ _ _
      | exact ih1 _ _ _ _ _
      | exact spec_PutEntry.mono _ _ _ _
      | exact spec_l17Step.mono _ _ _ _ _
      | exact LeO.none _
      | refine LeO.ite ?_ ?_
      | refine LeO.bind ?_ (fun _ => ?_)
theorem spec_l17Bundle.mono : ∀ a0 a1 a2 k, LeO (spec_l17Bundle.f k a0 a1 a2) (spec_l17Bundle.f (k + 1) a0 a1 a2) := by
  intro a0 a1 a2 k
  obtain ⟨ih0, ih1⟩ := spec_l17Bundle.mono_l k
  unfold spec_l17Bundle.f
  repeat' first
      | (with_reducible exact ih0 _ _ _ _ _)
      | (with_reducible exact ih1 _ _ _ _ _)
      | (with_reducible exact spec_PutEntry.mono _ _ _ _)
      | (with_reducible exact spec_l17Step.mono _ _ _ _ _)
      | (with_reducible exact LeO.refl _)
      | (with_reducible exact LeO.none _)
      | (with_reducible refine LeO.ite ?_ ?_)
      | (with_reducible refine LeO.bind ?_ (fun _ => ?_))
      | exact ih0 _ _ _ _ _
      | exact ih1 _ _ _ _ _
      | exact spec_PutEntry.mono _ _ _ _
      | exact spec_l17Step.mono _ _ _ _ _
      | exact LeO.none _
      | refine LeO.ite ?_ ?_
      | refine LeO.bind ?_ (fun _ => ?_)
set_option maxHeartbeats 8000000 in
set_option maxRecDepth 100000 in
theorem spec_l17Bundle.calls (k : Nat) (g : Nat) (s0_0 : List Int) (s0_1 : Int) (s0_2 : Int) (r1 : List (S49)) (r2 : Int) (r3 : Int) (w0 w : World) (hI : IsS121 w0 w g s0_0 s0_1 s0_2) (hB : Below w0.heap.size w0 w) (h : spec_l17Bundle.f k s0_0 s0_1 s0_2 = some (r1, r2, r3)) :
    Calls Try.prog 99 #[.pointer (some ⟨g, 0, none⟩)] w fun e w' => ∃ v0_ : Value, e = .returned (.agg #[v0_]) ∧ Kd.R k49 49 w' w.heap.size (fun _ => True) v0_ r1 ∧ IsS121 w0 w' g s0_0 r2 r3 ∧ Below w0.heap.size w0 w' ∧ KeepBut w w' g none := by
 have hu41 := Try.underlying41; have Dd := Aside0.mk hI
 have HK := Aside0.mk (KeepBut.refl w g none)
 have HL := Aside0.mk hB.size; clear hI; have HW0 := Aside0.mk hB.size; have HB := Aside0.mk hB; clear hB
 have H : ((spec_l1Int.f s0_0 s0_1 s0_2 (([0, 2, 5, 9] : List Int))).bind fun bt259 => (spec_l17Bundle.l0 k bt259.1 s0_0 bt259.2.1 bt259.2.2 ([] : List (S49)))) = some (r1, r2, r3) := h
 clear h
 obtain ⟨Dy, hy256⟩ : ∃ y_ : List Int, y_ = (([0, 2, 5, 9] : List Int)) := ⟨_, rfl⟩
 replace H : ((spec_l1Int.f s0_0 s0_1 s0_2 Dy).bind fun bt259 => (spec_l17Bundle.l0 k bt259.1 s0_0 bt259.2.1 bt259.2.2 ([] : List (S49)))) = some (r1, r2, r3) := by first | (rw [hy256]; with_reducible exact H) | (have H2_ := (Option.bind_some _ _).symm.trans H; rw [hy256]; with_reducible exact H2_) | (have H2_ := (Option.bind_some _ _).symm.trans H; with_reducible exact H2_) | with_reducible exact H | (rw [hy256]; exact H) | exact H
 have Dw := Aside0.mk hy256; clear hy256; replace H := Option.bind_eq_some_iff.mp H; obtain ⟨⟨Ed, Ee, Ef⟩, F7, H⟩ := H; (try dsimp only at H); have A2 := Aside0.mk F7; clear F7
 have H' := Aside0.mk H
 clear H
 go_enter Try.func99, Try.ntmps99
 go_wp2_with (first | ((with_reducible refine gate_dst (N := 2) rfl ?_); refine box_event ?hg (N := 2) ?hd (cs := #[.slice none 0 0]) (t := 41) ?hr ?_; (case hd => rfl); (case hg => rfl); (case hr => first | (go_simp; done) | (go_simp; rfl)); intro D9 hg w3 hbox hb; have D2 := Aside0.mk (hbox); have Fb := Aside0.mk ((by rw [hg]; exact (keep_size (w := w) (g := g) (row := none) (Cmp.kk HK.out)) : w.heap.size ≤ D9)); have F9 := Aside0.mk ((Nat.le_trans HW0.out (by rw [hg]; exact (keep_size (w := w) (g := g) (row := none) (Cmp.kk HK.out)) : w.heap.size ≤ D9) : w0.heap.size ≤ D9)); have Di := Aside0.mk ((by rw [hg]; exact Nat.ne_of_lt (IsS121.lt (show IsS121 w0 _ g s0_0 s0_1 s0_2 from IsS121.go Dd.out)) : g ≠ D9)); have De := Aside0.mk ((by rw [hg]; exact Nat.ne_of_gt (IsS121.lt (show IsS121 w0 _ g s0_0 s0_1 s0_2 from IsS121.go Dd.out)) : D9 ≠ g)); replace HK := Aside0.mk (KeepBut.trans (Cmp.kk HK.out) (KeepBut.of_below hb g none) (.inl rfl)); replace HB := Aside0.mk (below_step (IsS121.bl HB.out) hb); replace Dd := Aside0.mk (IsS121.below (IsS121.go Dd.out) hb); clear hb hbox hg) | ((with_reducible refine gate_dst (N := 3) rfl ?_); refine box_event ?hg (N := 3) ?hd (cs := #[.slice none 0 0]) (t := 41) ?hr ?_; (case hd => rfl); (case hg => rfl); (case hr => first | (go_simp; done) | (go_simp; rfl)); intro D6 hg w4 hbox hb; have D1 := Aside0.mk (hbox); have Fc := Aside0.mk ((by rw [hg]; exact (keep_size (w := w) (g := g) (row := none) (Cmp.kk HK.out)) : w.heap.size ≤ D6)); have Fa := Aside0.mk ((Nat.le_trans HW0.out (by rw [hg]; exact (keep_size (w := w) (g := g) (row := none) (Cmp.kk HK.out)) : w.heap.size ≤ D6) : w0.heap.size ≤ D6)); have Db := Cmp.nl hg D2; have Dc := Cmp.ng hg D2; have Df := Aside0.mk ((by rw [hg]; exact Nat.ne_of_lt (IsS121.lt (show IsS121 w0 _ g s0_0 s0_1 s0_2 from IsS121.go Dd.out)) : g ≠ D6)); have Da := Aside0.mk ((by rw [hg]; exact Nat.ne_of_gt (IsS121.lt (show IsS121 w0 _ g s0_0 s0_1 s0_2 from IsS121.go Dd.out)) : D6 ≠ g)); replace D2 := Cmp.be D2 hb; replace HK := Aside0.mk (KeepBut.trans (Cmp.kk HK.out) (KeepBut.of_below hb g none) (.inl rfl)); replace HB := Aside0.mk (below_step (IsS121.bl HB.out) hb); replace Dd := Aside0.mk (IsS121.below (IsS121.go Dd.out) hb); clear hb hbox hg; have Fz := Dc.out; have G1 := Db.out; have G0 := Da.out; have G2 := Df.out; have Dk := Cmp.c0 D1; have Dl := blk_frozen D1.out 0) | ((with_reducible refine gate_dst (N := 8) rfl ?_); refine Kd.R_lit (Kd.int .i64) _ 3 ?hg (N := 8) ?hd (xs := ([0, 2, 5, 9] : List Int)) (inner := [.int .i64 0, .int .i64 2, .int .i64 5, .int .i64 9]) (ok := fun _ => True) (okp := fun _ => True) ?hr ?hp (fun _ hk => hk) trivial (Below.refl _ _) (Nat.le_refl _) (by simp) ?_; (case hd => rfl); (case hg => rfl); (case hr => first | (go_simp; done) | (go_simp; rfl)); (case hp => exact (Reps.one (show Kd.M (Kd.int .i64) _ _ _ 0 [.int .i64 0] from rfl) (Reps.one (show Kd.M (Kd.int .i64) _ _ _ 2 [.int .i64 2] from rfl) (Reps.one (show Kd.M (Kd.int .i64) _ _ _ 5 [.int .i64 5] from rfl) (Reps.one (show Kd.M (Kd.int .i64) _ _ _ 9 [.int .i64 9] from rfl) (Reps.none _ _)))))); intro v257 w8 Ec hb hg_ hnew_; clear hg_ hnew_; (first | rw [← Dw.out] at Ec | (simp only [Int.reduceToNat] at Ec; rw [← Dw.out] at Ec)); have Dg := Aside0.mk (Kd.R_lower Ec (keep_size (w := w) (g := g) (row := none) (Cmp.kk HK.out))); replace D2 := Aside0.mk (blk_below (g := D9) (o := .cells #[.slice none 0 0] 41 (0, 0)) (Cmp.bw D2.out) hb); replace D1 := Aside0.mk (blk_below (g := D6) (o := .cells #[.slice none 0 0] 41 (0, 0)) (Cmp.bw D1.out) hb); replace HK := Aside0.mk (KeepBut.trans (Cmp.kk HK.out) (KeepBut.of_below hb g none) (.inl rfl)); replace HB := Aside0.mk (below_step (IsS121.bl HB.out) hb); replace Dd := Aside0.mk (IsS121.below (show IsS121 w0 (w4.setCell ⟨D6, 0, none⟩ (.slice none 0 0)) g s0_0 s0_1 s0_2 from IsS121.go Dd.out) hb); clear hb Ec; obtain ⟨Eu, Ew, Ey⟩ := Kd.R_slice Dg.out; subst Ey) | ((with_reducible refine gate_callee (f := 100) rfl ?_); refine goesL_ (some 9) rfl rfl Try.func100 (by kernel_rfl) rfl #[.pointer (some ⟨g, 0, none⟩), .slice Eu Dy.length Ew] rfl Cmp.q ?_; (with_reducible refine (spec_l1Int.calls g s0_0 s0_1 s0_2 _ _ Dy Ed Ee Ef w0 _ ?side1 ?side2 ?side3 ?side4 ?side5 A2.out).mono ?_); (case side1 => exact IsS121.go Dd.out); (case side2 => exact IsS121.bl HB.out); (case side3 => exact Cmp.rc (Kd.R_reads' Dg.out).2.2); (case side4 => exact (Kd.R_reads' Dg.out).2.1); (case side5 => exact far_slice (IsS121.own_ne Dd.out Dg.out (by decide))); rintro e w11 ⟨rfl, hi, hb, hk⟩; refine ⟨_, rfl, ?_⟩; replace D2 := Aside0.mk (KeepBut.blk hk (g' := D9) (o := .cells #[.slice none 0 0] 41 (0, 0)) (Cmp.b D2.out) De.out (by simp)); replace D1 := Aside0.mk (KeepBut.blk hk (g' := D6) (o := .cells #[.slice none 0 0] 41 (0, 0)) (Cmp.b D1.out) Da.out (by simp)); replace Dg := Aside0.mk (Kd.R_mono (Kd.R_keep (IsS121.apart (show IsS121 w0 _ g s0_0 s0_1 s0_2 from IsS121.go Dd.out) (Cmp.rr Dg.out) (by decide)) hk (fun _ h => h.2)) (fun _ h => h.1)); replace HK := Aside0.mk (KeepBut.trans (Cmp.kk HK.out) hk (.inl rfl)); replace HB := Aside0.mk (hb); replace Dd := Aside0.mk (hi); (try clear hb); (try clear hb2); (try clear hk); (try clear hi)))
 go_loopg [4] k (fun kq v4 w' => ∃ (Dh : Int) (D7 : Int) (D8 : Int) (D4 : List (S49)) (D5 : Value), v4 = .int .i64 Dh ∧ Aside0 (spec_l17Bundle.l0 kq Dh s0_0 D7 D8 D4 = some (r1, r2, r3)) ∧ Aside0 (kq ≤ k) ∧ Aside0 (Kd.R k49 49 w' w.heap.size (fun _ => True) D5 D4) ∧ Aside0 (w'.heap[D9]? = some (.cells #[(.slice none 0 0)] 41 (0, 0))) ∧ Aside0 (w'.heap[D6]? = some (.cells #[D5] 41 (0, 0))) ∧ Aside0 (IsS121 w0 w' g s0_0 D7 D8) ∧ Aside0 (KeepBut w w' g none) ∧ Aside0 (Below w0.heap.size w0 w'))
 case atStart => exact ⟨(Ed), (Ee), (Ef), (([] : List (S49))), (.slice none 0 0), (by first | rfl | simp | simp [*]), H', ⟨Nat.le_refl _⟩, ⟨by first | exact Kd.R_nil _ _ _ _ _ | exact Kd.N_nil _ _ _ _ _ | exact Kd.V_nil _ _ _ _ _ | exact Kd.Q_nil _ _ _ _ _ | exact Kd.S_nil _ _ _ _ _⟩, Cmp.bq D2, Cmp.bq D1, ⟨IsS121.go Dd.out⟩, ⟨Cmp.kk HK.out⟩, ⟨IsS121.bl HB.out⟩⟩
 case round =>
  clear H'
  (try clear c1); (try clear p2); (try clear c5); (try clear c6); (try clear c9); (try clear c10); (try clear Dk); (try clear Dl)
  obtain ⟨Dh, D7, D8, D4, D5, rfl, HA, HK1, D0, D2, D1, Dd, HK, HB⟩ := hrel
  cases gk with
  | zero => exact absurd HA.out (by simp [spec_l17Bundle.l0])
  | succ k1 =>
   have H := HA.out; clear HA
   simp only [spec_l17Bundle.l0] at H
   by_cases c12 : Dh > 0
   ·rw [if_pos c12] at H; have c12b0 : decide (0 < Dh) = true := decide_eq_true c12; clear c12; replace H := Option.bind_eq_some_iff.mp H; obtain ⟨⟨Ds, Eg, Eh⟩, Dz, H⟩ := H; (try dsimp only at H); have Fx := Aside0.mk Dz; clear Dz
    have H' := Aside0.mk H
    clear H; have Fd := Dc.out; have Fn := Db.out; have Fe := Da.out; have Fo := Df.out
    have Do : wr.cell? ⟨D6, 0, none⟩ = some (D5) := (blk_cell D1.out 0).trans rfl
    have Dq := blk_frozen D1.out 0
    obtain ⟨E2, E7, Ez⟩ := Kd.R_slice D0.out
    subst Ez
    go_wp2_with (first | ((with_reducible refine gate_callee (f := 106) rfl ?_); refine goesL_ (some 16) rfl rfl Try.func106 (by kernel_rfl) rfl #[.pointer (some ⟨g, 0, none⟩), .agg #[.slice E2 D4.length E7]] rfl Cmp.q ?_; (with_reducible refine (spec_l17Step.calls k1 g s0_0 D7 D8 _ _ D4 Ds Eg Eh w0 _ ?side1 ?side2 ?side3 ?side4 Fx.out).mono ?_); (case side1 => exact IsS121.go Dd.out); (case side2 => exact IsS121.bl HB.out); (case side3 => exact Kd.C_foot_own (IsS121.apart (show IsS121 w0 _ g s0_0 D7 D8 from IsS121.go Dd.out) (Cmp.rr D0.out) (by decide)) (fun _ h_ => h_.2)); (case side4 => exact (Kd.R_reads' D0.out).2.1); rintro e w18 ⟨v263, rfl, Dx, hi, hb, hk⟩; refine ⟨_, rfl, ?_⟩; have Du := Aside0.mk (Kd.R_lower (Kd.R_new' Dx (Kd.R_lt (Cmp.rr D0.out))) (keep_size (w := w) (g := g) (row := none) (Cmp.kk HK.out))); replace D0 := Aside0.mk (Kd.R_mono (Kd.R_told (Kd.R_oldK (IsS121.apart (show IsS121 w0 _ g s0_0 D7 D8 from IsS121.go Dd.out) (Cmp.rr D0.out) (by decide)) hk) (Kd.R_base Dx)) (fun _ h_ => h_.1)); replace D2 := Aside0.mk (KeepBut.blk hk (g' := D9) (o := .cells #[.slice none 0 0] 41 (0, 0)) (Cmp.b D2.out) De.out (by simp)); replace D1 := Aside0.mk (KeepBut.blk hk (g' := D6) (o := .cells #[.slice E2 D4.length E7] 41 (0, 0)) (Cmp.b D1.out) Da.out (by simp)); replace HK := Aside0.mk (KeepBut.trans (Cmp.kk HK.out) hk (.inl rfl)); replace HB := Aside0.mk (hb); replace Dd := Aside0.mk (hi); (try clear hb); (try clear hb2); (try clear hk); (try clear hi); (try clear Dx); obtain ⟨E3, E8, F0⟩ := Kd.R_slice Du.out; subst F0; have Dp := Cmp.c0 D1; have Dr := blk_frozen D1.out 0))
    go_roundg k1
    case measure => have := HK1.out; omega
    case rel => exact ⟨(wrap64 (Dh - 1)), (Eg), (Eh), (Ds), (.slice E3 Ds.length E8), (by first | rfl | simp | simp [*]), H', ⟨by have := HK1.out; omega⟩, ⟨by (with_reducible repeat (first | apply Kd.R_alloc | apply Kd.R_drewN | apply Kd.R_drew)); exact Kd.R_mono (Kd.R_far (p := ⟨D6, 0, none⟩) (Kd.R_types Du.out D1.out (by decide)) (fun _ hk => hk.2) (.slice E3 Ds.length E8)) (fun _ hk => trivial)⟩, ⟨Cmp.bw D2.out⟩, ⟨Cmp.bw D1.out⟩, ⟨IsS121.go Dd.out⟩, ⟨Cmp.kk HK.out⟩, ⟨IsS121.bl HB.out⟩⟩
   ·rw [if_neg c12] at H; have c12b0 : decide (0 < Dh) = false := decide_eq_false c12; clear c12; replace H := Option.bind_eq_some_iff.mp H; obtain ⟨⟨F5, Dm, Dn⟩, E0, H⟩ := H; (try dsimp only at H); have F8 := Aside0.mk E0; clear E0
    by_cases c22 : F5 = true
    ·subst c22; rw [if_pos rfl] at H
     have H' := Aside0.mk H
     clear H
     go_wp2_with (first | ((with_reducible refine gate_callee (f := 107) rfl ?_); refine goesL_ (some 18) rfl rfl Try.func107 (by kernel_rfl) rfl #[.pointer (some ⟨g, 0, none⟩), .int .i64 8] rfl Cmp.q ?_; (with_reducible refine (spec_l1Once.calls g s0_0 D7 D8 8 true Dm Dn w0 _ ?side1 ?side2 F8.out).mono ?_); (case side1 => exact IsS121.go Dd.out); (case side2 => exact IsS121.bl HB.out); rintro e w23 ⟨rfl, hi, hb, hk⟩; refine ⟨_, rfl, ?_⟩; replace D0 := Aside0.mk (Kd.R_mono (Kd.R_keep (IsS121.apart (show IsS121 w0 _ g s0_0 D7 D8 from IsS121.go Dd.out) (Cmp.rr D0.out) (by decide)) hk (fun _ h => h.2)) (fun _ h => h.1)); replace D2 := Aside0.mk (KeepBut.blk hk (g' := D9) (o := .cells #[.slice none 0 0] 41 (0, 0)) (Cmp.b D2.out) De.out (by simp)); replace D1 := Aside0.mk (KeepBut.blk hk (g' := D6) (o := .cells #[D5] 41 (0, 0)) (Cmp.b D1.out) Da.out (by simp)); replace HK := Aside0.mk (KeepBut.trans (Cmp.kk HK.out) hk (.inl rfl)); replace HB := Aside0.mk (hb); replace Dd := Aside0.mk (hi); (try clear hb); (try clear hb2); (try clear hk); (try clear hi)))
     go_loopg [5] k1 (fun kq v5 w' => ∃ (Dj : Int) (D3 : List (S49)) (D5 : Value), v5 = .int .i64 Dj ∧ Aside0 (spec_l17Bundle.l1 kq Dj s0_0 Dm Dn D3 = some (r1, r2, r3)) ∧ Aside0 (kq ≤ k1) ∧ Aside0 (Kd.R k49 49 w' w.heap.size (fun _ => True) D5 D3) ∧ Aside0 (w'.heap[D9]? = some (.cells #[(.slice none 0 0)] 41 (0, 0))) ∧ Aside0 (w'.heap[D6]? = some (.cells #[D5] 41 (0, 0))) ∧ Aside0 (IsS121 w0 w' g s0_0 Dm Dn) ∧ Aside0 (KeepBut w w' g none) ∧ Aside0 (Below w0.heap.size w0 w'))
     case atStart => exact ⟨(0), (D4), (D5), (by first | rfl | simp | simp [*]), H', ⟨Nat.le_refl _⟩, ⟨Cmp.rr D0.out⟩, Cmp.bq D2, Cmp.bq D1, ⟨IsS121.go Dd.out⟩, ⟨Cmp.kk HK.out⟩, ⟨IsS121.bl HB.out⟩⟩
     case round =>
      clear H'
      (try clear c1); (try clear c2); (try clear p2); (try clear c5); (try clear c6); (try clear p6); (try clear c9); (try clear c10); (try clear c12); (try clear c12b0); (try clear c14); (try clear c15); (try clear c22); (try clear Do); (try clear Dp); (try clear Dk); (try clear Dq); (try clear Dr); (try clear Dl); (try clear p2)
      obtain ⟨Dj, D3, D5, rfl, HA, HK2, D0, D2, D1, Dd, HK, HB⟩ := hrel
      cases gk with
      | zero => exact absurd HA.out (by simp [spec_l17Bundle.l1])
      | succ k2 =>
       have H := HA.out; clear HA
       simp only [spec_l17Bundle.l1] at H
       by_cases c24 : (D3.length : Int) < 20
       ·rw [if_pos c24] at H
        have c24b0 : decide ((D3.length : Int) < 20) = true := decide_eq_true c24
        have c24b1 : decide (D3.length < 20) = true := decide_eq_true (by omega)
        clear c24; replace H := Option.bind_eq_some_iff.mp H; obtain ⟨⟨Dt, F6⟩, E1, H⟩ := H; (try dsimp only at H); have Fy := Aside0.mk E1; clear E1
        have H' := Aside0.mk H
        clear H; have Ff := Dc.out; have Fp := Db.out; have Fg := Da.out; have Fq := Df.out
        have Ei : wr.cell? ⟨D6, 0, none⟩ = some (D5) := (blk_cell D1.out 0).trans rfl
        have Eo := blk_frozen D1.out 0
        obtain ⟨Ev, Ex, F1⟩ := Kd.R_slice D0.out
        subst F1
        go_wp2_with (first | ((with_reducible refine gate_callee (f := 29) rfl ?_); refine goesL_ (some 29) rfl rfl Try.func29 (by kernel_rfl) rfl #[.agg #[.slice Ev D3.length Ex], .int .i64 (wrap64 (10 + Dj)), .int .i64 0] rfl Cmp.q ?_; (with_reducible refine (spec_PutEntry.calls k2 _ _ D3 (wrap64 (10 + Dj)) 0 Dt F6 _ ?side1 ?side2 Fy.out).mono ?_); (case side1 => exact Cmp.rc (Kd.R_reads' D0.out).2.2); (case side2 => exact (Kd.R_reads' D0.out).2.1); rintro e w30 ⟨v271, rfl, Dx, hb⟩; refine ⟨_, rfl, ?_⟩; have Dv := Aside0.mk (Kd.R_lower (Kd.R_new' Dx (Kd.R_lt (Cmp.rr D0.out))) (keep_size (w := w) (g := g) (row := none) (Cmp.kk HK.out))); replace D0 := Aside0.mk (Kd.R_elder' (Cmp.rr D0.out) (Kd.R_base Dx) hb); replace D2 := Cmp.be D2 hb; replace D1 := Cmp.be D1 hb; replace HK := Aside0.mk (KeepBut.trans (Cmp.kk HK.out) (KeepBut.of_below hb g none) (.inl rfl)); replace HB := Aside0.mk (below_step (IsS121.bl HB.out) hb); replace Dd := Aside0.mk (IsS121.below (IsS121.go Dd.out) hb); (try clear hb); (try clear hb2); (try clear hk); (try clear hi); (try clear Dx); obtain ⟨E4, E9, F2⟩ := Kd.R_slice Dv.out; subst F2; have Ej := Cmp.c0 D1; have Ep := blk_frozen D1.out 0))
        go_roundg k2
        case measure => have := HK1.out; have := HK2.out; omega
        case rel => exact ⟨(wrap64 (Dj + 1)), (Dt), (.slice E4 Dt.length E9), (by first | rfl | simp | simp [*]), H', ⟨by have := HK1.out; have := HK2.out; omega⟩, ⟨by (with_reducible repeat (first | apply Kd.R_alloc | apply Kd.R_drewN | apply Kd.R_drew)); exact Kd.R_mono (Kd.R_far (p := ⟨D6, 0, none⟩) (Kd.R_types Dv.out D1.out (by decide)) (fun _ hk => hk.2) (.slice E4 Dt.length E9)) (fun _ hk => trivial)⟩, ⟨Cmp.bw D2.out⟩, ⟨Cmp.bw D1.out⟩, ⟨IsS121.go Dd.out⟩, ⟨Cmp.kk HK.out⟩, ⟨IsS121.bl HB.out⟩⟩
       ·rw [if_neg c24] at H
        have c24b0 : decide ((D3.length : Int) < 20) = false := decide_eq_false c24
        have c24b1 : decide (D3.length < 20) = false := decide_eq_false (by omega)
        clear c24
        simp only [Option.some.injEq, Prod.mk.injEq] at H
        obtain ⟨rfl, rfl, rfl⟩ := H; have Fh := Dc.out; have Fr := Db.out; have Fi := Da.out; have Fs := Df.out
        have Ek : wr.cell? ⟨D6, 0, none⟩ = some (D5) := (blk_cell D1.out 0).trans rfl
        have Eq := blk_frozen D1.out 0
        obtain ⟨E5, Ea, F3⟩ := Kd.R_slice D0.out
        subst F3; have Fj := De.out; have Ft := Di.out
        have El : wr.cell? ⟨D9, 0, none⟩ = some (.slice none 0 0) := (blk_cell D2.out 0).trans rfl
        have Er := blk_frozen D2.out 0
        go_wp2
        refine bodyPost_ret (results_cell_row rfl _ _ D9 41 #[.slice E5 D3.length Ea] (0, 0) _ rfl (Cmp.bw D2.out) Try.underlying41 rfl (by kernel_rfl)) rfl ?_
        exact ⟨_, by first | rfl | (simp [errW_none, errW_some] <;> rfl) | (simp [*, errW_none, errW_some] <;> rfl), by (with_reducible repeat (first | apply Kd.R_alloc | apply Kd.R_drewN | apply Kd.R_drew)); exact Kd.R_mono (Kd.R_far (p := ⟨D9, 0, none⟩) (Kd.R_types D0.out D2.out (by decide)) (fun _ hk => hk.2) (.slice E5 D3.length Ea)) (fun _ hk => trivial), IsS121.go Dd.out, IsS121.bl HB.out, Cmp.kk HK.out⟩
    ·replace c22 := Bool.eq_false_iff.mpr c22
     subst c22
     have H1 : (some (D4, Dm, Dn)) = some (r1, r2, r3) := by rw [if_neg (show ¬ (false = true) by decide)] at H; exact H
     clear H; have H := H1; clear H1
     simp only [Option.some.injEq, Prod.mk.injEq] at H
     obtain ⟨rfl, rfl, rfl⟩ := H
     go_wp2_with (first | ((with_reducible refine gate_callee (f := 107) rfl ?_); refine goesL_ (some 18) rfl rfl Try.func107 (by kernel_rfl) rfl #[.pointer (some ⟨g, 0, none⟩), .int .i64 8] rfl Cmp.q ?_; (with_reducible refine (spec_l1Once.calls g s0_0 D7 D8 8 false Dm Dn w0 _ ?side1 ?side2 F8.out).mono ?_); (case side1 => exact IsS121.go Dd.out); (case side2 => exact IsS121.bl HB.out); rintro e w39 ⟨rfl, hi, hb, hk⟩; refine ⟨_, rfl, ?_⟩; replace D0 := Aside0.mk (Kd.R_mono (Kd.R_keep (IsS121.apart (show IsS121 w0 _ g s0_0 D7 D8 from IsS121.go Dd.out) (Cmp.rr D0.out) (by decide)) hk (fun _ h => h.2)) (fun _ h => h.1)); replace D2 := Aside0.mk (KeepBut.blk hk (g' := D9) (o := .cells #[.slice none 0 0] 41 (0, 0)) (Cmp.b D2.out) De.out (by simp)); replace D1 := Aside0.mk (KeepBut.blk hk (g' := D6) (o := .cells #[D5] 41 (0, 0)) (Cmp.b D1.out) Da.out (by simp)); replace HK := Aside0.mk (KeepBut.trans (Cmp.kk HK.out) hk (.inl rfl)); replace HB := Aside0.mk (hb); replace Dd := Aside0.mk (hi); (try clear hb); (try clear hb2); (try clear hk); (try clear hi); have Fk := Dc.out; have Fu := Db.out; have Fl := Da.out; have Fv := Df.out; have Em := Cmp.c0 D1; have Es := blk_frozen D1.out 0; obtain ⟨E6, Eb, F4⟩ := Kd.R_slice D0.out; subst F4; have Fm := De.out; have Fw := Di.out; have En := Cmp.c0 D2; have Et := blk_frozen D2.out 0))
     refine bodyPost_ret (results_cell_row rfl _ _ D9 41 #[.slice E6 D4.length Eb] (0, 0) _ rfl (Cmp.bw D2.out) Try.underlying41 rfl (by kernel_rfl)) rfl ?_
     exact ⟨_, by first | rfl | (simp [errW_none, errW_some] <;> rfl) | (simp [*, errW_none, errW_some] <;> rfl), by (with_reducible repeat (first | apply Kd.R_alloc | apply Kd.R_drewN | apply Kd.R_drew)); exact Kd.R_mono (Kd.R_far (p := ⟨D9, 0, none⟩) (Kd.R_types D0.out D2.out (by decide)) (fun _ hk => hk.2) (.slice E6 D4.length Eb)) (fun _ hk => trivial), IsS121.go Dd.out, IsS121.bl HB.out, Cmp.kk HK.out⟩

end Go.Proofs.Ytoffbjjkegeccaa.PFnDeletion

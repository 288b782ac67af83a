/- Printed functions of the program (by a changed copy of the printer). No condition. -/
import Derived.Test.YtoffbjjkegeccaaCmp
import Derived.Test.YtoffbjjkegeccaaPFnDeletionx0
import Derived.Test.YtoffbjjkegeccaaPFnDeletionx2
import Derived.Test.YtoffbjjkegeccaaPFnDeletionx8
namespace Go.Proofs.Ytoffbjjkegeccaa.PFnDeletion
open Go.Proofs.Ytoffbjjkegeccaa
open Go.RowKit Go.Proofs.YtoffbjjkegeccaaW.PrintWords Go.Proofs.YtoffbjjkegeccaaW.PrintLast Go.Proofs.YtoffbjjkegeccaaW.PrintMore
attribute [local go_sem] max2_int min2_int max_two min_two max_three min_three max_four min_four   -- for this text's walks alone
set_option linter.unusedVariables false
set_option linter.unusedSimpArgs false

/-! ### spec_DrawFindEntry: function 56 -/
def spec_DrawFindEntry.f (k : Nat) (l0 : List Int) : Option ((List (S49)) × Int × Int) := (spec_l1New.f k l0).bind fun bt307 => ((spec_l17Any.f k bt307.1 bt307.2.1 bt307.2.2).bind fun bt311 => ((spec_l1Below.f bt307.1 bt311.2.1 bt311.2.2 6).bind fun bt317 => ((spec_l1Below.f bt307.1 bt317.2.1 bt317.2.2 5).bind fun bt320 => (some (bt311.1, wrap64 (bt317.1 - 1), wrap64 (bt320.1 - 1))))))
theorem spec_DrawFindEntry.mono : ∀ a0 k, LeO (spec_DrawFindEntry.f k a0) (spec_DrawFindEntry.f (k + 1) a0) := by
  intro a0 k
  unfold spec_DrawFindEntry.f
  repeat' first
      | (with_reducible exact spec_l17Any.mono _ _ _ _)
      | (with_reducible exact spec_l1New.mono _ _)
      | (with_reducible exact LeO.refl _)
      | (with_reducible exact LeO.none _)
      | (with_reducible refine LeO.ite ?_ ?_)
      | (with_reducible refine LeO.bind ?_ (fun _ => ?_))
      | exact spec_l17Any.mono _ _ _ _
      | exact spec_l1New.mono _ _
      | exact LeO.none _
      | refine LeO.ite ?_ ?_
      | refine LeO.bind ?_ (fun _ => ?_)
def spec_DrawFindEntry.T4 : Bool × List (List Nat × List Nat) := (true, [([], []), ([], []), ([], []), ([2], [2]), ([3], [3]), ([0, 3, 0], [0]), ([1, 5, 0, 1, 5], [1]), ([4, 6, 0, 1, 2, 3, 4, 5, 6], [4])])
def spec_DrawFindEntry.B4 : List Nat := [0, 0, 0, 4, 12, 13, 47, 127]
theorem spec_DrawFindEntry.tab4 : rtab .any (opsOf Try.f56 4) = spec_DrawFindEntry.T4 := by kernel_rfl
theorem spec_DrawFindEntry.bits4 : waitsOk spec_DrawFindEntry.T4.2 spec_DrawFindEntry.B4 = true := by kernel_rfl
set_option maxHeartbeats 8000000 in
set_option maxRecDepth 100000 in
theorem spec_DrawFindEntry.calls (k : Nat) (A0 : Option Addr) (c0 : Nat) (l0 : List Int) (r1 : List (S49)) (r2 : Int) (r3 : Int) (w : World) (hr0 : Kd.C (Kd.int .u8) w A0 l0.length l0) (hc0 : l0.length ≤ c0) (h : spec_DrawFindEntry.f k l0 = some (r1, r2, r3)) :
    Calls Try.prog 56 #[.slice A0 l0.length c0] w fun e w' => ∃ v0_ : Value, e = .returned (.tuple #[.agg #[v0_], .int .i64 r2, .int .i64 r3]) ∧ Kd.R k49 49 w' w.heap.size (fun _ => True) v0_ r1 ∧ Below w.heap.size w w' := by
 have hu41 := Try.underlying41; have HR0 := Aside0.mk hr0; have HC0 := Aside0.mk hc0; clear hr0 hc0
 have HB := Aside0.mk (Below.refl w.heap.size w)
 have H : ((spec_l1New.f k l0).bind fun bt307 => ((spec_l17Any.f k bt307.1 bt307.2.1 bt307.2.2).bind fun bt311 => ((spec_l1Below.f bt307.1 bt311.2.1 bt311.2.2 6).bind fun bt317 => ((spec_l1Below.f bt307.1 bt317.2.1 bt317.2.2 5).bind fun bt320 => (some (bt311.1, wrap64 (bt317.1 - 1), wrap64 (bt320.1 - 1))))))) = some (r1, r2, r3) := h
 clear h; replace H := Option.bind_eq_some_iff.mp H; obtain ⟨⟨Da, Dk, Dl⟩, Dt, H⟩ := H; (try dsimp only at H); have A2 := Aside0.mk Dt; clear Dt; replace H := Option.bind_eq_some_iff.mp H; obtain ⟨⟨Db, Df, Dg⟩, Du, H⟩ := H; (try dsimp only at H); have A3 := Aside0.mk Du; clear Du; replace H := Option.bind_eq_some_iff.mp H; obtain ⟨⟨Dp, Dh, Di⟩, Dv, H⟩ := H; (try dsimp only at H); have A4 := Aside0.mk Dv; clear Dv; replace H := Option.bind_eq_some_iff.mp H; obtain ⟨⟨Dq, Dr, Ds⟩, Dw, H⟩ := H; (try dsimp only at H); have A5 := Aside0.mk Dw; clear Dw
 simp only [Option.some.injEq, Prod.mk.injEq] at H
 obtain ⟨rfl, rfl, rfl⟩ := H
 go_enter Try.func56, Try.ntmps56
 try go_wp2_with (first | ((with_reducible refine gate_dst (N := 2) rfl ?_); refine box_event ?hg (N := 2) ?hd (cs := #[.slice none 0 0]) (t := 41) ?hr ?_; (case hd => rfl); (case hg => rfl); (case hr => first | (go_simp; done) | (go_simp; rfl)); intro D4 hg w6 hbox hb; have D0 := Aside0.mk (hbox); have Dz := Cmp.gw hg HB; have Dx := Cmp.gw hg HB; replace HB := Cmp.bs HB hb; clear hb hbox hg) | ((with_reducible refine gate_callee (f := 86) rfl ?_); refine goesL_ (some 9) rfl rfl Try.func86 (by kernel_rfl) rfl #[.slice A0 l0.length c0] rfl Cmp.q ?_; (with_reducible refine (spec_l1New.calls k _ _ l0 Da Dk Dl w _ ?side1 ?side2 ?side3 A2.out).mono ?_); (case side1 => exact Cmp.g HB.out); (case side2 => exact HR0.out); (case side3 => exact HC0.out); rintro e w7 ⟨g310, rfl, hi, hb, hb2⟩; refine ⟨_, rfl, ?_⟩; have D1 := Aside0.mk (hi); have Dj := Aside0.mk (IsS121.ne_blk hi (blk_below (g := D4) (o := .cells #[.slice none 0 0] 41 (0, 0)) (Cmp.b D0.out) hb2) (by decide)); have D5 := Aside0.mk (Ne.symm (IsS121.ne_blk hi (blk_below (g := D4) (o := .cells #[.slice none 0 0] 41 (0, 0)) (Cmp.b D0.out) hb2) (by decide))); replace D0 := Aside0.mk (blk_below (g := D4) (o := .cells #[.slice none 0 0] 41 (0, 0)) (Cmp.b D0.out) hb2); replace HB := Aside0.mk (hb); (try clear hb); (try clear hb2); (try clear hk); (try clear hi)) | ((with_reducible refine gate_callee (f := 87) rfl ?_); refine goesL_ (some 11) rfl rfl Try.func87 (by kernel_rfl) rfl #[.pointer (some ⟨g310, 0, none⟩)] rfl Cmp.q ?_; (with_reducible refine (spec_l17Any.calls k g310 Da Dk Dl Db Df Dg w _ ?side1 ?side2 A3.out).mono ?_); (case side1 => exact IsS121.go D1.out); (case side2 => exact IsS121.bl HB.out); rintro e w8 ⟨v312, rfl, E5, hi, hb, hk⟩; refine ⟨_, rfl, ?_⟩; have D3 := Aside0.mk (Kd.R_lower E5 (below_size (IsS121.bl HB.out))); replace D0 := Aside0.mk (KeepBut.blk hk (g' := D4) (o := .cells #[.slice none 0 0] 41 (0, 0)) (Cmp.b D0.out) D5.out (by simp)); replace HB := Aside0.mk (hb); replace D1 := Aside0.mk (hi); (try clear hb); (try clear hb2); (try clear hk); (try clear hi); (try clear E5)) | ((with_reducible refine gate_dst (N := 6) rfl ?_); refine box_event ?hg (N := 6) ?hd (cs := #[.slice none 0 0]) (t := 41) ?hr ?_; (case hd => rfl); (case hg => rfl); (case hr => first | (go_simp; done) | (go_simp; rfl)); intro D8 hg w9 hbox hb; have D2 := Aside0.mk (hbox); have E0 := Aside0.mk ((by rw [hg]; exact (below_size (IsS121.bl HB.out)) : w.heap.size ≤ D8)); have Dy := Aside0.mk ((by rw [hg]; exact (below_size (IsS121.bl HB.out)) : w.heap.size ≤ D8)); have D9 := Cmp.nl hg D0; have D6 := Cmp.ng hg D0; have Dd := Aside0.mk ((by rw [hg]; exact Nat.ne_of_lt (IsS121.lt (show IsS121 w _ g310 Da Df Dg from IsS121.go D1.out)) : g310 ≠ D8)); have D7 := Aside0.mk ((by rw [hg]; exact Nat.ne_of_gt (IsS121.lt (show IsS121 w _ g310 Da Df Dg from IsS121.go D1.out)) : D8 ≠ g310)); replace D3 := Aside0.mk (Kd.R_below (Cmp.rr D3.out) hb); replace D0 := Cmp.be D0 hb; replace HB := Aside0.mk (below_step (IsS121.bl HB.out) hb); replace D1 := Aside0.mk (IsS121.below (IsS121.go D1.out) hb); clear hb hbox hg; obtain ⟨Dc, De, Do⟩ := Kd.R_slice D3.out; subst Do; have E1 := D6.out; have E3 := D9.out; have E2 := D7.out; have E4 := Dd.out; have Dm := Cmp.c0 D2; have Dn := blk_frozen D2.out 0) | ((with_reducible refine gate_callee (f := 88) rfl ?_); refine goesL_ (some 13) rfl rfl Try.func88 (by kernel_rfl) rfl #[.pointer (some ⟨g310, 0, none⟩), .int .i64 6] rfl Cmp.q ?_; (with_reducible refine (spec_l1Below.calls g310 Da Df Dg 6 Dp Dh Di w _ ?side1 ?side2 A4.out).mono ?_); (case side1 => exact IsS121.go D1.out); (case side2 => exact IsS121.bl HB.out); rintro e w14 ⟨rfl, hi, hb, hk⟩; refine ⟨_, rfl, ?_⟩; replace D0 := Aside0.mk (KeepBut.blk hk (g' := D4) (o := .cells #[.slice none 0 0] 41 (0, 0)) (Cmp.bw D0.out) D5.out (by simp)); replace D3 := Aside0.mk (Kd.R_mono (Kd.R_keep (IsS121.apart (show IsS121 w _ g310 Da Df Dg from IsS121.go D1.out) (by (with_reducible repeat (first | apply Kd.R_alloc | apply Kd.R_drewN | apply Kd.R_drew)); exact (Kd.R_mono (Kd.R_far (p := ⟨D8, 0, none⟩) (Kd.R_types D3.out D2.out (by decide)) (fun _ hk => hk.2) (.slice Dc Db.length De)) (fun _ h_ => h_.1))) (by decide)) hk (fun _ h => h.2)) (fun _ h => h.1)); replace D2 := Aside0.mk (KeepBut.blk hk (g' := D8) (o := .cells #[.slice Dc Db.length De] 41 (0, 0)) (Cmp.bw D2.out) D7.out (by simp)); replace HB := Aside0.mk (hb); replace D1 := Aside0.mk (hi); (try clear hb); (try clear hb2); (try clear hk); (try clear hi)))
 have n0_ := Aside0.mk (Kd.R_drew D3.out); have n1_ := Aside0.mk (blk_drew D0.out); have n2_ := Aside0.mk (blk_drew D2.out)
 have n3_ := Aside0.mk (IsS121.drew D1.out)
 have n4_ := Aside0.mk (below_drew1 HB.out); clear D3; clear D0; clear D2; clear D1; clear HB; have D3 := n0_; have D0 := n1_; have D2 := n2_; have D1 := n3_; have HB := n4_; clear n0_ n1_ n2_ n3_ n4_
 refine start_ (n := 8) (S := fun w' => w'.cell? ⟨D8, 0, none⟩ = some (.slice Dc Db.length De)) (ds := []) (Cmp.bm 0 8) (by kernel_rfl) rfl rfl (Cmp.c0 D2 :) (fun hHeld => ?_); refine with_tabW spec_DrawFindEntry.tab4 spec_DrawFindEntry.bits4 (fun HT_ HW_ => ?_)
 generalize w14.drew = w15 at D3 D0 D2 D1 HB hHeld ⊢
 refine Cmp.pu HT_ 1 16 (Cmp.bb 8 2) ?_; refine Cmp.pu HT_ 2 17 (Cmp.bb 8 6) ?_
 refine take_ (i := 0) (N := some 15) (v := ?_) (a' := ?_) (Cmp.bm 3 5) rfl rfl (take_ofW HT_.out HW_.out (by kernel_rfl)) (fun _ _ _ h => h) (Or.inl ⟨by rfl, ?_⟩) hHeld ?_ ?_
 rotate_left
 ·intro w' s0
  go_simp; with_reducible rfl
 rotate_left
 ·simp only [Act.put, Cmp.s, Cmp.z, Cmp.c, i64_w, i32_w]; rfl
 refine one_ (i := 3) (N := some 18) (Cmp.bm 4 4) rfl rfl (one_of HT_.out (by kernel_rfl)) (by decide) (fun K hK => ?_)
 refine goes_ Try.func88 (by kernel_rfl) rfl #[.pointer (some ⟨g310, 0, none⟩), .int .i64 5] (by rfl) rfl rfl Cmp.q ?_
 with_reducible refine (spec_l1Below.calls g310 Da Dh Di 5 Dq Dr Ds w _ ?side1 ?side2 A5.out).mono ?_
 (case side1 => exact IsS121.go D1.out)
 (case side2 => exact IsS121.bl HB.out)
 rintro e w16 ⟨rfl, hi, hb, hk⟩; refine ⟨_, rfl, ?_⟩
 have n0_ := Aside0.mk (KeepBut.blk hk (g' := D4) (o := .cells #[.slice none 0 0] 41 (0, 0)) (Cmp.b D0.out) D5.out (by simp))
 have n1_ := Aside0.mk (Kd.R_mono (Kd.R_keep (IsS121.apart (show IsS121 w _ g310 Da Dh Di from IsS121.go D1.out) (Cmp.rr D3.out) (by decide)) hk (fun _ h => h.2)) (fun _ h => h.1))
 have n2_ := Aside0.mk (KeepBut.blk hk (g' := D8) (o := .cells #[.slice Dc Db.length De] 41 (0, 0)) (Cmp.b D2.out) D7.out (by simp))
 have n3_ := Aside0.mk (hb)
 have n4_ := Aside0.mk (hi)
 clear D0; clear D3; clear D2; clear HB; clear D1; have D0 := n0_; have D3 := n1_; have D2 := n2_; have HB := n3_; have D1 := n4_; clear n0_ n1_ n2_ n3_ n4_; (try clear hb); (try clear hb2); (try clear hk); (try clear hi)
 refine hK.out _ _ (Cmp.c0 D2 :) (fun hHeld => ?_)
 clear hK K
 refine norm_ (a' := ?_) ?_ ?_
 rotate_left
 ·show Act.put _ (some 18) _ = _
  simp only [Act.put, Cmp.s, Cmp.z, Cmp.c, i64_w, i32_w]; rfl
 refine Cmp.pu HT_ 4 19 (Cmp.bm 5 3) ?_
 refine one_ (i := 5) (N := none) (Cmp.bm 6 2) rfl rfl (one_of HT_.out (by kernel_rfl)) (by decide) (fun K hK => ?_)
 have hs17 : w16.cell? ⟨D4, 0, none⟩ = some (.slice none 0 0) := (blk_cell D0.out 0).trans rfl
 have hfs17 := blk_frozen D0.out 0; have hns17_1 := D6.out; have hms17_1 := D9.out
 refine skip_ (w1 := ?_) (by rfl) rfl ?_ ?_
 rotate_left
 ·go_simp; rfl
 refine hK.out _ _ (((cell_far (p := ⟨D4, _, none⟩) D6.out _).trans (hHeld))) (fun hHeld => ?_)
 clear hK K
 refine Cmp.pu HT_ 6 3 (Cmp.bm 7 1) ?_; refine Cmp.pu HT_ 7 4 (Cmp.bm 8 0) ?_
 refine done_ (done_of HT_.out (by kernel_rfl)) ?_
 try go_wp2
 refine bodyPost_ret (results_ctt rfl _ _ D4 41 #[.slice Dc Db.length De] (0, 0) _ rfl (Cmp.bw D0.out) Try.underlying41 rfl (by kernel_rfl)) rfl ?_
 exact ⟨_, by first | rfl | (simp [errW_none, errW_some] <;> rfl) | (simp [*, errW_none, errW_some] <;> rfl), by (with_reducible repeat (first | apply Kd.R_alloc | apply Kd.R_drewN | apply Kd.R_drew)); exact Kd.R_mono (Kd.R_far (p := ⟨D4, 0, none⟩) (Kd.R_types D3.out D0.out (by decide)) (fun _ hk => hk.2) (.slice Dc Db.length De)) (fun _ hk => trivial), IsS121.bl HB.out⟩

/-! ### spec_DrawDeleteEntry: function 21 -/
def spec_DrawDeleteEntry.f (k : Nat) (l0 : List Int) : Option ((List (S49)) × Int × Int) := (spec_DrawFindEntry.f k l0).bind fun bt324 => (some (bt324.1, bt324.2.1, bt324.2.2))
theorem spec_DrawDeleteEntry.mono : ∀ a0 k, LeO (spec_DrawDeleteEntry.f k a0) (spec_DrawDeleteEntry.f (k + 1) a0) := by
  intro a0 k
  unfold spec_DrawDeleteEntry.f
  repeat' first
      | (with_reducible exact spec_DrawFindEntry.mono _ _)
      | (with_reducible exact LeO.refl _)
      | (with_reducible exact LeO.none _)
      | (with_reducible refine LeO.ite ?_ ?_)
      | (with_reducible refine LeO.bind ?_ (fun _ => ?_))
      | exact spec_DrawFindEntry.mono _ _
      | exact LeO.none _
      | refine LeO.ite ?_ ?_
      | refine LeO.bind ?_ (fun _ => ?_)
set_option maxHeartbeats 8000000 in
set_option maxRecDepth 100000 in
theorem spec_DrawDeleteEntry.calls (k : Nat) (A0 : Option Addr) (c0 : Nat) (l0 : List Int) (r1 : List (S49)) (r2 : Int) (r3 : Int) (w : World) (hr0 : Kd.C (Kd.int .u8) w A0 l0.length l0) (hc0 : l0.length ≤ c0) (h : spec_DrawDeleteEntry.f k l0 = some (r1, r2, r3)) :
    Calls Try.prog 21 #[.slice A0 l0.length c0] w fun e w' => ∃ v0_ : Value, e = .returned (.tuple #[.agg #[v0_], .int .i64 r2, .int .i64 r3]) ∧ Kd.R k49 49 w' w.heap.size (fun _ => True) v0_ r1 ∧ Below w.heap.size w w' := by
 have hu41 := Try.underlying41; have HR0 := Aside0.mk hr0; have HC0 := Aside0.mk hc0; clear hr0 hc0
 have HB := Aside0.mk (Below.refl w.heap.size w)
 have H : ((spec_DrawFindEntry.f k l0).bind fun bt324 => (some (bt324.1, bt324.2.1, bt324.2.2))) = some (r1, r2, r3) := h
 clear h; replace H := Option.bind_eq_some_iff.mp H; obtain ⟨⟨D3, D6, D7⟩, D8, H⟩ := H; (try dsimp only at H); have A2 := Aside0.mk D8; clear D8
 simp only [Option.some.injEq, Prod.mk.injEq] at H
 obtain ⟨rfl, rfl, rfl⟩ := H
 go_enter Try.func21, Try.ntmps21
 go_wp2_with (first | ((with_reducible refine gate_dst (N := 2) rfl ?_); refine box_event ?hg (N := 2) ?hd (cs := #[.slice none 0 0]) (t := 41) ?hr ?_; (case hd => rfl); (case hg => rfl); (case hr => first | (go_simp; done) | (go_simp; rfl)); intro D2 hg w3 hbox hb; have D0 := Aside0.mk (hbox); have Db := Cmp.gw hg HB; have Da := Cmp.gw hg HB; replace HB := Cmp.bs HB hb; clear hb hbox hg) | ((with_reducible refine gate_callee (f := 56) rfl ?_); refine goesL_ (some 6) rfl rfl Try.func56 (by kernel_rfl) rfl #[.slice A0 l0.length c0] rfl Cmp.q ?_; (with_reducible refine (spec_DrawFindEntry.calls k _ _ l0 D3 D6 D7 _ ?side1 ?side2 A2.out).mono ?_); (case side1 => exact Cmp.rc (Kd.C_below HR0.out HB.out)); (case side2 => exact HC0.out); rintro e w4 ⟨v325, rfl, Dd, hb⟩; refine ⟨_, rfl, ?_⟩; have D1 := Aside0.mk (Kd.R_lower Dd (below_size (Cmp.g HB.out))); replace D0 := Cmp.be D0 hb; replace HB := Cmp.bs HB hb; (try clear hb); (try clear hb2); (try clear hk); (try clear hi); (try clear Dd); obtain ⟨D9, Dc, De⟩ := Kd.R_slice D1.out; subst De; have D4 := Cmp.c0 D0; have D5 := blk_frozen D0.out 0))
 refine bodyPost_ret (results_ctt rfl _ _ D2 41 #[.slice D9 D3.length Dc] (0, 0) _ rfl (Cmp.bw D0.out) Try.underlying41 rfl (by kernel_rfl)) rfl ?_
 exact ⟨_, by first | rfl | (simp [errW_none, errW_some] <;> rfl) | (simp [*, errW_none, errW_some] <;> rfl), by (with_reducible repeat (first | apply Kd.R_alloc | apply Kd.R_drewN | apply Kd.R_drew)); exact Kd.R_mono (Kd.R_far (p := ⟨D2, 0, none⟩) (Kd.R_types D1.out D0.out (by decide)) (fun _ hk => hk.2) (.slice D9 D3.length Dc)) (fun _ hk => trivial), Cmp.g HB.out⟩

/-! ### impl_FindEntry: function 25 -/
def impl_FindEntry.l0 : Nat → Int → Int → List (S49) → Int → Int → Option (Int)
  | 0, _, _, _, _, _ => none
  | k + 1, x1, x2, x10, x11, x12 => if x12 < x11 then (if 0 ≤ x12 then (if x12 < (x10.length : Int) then (if ((rd_T49 x10 x12).f0) = x1 then (if ((rd_T49 x10 x12).f1) = x2 then (some x12) else (impl_FindEntry.l0 k x1 x2 x10 x11 (wrap64 (x12 + 1)))) else (impl_FindEntry.l0 k x1 x2 x10 x11 (wrap64 (x12 + 1)))) else (none)) else (none)) else (some (-1))
def impl_FindEntry.f (k : Nat) (l0_0 : List (S49)) (a1 : Int) (a2 : Int) : Option (Int) := impl_FindEntry.l0 k a1 a2 l0_0 (l0_0.length : Int) 0
theorem impl_FindEntry.mono_l : ∀ k, (∀ y0 y1 y2 y3 y4, LeO (impl_FindEntry.l0 k y0 y1 y2 y3 y4) (impl_FindEntry.l0 (k + 1) y0 y1 y2 y3 y4))
  | 0 => fun _ _ _ _ _ r h => by simp [impl_FindEntry.l0] at h
  | k + 1 => by
    have ih0 := impl_FindEntry.mono_l k
    · intro y0 y1 y2 y3 y4
      unfold impl_FindEntry.l0
      repeat' first
      | (with_reducible exact ih0 _ _ _ _ _)
      | (with_reducible exact LeO.refl _)
      | (with_reducible exact LeO.none _)
      | (with_reducible refine LeO.ite ?_ ?_)
      | (with_reducible refine LeO.bind ?_ (fun _ => ?_))
      | exact ih0 _ _ _ _ _
      | exact LeO.none _
      | refine LeO.ite ?_ ?_
      | refine LeO.bind ?_ (fun _ => ?_)
theorem impl_FindEntry.mono : ∀ a0 a1 a2 k, LeO (impl_FindEntry.f k a0 a1 a2) (impl_FindEntry.f (k + 1) a0 a1 a2) := by
  intro a0 a1 a2 k
  have ih0 := impl_FindEntry.mono_l k
  unfold impl_FindEntry.f
  repeat' first
      | (with_reducible exact ih0 _ _ _ _ _)
      | (with_reducible exact LeO.refl _)
      | (with_reducible exact LeO.none _)
      | (with_reducible refine LeO.ite ?_ ?_)
      | (with_reducible refine LeO.bind ?_ (fun _ => ?_))
      | exact ih0 _ _ _ _ _
      | exact LeO.none _
      | refine LeO.ite ?_ ?_
      | refine LeO.bind ?_ (fun _ => ?_)
set_option maxHeartbeats 8000000 in
set_option maxRecDepth 100000 in
theorem impl_FindEntry.calls (k : Nat) (A0_0 : Option Addr) (c0_0 : Nat) (l0_0 : List (S49)) (a1 : Int) (a2 : Int) (r : Int) (w : World) (hr0_0 : Kd.C k49 w A0_0 l0_0.length l0_0) (hc0_0 : l0_0.length ≤ c0_0) (h : impl_FindEntry.f k l0_0 a1 a2 = some r) :
    Calls Try.prog 25 #[.agg #[.slice A0_0 l0_0.length c0_0], .int .i64 a1, .int .i64 a2] w fun e w' => e = .returned (.int .i64 r) ∧ Below w.heap.size w w' := by
 have hu41 := Try.underlying41; have hu49 := Try.underlying49; have D9 := Aside0.mk hr0_0; have HC0_0 := Aside0.mk hc0_0; clear hr0_0 hc0_0
 have HB := Aside0.mk (Below.refl w.heap.size w)
 have H : (impl_FindEntry.l0 k a1 a2 l0_0 (l0_0.length : Int) 0) = some r := h
 clear h
 have H' := Aside0.mk H
 clear H
 go_enter Try.func25, Try.ntmps25
 go_wp2_with (first | ((with_reducible refine gate_dst (N := 3) rfl ?_); refine box_event ?hg (N := 3) ?hd (cs := #[.slice A0_0 l0_0.length c0_0]) (t := 41) ?hr ?_; (case hd => rfl); (case hg => rfl); (case hr => first | (go_simp; done) | (go_simp; rfl)); intro Dg hg w4 hbox hb; have D2 := Aside0.mk (hbox); have E6 := Cmp.gw hg HB; have E5 := Cmp.gw hg HB; replace HB := Cmp.bs HB hb; clear hb hbox hg; have De := Cmp.c0 D2; have Df := blk_frozen D2.out 0))
 go_loopg [12] k (fun kq v12 w' => ∃ (D0 : Int), v12 = .int .i64 D0 ∧ Aside0 (impl_FindEntry.l0 kq a1 a2 l0_0 (l0_0.length : Int) D0 = some r) ∧ Aside0 (kq ≤ k) ∧ Aside0 (w'.heap[Dg]? = some (.cells #[(.slice A0_0 l0_0.length c0_0)] 41 (0, 0))) ∧ Aside0 (Below w.heap.size w w'))
 case atStart => exact ⟨(0), (by first | rfl | simp | simp [*]), H', ⟨Nat.le_refl _⟩, Cmp.bq D2, ⟨Cmp.g HB.out⟩⟩
 case round =>
  clear H'
  (try clear c2); (try clear p2); (try clear De); (try clear Df)
  obtain ⟨D0, rfl, HA, HK1, D2, HB⟩ := hrel
  cases gk with
  | zero => exact absurd HA.out (by simp [impl_FindEntry.l0])
  | succ k1 =>
   have H := HA.out; clear HA
   simp only [impl_FindEntry.l0] at H
   by_cases c6 : D0 < (l0_0.length : Int)
   ·rw [if_pos c6] at H
    have c6b0 : decide (D0 < (l0_0.length : Int)) = true := decide_eq_true c6
    clear c6
    by_cases c7 : 0 ≤ D0
    ·rw [if_pos c7] at H; have c7b0 : decide (0 ≤ D0) = true := decide_eq_true c7; clear c7
     by_cases c8 : D0 < (l0_0.length : Int)
     ·rw [if_pos c8] at H
      have c8b0 : decide (D0 < (l0_0.length : Int)) = true := decide_eq_true c8
      clear c8
      by_cases c9 : ((rd_T49 l0_0 D0).f0) = a1
      ·rw [if_pos c9] at H; have c9b0 : (((rd_T49 l0_0 D0).f0) == a1) = true := beq_iff_eq.mpr c9; have c9b1 : (((rd_T49 l0_0 D0).f0) != a1) = false := bne_eq_false_iff_eq.mpr c9; clear c9
       by_cases c10 : ((rd_T49 l0_0 D0).f1) = a2
       ·rw [if_pos c10] at H; have c10b0 : (((rd_T49 l0_0 D0).f1) == a2) = true := beq_iff_eq.mpr c10; have c10b1 : (((rd_T49 l0_0 D0).f1) != a2) = false := bne_eq_false_iff_eq.mpr c10; clear c10
        obtain rfl := Option.some.inj H
        have p330 : 0 ≤ (D0 : Int) := of_decide_eq_true Cmp.d
        have q330 : D0 < (l0_0.length : Int) := of_decide_eq_true Cmp.d
        obtain ⟨Dc, e330, D3, D4, D5, D6⟩ := at_T49 D9.out D0 p330 q330
        cases e330
        replace D3 := Cmp.hc HB D3
        replace D4 := Cmp.hc HB D4
        replace D5 := Cmp.hc HB D5
        replace D6 := Cmp.hc HB D6
        replace p330 := eq_true p330; replace q330 := eq_true q330
        go_wp2_with (first | ((with_reducible refine gate_dst (N := 8) rfl ?_); refine box_event ?hg (N := 8) ?hd (cs := #[.int .i64 0, .int .i64 0, .int .i64 0, .bool false]) (t := 49) ?hr ?_; (case hd => rfl); (case hg => rfl); (case hr => first | (go_simp; done) | (go_simp; rfl)); intro Dd hg w11 hbox hb; have D1 := Aside0.mk (hbox); have Db := Cmp.gw hg HB; have Da := Cmp.gw hg HB; have D7 := Cmp.nl hg D2; have D8 := Cmp.ng hg D2; replace D2 := Cmp.be D2 hb; replace HB := Cmp.bs HB hb; clear hb hbox hg; have E7 := D8.out; have Ea := D7.out; have Dh := Cmp.c0 D1; have Di := Cmp.c1 D1; have Dj := Cmp.c2 D1; have Dk := Cmp.c3 D1; have Dt := blk_frozen D1.out 0; have Du := blk_frozen D1.out 1; have Dv := blk_frozen D1.out 2; have Dw := blk_frozen D1.out 3))
        go_ret
        exact ⟨by first | rfl | (simp [errW_none, errW_some] <;> rfl) | (simp [*, errW_none, errW_some] <;> rfl), Cmp.g HB.out⟩
       ·rw [if_neg c10] at H; have c10b0 : (((rd_T49 l0_0 D0).f1) == a2) = false := beq_eq_false_iff_ne.mpr c10; have c10b1 : (((rd_T49 l0_0 D0).f1) != a2) = true := bne_iff_ne.mpr c10
        have H' := Aside0.mk H
        clear H
        have p330 : 0 ≤ (D0 : Int) := of_decide_eq_true Cmp.d
        have q330 : D0 < (l0_0.length : Int) := of_decide_eq_true Cmp.d
        obtain ⟨Dc, e330, D3, D4, D5, D6⟩ := at_T49 D9.out D0 p330 q330
        cases e330
        replace D3 := Cmp.hc HB D3
        replace D4 := Cmp.hc HB D4
        replace D5 := Cmp.hc HB D5
        replace D6 := Cmp.hc HB D6
        replace p330 := eq_true p330; replace q330 := eq_true q330
        go_wp2_with (first | ((with_reducible refine gate_dst (N := 8) rfl ?_); refine box_event ?hg (N := 8) ?hd (cs := #[.int .i64 0, .int .i64 0, .int .i64 0, .bool false]) (t := 49) ?hr ?_; (case hd => rfl); (case hg => rfl); (case hr => first | (go_simp; done) | (go_simp; rfl)); intro Dd hg w14 hbox hb; have D1 := Aside0.mk (hbox); have Db := Cmp.gw hg HB; have Da := Cmp.gw hg HB; have D7 := Cmp.nl hg D2; have D8 := Cmp.ng hg D2; replace D2 := Cmp.be D2 hb; replace HB := Cmp.bs HB hb; clear hb hbox hg; have E8 := D8.out; have Eb := D7.out; have Dl := Cmp.c0 D1; have Dm := Cmp.c1 D1; have Dn := Cmp.c2 D1; have Do := Cmp.c3 D1; have Dx := blk_frozen D1.out 0; have Dy := blk_frozen D1.out 1; have Dz := blk_frozen D1.out 2; have E0 := blk_frozen D1.out 3))
        go_roundg k1
        case measure => have := HK1.out; omega
        case rel => exact ⟨(wrap64 (D0 + 1)), (by first | rfl | simp | simp [*]), H', ⟨by have := HK1.out; omega⟩, ⟨Cmp.bw D2.out⟩, ⟨Cmp.g HB.out⟩⟩
      ·rw [if_neg c9] at H; have c9b0 : (((rd_T49 l0_0 D0).f0) == a1) = false := beq_eq_false_iff_ne.mpr c9; have c9b1 : (((rd_T49 l0_0 D0).f0) != a1) = true := bne_iff_ne.mpr c9
       have H' := Aside0.mk H
       clear H
       have p330 : 0 ≤ (D0 : Int) := of_decide_eq_true Cmp.d
       have q330 : D0 < (l0_0.length : Int) := of_decide_eq_true Cmp.d
       obtain ⟨Dc, e330, D3, D4, D5, D6⟩ := at_T49 D9.out D0 p330 q330
       cases e330
       replace D3 := Cmp.hc HB D3
       replace D4 := Cmp.hc HB D4
       replace D5 := Cmp.hc HB D5
       replace D6 := Cmp.hc HB D6
       replace p330 := eq_true p330; replace q330 := eq_true q330
       go_wp2_with (first | ((with_reducible refine gate_dst (N := 8) rfl ?_); refine box_event ?hg (N := 8) ?hd (cs := #[.int .i64 0, .int .i64 0, .int .i64 0, .bool false]) (t := 49) ?hr ?_; (case hd => rfl); (case hg => rfl); (case hr => first | (go_simp; done) | (go_simp; rfl)); intro Dd hg w17 hbox hb; have D1 := Aside0.mk (hbox); have Db := Cmp.gw hg HB; have Da := Cmp.gw hg HB; have D7 := Cmp.nl hg D2; have D8 := Cmp.ng hg D2; replace D2 := Cmp.be D2 hb; replace HB := Cmp.bs HB hb; clear hb hbox hg; have E9 := D8.out; have Ec := D7.out; have Dp := Cmp.c0 D1; have Dq := Cmp.c1 D1; have Dr := Cmp.c2 D1; have Ds := Cmp.c3 D1; have E1 := blk_frozen D1.out 0; have E2 := blk_frozen D1.out 1; have E3 := blk_frozen D1.out 2; have E4 := blk_frozen D1.out 3))
       go_roundg k1
       case measure => have := HK1.out; omega
       case rel => exact ⟨(wrap64 (D0 + 1)), (by first | rfl | simp | simp [*]), H', ⟨by have := HK1.out; omega⟩, ⟨Cmp.bw D2.out⟩, ⟨Cmp.g HB.out⟩⟩
     ·rw [if_neg c8] at H; exact absurd H (by simp)
    ·rw [if_neg c7] at H; exact absurd H (by simp)
   ·rw [if_neg c6] at H
    have c6b0 : decide (D0 < (l0_0.length : Int)) = false := decide_eq_false c6
    clear c6
    obtain rfl := Option.some.inj H
    go_wp2
    go_ret
    exact ⟨by first | rfl | (simp [errW_none, errW_some] <;> rfl) | (simp [*, errW_none, errW_some] <;> rfl), Cmp.g HB.out⟩

/-! ### impl_InRange: function 50 -/
def impl_InRange.f (a0 : Int) (a1 : Int) (a2 : Int) : Option (Bool) := if a1 ≤ a0 then (some (decide (a0 ≤ a2))) else (some false)
set_option maxHeartbeats 8000000 in
set_option maxRecDepth 100000 in
theorem impl_InRange.calls (a0 : Int) (a1 : Int) (a2 : Int) (r : Bool) (w : World) (h : impl_InRange.f a0 a1 a2 = some r) :
    Calls Try.prog 50 #[.int .i64 a0, .int .i64 a1, .int .i64 a2] w fun e w' => e = .returned (.bool r) ∧ Drawn0 w w' := by
 have H : (if a1 ≤ a0 then (some (decide (a0 ≤ a2))) else (some false)) = some r := h
 clear h
 by_cases c4 : a1 ≤ a0
 ·rw [if_pos c4] at H; have c4b0 : decide (a1 ≤ a0) = true := decide_eq_true c4; clear c4
  obtain rfl := Option.some.inj H
  go_enter Try.func50, Try.ntmps50
  go_wp2
  go_ret
  exact ⟨by first | rfl | (simp; done) | (simp [*]; done), by repeat (first | exact Drawn0.refl _ | apply Drawn0.step)⟩
 ·rw [if_neg c4] at H; have c4b0 : decide (a1 ≤ a0) = false := decide_eq_false c4; clear c4
  obtain rfl := Option.some.inj H
  go_enter Try.func50, Try.ntmps50
  go_wp2
  go_ret
  exact ⟨by first | rfl | (simp; done) | (simp [*]; done), by repeat (first | exact Drawn0.refl _ | apply Drawn0.step)⟩

/-! ### impl_entryBefore: function 63 -/
def impl_entryBefore.f (a0_0 : Int) (a0_1 : Int) (a0_2 : Int) (a0_3 : Bool) (a1_0 : Int) (a1_1 : Int) (a1_2 : Int) (a1_3 : Bool) : Option (Bool) := if a0_0 < a1_0 then (some true) else (if a0_0 = a1_0 then (some (decide (a0_1 < a1_1))) else (some false))
set_option maxHeartbeats 8000000 in
set_option maxRecDepth 100000 in
theorem impl_entryBefore.calls (a0_0 : Int) (a0_1 : Int) (a0_2 : Int) (a0_3 : Bool) (a1_0 : Int) (a1_1 : Int) (a1_2 : Int) (a1_3 : Bool) (r : Bool) (w : World) (h : impl_entryBefore.f a0_0 a0_1 a0_2 a0_3 a1_0 a1_1 a1_2 a1_3 = some r) :
    Calls Try.prog 63 #[.agg #[.int .i64 a0_0, .int .i64 a0_1, .int .i64 a0_2, .bool a0_3], .agg #[.int .i64 a1_0, .int .i64 a1_1, .int .i64 a1_2, .bool a1_3]] w fun e w' => e = .returned (.bool r) ∧ Below w.heap.size w w' := by
 have hu49 := Try.underlying49
 have HB := Aside0.mk (Below.refl w.heap.size w)
 have H : (if a0_0 < a1_0 then (some true) else (if a0_0 = a1_0 then (some (decide (a0_1 < a1_1))) else (some false))) = some r := h
 clear h
 by_cases c3 : a0_0 < a1_0
 ·rw [if_pos c3] at H; have c3b0 : decide (a0_0 < a1_0) = true := decide_eq_true c3; clear c3
  obtain rfl := Option.some.inj H
  go_enter Try.func63, Try.ntmps63
  go_wp2_with (first | ((with_reducible refine gate_dst (N := 2) rfl ?_); refine box_event ?hg (N := 2) ?hd (cs := #[.int .i64 a0_0, .int .i64 a0_1, .int .i64 a0_2, .bool a0_3]) (t := 49) ?hr ?_; (case hd => rfl); (case hg => rfl); (case hr => first | (go_simp; done) | (go_simp; rfl)); intro D8 hg w4 hbox hb; have D0 := Aside0.mk (hbox); have D6 := Cmp.gw hg HB; have D4 := Cmp.gw hg HB; replace HB := Cmp.bs HB hb; clear hb hbox hg) | ((with_reducible refine gate_dst (N := 3) rfl ?_); refine box_event ?hg (N := 3) ?hd (cs := #[.int .i64 a1_0, .int .i64 a1_1, .int .i64 a1_2, .bool a1_3]) (t := 49) ?hr ?_; (case hd => rfl); (case hg => rfl); (case hr => first | (go_simp; done) | (go_simp; rfl)); intro D9 hg w5 hbox hb; have D1 := Aside0.mk (hbox); have D7 := Cmp.gw hg HB; have D5 := Cmp.gw hg HB; have D2 := Cmp.nl hg D0; have D3 := Cmp.ng hg D0; replace D0 := Cmp.be D0 hb; replace HB := Cmp.bs HB hb; clear hb hbox hg; have Eq := D2.out; have Er := D3.out; have E6 := Cmp.c0 D0; have E7 := Cmp.c1 D0; have E8 := Cmp.c2 D0; have E9 := Cmp.c3 D0; have Ee := blk_frozen D0.out 0; have Ef := blk_frozen D0.out 1; have Eg := blk_frozen D0.out 2; have Eh := blk_frozen D0.out 3; have Ea := Cmp.c0 D1; have Eb := Cmp.c1 D1; have Ec := Cmp.c2 D1; have Ed := Cmp.c3 D1; have Ei := blk_frozen D1.out 0; have Ej := blk_frozen D1.out 1; have Ek := blk_frozen D1.out 2; have El := blk_frozen D1.out 3))
  go_ret
  exact ⟨by first | rfl | (simp [errW_none, errW_some] <;> rfl) | (simp [*, errW_none, errW_some] <;> rfl), Cmp.g HB.out⟩
 ·rw [if_neg c3] at H; have c3b0 : decide (a0_0 < a1_0) = false := decide_eq_false c3; clear c3
  by_cases c9 : a0_0 = a1_0
  ·rw [if_pos c9] at H; have c9b0 : (a0_0 == a1_0) = true := beq_iff_eq.mpr c9; have c9b1 : (a0_0 != a1_0) = false := bne_eq_false_iff_eq.mpr c9; clear c9
   obtain rfl := Option.some.inj H
   go_enter Try.func63, Try.ntmps63
   go_wp2_with (first | ((with_reducible refine gate_dst (N := 2) rfl ?_); refine box_event ?hg (N := 2) ?hd (cs := #[.int .i64 a0_0, .int .i64 a0_1, .int .i64 a0_2, .bool a0_3]) (t := 49) ?hr ?_; (case hd => rfl); (case hg => rfl); (case hr => first | (go_simp; done) | (go_simp; rfl)); intro D8 hg w10 hbox hb; have D0 := Aside0.mk (hbox); have D6 := Cmp.gw hg HB; have D4 := Cmp.gw hg HB; replace HB := Cmp.bs HB hb; clear hb hbox hg) | ((with_reducible refine gate_dst (N := 3) rfl ?_); refine box_event ?hg (N := 3) ?hd (cs := #[.int .i64 a1_0, .int .i64 a1_1, .int .i64 a1_2, .bool a1_3]) (t := 49) ?hr ?_; (case hd => rfl); (case hg => rfl); (case hr => first | (go_simp; done) | (go_simp; rfl)); intro D9 hg w11 hbox hb; have D1 := Aside0.mk (hbox); have D7 := Cmp.gw hg HB; have D5 := Cmp.gw hg HB; have D2 := Cmp.nl hg D0; have D3 := Cmp.ng hg D0; replace D0 := Cmp.be D0 hb; replace HB := Cmp.bs HB hb; clear hb hbox hg; have Em := D2.out; have Eo := D3.out; have Da := Cmp.c0 D0; have Db := Cmp.c1 D0; have Dc := Cmp.c2 D0; have Dd := Cmp.c3 D0; have Dq := blk_frozen D0.out 0; have Dr := blk_frozen D0.out 1; have Ds := blk_frozen D0.out 2; have Dt := blk_frozen D0.out 3; have De := Cmp.c0 D1; have Df := Cmp.c1 D1; have Dg := Cmp.c2 D1; have Dh := Cmp.c3 D1; have Du := blk_frozen D1.out 0; have Dv := blk_frozen D1.out 1; have Dw := blk_frozen D1.out 2; have Dx := blk_frozen D1.out 3))
   go_ret
   exact ⟨by first | rfl | (simp [errW_none, errW_some] <;> rfl) | (simp [*, errW_none, errW_some] <;> rfl), Cmp.g HB.out⟩
  ·rw [if_neg c9] at H; have c9b0 : (a0_0 == a1_0) = false := beq_eq_false_iff_ne.mpr c9; have c9b1 : (a0_0 != a1_0) = true := bne_iff_ne.mpr c9
   obtain rfl := Option.some.inj H
   go_enter Try.func63, Try.ntmps63
   go_wp2_with (first | ((with_reducible refine gate_dst (N := 2) rfl ?_); refine box_event ?hg (N := 2) ?hd (cs := #[.int .i64 a0_0, .int .i64 a0_1, .int .i64 a0_2, .bool a0_3]) (t := 49) ?hr ?_; (case hd => rfl); (case hg => rfl); (case hr => first | (go_simp; done) | (go_simp; rfl)); intro D8 hg w15 hbox hb; have D0 := Aside0.mk (hbox); have D6 := Cmp.gw hg HB; have D4 := Cmp.gw hg HB; replace HB := Cmp.bs HB hb; clear hb hbox hg) | ((with_reducible refine gate_dst (N := 3) rfl ?_); refine box_event ?hg (N := 3) ?hd (cs := #[.int .i64 a1_0, .int .i64 a1_1, .int .i64 a1_2, .bool a1_3]) (t := 49) ?hr ?_; (case hd => rfl); (case hg => rfl); (case hr => first | (go_simp; done) | (go_simp; rfl)); intro D9 hg w16 hbox hb; have D1 := Aside0.mk (hbox); have D7 := Cmp.gw hg HB; have D5 := Cmp.gw hg HB; have D2 := Cmp.nl hg D0; have D3 := Cmp.ng hg D0; replace D0 := Cmp.be D0 hb; replace HB := Cmp.bs HB hb; clear hb hbox hg; have En := D2.out; have Ep := D3.out; have Di := Cmp.c0 D0; have Dj := Cmp.c1 D0; have Dk := Cmp.c2 D0; have Dl := Cmp.c3 D0; have Dy := blk_frozen D0.out 0; have Dz := blk_frozen D0.out 1; have E0 := blk_frozen D0.out 2; have E1 := blk_frozen D0.out 3; have Dm := Cmp.c0 D1; have Dn := Cmp.c1 D1; have Do := Cmp.c2 D1; have Dp := Cmp.c3 D1; have E2 := blk_frozen D1.out 0; have E3 := blk_frozen D1.out 1; have E4 := blk_frozen D1.out 2; have E5 := blk_frozen D1.out 3))
   go_ret
   exact ⟨by first | rfl | (simp [errW_none, errW_some] <;> rfl) | (simp [*, errW_none, errW_some] <;> rfl), Cmp.g HB.out⟩

end Go.Proofs.Ytoffbjjkegeccaa.PFnDeletion

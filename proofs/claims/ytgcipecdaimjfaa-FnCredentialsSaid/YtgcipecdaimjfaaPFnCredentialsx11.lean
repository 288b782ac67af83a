/- Printed functions of the program (by a changed copy of the printer). No condition. -/
import Derived.Test.YtgcipecdaimjfaaCmp
import Derived.Test.YtgcipecdaimjfaaPFnCredentialsx0
namespace Go.Proofs.Ytgcipecdaimjfaa.PFnCredentials
open Go.Proofs.Ytgcipecdaimjfaa
open Go.RowKit Go.Proofs.YtgcipecdaimjfaaW.PrintWords Go.Proofs.YtgcipecdaimjfaaW.PrintLast Go.Proofs.YtgcipecdaimjfaaW.PrintMore
attribute [local go_sem] max2_int min2_int max_two min_two max_three min_three max_four min_four   -- for this text's walks alone
set_option linter.unusedVariables false
set_option linter.unusedSimpArgs false

/-! ### impl_copyAccount: function 56 -/
def impl_copyAccount.f (a0_0 : Int) (a0_1 : Int) (l0_2 : List (S35)) : Option (Int × Int × (List (S35))) := (some (([] : List (S35)) : List (S35))).bind fun y425 => (if y425.length + l0_2.length < 4398046511104 then (some (a0_0, a0_1, (y425 ++ l0_2))) else (none))
def impl_copyAccount.T1 : Bool × List (List Nat × List Nat) := (true, [([], []), ([0], [0]), ([], []), ([2], [2]), ([], []), ([], []), ([5], [5]), ([4, 6], [4, 6]), ([1, 3, 7], [1, 3, 7]), ([8, 7, 0, 1, 2, 3, 4, 5, 6, 7, 8], [8])])
def impl_copyAccount.B1 : List Nat := [0, 1, 0, 4, 0, 0, 32, 112, 255, 511]
theorem impl_copyAccount.tab1 : rtab .any (opsOf Try.f56 1) = impl_copyAccount.T1 := by kernel_rfl
theorem impl_copyAccount.bits1 : waitsOk impl_copyAccount.T1.2 impl_copyAccount.B1 = true := by kernel_rfl
set_option maxHeartbeats 8000000 in
set_option maxRecDepth 100000 in
theorem impl_copyAccount.calls (a0_0 : Int) (a0_1 : Int) (A0_2 : Option Addr) (c0_2 : Nat) (l0_2 : List (S35)) (r1 : Int) (r2 : Int) (r3 : List (S35)) (w : World) (hr0_2 : Kd.C k35 w A0_2 l0_2.length l0_2) (hc0_2 : l0_2.length ≤ c0_2) (h : impl_copyAccount.f a0_0 a0_1 l0_2 = some (r1, r2, r3)) :
    Calls Try.prog 56 #[.agg #[.int .i64 a0_0, .int .i64 a0_1, .slice A0_2 l0_2.length c0_2]] w fun e w' => ∃ v2_ : Value, e = .returned (.agg #[.int .i64 r1, .int .i64 r2, v2_]) ∧ Kd.R k35 35 w' w.heap.size (fun _ => True) v2_ r3 ∧ Below w.heap.size w w' := by
 have hu26 := Try.underlying26; have Db := Aside0.mk hr0_2; have HC0_2 := Aside0.mk hc0_2; clear hr0_2 hc0_2
 have HB := Aside0.mk (Below.refl w.heap.size w)
 have H : ((some (([] : List (S35)) : List (S35))).bind fun D5 => (if D5.length + l0_2.length < 4398046511104 then (some (a0_0, a0_1, (D5 ++ l0_2))) else (none))) = some (r1, r2, r3) := h
 clear h
 obtain ⟨D5, hy425⟩ : ∃ y_ : List (S35), y_ = (([] : List (S35))) := ⟨_, rfl⟩
 replace H : (if D5.length + l0_2.length < 4398046511104 then (some (a0_0, a0_1, (D5 ++ l0_2))) else (none)) = some (r1, r2, r3) := by first | (rw [hy425]; with_reducible exact H) | (have H2_ := (Option.bind_some _ _).symm.trans H; rw [hy425]; with_reducible exact H2_) | (have H2_ := (Option.bind_some _ _).symm.trans H; with_reducible exact H2_) | with_reducible exact H | (rw [hy425]; exact H) | exact H
 have D9 := Aside0.mk hy425; clear hy425
 by_cases c2 : D5.length + l0_2.length < 4398046511104
 ·rw [if_pos c2] at H; have LMc2 := Aside0.mk c2; clear c2
  obtain ⟨Da, hy428⟩ : ∃ y_ : List (S35), y_ = (D5 ++ l0_2) := ⟨_, rfl⟩
  replace H : (some (a0_0, a0_1, Da)) = some (r1, r2, r3) := by first | (rw [hy428]; with_reducible exact H) | (have H2_ := (Option.bind_some _ _).symm.trans H; rw [hy428]; with_reducible exact H2_) | (have H2_ := (Option.bind_some _ _).symm.trans H; with_reducible exact H2_) | with_reducible exact H | (rw [hy428]; exact H) | exact H
  have Dc := Aside0.mk hy428; clear hy428
  simp only [Option.some.injEq, Prod.mk.injEq] at H
  obtain ⟨rfl, rfl, rfl⟩ := H
  go_enter Try.func56, Try.ntmps56
  try go_wp2_with (first | ((with_reducible refine gate_dst (N := 1) rfl ?_); refine box_event ?hg (N := 1) ?hd (cs := #[.int .i64 a0_0, .int .i64 a0_1, .slice A0_2 l0_2.length c0_2]) (t := 26) ?hr ?_; (case hd => rfl); (case hg => rfl); (case hr => first | (go_simp; done) | (go_simp; rfl)); intro D7 hg w3 hbox hb; have D1 := Aside0.mk (hbox); have Dh := Cmp.gw hg HB; have Df := Cmp.gw hg HB; replace HB := Cmp.bs HB hb; clear hb hbox hg) | ((with_reducible refine gate_dst (N := 2) rfl ?_); refine box_event ?hg (N := 2) ?hd (cs := #[.int .i64 0, .int .i64 0, .slice none 0 0]) (t := 26) ?hr ?_; (case hd => rfl); (case hg => rfl); (case hr => first | (go_simp; done) | (go_simp; rfl)); intro D3 hg w4 hbox hb; have D2 := Aside0.mk (hbox); have Di := Cmp.gw hg HB; have Dg := Cmp.gw hg HB; have D0 := Cmp.nl hg D1; have D4 := Cmp.ng hg D1; replace D1 := Cmp.be D1 hb; replace HB := Cmp.bs HB hb; clear hb hbox hg))
  replace D1 := Aside0.mk (blk_drew D1.out); replace D2 := Aside0.mk (blk_drew D2.out); replace HB := Aside0.mk (below_drew1 HB.out)
  refine start_ (n := 10) (S := fun w' => w'.cell? ⟨D7, 0, none⟩ = some (.int .i64 a0_0) ∧ w'.cell? ⟨D7, 1, none⟩ = some (.int .i64 a0_1) ∧ w'.cell? ⟨D7, 2, none⟩ = some (.slice A0_2 l0_2.length c0_2)) (ds := []) (Cmp.bm 0 10) (by kernel_rfl) rfl rfl ⟨(Cmp.c0 D1 :), (Cmp.c1 D1 :), (Cmp.c2 D1 :)⟩ (fun hHeld => ?_); refine with_tabW impl_copyAccount.tab1 impl_copyAccount.bits1 (fun HT_ HW_ => ?_)
  generalize w4.drew = w5 at D1 D2 HB hHeld ⊢
  refine Cmp.pu HT_ 0 3 (Cmp.bm 1 9) ?_; refine Cmp.pu HT_ 2 5 (Cmp.bb 10 5) ?_; refine Cmp.pu HT_ 5 8 (Cmp.bb 10 37) ?_; refine Cmp.tk HT_ HW_ hHeld 1 4 (Cmp.bb 10 39) ?_; refine Cmp.tk HT_ HW_ hHeld 3 6 (Cmp.bb 10 47) ?_; refine Cmp.tk HT_ HW_ hHeld 6 9 (Cmp.bb 10 111) ?_
  refine one_ (i := 4) (N := some 7) (Cmp.bm 7 3) rfl rfl (one_of HT_.out (by kernel_rfl)) (by decide) (fun K hK => ?_)
  refine Kd.R_lit_step k35 _ 35 ?hg (N := 7) ?hd (xs := ([] : List (S35))) (inner := []) (ok := fun _ => True) (okp := fun _ => True) ?hr ?hp (fun _ hk => hk) trivial (Below.refl _ _) (Nat.le_refl _) (by simp) ?_; (case hd => rfl); (case hg => rfl); (case hr => first | (go_simp; done) | (go_simp; rfl)); (case hp => exact (Reps.none _ _))
  intro v426 w6 Dd hb hg_ hnew_
  clear hg_ hnew_
  (first | rw [← D9.out] at Dd | (simp only [Int.reduceToNat] at Dd; rw [← D9.out] at Dd))
  have n0_ := Aside0.mk (Kd.R_lower Dd (below_size (Cmp.g HB.out)))
  have n1_ := Cmp.be D1 hb
  have n2_ := Cmp.be D2 hb
  have n3_ := Aside0.mk (below_step (Cmp.g HB.out) hb)
  clear D1; clear D2; clear HB; have D6 := n0_; have D1 := n1_; have D2 := n2_; have HB := n3_; clear n0_ n1_ n2_ n3_; clear hb Dd
  refine hK.out _ _ ⟨(Cmp.c0 D1 :), (Cmp.c1 D1 :), (Cmp.c2 D1 :)⟩ (fun hHeld => ?_)
  clear hK K
  refine norm_ (a' := ?_) ?_ ?_
  rotate_left
  ·show Act.put _ (some 7) _ = _
   simp only [Act.put, Cmp.s, Cmp.z, Cmp.c, i64_w, i32_w]; rfl
  refine one_ (i := 7) (N := some 10) (Cmp.bm 8 2) rfl rfl (one_of HT_.out (by kernel_rfl)) (by decide) (fun K hK => ?_)
  refine Kd.R_append_rows_step k35 (w0 := w) w.heap.size (by rfl) (.tmp 7) (.tmp 9) 24 35 (.agg #[(.int .i64 0), (.int .i64 0), (.int .i64 0), (.bool false)]) 32 rfl Try.underlying24 info35 rfl (by decide) (by omega) v426 D5 l0_2 _ _ _ (fun _ => True) (fun _ => False) rfl rfl ?aO ?aR (fun _ _ h => h) (fun _ h => h.elim) ?aF ?aB ?aS ?aL ?_
  (case aR => repeat (first | exact (Kd.C_below Db.out HB.out) | (with_reducible refine Kd.C_alloc ?_ _) | (with_reducible refine Kd.C_drewN ?_ _) | (with_reducible refine Kd.C_drew ?_)))
  (case aB => exact (Cmp.g HB.out))
  (case aF => exact (fun _ _ => trivial))
  (case aO => exact (Cmp.rr D6.out))
  (case aS => exact (below_size (Cmp.g HB.out)))
  (case aL => have := LMc2.out; omega)
  intro v429 w8 ho hb hg hat
  rw [← Dc.out] at ho
  have n0_ := Cmp.bg D1 hg (Kd.R_ne D6.out D1.out (by decide))
  have n1_ := Cmp.bg D2 hg (Kd.R_ne D6.out D2.out (by decide))
  have n2_ := Aside0.mk (hb)
  have n3_ := Aside0.mk (ho)
  clear D1; clear D2; clear HB; clear D6; have D1 := n0_; have D2 := n1_; have HB := n2_; have D8 := n3_; clear n0_ n1_ n2_ n3_; clear ho hb hg hat
  obtain ⟨De, Dj, Dk⟩ := Kd.R_slice D8.out
  (first | subst Dk | (injection Dk with f1_ f2_ f3_; have f4_ := f1_.symm; have f5_ := f3_.symm; clear f1_ f2_ f3_; subst f4_; subst f5_))
  refine hK.out _ _ ⟨(Cmp.c0 D1 :), (Cmp.c1 D1 :), (Cmp.c2 D1 :)⟩ (fun hHeld => ?_)
  clear hK K
  refine norm_ (a' := ?_) ?_ ?_
  rotate_left
  ·show Act.put _ (some 10) _ = _
   simp only [Act.put, Cmp.s, Cmp.z, Cmp.c, i64_w, i32_w]; rfl
  refine Cmp.pu HT_ 8 11 (Cmp.bm 9 1) ?_
  refine one_ (i := 9) (N := none) (Cmp.bm 10 0) rfl rfl (one_of HT_.out (by kernel_rfl)) (by decide) (fun K hK => ?_)
  have hs10 : w8.cell? ⟨D3, 0, none⟩ = some (.int .i64 0) := (blk_cell D2.out 0).trans rfl
  have hfs10 := blk_frozen D2.out 0; have hns10_0 := D0.out; have hms10_0 := D4.out
  have hs11 : w8.cell? ⟨D3, 1, none⟩ = some (.int .i64 0) := (blk_cell D2.out 1).trans rfl
  have hfs11 := blk_frozen D2.out 1; have hns11_0 := D0.out; have hms11_0 := D4.out
  have hs12 : w8.cell? ⟨D3, 2, none⟩ = some (.slice none 0 0) := (blk_cell D2.out 2).trans rfl
  have hfs12 := blk_frozen D2.out 2; have hns12_0 := D0.out; have hms12_0 := D4.out
  refine skip_ (w1 := ?_) (by rfl) rfl ?_ ?_
  rotate_left
  ·go_simp; rfl
  refine hK.out _ _ ⟨((cell_far (p := ⟨D3, _, none⟩) D0.out _).trans (((cell_far (p := ⟨D3, _, none⟩) D0.out _).trans (((cell_far (p := ⟨D3, _, none⟩) D0.out _).trans (hHeld.1)))))), ((cell_far (p := ⟨D3, _, none⟩) D0.out _).trans (((cell_far (p := ⟨D3, _, none⟩) D0.out _).trans (((cell_far (p := ⟨D3, _, none⟩) D0.out _).trans (hHeld.2.1)))))), ((cell_far (p := ⟨D3, _, none⟩) D0.out _).trans (((cell_far (p := ⟨D3, _, none⟩) D0.out _).trans (((cell_far (p := ⟨D3, _, none⟩) D0.out _).trans (hHeld.2.2))))))⟩ (fun hHeld => ?_)
  clear hK K
  refine done_ (done_of HT_.out (by kernel_rfl)) ?_
  try go_wp2
  refine bodyPost_ret (results_cell_row rfl _ _ D3 26 #[.int .i64 a0_0, .int .i64 a0_1, .slice De Da.length Dj] (0, 0) _ rfl (Cmp.bw D2.out) Try.underlying26 rfl (by kernel_rfl)) rfl ?_
  exact ⟨_, by first | rfl | (simp [errW_none, errW_some] <;> rfl) | (simp [*, errW_none, errW_some] <;> rfl), by (with_reducible repeat (first | apply Kd.R_alloc | apply Kd.R_drewN | apply Kd.R_drew)); exact Kd.R_mono (Kd.R_far (p := ⟨D3, 2, none⟩) (Kd.R_far (p := ⟨D3, 1, none⟩) (Kd.R_far (p := ⟨D3, 0, none⟩) (Kd.R_types D8.out D2.out (by decide)) (fun _ hk => hk.2) (.int .i64 a0_0)) (fun _ hk => hk.2) (.int .i64 a0_1)) (fun _ hk => hk.2) (.slice De Da.length Dj)) (fun _ hk => trivial), Cmp.g HB.out⟩
 ·rw [if_neg c2] at H; exact absurd H (by simp)

end Go.Proofs.Ytgcipecdaimjfaa.PFnCredentials

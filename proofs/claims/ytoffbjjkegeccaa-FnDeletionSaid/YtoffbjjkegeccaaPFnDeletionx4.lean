/- Printed functions of the program (by a changed copy of the printer). No condition. -/
import Derived.Test.YtoffbjjkegeccaaCmp
import Derived.Test.YtoffbjjkegeccaaPFnDeletionx0
namespace Go.Proofs.Ytoffbjjkegeccaa.PFnDeletion
open Go.Proofs.Ytoffbjjkegeccaa
open Go.RowKit Go.Proofs.YtoffbjjkegeccaaW.PrintWords Go.Proofs.YtoffbjjkegeccaaW.PrintLast Go.Proofs.YtoffbjjkegeccaaW.PrintMore
attribute [local go_sem] max2_int min2_int max_two min_two max_three min_three max_four min_four   -- for this text's walks alone
set_option linter.unusedVariables false
set_option linter.unusedSimpArgs false

/-! ### spec_l17Copy: function 61 -/
def spec_l17Copy.f (l0_0 : List (S49)) : Option ((List (S49))) := (some (([] : List (S49)) : List (S49))).bind fun y131 => (if y131.length + l0_0.length < 4398046511104 then (some (y131 ++ l0_0)) else (none))
set_option maxHeartbeats 8000000 in
set_option maxRecDepth 100000 in
theorem spec_l17Copy.calls (A0_0 : Option Addr) (c0_0 : Nat) (l0_0 : List (S49)) (r : List (S49)) (w : World) (hr0_0 : Kd.C k49 w A0_0 l0_0.length l0_0) (hc0_0 : l0_0.length ≤ c0_0) (h : spec_l17Copy.f l0_0 = some r) :
    Calls Try.prog 61 #[.agg #[.slice A0_0 l0_0.length c0_0]] w fun e w' => ∃ v0_ : Value, e = .returned (.agg #[v0_]) ∧ Kd.R k49 49 w' w.heap.size (fun _ => True) v0_ r ∧ Below w.heap.size w w' := by
 have hu41 := Try.underlying41; have Db := Aside0.mk hr0_0; have HC0_0 := Aside0.mk hc0_0; clear hr0_0 hc0_0
 have HB := Aside0.mk (Below.refl w.heap.size w)
 have H : ((some (([] : List (S49)) : List (S49))).bind fun D2 => (if D2.length + l0_0.length < 4398046511104 then (some (D2 ++ l0_0)) else (none))) = some r := h
 clear h
 obtain ⟨D2, hy131⟩ : ∃ y_ : List (S49), y_ = (([] : List (S49))) := ⟨_, rfl⟩
 replace H : (if D2.length + l0_0.length < 4398046511104 then (some (D2 ++ l0_0)) else (none)) = some r := by first | (rw [hy131]; with_reducible exact H) | (have H2_ := (Option.bind_some _ _).symm.trans H; rw [hy131]; with_reducible exact H2_) | (have H2_ := (Option.bind_some _ _).symm.trans H; with_reducible exact H2_) | with_reducible exact H | (rw [hy131]; exact H) | exact H
 have D7 := Aside0.mk hy131; clear hy131
 by_cases c2 : D2.length + l0_0.length < 4398046511104
 ·rw [if_pos c2] at H; have LMc2 := Aside0.mk c2; clear c2
  obtain ⟨D9, hy134⟩ : ∃ y_ : List (S49), y_ = (D2 ++ l0_0) := ⟨_, rfl⟩
  replace H : (some D9) = some r := by first | (rw [hy134]; with_reducible exact H) | (have H2_ := (Option.bind_some _ _).symm.trans H; rw [hy134]; with_reducible exact H2_) | (have H2_ := (Option.bind_some _ _).symm.trans H; with_reducible exact H2_) | with_reducible exact H | (rw [hy134]; exact H) | exact H
  have Dc := Aside0.mk hy134; clear hy134
  obtain rfl := Option.some.inj H
  go_enter Try.func61, Try.ntmps61
  go_wp2_with (first | ((with_reducible refine gate_dst (N := 1) rfl ?_); refine box_event ?hg (N := 1) ?hd (cs := #[.slice A0_0 l0_0.length c0_0]) (t := 41) ?hr ?_; (case hd => rfl); (case hg => rfl); (case hr => first | (go_simp; done) | (go_simp; rfl)); intro Do hg w3 hbox hb; have D0 := Aside0.mk (hbox); have Dm := Cmp.gw hg HB; have Dk := Cmp.gw hg HB; replace HB := Cmp.bs HB hb; clear hb hbox hg) | ((with_reducible refine gate_dst (N := 2) rfl ?_); refine box_event ?hg (N := 2) ?hd (cs := #[.slice none 0 0]) (t := 41) ?hr ?_; (case hd => rfl); (case hg => rfl); (case hr => first | (go_simp; done) | (go_simp; rfl)); intro D8 hg w4 hbox hb; have D1 := Aside0.mk (hbox); have Dn := Cmp.gw hg HB; have Dl := Cmp.gw hg HB; have D4 := Cmp.nl hg D0; have D5 := Cmp.ng hg D0; replace D0 := Cmp.be D0 hb; replace HB := Cmp.bs HB hb; clear hb hbox hg) | ((with_reducible refine gate_dst (N := 3) rfl ?_); refine Kd.R_lit k49 _ 49 ?hg (N := 3) ?hd (xs := ([] : List (S49))) (inner := []) (ok := fun _ => True) (okp := fun _ => True) ?hr ?hp (fun _ hk => hk) trivial (Below.refl _ _) (Nat.le_refl _) (by simp) ?_; (case hd => rfl); (case hg => rfl); (case hr => first | (go_simp; done) | (go_simp; rfl)); (case hp => exact (Reps.none _ _)); intro v132 w5 De hb hg_ hnew_; clear hg_ hnew_; (first | rw [← D7.out] at De | (simp only [Int.reduceToNat] at De; rw [← D7.out] at De)); have D3 := Aside0.mk (Kd.R_lower De (below_size (Cmp.g HB.out))); replace D0 := Cmp.be D0 hb; replace D1 := Cmp.be D1 hb; replace HB := Cmp.bs HB hb; clear hb De; have Dp := D4.out; have Dq := D5.out; have Di := Cmp.c0 D0; have Dj := blk_frozen D0.out 0) | ((with_reducible refine gate_builtin (b := .append) (xs := #[.tmp 3, .tmp 5]) rfl ?_); at_builtin; refine Kd.R_append_rows k49 (w0 := w) w.heap.size rfl (.tmp 3) (.tmp 5) 39 49 (.agg #[(.int .i64 0), (.int .i64 0), (.int .i64 0), (.bool false)]) 32 rfl Try.underlying39 info49 rfl (by decide) (by omega) v132 D2 l0_0 _ _ _ (fun _ => True) (fun _ => False) rfl rfl ?aO ?aR (fun _ _ h => h) (fun _ h => h.elim) ?aF ?aB ?aS ?aL ?_; (case aR => repeat (first | exact (Kd.C_below Db.out HB.out) | (with_reducible refine Kd.C_alloc ?_ _) | (with_reducible refine Kd.C_drewN ?_ _) | (with_reducible refine Kd.C_drew ?_))); (case aB => exact (Cmp.g HB.out)); (case aF => exact (fun _ _ => trivial)); (case aO => exact (Cmp.rr D3.out)); (case aS => exact (below_size (Cmp.g HB.out))); (case aL => have := LMc2.out; omega); intro v135 w9 ho hb hg hat; rw [← Dc.out] at ho; have D6 := Aside0.mk (ho); replace D0 := Cmp.bg D0 hg (Kd.R_ne D3.out D0.out (by decide)); replace D1 := Cmp.bg D1 hg (Kd.R_ne D3.out D1.out (by decide)); replace HB := Aside0.mk (hb); clear D3; clear ho hb hg hat; obtain ⟨Da, Dd, Dh⟩ := Kd.R_slice D6.out; subst Dh; have Df := Cmp.c0 D1; have Dg := blk_frozen D1.out 0))
  refine bodyPost_ret (results_cell_row rfl _ _ D8 41 #[.slice Da D9.length Dd] (0, 0) _ rfl (Cmp.bw D1.out) Try.underlying41 rfl (by kernel_rfl)) rfl ?_
  exact ⟨_, by first | rfl | (simp [errW_none, errW_some] <;> rfl) | (simp [*, errW_none, errW_some] <;> rfl), by (with_reducible repeat (first | apply Kd.R_alloc | apply Kd.R_drewN | apply Kd.R_drew)); exact Kd.R_mono (Kd.R_far (p := ⟨D8, 0, none⟩) (Kd.R_types D6.out D1.out (by decide)) (fun _ hk => hk.2) (.slice Da D9.length Dd)) (fun _ hk => trivial), Cmp.g HB.out⟩
 ·rw [if_neg c2] at H; exact absurd H (by simp)

end Go.Proofs.Ytoffbjjkegeccaa.PFnDeletion

/- Printed functions of the program (by a changed copy of the printer). No condition. -/
import Derived.Test.YtjdkkfbcpbjpkaaCmp
import Derived.Test.YtjdkkfbcpbjpkaaPFnBundlesx0
namespace Go.Proofs.Ytjdkkfbcpbjpkaa.PFnBundles
open Go.Proofs.Ytjdkkfbcpbjpkaa
open Go.RowKit Go.Proofs.YtjdkkfbcpbjpkaaW.PrintWords Go.Proofs.YtjdkkfbcpbjpkaaW.PrintLast Go.Proofs.YtjdkkfbcpbjpkaaW.PrintMore
attribute [local go_sem] max2_int min2_int max_two min_two max_three min_three max_four min_four   -- for this text's walks alone
set_option linter.unusedVariables false
set_option linter.unusedSimpArgs false
/-! ### impl_copyBundle: function 66 -/
def impl_copyBundle.f (l0_0 : List (S116)) : Option ((List (S116))) := (some (([] : List (S116)) : List (S116))).bind fun y299 => (if y299.length + l0_0.length < 4398046511104 then (some (y299 ++ l0_0)) else (none))
set_option maxHeartbeats 8000000 in
set_option maxRecDepth 100000 in
theorem impl_copyBundle.calls (A0_0 : Option Addr) (c0_0 : Nat) (l0_0 : List (S116)) (r : List (S116)) (w : World) (hr0_0 : Kd.C k116 w A0_0 l0_0.length l0_0) (hc0_0 : l0_0.length ≤ c0_0) (h : impl_copyBundle.f l0_0 = some r) :
    Calls Try.prog 66 #[.agg #[.slice A0_0 l0_0.length c0_0]] w fun e w' => ∃ v0_ : Value, e = .returned (.agg #[v0_]) ∧ Kd.R k116 116 w' w.heap.size (fun _ => True) v0_ r ∧ Below w.heap.size w w' := by
 have hu73 := Try.underlying73; have Db := Cmp.A hr0_0; have HC0_0 := Cmp.A hc0_0; clear hr0_0 hc0_0
 have HB := Cmp.A (Below.refl w.heap.size w)
 have H : ((some (([] : List (S116)) : List (S116))).bind fun D2 => (if D2.length + l0_0.length < 4398046511104 then (some (D2 ++ l0_0)) else (none))) = some r := h
 clear h
 obtain ⟨D2, hy299⟩ : ∃ y_ : List (S116), y_ = (([] : List (S116))) := ⟨_, rfl⟩
 replace H : (if D2.length + l0_0.length < 4398046511104 then (some (D2 ++ l0_0)) else (none)) = some r := Cmp.hy hy299 H
 have D7 := Cmp.A hy299; clear hy299
 by_cases c2 : D2.length + l0_0.length < 4398046511104
 ·rw [if_pos c2] at H; have LMc2 := Cmp.A c2; clear c2
  obtain ⟨D9, hy302⟩ : ∃ y_ : List (S116), y_ = (D2 ++ l0_0) := ⟨_, rfl⟩
  replace H : (some D9) = some r := Cmp.hy hy302 H
  have Dc := Cmp.A hy302; clear hy302
  obtain rfl := Option.some.inj H
  go_enter Try.func66, Try.ntmps66
  go_wp2_with (first | ((with_reducible refine gate_dst (N := 1) rfl ?_); refine box_event ?hg (N := 1) ?hd (cs := #[.slice A0_0 l0_0.length c0_0]) (t := 73) ?hr ?_; (case hd => rfl); (case hg => rfl); (case hr => first | (go_simp; done) | (go_simp; rfl)); intro Do hg w3 hbox hb; have D0 := Cmp.A (hbox); have Dm := Cmp.gw hg HB; have Dk := Cmp.gw hg HB; replace HB := Cmp.bs HB hb; clear hb hbox hg) | ((with_reducible refine gate_dst (N := 2) rfl ?_); refine box_event ?hg (N := 2) ?hd (cs := #[.slice none 0 0]) (t := 73) ?hr ?_; (case hd => rfl); (case hg => rfl); (case hr => first | (go_simp; done) | (go_simp; rfl)); intro D8 hg w4 hbox hb; have D1 := Cmp.A (hbox); have Dn := Cmp.gw hg HB; have Dl := Cmp.gw hg HB; have D4 := Cmp.nl hg D0; have D5 := Cmp.ng hg D0; replace D0 := Cmp.be D0 hb; replace HB := Cmp.bs HB hb; clear hb hbox hg) | ((with_reducible refine gate_dst (N := 3) rfl ?_); refine Kd.R_lit k116 _ 116 ?hg (N := 3) ?hd (xs := ([] : List (S116))) (inner := []) (ok := fun _ => True) (okp := fun _ => True) ?hr ?hp (fun _ hk => hk) trivial (Below.refl _ _) (Nat.le_refl _) (by simp) ?_; (case hd => rfl); (case hg => rfl); (case hr => first | (go_simp; done) | (go_simp; rfl)); (case hp => exact (Reps.none _ _)); intro v300 w5 De hb hg_ hnew_; clear hg_ hnew_; (first | rw [← D7.out] at De | (simp only [Int.reduceToNat] at De; rw [← D7.out] at De)); have D3 := Cmp.A (Kd.R_lower De (below_size (Cmp.g HB.out))); replace D0 := Cmp.be D0 hb; replace D1 := Cmp.be D1 hb; replace HB := Cmp.bs HB hb; clear hb De; have Dp := D4.out; have Dq := D5.out; have Di := Cmp.c0 D0; have Dj := blk_frozen D0.out 0) | ((with_reducible refine gate_builtin (b := .append) (xs := #[.tmp 3, .tmp 5]) rfl ?_); at_builtin; refine Kd.R_append_rows k116 (w0 := w) w.heap.size rfl (.tmp 3) (.tmp 5) 71 116 (.agg #[(.int .i64 0), (.int .i64 0), (.int .i64 0), (.bool false)]) 32 rfl Try.underlying71 info116 rfl (by decide) (by omega) v300 D2 l0_0 _ _ _ (fun _ => True) (fun _ => False) rfl rfl ?aO ?aR (fun _ _ h => h) (fun _ h => h.elim) ?aF ?aB ?aS ?aL ?_; (case aR => repeat (first | exact (Kd.C_below Db.out HB.out) | (with_reducible refine Kd.C_alloc ?_ _) | (with_reducible refine Kd.C_drewN ?_ _) | (with_reducible refine Kd.C_drew ?_))); (case aB => exact (Cmp.g HB.out)); (case aF => exact (fun _ _ => trivial)); (case aO => exact (Cmp.rr D3.out)); (case aS => exact (below_size (Cmp.g HB.out))); (case aL => have := LMc2.out; omega); intro v303 w9 ho hb hg hat; rw [← Dc.out] at ho; have D6 := Cmp.A (ho); replace D0 := Cmp.bg D0 hg (Kd.R_ne D3.out D0.out (by decide)); replace D1 := Cmp.bg D1 hg (Kd.R_ne D3.out D1.out (by decide)); replace HB := Cmp.A (hb); clear D3; clear ho hb hg hat; obtain ⟨Da, Dd, Dh⟩ := Kd.R_slice D6.out; subst Dh; have Df := Cmp.c0 D1; have Dg := blk_frozen D1.out 0))
  refine bodyPost_ret (results_cell_row rfl _ _ D8 73 #[.slice Da D9.length Dd] (0, 0) _ rfl (Cmp.bw D1.out) Try.underlying73 rfl (by kernel_rfl)) rfl ?_
  exact ⟨_, by first | rfl | (simp [errW_none, errW_some] <;> rfl) | (simp [*, errW_none, errW_some] <;> rfl), by (with_reducible repeat (first | apply Kd.R_alloc | apply Kd.R_drewN | apply Kd.R_drew)); exact Kd.R_mono (Kd.R_far (p := ⟨D8, 0, none⟩) (Kd.R_types D6.out D1.out (by decide)) (fun _ hk => hk.2) (.slice Da D9.length Dd)) (fun _ hk => trivial), Cmp.g HB.out⟩
 ·rw [if_neg c2] at H; exact absurd H (by simp)
end Go.Proofs.Ytjdkkfbcpbjpkaa.PFnBundles

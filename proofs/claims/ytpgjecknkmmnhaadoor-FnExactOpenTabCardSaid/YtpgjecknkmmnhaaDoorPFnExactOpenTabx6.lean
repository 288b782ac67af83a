/- Printed functions of the program, out of print.sh, told more shortly. No condition. -/
import Derived.Test.YtpgjecknkmmnhaaDoorCmp
import Derived.Test.YtpgjecknkmmnhaaDoorPFnExactOpenTabx0
import Derived.Test.YtpgjecknkmmnhaaDoorPFnExactOpenTabx5
namespace Go.Proofs.YtpgjecknkmmnhaaDoor.PFnExactOpenTab
open Go.Proofs.YtpgjecknkmmnhaaDoor
open Go.RowKit Go.Proofs.YtpgjecknkmmnhaaDoorW.PrintWords Go.Proofs.YtpgjecknkmmnhaaDoorW.PrintLast Go.Proofs.YtpgjecknkmmnhaaDoorW.PrintMore
attribute [local go_sem] max2_int min2_int max_two min_two max_three min_three max_four min_four   -- for this text's walks alone
set_option linter.unusedVariables false
set_option linter.unusedSimpArgs false
/-! ### laws_markBrowser: function 12 -/
def laws_markBrowser.f (k : Nat) (a0_0 : Int) (a0_1 : Int) (a0_2 : Int) (a0_3 : Int) (l0_4 : List (S49)) (a0_5 : Int) (a1 : Int) : Option (Int × (List (S49))) := (laws_markTabS.f k l0_4 a1).bind fun bt253 => (some (bt253.1, bt253.2))
theorem laws_markBrowser.mono : ∀ a0 a1 a2 a3 a4 a5 a6 k, LeO (laws_markBrowser.f k a0 a1 a2 a3 a4 a5 a6) (laws_markBrowser.f (k + 1) a0 a1 a2 a3 a4 a5 a6) := by
  intro a0 a1 a2 a3 a4 a5 a6 k
  unfold laws_markBrowser.f
  repeat' first
 | (with_reducible exact laws_markTabS.mono _ _ _)
 | (with_reducible exact LeO.refl _)
 | (with_reducible exact LeO.none _)
 | (with_reducible refine LeO.ite ?_ ?_)
 | (with_reducible refine LeO.bind ?_ (fun _ => ?_))
set_option maxHeartbeats 8000000 in
set_option maxRecDepth 100000 in
theorem laws_markBrowser.calls (k : Nat) (a0_0 : Int) (a0_1 : Int) (a0_2 : Int) (a0_3 : Int) (P0_4_ : Nat → Prop) (u9000_ : Value) (l0_4 : List (S49)) (a0_5 : Int) (a1 : Int) (r1 : Int) (r2 : List (S49)) (w0 w : World) (hB : Below w0.heap.size w0 w) (ho0_4 : Kd.R k49 49 w w0.heap.size P0_4_ u9000_ l0_4) (h : laws_markBrowser.f k a0_0 a0_1 a0_2 a0_3 l0_4 a0_5 a1 = some (r1, r2)) :
    Calls Tryd.prog 12 #[.agg #[.int .i64 a0_0, .int .i64 a0_1, .int .i64 a0_2, .int .i64 a0_3, u9000_, .int .i64 a0_5], .int .i64 a1] w fun e w' => e = .returned (.int .i64 r1) ∧ Kd.R k49 49 w' w0.heap.size (fun k_ => (P0_4_ k_ ∨ w.heap.size ≤ k_)) u9000_ r2 ∧ Below w0.heap.size w0 w' ∧ Kept w w' (fun k_ => P0_4_ k_) := by
 have hu34 := Tryd.underlying34
 have HO0_4 := Cmp.A (show Kd.R k49 49 w w0.heap.size (fun k_ => (P0_4_ k_ ∨ w.heap.size ≤ k_)) u9000_ l0_4 from Kd.R_mono ho0_4 (fun k_ hk => (.inl hk)))
 have HK := Cmp.A (Kept.refl w (fun k_ => P0_4_ k_))
 have HW0 := Cmp.A hB.size; have HB := Cmp.A hB; clear hB
 have H : ((laws_markTabS.f k l0_4 a1).bind fun bt253 => (some (bt253.1, bt253.2))) = some (r1, r2) := h
 clear h; replace H := Option.bind_eq_some_iff.mp H; obtain ⟨⟨Dh, Di⟩, Dj, H⟩ := H; (try dsimp only at H); have A3 := Cmp.A Dj; clear Dj
 simp only [Option.some.injEq, Prod.mk.injEq] at H
 obtain ⟨rfl, rfl⟩ := H
 obtain ⟨D3, D4, Dl⟩ := Kd.R_slice HO0_4.out
 subst Dl
 go_enter Tryd.func12, Tryd.ntmps12
 go_wp2_with (first | ((with_reducible refine gate_dst (N := 2) rfl ?_); refine box_event ?hg (N := 2) ?hd (cs := #[.int .i64 a0_0, .int .i64 a0_1, .int .i64 a0_2, .int .i64 a0_3, .slice D3 l0_4.length D4, .int .i64 a0_5]) (t := 34) ?hr ?_; (case hd => rfl); (case hg => rfl); (case hr => first | (go_simp; done) | (go_simp; rfl)); intro D2 hg w5 hbox hb; have D0 := Cmp.A (hbox); have D1 := Cmp.A ((by rw [hg]; exact (by first | exact HK.out.1 | exact (show Kept w _ (fun k_ => P0_4_ k_) from by repeat (first | (with_reducible first | exact HK.out | apply Kept.alloc | apply Kept.drewN | apply Kept.drew) | exact HK.out)).1) : w.heap.size ≤ D2)); have Dk := Cmp.A ((by rw [hg]; exact (below_size (Cmp.g HB.out)) : w0.heap.size ≤ D2)); replace HO0_4 := Cmp.A (Kd.R_below (Cmp.rr HO0_4.out) hb); replace HK := Cmp.A (Kept.below (S := (fun k_ => P0_4_ k_)) (by repeat (first | (with_reducible first | exact HK.out | apply Kept.alloc | apply Kept.drewN | apply Kept.drew) | exact HK.out)) hb); replace HB := Cmp.bs HB hb; clear hb hbox hg; obtain ⟨D5, D6, D7, D8, D9, Da⟩ := Cmp.q6 D0; obtain ⟨Db, Dc, Dd, De, Df, Dg⟩ := Cmp.f6 D0) | ((with_reducible refine gate_callee (f := 25) rfl ?_); refine goesL_ (some 8) rfl rfl Tryd.func25 (by kernel_rfl) rfl #[.slice D3 l0_4.length D4, .int .i64 a1] rfl Cmp.q ?_; (with_reducible refine (laws_markTabS.calls k (fun k_ => some k_ = (.slice D3 l0_4.length D4 : Value).ownBlock) (.slice D3 l0_4.length D4) l0_4 a1 Dh Di w0 _ ?side1 ?side2 A3.out).mono ?_); (case side1 => exact Cmp.g HB.out); (case side2 => exact Kd.R_tight rfl HO0_4.out); rintro e w7 ⟨rfl, hy0, hb, hkp⟩; refine ⟨_, rfl, ?_⟩; replace D0 := Cmp.A (blk_kept (Cmp.b D0.out) hkp (fun hs_ => (fun e_ => (Kd.R_ne HO0_4.out D0.out (by decide)) e_) hs_)); replace HK := Cmp.A (Kept.then_ (S := (fun k_ => P0_4_ k_)) (by repeat (first | (with_reducible first | exact HK.out | apply Kept.alloc | apply Kept.drewN | apply Kept.drew | refine Kept.setCell ?_ (.inr D1.out) _) | exact HK.out)) hkp (fun k_ hs_ => (fun e_ => (HO0_4.out.1 k_ e_.symm)) hs_)); replace HO0_4 := Cmp.A (Kd.R_reok rfl hy0 (fun k_ e_ => HO0_4.out.1 k_ e_)); replace HB := Cmp.A (hb); (try clear hb); (try clear hkp); (try clear hy0)))
 go_ret
 exact ⟨by first | rfl | (simp [errW_none, errW_some] <;> rfl) | (simp [*, errW_none, errW_some] <;> rfl), by (with_reducible repeat (first | apply Kd.R_alloc | apply Kd.R_drewN | apply Kd.R_drew)); exact HO0_4.out, Cmp.g HB.out, by repeat (first | (with_reducible first | exact HK.out | apply Kept.alloc | apply Kept.drewN | apply Kept.drew | refine Kept.setCell ?_ (.inr D1.out) _) | exact HK.out)⟩
end Go.Proofs.YtpgjecknkmmnhaaDoor.PFnExactOpenTab

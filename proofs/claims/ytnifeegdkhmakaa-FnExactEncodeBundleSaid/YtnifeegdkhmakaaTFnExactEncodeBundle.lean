/- The law FnExactEncodeBundle's own function, walked where it answers true. No condition. -/
import Derived.Test.YtnifeegdkhmakaaCmp
import Derived.Test.YtnifeegdkhmakaaPFnExactEncodeBundlex8
import Derived.Test.YtnifeegdkhmakaaPFnExactEncodeBundlex0
import Derived.Test.YtnifeegdkhmakaaPFnExactEncodeBundlex1
import Derived.Test.YtnifeegdkhmakaaPFnExactEncodeBundlex2
import Derived.Test.YtnifeegdkhmakaaPFnExactEncodeBundlex5
import Derived.Test.YtnifeegdkhmakaaPFnExactEncodeBundlex7
namespace Go.Proofs.Ytnifeegdkhmakaa.PFnExactEncodeBundle
open Go.Proofs.Ytnifeegdkhmakaa
open Go.RowKit Go.Proofs.YtnifeegdkhmakaaW.PrintWords Go.Proofs.YtnifeegdkhmakaaW.PrintLast Go.Proofs.YtnifeegdkhmakaaW.PrintMore
attribute [local go_sem] max2_int min2_int max_two min_two max_three min_three max_four min_four   -- for this text's walks alone
set_option linter.unusedVariables false
set_option linter.unusedSimpArgs false

/-! ### laws_FnExactEncodeBundle: function 6 -/
def laws_FnExactEncodeBundle.j0 : Nat → List Int → List Int → Bool → List (S80) → Option (Bool)
  | 0, _, _, _, _ => none
  | k + 1, x4, x6, x42, x249000 => if x42 = true then (some false) else ((laws_markByteS.f k x6 1).bind fun bt271 => ((laws_heldByteS.f k bt271.2 1).bind fun t273 => (if t273 < 0 then (some false) else (if t273 = bt271.1 then ((laws_toBundle.f k x249000).bind fun t274 => ((impl_EncodeBundle.f k t274).bind fun t277 => ((laws_eqByteS.f k t277 x4).bind fun t280 => (if t280 = true then ((laws_heldByteS.f k bt271.2 1).bind fun t281 => (if t281 < 0 then (some false) else (if t281 = bt271.1 then (some true) else (some false)))) else (some false))))) else (some false)))))
def laws_FnExactEncodeBundle.f (k : Nat) (l0_0 : List (S80)) : Option (Bool) := (laws_szBundle.f l0_0 1048576).bind fun t249 => (if t249 < 0 then (some true) else ((laws_toBundle.f k l0_0).bind fun t250 => ((spec_EncodeBundle.f k t250).bind fun t253 => ((laws_toBundle.f k l0_0).bind fun t256 => ((impl_EncodeBundle.f k t256).bind fun t260 => ((laws_eqByteS.f k t260 t253).bind fun t263 => (if t263 = true then ((laws_toBundle.f k l0_0).bind fun t264 => ((laws_eqBundle.f k t256 t264).bind fun t267 => (if t267 = true then ((laws_markBundle.f k t256 1).bind fun bt268 => (if bt268.1 < 0 then (laws_FnExactEncodeBundle.j0 k t253 t260 true l0_0) else ((laws_eqByteS.f k t260 t253).bind fun t270 => (laws_FnExactEncodeBundle.j0 k t253 t260 (!t270) l0_0)))) else (some false)))) else (some false))))))))
theorem laws_FnExactEncodeBundle.mono_l : ∀ k, (∀ y0 y1 y2 y3, LeO (laws_FnExactEncodeBundle.j0 k y0 y1 y2 y3) (laws_FnExactEncodeBundle.j0 (k + 1) y0 y1 y2 y3))
  | 0 => fun _ _ _ _ r h => by simp [laws_FnExactEncodeBundle.j0] at h
  | k + 1 => by
    have ih0 := laws_FnExactEncodeBundle.mono_l k
    · intro y0 y1 y2 y3
      unfold laws_FnExactEncodeBundle.j0
      repeat' first
      | (with_reducible exact ih0 _ _ _ _)
      | (with_reducible exact impl_EncodeBundle.mono _ _)
      | (with_reducible exact laws_eqBundle.mono _ _ _)
      | (with_reducible exact laws_eqByteS.mono _ _ _)
      | (with_reducible exact laws_heldByteS.mono _ _ _)
      | (with_reducible exact laws_markBundle.mono _ _ _)
      | (with_reducible exact laws_markByteS.mono _ _ _)
      | (with_reducible exact laws_toBundle.mono _ _)
      | (with_reducible exact spec_EncodeBundle.mono _ _)
      | (with_reducible exact LeO.refl _)
      | (with_reducible exact LeO.none _)
      | (with_reducible refine LeO.ite ?_ ?_)
      | (with_reducible refine LeO.bind ?_ (fun _ => ?_))
      | exact ih0 _ _ _ _
      | exact impl_EncodeBundle.mono _ _
      | exact laws_eqBundle.mono _ _ _
      | exact laws_eqByteS.mono _ _ _
      | exact laws_heldByteS.mono _ _ _
      | exact laws_markBundle.mono _ _ _
      | exact laws_markByteS.mono _ _ _
      | exact laws_toBundle.mono _ _
      | exact spec_EncodeBundle.mono _ _
      | exact LeO.none _
      | refine LeO.ite ?_ ?_
      | refine LeO.bind ?_ (fun _ => ?_)
theorem laws_FnExactEncodeBundle.mono : ∀ a0 k, LeO (laws_FnExactEncodeBundle.f k a0) (laws_FnExactEncodeBundle.f (k + 1) a0) := by
  intro a0 k
  have ih0 := laws_FnExactEncodeBundle.mono_l k
  unfold laws_FnExactEncodeBundle.f
  repeat' first
      | (with_reducible exact ih0 _ _ _ _)
      | (with_reducible exact impl_EncodeBundle.mono _ _)
      | (with_reducible exact laws_eqBundle.mono _ _ _)
      | (with_reducible exact laws_eqByteS.mono _ _ _)
      | (with_reducible exact laws_heldByteS.mono _ _ _)
      | (with_reducible exact laws_markBundle.mono _ _ _)
      | (with_reducible exact laws_markByteS.mono _ _ _)
      | (with_reducible exact laws_toBundle.mono _ _)
      | (with_reducible exact spec_EncodeBundle.mono _ _)
      | (with_reducible exact LeO.refl _)
      | (with_reducible exact LeO.none _)
      | (with_reducible refine LeO.ite ?_ ?_)
      | (with_reducible refine LeO.bind ?_ (fun _ => ?_))
      | exact ih0 _ _ _ _
      | exact impl_EncodeBundle.mono _ _
      | exact laws_eqBundle.mono _ _ _
      | exact laws_eqByteS.mono _ _ _
      | exact laws_heldByteS.mono _ _ _
      | exact laws_markBundle.mono _ _ _
      | exact laws_markByteS.mono _ _ _
      | exact laws_toBundle.mono _ _
      | exact spec_EncodeBundle.mono _ _
      | exact LeO.none _
      | refine LeO.ite ?_ ?_
      | refine LeO.bind ?_ (fun _ => ?_)
set_option maxHeartbeats 8000000 in
set_option maxRecDepth 100000 in
theorem laws_FnExactEncodeBundle.calls (k : Nat) (A0_0 : Option Addr) (c0_0 : Nat) (l0_0 : List (S80)) (w : World) (hr0_0 : Kd.C k80 w A0_0 l0_0.length l0_0) (hc0_0 : l0_0.length ≤ c0_0) (h : laws_FnExactEncodeBundle.f k l0_0 = some true) :
    Calls Try.prog 6 #[.agg #[.slice A0_0 l0_0.length c0_0]] w fun e w' => e = .returned (.bool true) ∧ Below w.heap.size w w' := by
 have hu35 := Try.underlying35; have hu39 := Try.underlying39; have HR0_0 := Aside0.mk hr0_0; have HC0_0 := Aside0.mk hc0_0; clear hr0_0 hc0_0
 have HB := Aside0.mk (Below.refl w.heap.size w)
 have H : ((laws_szBundle.f l0_0 1048576).bind fun t249 => (if t249 < 0 then (some true) else ((laws_toBundle.f k l0_0).bind fun t250 => ((spec_EncodeBundle.f k t250).bind fun t253 => ((laws_toBundle.f k l0_0).bind fun t256 => ((impl_EncodeBundle.f k t256).bind fun t260 => ((laws_eqByteS.f k t260 t253).bind fun t263 => (if t263 = true then ((laws_toBundle.f k l0_0).bind fun t264 => ((laws_eqBundle.f k t256 t264).bind fun t267 => (if t267 = true then ((laws_markBundle.f k t256 1).bind fun bt268 => (if bt268.1 < 0 then (laws_FnExactEncodeBundle.j0 k t253 t260 true l0_0) else ((laws_eqByteS.f k t260 t253).bind fun t270 => (laws_FnExactEncodeBundle.j0 k t253 t260 (!t270) l0_0)))) else (some false)))) else (some false))))))))) = some true := h
 clear h; replace H := Option.bind_eq_some_iff.mp H; obtain ⟨t249, A20, H⟩ := H; (try dsimp only at H); have A2 := Aside0.mk A20; clear A20
 by_cases c3 : t249 < 0
 ·rw [if_pos c3] at H; have c3b0 : decide (t249 < 0) = true := decide_eq_true c3; clear c3; clear H
  go_enter Try.func6, Try.ntmps6
  go_wp2_with (first | ((with_reducible refine gate_dst (N := 1) rfl ?_); refine box_event ?hg (N := 1) ?hd (cs := #[.slice A0_0 l0_0.length c0_0]) (t := 35) ?hr ?_; (case hd => rfl); (case hg => rfl); (case hr => first | (go_simp; done) | (go_simp; rfl)); intro gb248 hg w4 hbox hb; have n0_ := Aside0.mk (below_step (Cmp.g HB.out) hb); have n1_ := Aside0.mk (hbox); have n2_ := Aside0.mk ((by rw [hg]; exact (below_size (Cmp.g HB.out)) : w.heap.size ≤ gb248)); have n3_ := Aside0.mk ((by rw [hg]; exact (below_size (Cmp.g HB.out)) : w.heap.size ≤ gb248)); clear HB; have HB := n0_; have BK248 := n1_; have GW248 := n2_; have GE248 := n3_; clear n0_ n1_ n2_ n3_; clear hb hbox hg; have hcz5_0 : w4.cell? ⟨gb248, 0, none⟩ = some (.slice A0_0 l0_0.length c0_0) := (blk_cell BK248.out 0).trans rfl; have hfz5_0 := blk_frozen BK248.out 0) | ((with_reducible refine gate_callee (f := 14) rfl ?_); refine goesL_ (some 13) rfl rfl Try.func14 (by kernel_rfl) rfl #[.agg #[.slice A0_0 l0_0.length c0_0], .int .i64 1048576] rfl Cmp.q ?_; (with_reducible refine (laws_szBundle.calls _ _ l0_0 1048576 t249 _ ?side1 ?side2 A2.out).mono ?_); (case side1 => exact Cmp.rc (Kd.C_below HR0_0.out HB.out)); (case side2 => exact HC0_0.out); rintro e w6 ⟨rfl, hb⟩; refine ⟨_, rfl, ?_⟩; have n0_ := Aside0.mk (blk_below (Cmp.b BK248.out) hb); have n1_ := Aside0.mk (below_step (Cmp.g HB.out) hb); clear BK248; clear HB; have BK248 := n0_; have HB := n1_; clear n0_ n1_; (try clear hb); (try clear hb2); (try clear hk); (try clear hi)))
  go_ret
  exact ⟨by first | rfl | (simp [errW_none, errW_some] <;> rfl) | (simp [*, errW_none, errW_some] <;> rfl), Cmp.g HB.out⟩
 ·rw [if_neg c3] at H; have c3b0 : decide (t249 < 0) = false := decide_eq_false c3; clear c3; replace H := Option.bind_eq_some_iff.mp H; obtain ⟨t250, A70, H⟩ := H; (try dsimp only at H); have A7 := Aside0.mk A70; clear A70; replace H := Option.bind_eq_some_iff.mp H; obtain ⟨t253, A80, H⟩ := H; (try dsimp only at H); have A8 := Aside0.mk A80; clear A80; replace H := Option.bind_eq_some_iff.mp H; obtain ⟨t256, A90, H⟩ := H; (try dsimp only at H); have A9 := Aside0.mk A90; clear A90; replace H := Option.bind_eq_some_iff.mp H; obtain ⟨t260, A100, H⟩ := H; (try dsimp only at H); have A10 := Aside0.mk A100; clear A100; replace H := Option.bind_eq_some_iff.mp H; obtain ⟨t263, A110, H⟩ := H; (try dsimp only at H); have A11 := Aside0.mk A110; clear A110
  by_cases c12 : t263 = true
  ·subst c12; rw [if_pos rfl] at H; replace H := Option.bind_eq_some_iff.mp H; obtain ⟨t264, A130, H⟩ := H; (try dsimp only at H); have A13 := Aside0.mk A130; clear A130; replace H := Option.bind_eq_some_iff.mp H; obtain ⟨t267, A140, H⟩ := H; (try dsimp only at H); have A14 := Aside0.mk A140; clear A140
   by_cases c15 : t267 = true
   ·subst c15; rw [if_pos rfl] at H; replace H := Option.bind_eq_some_iff.mp H; obtain ⟨⟨t268, t269⟩, A160, H⟩ := H; (try dsimp only at H); have A16 := Aside0.mk A160; clear A160; have HC17 := Aside0.mk H; clear H
    go_enter Try.func6, Try.ntmps6
    try go_wp2_with (first | ((with_reducible refine gate_dst (N := 1) rfl ?_); refine box_event ?hg (N := 1) ?hd (cs := #[.slice A0_0 l0_0.length c0_0]) (t := 35) ?hr ?_; (case hd => rfl); (case hg => rfl); (case hr => first | (go_simp; done) | (go_simp; rfl)); intro gb248 hg w18 hbox hb; have n0_ := Aside0.mk (below_step (Cmp.g HB.out) hb); have n1_ := Aside0.mk (hbox); have n2_ := Aside0.mk ((by rw [hg]; exact (below_size (Cmp.g HB.out)) : w.heap.size ≤ gb248)); have n3_ := Aside0.mk ((by rw [hg]; exact (below_size (Cmp.g HB.out)) : w.heap.size ≤ gb248)); clear HB; have HB := n0_; have BK248 := n1_; have GW248 := n2_; have GE248 := n3_; clear n0_ n1_ n2_ n3_; clear hb hbox hg; have hcz19_0 : w18.cell? ⟨gb248, 0, none⟩ = some (.slice A0_0 l0_0.length c0_0) := (blk_cell BK248.out 0).trans rfl; have hfz19_0 := blk_frozen BK248.out 0) | ((with_reducible refine gate_callee (f := 14) rfl ?_); refine goesL_ (some 13) rfl rfl Try.func14 (by kernel_rfl) rfl #[.agg #[.slice A0_0 l0_0.length c0_0], .int .i64 1048576] rfl Cmp.q ?_; (with_reducible refine (laws_szBundle.calls _ _ l0_0 1048576 t249 _ ?side1 ?side2 A2.out).mono ?_); (case side1 => exact Cmp.rc (Kd.C_below HR0_0.out HB.out)); (case side2 => exact HC0_0.out); rintro e w20 ⟨rfl, hb⟩; refine ⟨_, rfl, ?_⟩; have n0_ := Aside0.mk (blk_below (Cmp.b BK248.out) hb); have n1_ := Aside0.mk (below_step (Cmp.g HB.out) hb); clear BK248; clear HB; have BK248 := n0_; have HB := n1_; clear n0_ n1_; (try clear hb); (try clear hb2); (try clear hk); (try clear hi); have hcz21_0 : w20.cell? ⟨gb248, 0, none⟩ = some (.slice A0_0 l0_0.length c0_0) := (blk_cell BK248.out 0).trans rfl; have hfz21_0 := blk_frozen BK248.out 0) | ((with_reducible refine gate_callee (f := 16) rfl ?_); refine goesL_ (some 17) rfl rfl Try.func16 (by kernel_rfl) rfl #[.agg #[.slice A0_0 l0_0.length c0_0]] rfl Cmp.q ?_; (with_reducible refine (laws_toBundle.calls k _ _ l0_0 t250 _ ?side1 ?side2 A7.out).mono ?_); (case side1 => exact Cmp.rc (Kd.C_below HR0_0.out HB.out)); (case side2 => exact HC0_0.out); rintro e w22 ⟨v251, rfl, ho0, hb⟩; refine ⟨_, rfl, ?_⟩; have n0_ := Aside0.mk (Kd.R_lower ho0 (below_size (Cmp.g HB.out))); have n1_ := Aside0.mk (blk_below (Cmp.b BK248.out) hb); have n2_ := Aside0.mk (below_step (Cmp.g HB.out) hb); clear BK248; clear HB; have HO252 := n0_; have BK248 := n1_; have HB := n2_; clear n0_ n1_ n2_; (try clear hb); (try clear hb2); (try clear hk); (try clear hi); (try clear ho0); obtain ⟨Ao23, co23, eo23⟩ := Kd.R_slice HO252.out; subst eo23) | ((with_reducible refine gate_callee (f := 23) rfl ?_); refine goesL_ (some 18) rfl rfl Try.func23 (by kernel_rfl) rfl #[.agg #[.slice Ao23 t250.length co23]] rfl Cmp.q ?_; (with_reducible refine (spec_EncodeBundle.calls k _ _ t250 t253 _ ?side1 ?side2 A8.out).mono ?_); (case side1 => exact Cmp.rc (Kd.R_reads' HO252.out).2.2); (case side2 => exact (Kd.R_reads' HO252.out).2.1); rintro e w24 ⟨v254, rfl, ho0, hb⟩; refine ⟨_, rfl, ?_⟩; have n0_ := Aside0.mk (Kd.R_below (Cmp.rr HO252.out) hb); have n1_ := Aside0.mk (Kd.R_lower ho0 (below_size (Cmp.g HB.out))); have n2_ := Aside0.mk (blk_below (Cmp.b BK248.out) hb); have n3_ := Aside0.mk (below_step (Cmp.g HB.out) hb); clear HO252; clear BK248; clear HB; have HO252 := n0_; have HO255 := n1_; have BK248 := n2_; have HB := n3_; clear n0_ n1_ n2_ n3_; (try clear hb); (try clear hb2); (try clear hk); (try clear hi); (try clear ho0); have hcz25_0 : w24.cell? ⟨gb248, 0, none⟩ = some (.slice A0_0 l0_0.length c0_0) := (blk_cell BK248.out 0).trans rfl; have hfz25_0 := blk_frozen BK248.out 0) | ((with_reducible refine gate_callee (f := 16) rfl ?_); refine goesL_ (some 20) rfl rfl Try.func16 (by kernel_rfl) rfl #[.agg #[.slice A0_0 l0_0.length c0_0]] rfl Cmp.q ?_; (with_reducible refine (laws_toBundle.calls k _ _ l0_0 t256 _ ?side1 ?side2 A9.out).mono ?_); (case side1 => exact Cmp.rc (Kd.C_below HR0_0.out HB.out)); (case side2 => exact HC0_0.out); rintro e w26 ⟨v257, rfl, ho0, hb⟩; refine ⟨_, rfl, ?_⟩; have n0_ := Aside0.mk (Kd.R_elder' (Cmp.rr HO252.out) (Kd.R_base ho0) hb); have n1_ := Aside0.mk (Kd.R_below (Cmp.rr HO255.out) hb); have n2_ := Aside0.mk (Kd.R_lower (Kd.R_new' ho0 (Kd.R_lt (Cmp.rr HO252.out))) (below_size (Cmp.g HB.out))); have n3_ := Aside0.mk (blk_below (Cmp.b BK248.out) hb); have n4_ := Aside0.mk (below_step (Cmp.g HB.out) hb); clear HO252; clear HO255; clear BK248; clear HB; have HO252 := n0_; have HO255 := n1_; have HO258 := n2_; have BK248 := n3_; have HB := n4_; clear n0_ n1_ n2_ n3_ n4_; (try clear hb); (try clear hb2); (try clear hk); (try clear hi); (try clear ho0)) | ((with_reducible refine gate_dst (N := 5) rfl ?_); refine box_event ?hg (N := 5) ?hd (cs := #[.slice none 0 0]) (t := 39) ?hr ?_; (case hd => rfl); (case hg => rfl); (case hr => first | (go_simp; done) | (go_simp; rfl)); intro gb259 hg w27 hbox hb; have n0_ := Aside0.mk (Kd.R_below (Cmp.rr HO252.out) hb); have n1_ := Aside0.mk (Kd.R_below (Cmp.rr HO255.out) hb); have n2_ := Aside0.mk (Kd.R_below (Cmp.rr HO258.out) hb); have n3_ := Aside0.mk (blk_below (Cmp.b BK248.out) hb); have n4_ := Aside0.mk (below_step (Cmp.g HB.out) hb); have n5_ := Aside0.mk (hbox); have n6_ := Aside0.mk ((by rw [hg]; exact (below_size (Cmp.g HB.out)) : w.heap.size ≤ gb259)); have n7_ := Aside0.mk ((by rw [hg]; exact (below_size (Cmp.g HB.out)) : w.heap.size ≤ gb259)); have n8_ := Aside0.mk ((by rw [hg]; exact Nat.ne_of_lt (blk_lt (Cmp.b BK248.out)) : gb248 ≠ gb259)); have n9_ := Aside0.mk ((by rw [hg]; exact Nat.ne_of_gt (blk_lt (Cmp.b BK248.out)) : gb259 ≠ gb248)); clear HO252; clear HO255; clear HO258; clear BK248; clear HB; have HO252 := n0_; have HO255 := n1_; have HO258 := n2_; have BK248 := n3_; have HB := n4_; have BK259 := n5_; have GW259 := n6_; have GE259 := n7_; have NB248_259 := n8_; have NB259_248 := n9_; clear n0_ n1_ n2_ n3_ n4_ n5_ n6_ n7_ n8_ n9_; clear hb hbox hg; obtain ⟨Ao28, co28, eo28⟩ := Kd.R_slice HO258.out; subst eo28; have hnb29 := NB259_248.out; have hnc29 := NB248_259.out; have hcz30_0 : w27.cell? ⟨gb259, 0, none⟩ = some (.slice none 0 0) := (blk_cell BK259.out 0).trans rfl; have hfz30_0 := blk_frozen BK259.out 0) | ((with_reducible refine gate_callee (f := 24) rfl ?_); refine goesL_ (some 22) rfl rfl Try.func24 (by kernel_rfl) rfl #[.agg #[.slice Ao28 t256.length co28]] rfl Cmp.q ?_; (with_reducible refine (impl_EncodeBundle.calls k _ _ t256 t260 _ ?side1 ?side2 A10.out).mono ?_); (case side1 => refine (Kd.R_reads' (e := 64) (base := w.heap.size) (ok := fun k_ => (True ∧ some k_ ≠ (.slice Ao23 t250.length co23 : Value).ownBlock)) (n := t256.length) (c := co28) ?_).2.2; exact (by (with_reducible repeat (first | apply Kd.R_alloc | apply Kd.R_drewN | apply Kd.R_drew)); exact (Kd.R_mono (Kd.R_far (p := ⟨gb259, 0, none⟩) (Kd.R_types HO258.out BK259.out (by decide)) (fun _ hk => hk.2) (.slice Ao28 t256.length co28)) (fun _ h_ => h_.1)))); (case side2 => exact (Kd.R_reads' HO258.out).2.1); rintro e w31 ⟨v261, rfl, ho0, hb⟩; refine ⟨_, rfl, ?_⟩; have n0_ := Aside0.mk (Kd.R_below (by (with_reducible repeat (first | apply Kd.R_alloc | apply Kd.R_drewN | apply Kd.R_drew)); exact (Kd.R_mono (Kd.R_far (p := ⟨gb259, 0, none⟩) (Kd.R_types HO252.out BK259.out (by decide)) (fun _ hk => hk.2) (.slice Ao28 t256.length co28)) (fun _ h_ => h_.1))) hb); have n1_ := Aside0.mk (Kd.R_elder' (by (with_reducible repeat (first | apply Kd.R_alloc | apply Kd.R_drewN | apply Kd.R_drew)); exact (Kd.R_mono (Kd.R_far (p := ⟨gb259, 0, none⟩) (Kd.R_types HO255.out BK259.out (by decide)) (fun _ hk => hk.2) (.slice Ao28 t256.length co28)) (fun _ h_ => h_.1))) (Kd.R_base ho0) hb); have n2_ := Aside0.mk (Kd.R_below (by (with_reducible repeat (first | apply Kd.R_alloc | apply Kd.R_drewN | apply Kd.R_drew)); exact (Kd.R_mono (Kd.R_far (p := ⟨gb259, 0, none⟩) (Kd.R_types HO258.out BK259.out (by decide)) (fun _ hk => hk.2) (.slice Ao28 t256.length co28)) (fun _ h_ => h_.1))) hb); have n3_ := Aside0.mk (Kd.R_lower (Kd.R_new' ho0 (Kd.R_lt (by (with_reducible repeat (first | apply Kd.R_alloc | apply Kd.R_drewN | apply Kd.R_drew)); exact (Kd.R_mono (Kd.R_far (p := ⟨gb259, 0, none⟩) (Kd.R_types HO255.out BK259.out (by decide)) (fun _ hk => hk.2) (.slice Ao28 t256.length co28)) (fun _ h_ => h_.1))))) (below_size (Cmp.g HB.out))); have n4_ := Aside0.mk (blk_below (g := gb248) (o := .cells #[.slice A0_0 l0_0.length c0_0] 35 (0, 0)) (by (with_reducible repeat (first | refine blk_drewN ?_ _ | refine blk_drew ?_ | refine blk_alloc ?_ _)); refine blk_far ?_ NB248_259.out _; (with_reducible repeat (first | refine blk_drewN ?_ _ | refine blk_drew ?_ | refine blk_alloc ?_ _)); exact BK248.out) hb); have n5_ := Aside0.mk (blk_below (g := gb259) (o := .cells #[.slice Ao28 t256.length co28] 39 (0, 0)) (by (with_reducible repeat (first | refine blk_drewN ?_ _ | refine blk_drew ?_ | refine blk_alloc ?_ _)); refine blk_put (cs := #[.slice none 0 0]) ?_ 0 _ rfl; (with_reducible repeat (first | refine blk_drewN ?_ _ | refine blk_drew ?_ | refine blk_alloc ?_ _)); exact BK259.out) hb); have n6_ := Aside0.mk (below_step (Cmp.g HB.out) hb); clear HO252; clear HO255; clear HO258; clear BK248; clear BK259; clear HB; have HO252 := n0_; have HO255 := n1_; have HO258 := n2_; have HO262 := n3_; have BK248 := n4_; have BK259 := n5_; have HB := n6_; clear n0_ n1_ n2_ n3_ n4_ n5_ n6_; (try clear hb); (try clear hb2); (try clear hk); (try clear hi); (try clear ho0); obtain ⟨Ao32, co32, eo32⟩ := Kd.R_slice HO262.out; subst eo32; obtain ⟨Ao33, co33, eo33⟩ := Kd.R_slice HO255.out; subst eo33) | ((with_reducible refine gate_callee (f := 25) rfl ?_); refine goesL_ (some 25) rfl rfl Try.func25 (by kernel_rfl) rfl #[.slice Ao32 t260.length co32, .slice Ao33 t253.length co33] rfl Cmp.q ?_; (with_reducible refine (laws_eqByteS.calls k _ _ t260 _ _ t253 true _ ?side1 ?side2 ?side3 ?side4 A11.out).mono ?_); (case side1 => exact Cmp.rc (Kd.R_reads' HO262.out).2.2); (case side2 => exact (Kd.R_reads' HO262.out).2.1); (case side3 => exact Cmp.rc (Kd.R_reads' HO255.out).2.2); (case side4 => exact (Kd.R_reads' HO255.out).2.1); rintro e w' ⟨rfl, ⟨nd, rfl⟩⟩; refine ⟨_, rfl, ?_⟩))
    (try (rw [drewN_self w31]; generalize hq_ : World.drewN w31 _ = w31; have n0_ : Aside0 (Kd.R k64 64 w31 w.heap.size (fun k_ => some k_ ≠ (.slice Ao28 t256.length co28 : Value).ownBlock) (.slice Ao23 t250.length co23) t250) := ⟨by rw [← hq_]; exact (by (with_reducible repeat (first | apply Kd.R_alloc | apply Kd.R_drewN | apply Kd.R_drew)); exact Kd.R_mono HO252.out (fun _ hk => hk.2))⟩; have n1_ : Aside0 (Kd.R (Kd.int .u8) 5 w31 w.heap.size (fun k_ => some k_ ≠ (.slice Ao32 t260.length co32 : Value).ownBlock) (.slice Ao33 t253.length co33) t253) := ⟨by rw [← hq_]; exact (by (with_reducible repeat (first | apply Kd.R_alloc | apply Kd.R_drewN | apply Kd.R_drew)); exact Kd.R_mono HO255.out (fun _ hk => hk.2))⟩; have n2_ : Aside0 (Kd.R k64 64 w31 w.heap.size (fun k_ => some k_ ≠ (.slice Ao23 t250.length co23 : Value).ownBlock) (.slice Ao28 t256.length co28) t256) := ⟨by rw [← hq_]; exact (by (with_reducible repeat (first | apply Kd.R_alloc | apply Kd.R_drewN | apply Kd.R_drew)); exact Kd.R_mono HO258.out (fun _ hk => hk.2))⟩; have n3_ : Aside0 (Kd.R (Kd.int .u8) 5 w31 w.heap.size (fun k_ => some k_ ≠ (.slice Ao33 t253.length co33 : Value).ownBlock) (.slice Ao32 t260.length co32) t260) := ⟨by rw [← hq_]; exact (by (with_reducible repeat (first | apply Kd.R_alloc | apply Kd.R_drewN | apply Kd.R_drew)); exact Kd.R_mono HO262.out (fun _ hk => hk.2))⟩; have n4_ : Aside0 (w31.heap[gb248]? = some (.cells #[.slice A0_0 l0_0.length c0_0] 35 (0, 0))) := ⟨by rw [← hq_]; exact (Cmp.b BK248.out)⟩; have n5_ : Aside0 (w31.heap[gb259]? = some (.cells #[.slice Ao28 t256.length co28] 39 (0, 0))) := ⟨by rw [← hq_]; exact (Cmp.b BK259.out)⟩; have n6_ : Aside0 (Below w.heap.size w w31) := ⟨by rw [← hq_]; exact (Cmp.g HB.out)⟩; clear HO252 HO255 HO258 HO262 BK248 BK259 HB hq_; have HO252 := n0_; have HO255 := n1_; have HO258 := n2_; have HO262 := n3_; have BK248 := n4_; have BK259 := n5_; have HB := n6_; clear n0_ n1_ n2_ n3_ n4_ n5_ n6_))
    have n0_ := Aside0.mk (Kd.R_drew HO252.out); have n1_ := Aside0.mk (Kd.R_drew HO255.out); have n2_ := Aside0.mk (Kd.R_drew HO258.out); have n3_ := Aside0.mk (Kd.R_drew HO262.out); have n4_ := Aside0.mk (blk_drew BK248.out); have n5_ := Aside0.mk (blk_drew BK259.out); have n6_ := Aside0.mk (below_drew1 HB.out); clear HO252; clear HO255; clear HO258; clear HO262; clear BK248; clear BK259; clear HB; have HO252 := n0_; have HO255 := n1_; have HO258 := n2_; have HO262 := n3_; have BK248 := n4_; have BK259 := n5_; have HB := n6_; clear n0_ n1_ n2_ n3_ n4_ n5_ n6_
    refine start_ (n := 5) (S := fun w' => w'.cell? ⟨gb259, 0, none⟩ = some (.slice Ao28 t256.length co28) ∧ w'.cell? ⟨gb248, 0, none⟩ = some (.slice A0_0 l0_0.length c0_0)) (ds := []) #[false, false, false, false, false] (by kernel_rfl) rfl rfl ⟨(blk_cell BK259.out 0).trans rfl, (blk_cell BK248.out 0).trans rfl⟩ (fun hHeld => ?_)
    generalize w31.drew = w34 at HO252 HO255 HO258 HO262 BK248 BK259 HB hHeld ⊢
    refine take_ (i := 0) (N := some 27) (v := ?_) (a' := ?_) #[true, false, false, false, false] rfl rfl (by kernel_rfl) (fun _ _ _ h => h) (Or.inl ⟨by rfl, ?_⟩) hHeld ?_ ?_
    rotate_left
    ·rintro w' ⟨s0, s1⟩; go_simp; with_reducible rfl
    rotate_left
    ·simp only [Act.put, Cmp.s, Cmp.z, Cmp.c, i64_w, i32_w]; rfl
    refine take_ (i := 1) (N := some 28) (v := ?_) (a' := ?_) #[true, true, false, false, false] rfl rfl (by kernel_rfl) (fun _ _ _ h => h) (Or.inl ⟨by rfl, ?_⟩) hHeld ?_ ?_
    rotate_left
    ·rintro w' ⟨s0, s1⟩; go_simp; with_reducible rfl
    rotate_left
    ·simp only [Act.put, Cmp.s, Cmp.z, Cmp.c, i64_w, i32_w]; rfl
    refine one_ (i := 2) (N := some 29) #[true, true, true, false, false] rfl rfl (by kernel_rfl) (by decide) (fun K hK => ?_)
    refine goes_ Try.func16 (by kernel_rfl) rfl #[.agg #[.slice A0_0 l0_0.length c0_0]] (by rfl) rfl rfl Cmp.q ?_
    with_reducible refine (laws_toBundle.calls k _ _ l0_0 t264 _ ?side1 ?side2 A13.out).mono ?_
    (case side1 => exact Cmp.rc (Kd.C_below HR0_0.out HB.out))
    (case side2 => exact HC0_0.out)
    rintro e w35 ⟨v265, rfl, ho0, hb⟩; refine ⟨_, rfl, ?_⟩
    have n0_ := Aside0.mk (Kd.R_elder' (Cmp.rr HO252.out) (Kd.R_base ho0) hb)
    have n1_ := Aside0.mk (Kd.R_below (Cmp.rr HO255.out) hb)
    have n2_ := Aside0.mk (Kd.R_elder' (Cmp.rr HO258.out) (Kd.R_base ho0) hb)
    have n3_ := Aside0.mk (Kd.R_below (Cmp.rr HO262.out) hb)
    have n4_ := Aside0.mk (Kd.R_lower (Kd.R_new' (Kd.R_new' ho0 (Kd.R_lt (Cmp.rr HO252.out))) (Kd.R_lt (Cmp.rr HO258.out))) (below_size (Cmp.g HB.out)))
    have n5_ := Aside0.mk (blk_below (Cmp.b BK248.out) hb)
    have n6_ := Aside0.mk (blk_below (Cmp.b BK259.out) hb)
    have n7_ := Aside0.mk (below_step (Cmp.g HB.out) hb)
    clear HO252; clear HO255; clear HO258; clear HO262; clear BK248; clear BK259; clear HB; have HO252 := n0_; have HO255 := n1_; have HO258 := n2_; have HO262 := n3_; have HO266 := n4_; have BK248 := n5_; have BK259 := n6_; have HB := n7_; clear n0_ n1_ n2_ n3_ n4_ n5_ n6_ n7_; (try clear hb); (try clear hb2); (try clear hk); (try clear hi); (try clear ho0)
    obtain ⟨Ao36, co36, eo36⟩ := Kd.R_slice HO266.out
    (first | subst eo36 | (injection eo36 with f1_ f2_ f3_; have f4_ := f1_.symm; have f5_ := f3_.symm; clear f1_ f2_ f3_; subst f4_; subst f5_))
    refine hK.out _ _ ⟨(blk_cell BK259.out 0).trans rfl, (blk_cell BK248.out 0).trans rfl⟩ (fun hHeld => ?_)
    clear hK K
    refine norm_ (a' := ?_) ?_ ?_
    rotate_left
    ·show Act.put _ (some 29) _ = _
     simp only [Act.put, Cmp.s, Cmp.z, Cmp.c, i64_w, i32_w]; rfl
    refine one_ (i := 3) (N := some 30) #[true, true, true, true, false] rfl rfl (by kernel_rfl) (by decide) (fun K hK => ?_)
    refine goes_ Try.func18 (by kernel_rfl) rfl #[.agg #[.slice Ao28 t256.length co28], .agg #[.slice Ao36 t264.length co36]] (by rfl) rfl rfl Cmp.q ?_
    with_reducible refine (laws_eqBundle.calls k _ _ t256 _ _ t264 true _ ?side1 ?side2 ?side3 ?side4 A14.out).mono ?_
    (case side1 => exact Cmp.rc (Kd.R_reads' HO258.out).2.2)
    (case side2 => exact (Kd.R_reads' HO258.out).2.1)
    (case side3 => exact Cmp.rc (Kd.R_reads' HO266.out).2.2)
    (case side4 => exact (Kd.R_reads' HO266.out).2.1)
    rintro e w37 ⟨rfl, hb⟩; refine ⟨_, rfl, ?_⟩
    have n0_ := Aside0.mk (Kd.R_below (Cmp.rr HO252.out) hb)
    have n1_ := Aside0.mk (Kd.R_below (Cmp.rr HO255.out) hb)
    have n2_ := Aside0.mk (Kd.R_below (Cmp.rr HO258.out) hb)
    have n3_ := Aside0.mk (Kd.R_below (Cmp.rr HO262.out) hb)
    have n4_ := Aside0.mk (Kd.R_below (Cmp.rr HO266.out) hb)
    have n5_ := Aside0.mk (blk_below (Cmp.b BK248.out) hb)
    have n6_ := Aside0.mk (blk_below (Cmp.b BK259.out) hb)
    have n7_ := Aside0.mk (below_step (Cmp.g HB.out) hb)
    clear HO252; clear HO255; clear HO258; clear HO262; clear HO266; clear BK248; clear BK259; clear HB; have HO252 := n0_; have HO255 := n1_; have HO258 := n2_; have HO262 := n3_; have HO266 := n4_; have BK248 := n5_; have BK259 := n6_; have HB := n7_; clear n0_ n1_ n2_ n3_ n4_ n5_ n6_ n7_; (try clear hb); (try clear hb2); (try clear hk); (try clear hi)
    refine hK.out _ _ ⟨(blk_cell BK259.out 0).trans rfl, (blk_cell BK248.out 0).trans rfl⟩ (fun hHeld => ?_)
    clear hK K
    refine norm_ (a' := ?_) ?_ ?_
    rotate_left
    ·show Act.put _ (some 30) _ = _
     simp only [Act.put, Cmp.s, Cmp.z, Cmp.c, i64_w, i32_w]; rfl
    refine pure_ (i := 4) (N := some 31) (v := ?_) (a' := ?_) #[true, true, true, true, true] rfl rfl (by kernel_rfl) (fun _ _ _ h => h) (Or.inl ⟨by rfl, ?_⟩) ?_ ?_
    rotate_left
    ·intro w'; go_simp; with_reducible rfl
    rotate_left
    ·simp only [Act.put, Cmp.s, Cmp.z, Cmp.c, i64_w, i32_w]; rfl
    refine done_ (by kernel_rfl) ?_
    have hcz38_0 : w37.cell? ⟨gb259, 0, none⟩ = some (.slice Ao28 t256.length co28) := (blk_cell BK259.out 0).trans rfl
    have hfz38_0 := blk_frozen BK259.out 0
    go_upto_region 14 with (first | ((with_reducible refine gate_callee (f := 19) rfl ?_); refine goesL_ (some 34) rfl rfl Try.func19 (by kernel_rfl) rfl #[.agg #[.slice Ao28 t256.length co28], .int .i64 1] rfl Cmp.q ?_; (with_reducible refine (laws_markBundle.calls k (fun k_ => some k_ = (.slice Ao28 t256.length co28 : Value).ownBlock) (.slice Ao28 t256.length co28) t256 1 t268 t269 w _ ?side1 ?side2 A16.out).mono ?_); (case side1 => repeat (first | (with_reducible first | exact HB.out | apply below_alloc | apply pw_below_drewN | apply below_drew1 | refine below_set ?_ GE248.out | refine below_set ?_ GE259.out) | exact HB.out)); (case side2 => exact Kd.R_tight rfl HO258.out); rintro e w39 ⟨rfl, hy0, hb, hkp⟩; refine ⟨_, rfl, ?_⟩; have n0_ := Aside0.mk (blk_kept (Cmp.b BK248.out) hkp (fun hs_ => (fun e_ => (Kd.R_ne HO258.out BK248.out (by decide)) e_) hs_)); have n1_ := Aside0.mk (Kd.R_mono (ok' := fun k_ => some k_ ≠ (.slice Ao28 t256.length co28 : Value).ownBlock ∧ some k_ ≠ (.slice Ao36 t264.length co36 : Value).ownBlock) (Kd.R_keptB (HO252.out) hkp (fun k_ hk_ hs_ => by first | exact hk_.1.2 hs_ | exact hk_.1 hs_)) (fun k_ hk_ => by first | exact ⟨hk_.1.1.2, hk_.1.2⟩ | exact ⟨hk_.1.1, hk_.1.2⟩)); have n2_ := Aside0.mk (Kd.R_mono (ok' := fun k_ => some k_ ≠ (.slice Ao32 t260.length co32 : Value).ownBlock) (Kd.R_keptB ((Kd.R_apart' HO255.out (Kd.R_typed HO258.out) (by decide))) hkp (fun k_ hk_ hs_ => (hk_.2) hs_)) (fun k_ hk_ => by first | exact hk_.1.1.2 | exact hk_.1.1)); have n3_ := Aside0.mk (Kd.R_reok rfl hy0 (fun k_ e_ => HO258.out.1 k_ e_)); have n4_ := Aside0.mk (blk_kept (Cmp.b BK259.out) hkp (fun hs_ => (fun e_ => (Kd.R_ne HO258.out BK259.out (by decide)) e_) hs_)); have n5_ := Aside0.mk (Kd.R_mono (ok' := fun k_ => some k_ ≠ (.slice Ao33 t253.length co33 : Value).ownBlock) (Kd.R_keptB ((Kd.R_apart' HO262.out (Kd.R_typed HO258.out) (by decide))) hkp (fun k_ hk_ hs_ => (hk_.2) hs_)) (fun k_ hk_ => by first | exact hk_.1.1.2 | exact hk_.1.1)); have n6_ := Aside0.mk (Kd.R_mono (ok' := fun k_ => some k_ ≠ (.slice Ao23 t250.length co23 : Value).ownBlock ∧ some k_ ≠ (.slice Ao28 t256.length co28 : Value).ownBlock) (Kd.R_keptB (HO266.out) hkp (fun k_ hk_ hs_ => (hk_.2) hs_)) (fun k_ hk_ => by first | exact ⟨hk_.1.1.2, hk_.1.2⟩ | exact ⟨hk_.1.1, hk_.1.2⟩)); have n7_ := Aside0.mk (hb); clear BK248; clear HO252; clear HO255; clear HO258; clear BK259; clear HO262; clear HO266; clear HB; have BK248 := n0_; have HO252 := n1_; have HO255 := n2_; have HO258 := n3_; have BK259 := n4_; have HO262 := n5_; have HO266 := n6_; have HB := n7_; clear n0_ n1_ n2_ n3_ n4_ n5_ n6_ n7_; (try clear hb); (try clear hkp); (try clear hy0)))
    (try simp only [Act.put, List.setIfInBounds_toArray, List.set_cons_zero, List.set_cons_succ])
    go_cut [42] (fun v42 wc => ∃ (kq : Nat) (x42_16 : Bool), v42 = .bool x42_16 ∧ Aside0 (laws_FnExactEncodeBundle.j0 kq t253 t260 x42_16 l0_0 = some true) ∧ Aside0 (kq ≤ k) ∧ Aside0 (Kd.R (Kd.int .u8) 5 wc w.heap.size (fun k_ => some k_ ≠ ((.slice Ao32 t260.length co32) : Value).ownBlock) (.slice Ao33 t253.length co33) t253) ∧ Aside0 (Kd.R (Kd.int .u8) 5 wc w.heap.size (fun k_ => some k_ ≠ ((.slice Ao33 t253.length co33) : Value).ownBlock) (.slice Ao32 t260.length co32) t260) ∧ Aside0 (Kd.R k64 64 wc w.heap.size (fun _ => True) (.slice Ao28 t256.length co28) t269) ∧ Aside0 (wc.heap[gb248]? = some (.cells #[(.slice A0_0 l0_0.length c0_0)] 35 (0, 0))) ∧ Aside0 (wc.heap[gb259]? = some (.cells #[(.slice Ao28 t256.length co28)] 39 (0, 0))) ∧ Aside0 (Below w.heap.size w wc))
    case first =>
     have H := HC17.out; clear HC17
     by_cases c40 : t268 < 0
     ·rw [if_pos c40] at H; have c40b0 : decide (t268 < 0) = true := decide_eq_true c40; clear c40
      (first | rw [c40b0] | (simp only [i64_w, i32_w]; rw [c40b0]) | skip)
      have H' := Aside0.mk H
      clear H
      go_wp2
      go_meet
      case rel => exact ⟨_, (true), (by first | rfl | simp | simp [*]), H', ⟨by first | omega | exact Nat.le_refl _⟩, ⟨by (with_reducible repeat (first | apply Kd.R_alloc | apply Kd.R_drewN | apply Kd.R_drew)); exact HO255.out⟩, ⟨by (with_reducible repeat (first | apply Kd.R_alloc | apply Kd.R_drewN | apply Kd.R_drew)); exact HO262.out⟩, ⟨by (with_reducible repeat (first | apply Kd.R_alloc | apply Kd.R_drewN | apply Kd.R_drew)); exact Kd.R_mono HO258.out (fun _ hk => trivial)⟩, ⟨by (with_reducible repeat (first | refine blk_drewN ?_ _ | refine blk_drew ?_ | refine blk_alloc ?_ _)); exact BK248.out⟩, ⟨by (with_reducible repeat (first | refine blk_drewN ?_ _ | refine blk_drew ?_ | refine blk_alloc ?_ _)); exact BK259.out⟩, ⟨Cmp.g HB.out⟩⟩
     ·rw [if_neg c40] at H; have c40b0 : decide (t268 < 0) = false := decide_eq_false c40; clear c40
      (first | rw [c40b0] | (simp only [i64_w, i32_w]; rw [c40b0]) | skip)
      replace H := Option.bind_eq_some_iff.mp H; obtain ⟨t270, A410, H⟩ := H; (try dsimp only at H); have A41 := Aside0.mk A410; clear A410
      have H' := Aside0.mk H
      clear H
      go_wp2_with (first | (go_at_call 25; (with_reducible refine (laws_eqByteS.calls k _ _ t260 _ _ t253 t270 _ ?side1 ?side2 ?side3 ?side4 A41.out).mono ?_); (case side1 => exact Cmp.rc (Kd.R_reads' HO262.out).2.2); (case side2 => exact (Kd.R_reads' HO262.out).2.1); (case side3 => exact Cmp.rc (Kd.R_reads' HO255.out).2.2); (case side4 => exact (Kd.R_reads' HO255.out).2.1); rintro e w' ⟨rfl, ⟨nd, rfl⟩⟩))
      go_meet
      case rel => exact ⟨_, (!t270), (by first | rfl | simp | simp [*]), H', ⟨by first | omega | exact Nat.le_refl _⟩, ⟨by (with_reducible repeat (first | apply Kd.R_alloc | apply Kd.R_drewN | apply Kd.R_drew)); exact HO255.out⟩, ⟨by (with_reducible repeat (first | apply Kd.R_alloc | apply Kd.R_drewN | apply Kd.R_drew)); exact HO262.out⟩, ⟨by (with_reducible repeat (first | apply Kd.R_alloc | apply Kd.R_drewN | apply Kd.R_drew)); exact Kd.R_mono HO258.out (fun _ hk => trivial)⟩, ⟨by (with_reducible repeat (first | refine blk_drewN ?_ _ | refine blk_drew ?_ | refine blk_alloc ?_ _)); exact BK248.out⟩, ⟨by (with_reducible repeat (first | refine blk_drewN ?_ _ | refine blk_drew ?_ | refine blk_alloc ?_ _)); exact BK259.out⟩, ⟨Cmp.g HB.out⟩⟩
    case rest =>
     clear HC17; (try clear c1); (try clear c2); (try clear p2); (try clear c3); (try clear c3b0); (try clear c4); (try clear c6); (try clear c12); (try clear c14); (try clear c15); (try clear c16); (try clear c18); (try clear c19); (try clear c23); (try clear c24); (try clear c25); (try clear c29); (try clear c40); (try clear c40b0); (try clear hcz19_0); (try clear hcz21_0); (try clear hcz25_0); (try clear hcz30_0); (try clear hcz38_0); (try clear hcz5_0); (try clear hfz19_0); (try clear hfz21_0); (try clear hfz25_0); (try clear hfz30_0); (try clear hfz38_0); (try clear hfz5_0)
     obtain ⟨kq, x42_16, rfl, HA, HJ16, HO_4, HO_6, HO_260000, BK248, BK259, HB⟩ := hcut
     have hl260000_16 := (Kd.R_reads' HO_260000.out).1
     rw [hl260000_16] at HO_260000
     (try simp only [hl260000_16])
     (try simp only [hl260000_16] at BK248)
     (try simp only [hl260000_16] at BK259)
     (try simp only [hl260000_16] at HO_4)
     (try simp only [hl260000_16] at HO_6)
     cases kq with
     | zero => exact absurd HA.out (by simp [laws_FnExactEncodeBundle.j0])
     | succ kj16 =>
      have H := HA.out; clear HA
      simp only [laws_FnExactEncodeBundle.j0] at H
      by_cases c42 : x42_16 = true
      ·subst c42; rw [if_pos rfl] at H; exact absurd H (by simp)
      ·replace c42 := Bool.eq_false_iff.mpr c42
       subst c42
       have H1 : ((laws_markByteS.f kj16 t260 1).bind fun bt271 => ((laws_heldByteS.f kj16 bt271.2 1).bind fun t273 => (if t273 < 0 then (some false) else (if t273 = bt271.1 then ((laws_toBundle.f kj16 l0_0).bind fun t274 => ((impl_EncodeBundle.f kj16 t274).bind fun t277 => ((laws_eqByteS.f kj16 t277 t253).bind fun t280 => (if t280 = true then ((laws_heldByteS.f kj16 bt271.2 1).bind fun t281 => (if t281 < 0 then (some false) else (if t281 = bt271.1 then (some true) else (some false)))) else (some false))))) else (some false))))) = some true := by first | (rw [if_neg (show ¬ (false = true) by decide)] at H; exact H) | (rw [if_neg (show ¬ (false = true) by decide)] at H)
       clear H; have H := H1; clear H1; replace H := Option.bind_eq_some_iff.mp H; obtain ⟨⟨t271, t272⟩, A430, H⟩ := H; (try dsimp only at H); have A43 := Aside0.mk A430; clear A430; replace H := Option.bind_eq_some_iff.mp H; obtain ⟨t273, A440, H⟩ := H; (try dsimp only at H); have A44 := Aside0.mk A440; clear A440
       by_cases c45 : t273 < 0
       ·rw [if_pos c45] at H; have c45b0 : decide (t273 < 0) = true := decide_eq_true c45; clear c45; exact absurd H (by simp)
       ·rw [if_neg c45] at H; have c45b0 : decide (t273 < 0) = false := decide_eq_false c45; clear c45
        by_cases c47 : t273 = t271
        ·rw [if_pos c47] at H; have c47b0 : (t273 == t271) = true := beq_iff_eq.mpr c47; have c47b1 : (t273 != t271) = false := bne_eq_false_iff_eq.mpr c47; clear c47; replace H := Option.bind_eq_some_iff.mp H; obtain ⟨t274, A480, H⟩ := H; (try dsimp only at H); have A48 := Aside0.mk A480; clear A480; replace H := Option.bind_eq_some_iff.mp H; obtain ⟨t277, A490, H⟩ := H; (try dsimp only at H); have A49 := Aside0.mk A490; clear A490; replace H := Option.bind_eq_some_iff.mp H; obtain ⟨t280, A500, H⟩ := H; (try dsimp only at H); have A50 := Aside0.mk A500; clear A500
         by_cases c51 : t280 = true
         ·subst c51; rw [if_pos rfl] at H; replace H := Option.bind_eq_some_iff.mp H; obtain ⟨t281, A520, H⟩ := H; (try dsimp only at H); have A52 := Aside0.mk A520; clear A520
          by_cases c53 : t281 < 0
          ·rw [if_pos c53] at H; have c53b0 : decide (t281 < 0) = true := decide_eq_true c53; clear c53; exact absurd H (by simp)
          ·rw [if_neg c53] at H; have c53b0 : decide (t281 < 0) = false := decide_eq_false c53; clear c53
           by_cases c61 : t281 = t271
           ·rw [if_pos c61] at H; have c61b0 : (t281 == t271) = true := beq_iff_eq.mpr c61; have c61b1 : (t281 != t271) = false := bne_eq_false_iff_eq.mpr c61; clear c61; clear H
            go_wp2_with (first | ((with_reducible refine gate_callee (f := 26) rfl ?_); refine goesL_ (some 45) rfl rfl Try.func26 (by kernel_rfl) rfl #[.slice Ao32 t260.length co32, .int .i64 1] rfl Cmp.q ?_; (with_reducible refine (laws_markByteS.calls kj16 (fun k_ => some k_ = (.slice Ao32 t260.length co32 : Value).ownBlock) (.slice Ao32 t260.length co32) t260 1 t271 t272 w _ ?side1 ?side2 A43.out).mono ?_); (case side1 => repeat (first | (with_reducible first | exact HB.out | apply below_alloc | apply pw_below_drewN | apply below_drew1 | refine below_set ?_ GE248.out | refine below_set ?_ GE259.out) | exact HB.out)); (case side2 => exact Kd.R_tight rfl HO_6.out); rintro e w62 ⟨rfl, hy0, hb, hkp⟩; refine ⟨_, rfl, ?_⟩; have n0_ := Aside0.mk (Kd.R_mono (ok' := fun k_ => some k_ ≠ (.slice Ao32 t260.length co32 : Value).ownBlock) (Kd.R_keptB (HO_4.out) hkp (fun k_ hk_ hs_ => (hk_) hs_)) (fun k_ hk_ => hk_.1)); have n1_ := Aside0.mk (Kd.R_reok rfl hy0 (fun k_ e_ => HO_6.out.1 k_ e_)); have n2_ := Aside0.mk (Kd.R_mono (ok' := fun k_ => True) (Kd.R_keptB ((Kd.R_apart' HO_260000.out (Kd.R_typed HO_6.out) (by decide))) hkp (fun k_ hk_ hs_ => (hk_.2) hs_)) (fun k_ hk_ => trivial)); have n3_ := Aside0.mk (blk_kept (Cmp.b BK248.out) hkp (fun hs_ => (fun e_ => (Kd.R_ne HO_6.out BK248.out (by decide)) e_) hs_)); have n4_ := Aside0.mk (blk_kept (Cmp.b BK259.out) hkp (fun hs_ => (fun e_ => (Kd.R_ne HO_6.out BK259.out (by decide)) e_) hs_)); have n5_ := Aside0.mk (hb); clear HO_4; clear HO_6; clear HO_260000; clear BK248; clear BK259; clear HB; have HO_4 := n0_; have HO_6 := n1_; have HO_260000 := n2_; have BK248 := n3_; have BK259 := n4_; have HB := n5_; clear n0_ n1_ n2_ n3_ n4_ n5_; (try clear hb); (try clear hkp); (try clear hy0)) | ((with_reducible refine gate_callee (f := 27) rfl ?_); refine goesL_ (some 48) rfl rfl Try.func27 (by kernel_rfl) rfl #[.slice Ao32 t272.length co32, .int .i64 1] rfl (by (try simp only [List.map_toArray, List.map_cons, List.map_nil]); first | done | (rw [show t272.length = t260.length from (Kd.R_reads' HO_6.out).1.symm] <;> rfl) | rfl | (simp only [List.length_drop, List.length_take]; rfl)) ?_; (with_reducible refine (laws_heldByteS.calls kj16 _ _ t272 1 t273 _ ?side1 ?side2 A44.out).mono ?_); (case side1 => exact Cmp.rc (Kd.R_reads' HO_6.out).2.2); (case side2 => rw [show t272.length = t260.length from (Kd.R_reads' HO_6.out).1.symm]; exact (Kd.R_reads' HO_6.out).2.1); rintro e w' ⟨rfl, ⟨nd, rfl⟩⟩; refine ⟨_, rfl, ?_⟩; have hnb63 := NB248_259.out; have hnc63 := NB259_248.out; have hcz64_0 : w62.cell? ⟨gb248, 0, none⟩ = some (.slice A0_0 l0_0.length c0_0) := (blk_cell BK248.out 0).trans rfl; have hfz64_0 := blk_frozen BK248.out 0) | ((with_reducible refine gate_callee (f := 16) rfl ?_); refine goesL_ (some 55) rfl rfl Try.func16 (by kernel_rfl) rfl #[.agg #[.slice A0_0 l0_0.length c0_0]] rfl Cmp.q ?_; (with_reducible refine (laws_toBundle.calls kj16 _ _ l0_0 t274 _ ?side1 ?side2 A48.out).mono ?_); (case side1 => exact Cmp.rc (Kd.C_below HR0_0.out (Cmp.g HB.out))); (case side2 => exact HC0_0.out); rintro e w65 ⟨v275, rfl, ho0, hb⟩; refine ⟨_, rfl, ?_⟩; have n0_ := Aside0.mk (Kd.R_below (Cmp.rr HO_4.out) hb); have n1_ := Aside0.mk (Kd.R_below (Cmp.rr HO_6.out) hb); have n2_ := Aside0.mk (Kd.R_elder' (Cmp.rr HO_260000.out) (Kd.R_base ho0) hb); have n3_ := Aside0.mk (Kd.R_lower (Kd.R_new' ho0 (Kd.R_lt (Cmp.rr HO_260000.out))) (below_size (Cmp.g HB.out))); have n4_ := Aside0.mk (blk_below (Cmp.b BK248.out) hb); have n5_ := Aside0.mk (blk_below (Cmp.b BK259.out) hb); have n6_ := Aside0.mk (below_step (Cmp.g HB.out) hb); clear HO_4; clear HO_6; clear HO_260000; clear BK248; clear BK259; clear HB; have HO_4 := n0_; have HO_6 := n1_; have HO_260000 := n2_; have HO276 := n3_; have BK248 := n4_; have BK259 := n5_; have HB := n6_; clear n0_ n1_ n2_ n3_ n4_ n5_ n6_; (try clear hb); (try clear hb2); (try clear hk); (try clear hi); (try clear ho0); obtain ⟨Ao66, co66, eo66⟩ := Kd.R_slice HO276.out; subst eo66) | ((with_reducible refine gate_callee (f := 24) rfl ?_); refine goesL_ (some 56) rfl rfl Try.func24 (by kernel_rfl) rfl #[.agg #[.slice Ao66 t274.length co66]] rfl Cmp.q ?_; (with_reducible refine (impl_EncodeBundle.calls kj16 _ _ t274 t277 _ ?side1 ?side2 A49.out).mono ?_); (case side1 => exact Cmp.rc (Kd.R_reads' HO276.out).2.2); (case side2 => exact (Kd.R_reads' HO276.out).2.1); rintro e w67 ⟨v278, rfl, ho0, hb⟩; refine ⟨_, rfl, ?_⟩; have n0_ := Aside0.mk (Kd.R_elder' (Cmp.rr HO_4.out) (Kd.R_base ho0) hb); have n1_ := Aside0.mk (Kd.R_elder' (Cmp.rr HO_6.out) (Kd.R_base ho0) hb); have n2_ := Aside0.mk (Kd.R_below (Cmp.rr HO_260000.out) hb); have n3_ := Aside0.mk (Kd.R_below (Cmp.rr HO276.out) hb); have n4_ := Aside0.mk (Kd.R_lower (Kd.R_new' (Kd.R_new' ho0 (Kd.R_lt (Cmp.rr HO_4.out))) (Kd.R_lt (Cmp.rr HO_6.out))) (below_size (Cmp.g HB.out))); have n5_ := Aside0.mk (blk_below (Cmp.b BK248.out) hb); have n6_ := Aside0.mk (blk_below (Cmp.b BK259.out) hb); have n7_ := Aside0.mk (below_step (Cmp.g HB.out) hb); clear HO_4; clear HO_6; clear HO_260000; clear HO276; clear BK248; clear BK259; clear HB; have HO_4 := n0_; have HO_6 := n1_; have HO_260000 := n2_; have HO276 := n3_; have HO279 := n4_; have BK248 := n5_; have BK259 := n6_; have HB := n7_; clear n0_ n1_ n2_ n3_ n4_ n5_ n6_ n7_; (try clear hb); (try clear hb2); (try clear hk); (try clear hi); (try clear ho0); obtain ⟨Ao68, co68, eo68⟩ := Kd.R_slice HO279.out; subst eo68) | ((with_reducible refine gate_callee (f := 25) rfl ?_); refine goesL_ (some 59) rfl rfl Try.func25 (by kernel_rfl) rfl #[.slice Ao68 t277.length co68, .slice Ao33 t253.length co33] rfl Cmp.q ?_; (with_reducible refine (laws_eqByteS.calls kj16 _ _ t277 _ _ t253 true _ ?side1 ?side2 ?side3 ?side4 A50.out).mono ?_); (case side1 => exact Cmp.rc (Kd.R_reads' HO279.out).2.2); (case side2 => exact (Kd.R_reads' HO279.out).2.1); (case side3 => exact Cmp.rc (Kd.R_reads' HO_4.out).2.2); (case side4 => exact (Kd.R_reads' HO_4.out).2.1); rintro e w' ⟨rfl, ⟨nd, rfl⟩⟩; refine ⟨_, rfl, ?_⟩) | ((with_reducible refine gate_callee (f := 27) rfl ?_); refine goesL_ (some 63) rfl rfl Try.func27 (by kernel_rfl) rfl #[.slice Ao32 t272.length co32, .int .i64 1] rfl (by (try simp only [List.map_toArray, List.map_cons, List.map_nil]); first | done | (rw [show t272.length = t260.length from (Kd.R_reads' HO_6.out).1.symm] <;> rfl) | rfl | (simp only [List.length_drop, List.length_take]; rfl)) ?_; (with_reducible refine (laws_heldByteS.calls kj16 _ _ t272 1 t281 _ ?side1 ?side2 A52.out).mono ?_); (case side1 => exact Cmp.rc (Kd.R_reads' HO_6.out).2.2); (case side2 => rw [show t272.length = t260.length from (Kd.R_reads' HO_6.out).1.symm]; exact (Kd.R_reads' HO_6.out).2.1); rintro e w' ⟨rfl, ⟨nd, rfl⟩⟩; refine ⟨_, rfl, ?_⟩))
            go_ret
            exact ⟨by first | rfl | (simp [errW_none, errW_some] <;> rfl) | (simp [*, errW_none, errW_some] <;> rfl), Cmp.g HB.out⟩
           ·rw [if_neg c61] at H; have c61b0 : (t281 == t271) = false := beq_eq_false_iff_ne.mpr c61; have c61b1 : (t281 != t271) = true := bne_iff_ne.mpr c61; exact absurd H (by simp)
         ·replace c51 := Bool.eq_false_iff.mpr c51
          subst c51
          have H1 : (some false) = some true := by first | (rw [if_neg (show ¬ (false = true) by decide)] at H; exact H) | (rw [if_neg (show ¬ (false = true) by decide)] at H)
          clear H; have H := H1; clear H1; exact absurd H (by simp)
        ·rw [if_neg c47] at H; have c47b0 : (t273 == t271) = false := beq_eq_false_iff_ne.mpr c47; have c47b1 : (t273 != t271) = true := bne_iff_ne.mpr c47; exact absurd H (by simp)
   ·replace c15 := Bool.eq_false_iff.mpr c15
    subst c15
    have H1 : (some false) = some true := by first | (rw [if_neg (show ¬ (false = true) by decide)] at H; exact H) | (rw [if_neg (show ¬ (false = true) by decide)] at H)
    clear H; have H := H1; clear H1; exact absurd H (by simp)
  ·replace c12 := Bool.eq_false_iff.mpr c12
   subst c12
   have H1 : (some false) = some true := by first | (rw [if_neg (show ¬ (false = true) by decide)] at H; exact H) | (rw [if_neg (show ¬ (false = true) by decide)] at H)
   clear H; have H := H1; clear H1
   exact absurd H (by simp)end Go.Proofs.Ytnifeegdkhmakaa.PFnExactEncodeBundle

/- The law FnExactDecodeBundle's own function, walked where it answers true. No condition. -/
import Derived.Test.YtoffbjjkegeccaaCmp
import Derived.Test.YtoffbjjkegeccaaPFnExactDecodeBundlex0
import Derived.Test.YtoffbjjkegeccaaPFnExactDecodeBundlex5
import Derived.Test.YtoffbjjkegeccaaPFnExactDecodeBundlex8
import Derived.Test.YtoffbjjkegeccaaPFnExactDecodeBundlex9
import Derived.Test.YtoffbjjkegeccaaPFnExactDecodeBundlex10
namespace Go.Proofs.Ytoffbjjkegeccaa.PFnExactDecodeBundle
open Go.Proofs.Ytoffbjjkegeccaa
open Go.RowKit Go.Proofs.YtoffbjjkegeccaaW.PrintWords Go.Proofs.YtoffbjjkegeccaaW.PrintLast Go.Proofs.YtoffbjjkegeccaaW.PrintMore
attribute [local go_sem] max2_int min2_int max_two min_two max_three min_three max_four min_four   -- for this text's walks alone
set_option linter.unusedVariables false
set_option linter.unusedSimpArgs false

/-! ### laws_FnExactDecodeBundle: function 8 -/
mutual
def laws_FnExactDecodeBundle.j0 : Nat → List Int → Bool → List Int → Bool → Bool → List (S49) → List (S49) → Option (Bool)
  | 0, _, _, _, _, _, _, _ => none
  | k + 1, x0, x4, x5, x7, x37, x278000, x286000 => if x37 = true then (some false) else ((laws_toByteS.f k x0).bind fun t287 => ((laws_eqByteS.f k x5 t287).bind fun t290 => (if t290 = true then ((laws_markByteS.f k x5 1).bind fun bt291 => (if bt291.1 < 0 then (laws_FnExactDecodeBundle.j1 k x0 x4 true x278000 x286000) else ((laws_eqBundle.f k x286000 x278000).bind fun t293 => (if t293 = true then (laws_FnExactDecodeBundle.j1 k x0 x4 (x7 != x4) x278000 x286000) else (laws_FnExactDecodeBundle.j1 k x0 x4 true x278000 x286000))))) else (some false))))
def laws_FnExactDecodeBundle.j1 : Nat → List Int → Bool → Bool → List (S49) → List (S49) → Option (Bool)
  | 0, _, _, _, _, _ => none
  | k + 1, x0, x4, x58, x278000, x286000 => if x58 = true then (some false) else ((laws_markBundle.f k x286000 1).bind fun bt294 => ((laws_heldBundle.f k bt294.2 1).bind fun t296 => (if t296 < 0 then (some false) else (if t296 = bt294.1 then ((laws_toByteS.f k x0).bind fun t297 => ((impl_DecodeBundle.f k t297).bind fun bt300 => ((laws_eqBundle.f k bt300.1 x278000).bind fun t305 => (if t305 = true then (laws_FnExactDecodeBundle.j2 k bt294.1 (bt300.2 != x4) bt294.2) else (laws_FnExactDecodeBundle.j2 k bt294.1 true bt294.2))))) else (some false)))))
def laws_FnExactDecodeBundle.j2 : Nat → Int → Bool → List (S49) → Option (Bool)
  | 0, _, _, _ => none
  | k + 1, x9, x84, x286000 => if x84 = true then (some false) else ((laws_heldBundle.f k x286000 1).bind fun t306 => (if t306 < 0 then (some false) else (if t306 = x9 then (some true) else (some false))))
end
def laws_FnExactDecodeBundle.f (k : Nat) (l0 : List Int) : Option (Bool) := if (l0.length : Int) > 1048576 then (some true) else ((laws_toByteS.f k l0).bind fun t270 => ((spec_DecodeBundle.f k t270).bind fun bt273 => ((laws_toByteS.f k l0).bind fun t278 => ((impl_DecodeBundle.f k t278).bind fun bt281 => ((laws_eqBundle.f k bt281.1 bt273.1).bind fun t286 => (if t286 = true then (laws_FnExactDecodeBundle.j0 k l0 bt273.2 t278 bt281.2 (bt281.2 != bt273.2) bt273.1 bt281.1) else (laws_FnExactDecodeBundle.j0 k l0 bt273.2 t278 bt281.2 true bt273.1 bt281.1)))))))
theorem laws_FnExactDecodeBundle.mono_l : ∀ k, (∀ y0 y1 y2 y3 y4 y5 y6, LeO (laws_FnExactDecodeBundle.j0 k y0 y1 y2 y3 y4 y5 y6) (laws_FnExactDecodeBundle.j0 (k + 1) y0 y1 y2 y3 y4 y5 y6)) ∧ (∀ y0 y1 y2 y3 y4, LeO (laws_FnExactDecodeBundle.j1 k y0 y1 y2 y3 y4) (laws_FnExactDecodeBundle.j1 (k + 1) y0 y1 y2 y3 y4)) ∧ (∀ y0 y1 y2, LeO (laws_FnExactDecodeBundle.j2 k y0 y1 y2) (laws_FnExactDecodeBundle.j2 (k + 1) y0 y1 y2))
  | 0 => ⟨fun _ _ _ _ _ _ _ r h => by simp [laws_FnExactDecodeBundle.j0] at h, fun _ _ _ _ _ r h => by simp [laws_FnExactDecodeBundle.j1] at h, fun _ _ _ r h => by simp [laws_FnExactDecodeBundle.j2] at h⟩
  | k + 1 => by
    obtain ⟨ih0, ih1, ih2⟩ := laws_FnExactDecodeBundle.mono_l k
    refine ⟨?_, ?_, ?_⟩
    · intro y0 y1 y2 y3 y4 y5 y6
      unfold laws_FnExactDecodeBundle.j0
      repeat' first
      | (with_reducible exact ih0 _ _ _ _ _ _ _)
      | (with_reducible exact ih1 _ _ _ _ _)
      | (with_reducible exact ih2 _ _ _)
      | (with_reducible exact impl_DecodeBundle.mono _ _)
      | (with_reducible exact laws_eqBundle.mono _ _ _)
      | (with_reducible exact laws_eqByteS.mono _ _ _)
      | (with_reducible exact laws_heldBundle.mono _ _ _)
      | (with_reducible exact laws_markBundle.mono _ _ _)
      | (with_reducible exact laws_markByteS.mono _ _ _)
      | (with_reducible exact laws_toByteS.mono _ _)
      | (with_reducible exact spec_DecodeBundle.mono _ _)
      | (with_reducible exact LeO.refl _)
      | (with_reducible exact LeO.none _)
      | (with_reducible refine LeO.ite ?_ ?_)
      | (with_reducible refine LeO.bind ?_ (fun _ => ?_))
      | exact ih0 _ _ _ _ _ _ _
      | exact ih1 _ _ _ _ _
      | exact ih2 _ _ _
      | exact impl_DecodeBundle.mono _ _
      | exact laws_eqBundle.mono _ _ _
      | exact laws_eqByteS.mono _ _ _
      | exact laws_heldBundle.mono _ _ _
      | exact laws_markBundle.mono _ _ _
      | exact laws_markByteS.mono _ _ _
      | exact laws_toByteS.mono _ _
      | exact spec_DecodeBundle.mono _ _
      | exact LeO.none _
      | refine LeO.ite ?_ ?_
      | refine LeO.bind ?_ (fun _ => ?_)
    · intro y0 y1 y2 y3 y4
      unfold laws_FnExactDecodeBundle.j1
      repeat' first
      | (with_reducible exact ih0 _ _ _ _ _ _ _)
      | (with_reducible exact ih1 _ _ _ _ _)
      | (with_reducible exact ih2 _ _ _)
      | (with_reducible exact impl_DecodeBundle.mono _ _)
      | (with_reducible exact laws_eqBundle.mono _ _ _)
      | (with_reducible exact laws_eqByteS.mono _ _ _)
      | (with_reducible exact laws_heldBundle.mono _ _ _)
      | (with_reducible exact laws_markBundle.mono _ _ _)
      | (with_reducible exact laws_markByteS.mono _ _ _)
      | (with_reducible exact laws_toByteS.mono _ _)
      | (with_reducible exact spec_DecodeBundle.mono _ _)
      | (with_reducible exact LeO.refl _)
      | (with_reducible exact LeO.none _)
      | (with_reducible refine LeO.ite ?_ ?_)
      | (with_reducible refine LeO.bind ?_ (fun _ => ?_))
      | exact ih0 _ _ _ _ _ _ _
      | exact ih1 _ _ _ _ _
      | exact ih2 _ _ _
      | exact impl_DecodeBundle.mono _ _
      | exact laws_eqBundle.mono _ _ _
      | exact laws_eqByteS.mono _ _ _
      | exact laws_heldBundle.mono _ _ _
      | exact laws_markBundle.mono _ _ _
      | exact laws_markByteS.mono _ _ _
      | exact laws_toByteS.mono _ _
      | exact spec_DecodeBundle.mono _ _
      | exact LeO.none _
      | refine LeO.ite ?_ ?_
      | refine LeO.bind ?_ (fun _ => ?_)
    · intro y0 y1 y2
      unfold laws_FnExactDecodeBundle.j2
      repeat' first
      | (with_reducible exact ih0 _ _ _ _ _ _ _)
      | (with_reducible exact ih1 _ _ _ _ _)
      | (with_reducible exact ih2 _ _ _)
      | (with_reducible exact impl_DecodeBundle.mono _ _)
      | (with_reducible exact laws_eqBundle.mono _ _ _)
      | (with_reducible exact laws_eqByteS.mono _ _ _)
      | (with_reducible exact laws_heldBundle.mono _ _ _)
      | (with_reducible exact laws_markBundle.mono _ _ _)
      | (with_reducible exact laws_markByteS.mono _ _ _)
      | (with_reducible exact laws_toByteS.mono _ _)
      | (with_reducible exact spec_DecodeBundle.mono _ _)
      | (with_reducible exact LeO.refl _)
      | (with_reducible exact LeO.none _)
      | (with_reducible refine LeO.ite ?_ ?_)
      | (with_reducible refine LeO.bind ?_ (fun _ => ?_))
      | exact ih0 _ _ _ _ _ _ _
      | exact ih1 _ _ _ _ _
      | exact ih2 _ _ _
      | exact impl_DecodeBundle.mono _ _
      | exact laws_eqBundle.mono _ _ _
      | exact laws_eqByteS.mono _ _ _
      | exact laws_heldBundle.mono _ _ _
      | exact laws_markBundle.mono _ _ _
      | exact laws_markByteS.mono _ _ _
      | exact laws_toByteS.mono _ _
      | exact spec_DecodeBundle.mono _ _
      | exact LeO.none _
      | refine LeO.ite ?_ ?_
      | refine LeO.bind ?_ (fun _ => ?_)
theorem laws_FnExactDecodeBundle.mono : ∀ a0 k, LeO (laws_FnExactDecodeBundle.f k a0) (laws_FnExactDecodeBundle.f (k + 1) a0) := by
  intro a0 k
  obtain ⟨ih0, ih1, ih2⟩ := laws_FnExactDecodeBundle.mono_l k
  unfold laws_FnExactDecodeBundle.f
  repeat' first
      | (with_reducible exact ih0 _ _ _ _ _ _ _)
      | (with_reducible exact ih1 _ _ _ _ _)
      | (with_reducible exact ih2 _ _ _)
      | (with_reducible exact impl_DecodeBundle.mono _ _)
      | (with_reducible exact laws_eqBundle.mono _ _ _)
      | (with_reducible exact laws_eqByteS.mono _ _ _)
      | (with_reducible exact laws_heldBundle.mono _ _ _)
      | (with_reducible exact laws_markBundle.mono _ _ _)
      | (with_reducible exact laws_markByteS.mono _ _ _)
      | (with_reducible exact laws_toByteS.mono _ _)
      | (with_reducible exact spec_DecodeBundle.mono _ _)
      | (with_reducible exact LeO.refl _)
      | (with_reducible exact LeO.none _)
      | (with_reducible refine LeO.ite ?_ ?_)
      | (with_reducible refine LeO.bind ?_ (fun _ => ?_))
      | exact ih0 _ _ _ _ _ _ _
      | exact ih1 _ _ _ _ _
      | exact ih2 _ _ _
      | exact impl_DecodeBundle.mono _ _
      | exact laws_eqBundle.mono _ _ _
      | exact laws_eqByteS.mono _ _ _
      | exact laws_heldBundle.mono _ _ _
      | exact laws_markBundle.mono _ _ _
      | exact laws_markByteS.mono _ _ _
      | exact laws_toByteS.mono _ _
      | exact spec_DecodeBundle.mono _ _
      | exact LeO.none _
      | refine LeO.ite ?_ ?_
      | refine LeO.bind ?_ (fun _ => ?_)
set_option maxHeartbeats 8000000 in
set_option maxRecDepth 100000 in
theorem laws_FnExactDecodeBundle.calls (k : Nat) (A0 : Option Addr) (c0 : Nat) (l0 : List Int) (w : World) (hr0 : Kd.C (Kd.int .u8) w A0 l0.length l0) (hc0 : l0.length ≤ c0) (h : laws_FnExactDecodeBundle.f k l0 = some true) :
    Calls Try.prog 8 #[.slice A0 l0.length c0] w fun e w' => e = .returned (.bool true) ∧ Below w.heap.size w w' := by
 have hu41 := Try.underlying41; have HR0 := Aside0.mk hr0; have HC0 := Aside0.mk hc0; clear hr0 hc0
 have HB := Aside0.mk (Below.refl w.heap.size w)
 have H : (if (l0.length : Int) > 1048576 then (some true) else ((laws_toByteS.f k l0).bind fun t270 => ((spec_DecodeBundle.f k t270).bind fun bt273 => ((laws_toByteS.f k l0).bind fun t278 => ((impl_DecodeBundle.f k t278).bind fun bt281 => ((laws_eqBundle.f k bt281.1 bt273.1).bind fun t286 => (if t286 = true then (laws_FnExactDecodeBundle.j0 k l0 bt273.2 t278 bt281.2 (bt281.2 != bt273.2) bt273.1 bt281.1) else (laws_FnExactDecodeBundle.j0 k l0 bt273.2 t278 bt281.2 true bt273.1 bt281.1)))))))) = some true := h
 clear h
 by_cases c2 : (l0.length : Int) > 1048576
 ·rw [if_pos c2] at H
  have c2b0 : decide (1048576 < (l0.length : Int)) = true := decide_eq_true c2
  have c2b1 : decide (1048576 < l0.length) = true := decide_eq_true (by omega)
  clear c2
  clear H
  go_enter Try.func8, Try.ntmps8
  go_wp2
  go_ret
  exact ⟨by first | rfl | (simp [errW_none, errW_some] <;> rfl) | (simp [*, errW_none, errW_some] <;> rfl), Cmp.g HB.out⟩
 ·rw [if_neg c2] at H
  have c2b0 : decide (1048576 < (l0.length : Int)) = false := decide_eq_false c2
  have c2b1 : decide (1048576 < l0.length) = false := decide_eq_false (by omega)
  clear c2; replace H := Option.bind_eq_some_iff.mp H; obtain ⟨t270, A30, H⟩ := H; (try dsimp only at H); have A3 := Aside0.mk A30; clear A30; replace H := Option.bind_eq_some_iff.mp H; obtain ⟨⟨t273, t276⟩, A40, H⟩ := H; (try dsimp only at H); have A4 := Aside0.mk A40; clear A40; replace H := Option.bind_eq_some_iff.mp H; obtain ⟨t278, A50, H⟩ := H; (try dsimp only at H); have A5 := Aside0.mk A50; clear A50; replace H := Option.bind_eq_some_iff.mp H; obtain ⟨⟨t281, t284⟩, A60, H⟩ := H; (try dsimp only at H); have A6 := Aside0.mk A60; clear A60; have HC7 := Aside0.mk H; clear H
  go_enter Try.func8, Try.ntmps8
  go_upto_region 6 with (first | ((with_reducible refine gate_callee (f := 36) rfl ?_); refine goesL_ (some 18) rfl rfl Try.func36 (by kernel_rfl) rfl #[.slice A0 l0.length c0] rfl Cmp.q ?_; (with_reducible refine (laws_toByteS.calls k _ _ l0 t270 _ ?side1 ?side2 A3.out).mono ?_); (case side1 => repeat (first | exact HR0.out | (with_reducible refine Kd.C_alloc ?_ _) | (with_reducible refine Kd.C_drewN ?_ _) | (with_reducible refine Kd.C_drew ?_))); (case side2 => exact HC0.out); rintro e w8 ⟨v271, rfl, ho0, hb⟩; refine ⟨_, rfl, ?_⟩; have n0_ := Aside0.mk (Kd.R_lower ho0 (below_size (Cmp.g HB.out))); have n1_ := Aside0.mk (below_step (Cmp.g HB.out) hb); clear HB; have HO272 := n0_; have HB := n1_; clear n0_ n1_; (try clear hb); (try clear hb2); (try clear hk); (try clear hi); (try clear ho0); obtain ⟨Ao9, co9, eo9⟩ := Kd.R_slice HO272.out; subst eo9) | ((with_reducible refine gate_callee (f := 35) rfl ?_); refine goesL_ (some 19) rfl rfl Try.func35 (by kernel_rfl) rfl #[.slice Ao9 t270.length co9] rfl Cmp.q ?_; (with_reducible refine (spec_DecodeBundle.calls k _ _ t270 t273 t276 _ ?side1 ?side2 A4.out).mono ?_); (case side1 => exact Cmp.rc (Kd.R_reads' HO272.out).2.2); (case side2 => exact (Kd.R_reads' HO272.out).2.1); rintro e w10 ⟨v274, rfl, ho0, hb⟩; refine ⟨_, rfl, ?_⟩; have n0_ := Aside0.mk (Kd.R_below (Cmp.rr HO272.out) hb); have n1_ := Aside0.mk (Kd.R_lower ho0 (below_size (Cmp.g HB.out))); have n2_ := Aside0.mk (below_step (Cmp.g HB.out) hb); clear HO272; clear HB; have HO272 := n0_; have HO275 := n1_; have HB := n2_; clear n0_ n1_ n2_; (try clear hb); (try clear hb2); (try clear hk); (try clear hi); (try clear ho0)) | ((with_reducible refine gate_dst (N := 3) rfl ?_); refine box_event (by rfl) (N := 3) (by rfl) (cs := #[.slice none 0 0]) (t := 41) (by first | (go_simp; done) | (go_simp; rfl)) ?_; intro gb277 hg w11 hbox hb; have n0_ := Aside0.mk (Kd.R_below (Cmp.rr HO272.out) hb); have n1_ := Aside0.mk (Kd.R_below (Cmp.rr HO275.out) hb); have n2_ := Aside0.mk (below_step (Cmp.g HB.out) hb); have n3_ := Aside0.mk (hbox); have n4_ := Aside0.mk ((by rw [hg]; exact (below_size (Cmp.g HB.out)) : w.heap.size ≤ gb277)); have n5_ := Aside0.mk ((by rw [hg]; exact (below_size (Cmp.g HB.out)) : w.heap.size ≤ gb277)); clear HO272; clear HO275; clear HB; have HO272 := n0_; have HO275 := n1_; have HB := n2_; have BK277 := n3_; have GW277 := n4_; have GE277 := n5_; clear n0_ n1_ n2_ n3_ n4_ n5_; clear hb hbox hg; obtain ⟨Ao12, co12, eo12⟩ := Kd.R_slice HO275.out; subst eo12; have hcz13_0 : w11.cell? ⟨gb277, 0, none⟩ = some (.slice none 0 0) := (blk_cell BK277.out 0).trans rfl; have hfz13_0 := blk_frozen BK277.out 0) | ((with_reducible refine gate_callee (f := 36) rfl ?_); refine goesL_ (some 23) rfl rfl Try.func36 (by kernel_rfl) rfl #[.slice A0 l0.length c0] rfl Cmp.q ?_; (with_reducible refine (laws_toByteS.calls k _ _ l0 t278 _ ?side1 ?side2 A5.out).mono ?_); (case side1 => exact Kd.C_below HR0.out (Cmp.g HB.out)); (case side2 => exact HC0.out); rintro e w14 ⟨v279, rfl, ho0, hb⟩; refine ⟨_, rfl, ?_⟩; have n0_ := Aside0.mk (Kd.R_elder' (by refine Cmp.rr ?_; exact (Kd.R_mono (Kd.R_far (p := ⟨gb277, 0, none⟩) (Kd.R_types HO272.out BK277.out (by decide)) (fun _ hk => hk.2) (.slice Ao12 t273.length co12)) (fun _ h_ => h_.1))) (Kd.R_base ho0) hb); have n1_ := Aside0.mk (Kd.R_below (by refine Cmp.rr ?_; exact (Kd.R_mono (Kd.R_far (p := ⟨gb277, 0, none⟩) (Kd.R_types HO275.out BK277.out (by decide)) (fun _ hk => hk.2) (.slice Ao12 t273.length co12)) (fun _ h_ => h_.1))) hb); have n2_ := Aside0.mk (Kd.R_lower (Kd.R_new' ho0 (Kd.R_lt (by refine Cmp.rr ?_; exact (Kd.R_mono (Kd.R_far (p := ⟨gb277, 0, none⟩) (Kd.R_types HO272.out BK277.out (by decide)) (fun _ hk => hk.2) (.slice Ao12 t273.length co12)) (fun _ h_ => h_.1))))) (below_size (Cmp.g HB.out))); have n3_ := Aside0.mk (blk_below (g := gb277) (o := .cells #[.slice Ao12 t273.length co12] 41 (0, 0)) (by refine Cmp.b ?_; refine blk_put (cs := #[.slice none 0 0]) ?_ 0 _ rfl; refine Cmp.b ?_; exact BK277.out) hb); have n4_ := Aside0.mk (below_step (Cmp.g HB.out) hb); clear HO272; clear HO275; clear BK277; clear HB; have HO272 := n0_; have HO275 := n1_; have HO280 := n2_; have BK277 := n3_; have HB := n4_; clear n0_ n1_ n2_ n3_ n4_; (try clear hb); (try clear hb2); (try clear hk); (try clear hi); (try clear ho0); obtain ⟨Ao15, co15, eo15⟩ := Kd.R_slice HO280.out; subst eo15) | ((with_reducible refine gate_callee (f := 37) rfl ?_); refine goesL_ (some 26) rfl rfl Try.func37 (by kernel_rfl) rfl #[.slice Ao15 t278.length co15] rfl Cmp.q ?_; (with_reducible refine (impl_DecodeBundle.calls k _ _ t278 t281 t284 _ ?side1 ?side2 A6.out).mono ?_); (case side1 => exact Cmp.rc (Kd.R_reads' HO280.out).2.2); (case side2 => exact (Kd.R_reads' HO280.out).2.1); rintro e w16 ⟨v282, rfl, ho0, hb⟩; refine ⟨_, rfl, ?_⟩; have n0_ := Aside0.mk (Kd.R_below (Cmp.rr HO272.out) hb); have n1_ := Aside0.mk (Kd.R_elder' (Cmp.rr HO275.out) (Kd.R_base ho0) hb); have n2_ := Aside0.mk (Kd.R_below (Cmp.rr HO280.out) hb); have n3_ := Aside0.mk (Kd.R_lower (Kd.R_new' ho0 (Kd.R_lt (Cmp.rr HO275.out))) (below_size (Cmp.g HB.out))); have n4_ := Aside0.mk (blk_below (Cmp.b BK277.out) hb); have n5_ := Aside0.mk (below_step (Cmp.g HB.out) hb); clear HO272; clear HO275; clear HO280; clear BK277; clear HB; have HO272 := n0_; have HO275 := n1_; have HO280 := n2_; have HO283 := n3_; have BK277 := n4_; have HB := n5_; clear n0_ n1_ n2_ n3_ n4_ n5_; (try clear hb); (try clear hb2); (try clear hk); (try clear hi); (try clear ho0)) | ((with_reducible refine gate_dst (N := 6) rfl ?_); refine box_event (by rfl) (N := 6) (by rfl) (cs := #[.slice none 0 0]) (t := 41) (by first | (go_simp; done) | (go_simp; rfl)) ?_; intro gb285 hg w17 hbox hb; have n0_ := Aside0.mk (Kd.R_below (Cmp.rr HO272.out) hb); have n1_ := Aside0.mk (Kd.R_below (Cmp.rr HO275.out) hb); have n2_ := Aside0.mk (Kd.R_below (Cmp.rr HO280.out) hb); have n3_ := Aside0.mk (Kd.R_below (Cmp.rr HO283.out) hb); have n4_ := Aside0.mk (blk_below (Cmp.b BK277.out) hb); have n5_ := Aside0.mk (below_step (Cmp.g HB.out) hb); have n6_ := Aside0.mk (hbox); have n7_ := Aside0.mk ((by rw [hg]; exact (below_size (Cmp.g HB.out)) : w.heap.size ≤ gb285)); have n8_ := Aside0.mk ((by rw [hg]; exact (below_size (Cmp.g HB.out)) : w.heap.size ≤ gb285)); have n9_ := Aside0.mk ((by rw [hg]; exact Nat.ne_of_lt (blk_lt (Cmp.b BK277.out)) : gb277 ≠ gb285)); have n10_ := Aside0.mk ((by rw [hg]; exact Nat.ne_of_gt (blk_lt (Cmp.b BK277.out)) : gb285 ≠ gb277)); clear HO272; clear HO275; clear HO280; clear HO283; clear BK277; clear HB; have HO272 := n0_; have HO275 := n1_; have HO280 := n2_; have HO283 := n3_; have BK277 := n4_; have HB := n5_; have BK285 := n6_; have GW285 := n7_; have GE285 := n8_; have NB277_285 := n9_; have NB285_277 := n10_; clear n0_ n1_ n2_ n3_ n4_ n5_ n6_ n7_ n8_ n9_ n10_; clear hb hbox hg; obtain ⟨Ao18, co18, eo18⟩ := Kd.R_slice HO283.out; subst eo18; have hnb19 := NB285_277.out; have hnc19 := NB277_285.out; have hcz20_0 : w17.cell? ⟨gb285, 0, none⟩ = some (.slice none 0 0) := (blk_cell BK285.out 0).trans rfl; have hfz20_0 := blk_frozen BK285.out 0))
  (try simp only [Act.put, List.setIfInBounds_toArray, List.set_cons_zero, List.set_cons_succ])
  go_cut [37] (fun v37 wc => ∃ (kq : Nat) (x37_6 : Bool), v37 = .bool x37_6 ∧ Aside0 (laws_FnExactDecodeBundle.j0 kq l0 t276 t278 t284 x37_6 t273 t281 = some true) ∧ Aside0 (kq ≤ k) ∧ Aside0 (Kd.R (Kd.int .u8) 5 wc w.heap.size (fun _ => True) (.slice Ao15 t278.length co15) t278) ∧ Aside0 (Kd.R k49 49 wc w.heap.size (fun k_ => some k_ ≠ ((.slice Ao18 t281.length co18) : Value).ownBlock) (.slice Ao12 t273.length co12) t273) ∧ Aside0 (Kd.R k49 49 wc w.heap.size (fun k_ => some k_ ≠ ((.slice Ao12 t273.length co12) : Value).ownBlock) (.slice Ao18 t281.length co18) t281) ∧ Aside0 (wc.heap[gb277]? = some (.cells #[(.slice Ao12 t273.length co12)] 41 (0, 0))) ∧ Aside0 (wc.heap[gb285]? = some (.cells #[(.slice Ao18 t281.length co18)] 41 (0, 0))) ∧ Aside0 (Below w.heap.size w wc))
  case first =>
   have H := HC7.out; clear HC7; replace H := Option.bind_eq_some_iff.mp H; obtain ⟨t286, A210, H⟩ := H; (try dsimp only at H); have A21 := Aside0.mk A210; clear A210
   by_cases c22 : t286 = true
   ·subst c22; rw [if_pos rfl] at H
    have H' := Aside0.mk H
    clear H; have hnb23 := NB285_277.out; have hnc23 := NB277_285.out
    have hcz24_0 : w17.cell? ⟨gb285, 0, none⟩ = some (.slice none 0 0) := (blk_cell BK285.out 0).trans rfl
    have hfz24_0 := blk_frozen BK285.out 0
    have hcz25_0 : w17.cell? ⟨gb277, 0, none⟩ = some (.slice Ao12 t273.length co12) := (blk_cell BK277.out 0).trans rfl
    have hfz25_0 := blk_frozen BK277.out 0
    go_wp2_with (first | ((with_reducible refine gate_callee (f := 38) rfl ?_); refine goesL_ (some 31) rfl rfl Try.func38 (by kernel_rfl) rfl #[.agg #[.slice Ao18 t281.length co18], .agg #[.slice Ao12 t273.length co12]] rfl Cmp.q ?_; (with_reducible refine (laws_eqBundle.calls k _ _ t281 _ _ t273 true _ ?side1 ?side2 ?side3 ?side4 A21.out).mono ?_); (case side1 => refine (Kd.R_reads' (e := 49) (base := w.heap.size) (ok := fun k_ => (True ∧ some k_ ≠ (.slice Ao12 t273.length co12 : Value).ownBlock)) (n := t281.length) (c := co18) ?_).2.2; exact (by refine Cmp.rr ?_; exact (Kd.R_mono (Kd.R_far (p := ⟨gb285, 0, none⟩) (Kd.R_types HO283.out BK285.out (by decide)) (fun _ hk => hk.2) (.slice Ao18 t281.length co18)) (fun _ h_ => h_.1)))); (case side2 => exact (Kd.R_reads' HO283.out).2.1); (case side3 => refine (Kd.R_reads' (e := 49) (base := w.heap.size) (ok := fun k_ => (True ∧ some k_ ≠ (.slice Ao18 t281.length co18 : Value).ownBlock)) (n := t273.length) (c := co12) ?_).2.2; exact (by refine Cmp.rr ?_; exact (Kd.R_mono (Kd.R_far (p := ⟨gb285, 0, none⟩) (Kd.R_types HO275.out BK285.out (by decide)) (fun _ hk => hk.2) (.slice Ao18 t281.length co18)) (fun _ h_ => h_.1)))); (case side4 => exact (Kd.R_reads' HO275.out).2.1); rintro e w26 ⟨rfl, hb⟩; refine ⟨_, rfl, ?_⟩; have n0_ := Aside0.mk (Kd.R_below (by refine Cmp.rr ?_; exact (Kd.R_mono (Kd.R_far (p := ⟨gb285, 0, none⟩) (Kd.R_types HO272.out BK285.out (by decide)) (fun _ hk => hk.2) (.slice Ao18 t281.length co18)) (fun _ h_ => h_.1))) hb); have n1_ := Aside0.mk (Kd.R_below (by refine Cmp.rr ?_; exact (Kd.R_mono (Kd.R_far (p := ⟨gb285, 0, none⟩) (Kd.R_types HO275.out BK285.out (by decide)) (fun _ hk => hk.2) (.slice Ao18 t281.length co18)) (fun _ h_ => h_.1))) hb); have n2_ := Aside0.mk (Kd.R_below (by refine Cmp.rr ?_; exact (Kd.R_mono (Kd.R_far (p := ⟨gb285, 0, none⟩) (Kd.R_types HO280.out BK285.out (by decide)) (fun _ hk => hk.2) (.slice Ao18 t281.length co18)) (fun _ h_ => h_.1))) hb); have n3_ := Aside0.mk (Kd.R_below (by refine Cmp.rr ?_; exact (Kd.R_mono (Kd.R_far (p := ⟨gb285, 0, none⟩) (Kd.R_types HO283.out BK285.out (by decide)) (fun _ hk => hk.2) (.slice Ao18 t281.length co18)) (fun _ h_ => h_.1))) hb); have n4_ := Aside0.mk (blk_below (g := gb277) (o := .cells #[.slice Ao12 t273.length co12] 41 (0, 0)) (by refine Cmp.b ?_; refine blk_far ?_ NB277_285.out _; refine Cmp.b ?_; exact BK277.out) hb); have n5_ := Aside0.mk (blk_below (g := gb285) (o := .cells #[.slice Ao18 t281.length co18] 41 (0, 0)) (by refine Cmp.b ?_; refine blk_put (cs := #[.slice none 0 0]) ?_ 0 _ rfl; refine Cmp.b ?_; exact BK285.out) hb); have n6_ := Aside0.mk (below_step (Cmp.g HB.out) hb); clear HO272; clear HO275; clear HO280; clear HO283; clear BK277; clear BK285; clear HB; have HO272 := n0_; have HO275 := n1_; have HO280 := n2_; have HO283 := n3_; have BK277 := n4_; have BK285 := n5_; have HB := n6_; clear n0_ n1_ n2_ n3_ n4_ n5_ n6_; (try clear hb); (try clear hb2); (try clear hk); (try clear hi)))
    go_meet
    case rel => exact ⟨_, ((t284 != t276)), (by first | rfl | simp | simp [*]), H', ⟨by first | omega | exact Nat.le_refl _⟩, ⟨by refine Cmp.rr ?_; exact Kd.R_mono HO280.out (fun _ hk => trivial)⟩, ⟨by refine Cmp.rr ?_; exact Kd.R_mono HO275.out (fun _ hk => hk.2)⟩, ⟨by refine Cmp.rr ?_; exact Kd.R_mono HO283.out (fun _ hk => hk.2)⟩, ⟨by refine Cmp.b ?_; exact BK277.out⟩, ⟨by refine Cmp.b ?_; exact BK285.out⟩, ⟨Cmp.g HB.out⟩⟩
   ·replace c22 := Bool.eq_false_iff.mpr c22
    subst c22
    have H1 : (laws_FnExactDecodeBundle.j0 k l0 t276 t278 t284 true t273 t281) = some true := by first | (rw [if_neg (show ¬ (false = true) by decide)] at H; exact H) | (rw [if_neg (show ¬ (false = true) by decide)] at H)
    clear H; have H := H1; clear H1
    have H' := Aside0.mk H
    clear H; have hnb27 := NB285_277.out; have hnc27 := NB277_285.out
    have hcz28_0 : w17.cell? ⟨gb285, 0, none⟩ = some (.slice none 0 0) := (blk_cell BK285.out 0).trans rfl
    have hfz28_0 := blk_frozen BK285.out 0
    have hcz29_0 : w17.cell? ⟨gb277, 0, none⟩ = some (.slice Ao12 t273.length co12) := (blk_cell BK277.out 0).trans rfl
    have hfz29_0 := blk_frozen BK277.out 0
    go_wp2_with (first | ((with_reducible refine gate_callee (f := 38) rfl ?_); refine goesL_ (some 31) rfl rfl Try.func38 (by kernel_rfl) rfl #[.agg #[.slice Ao18 t281.length co18], .agg #[.slice Ao12 t273.length co12]] rfl Cmp.q ?_; (with_reducible refine (laws_eqBundle.calls k _ _ t281 _ _ t273 false _ ?side1 ?side2 ?side3 ?side4 A21.out).mono ?_); (case side1 => refine (Kd.R_reads' (e := 49) (base := w.heap.size) (ok := fun k_ => (True ∧ some k_ ≠ (.slice Ao12 t273.length co12 : Value).ownBlock)) (n := t281.length) (c := co18) ?_).2.2; exact (by refine Cmp.rr ?_; exact (Kd.R_mono (Kd.R_far (p := ⟨gb285, 0, none⟩) (Kd.R_types HO283.out BK285.out (by decide)) (fun _ hk => hk.2) (.slice Ao18 t281.length co18)) (fun _ h_ => h_.1)))); (case side2 => exact (Kd.R_reads' HO283.out).2.1); (case side3 => refine (Kd.R_reads' (e := 49) (base := w.heap.size) (ok := fun k_ => (True ∧ some k_ ≠ (.slice Ao18 t281.length co18 : Value).ownBlock)) (n := t273.length) (c := co12) ?_).2.2; exact (by refine Cmp.rr ?_; exact (Kd.R_mono (Kd.R_far (p := ⟨gb285, 0, none⟩) (Kd.R_types HO275.out BK285.out (by decide)) (fun _ hk => hk.2) (.slice Ao18 t281.length co18)) (fun _ h_ => h_.1)))); (case side4 => exact (Kd.R_reads' HO275.out).2.1); rintro e w30 ⟨rfl, hb⟩; refine ⟨_, rfl, ?_⟩; have n0_ := Aside0.mk (Kd.R_below (by refine Cmp.rr ?_; exact (Kd.R_mono (Kd.R_far (p := ⟨gb285, 0, none⟩) (Kd.R_types HO272.out BK285.out (by decide)) (fun _ hk => hk.2) (.slice Ao18 t281.length co18)) (fun _ h_ => h_.1))) hb); have n1_ := Aside0.mk (Kd.R_below (by refine Cmp.rr ?_; exact (Kd.R_mono (Kd.R_far (p := ⟨gb285, 0, none⟩) (Kd.R_types HO275.out BK285.out (by decide)) (fun _ hk => hk.2) (.slice Ao18 t281.length co18)) (fun _ h_ => h_.1))) hb); have n2_ := Aside0.mk (Kd.R_below (by refine Cmp.rr ?_; exact (Kd.R_mono (Kd.R_far (p := ⟨gb285, 0, none⟩) (Kd.R_types HO280.out BK285.out (by decide)) (fun _ hk => hk.2) (.slice Ao18 t281.length co18)) (fun _ h_ => h_.1))) hb); have n3_ := Aside0.mk (Kd.R_below (by refine Cmp.rr ?_; exact (Kd.R_mono (Kd.R_far (p := ⟨gb285, 0, none⟩) (Kd.R_types HO283.out BK285.out (by decide)) (fun _ hk => hk.2) (.slice Ao18 t281.length co18)) (fun _ h_ => h_.1))) hb); have n4_ := Aside0.mk (blk_below (g := gb277) (o := .cells #[.slice Ao12 t273.length co12] 41 (0, 0)) (by refine Cmp.b ?_; refine blk_far ?_ NB277_285.out _; refine Cmp.b ?_; exact BK277.out) hb); have n5_ := Aside0.mk (blk_below (g := gb285) (o := .cells #[.slice Ao18 t281.length co18] 41 (0, 0)) (by refine Cmp.b ?_; refine blk_put (cs := #[.slice none 0 0]) ?_ 0 _ rfl; refine Cmp.b ?_; exact BK285.out) hb); have n6_ := Aside0.mk (below_step (Cmp.g HB.out) hb); clear HO272; clear HO275; clear HO280; clear HO283; clear BK277; clear BK285; clear HB; have HO272 := n0_; have HO275 := n1_; have HO280 := n2_; have HO283 := n3_; have BK277 := n4_; have BK285 := n5_; have HB := n6_; clear n0_ n1_ n2_ n3_ n4_ n5_ n6_; (try clear hb); (try clear hb2); (try clear hk); (try clear hi)))
    go_meet
    case rel => exact ⟨_, (true), (by first | rfl | simp | simp [*]), H', ⟨by first | omega | exact Nat.le_refl _⟩, ⟨by refine Cmp.rr ?_; exact Kd.R_mono HO280.out (fun _ hk => trivial)⟩, ⟨by refine Cmp.rr ?_; exact Kd.R_mono HO275.out (fun _ hk => hk.2)⟩, ⟨by refine Cmp.rr ?_; exact Kd.R_mono HO283.out (fun _ hk => hk.2)⟩, ⟨by refine Cmp.b ?_; exact BK277.out⟩, ⟨by refine Cmp.b ?_; exact BK285.out⟩, ⟨Cmp.g HB.out⟩⟩
  case rest =>
   clear HC7; (try clear c1); (try clear c2); (try clear c2b0); (try clear c2b1); (try clear p2); (try clear c3); (try clear c8); (try clear c19); (try clear c22); (try clear c23); (try clear c27); (try clear hcz13_0); (try clear hcz20_0); (try clear hcz24_0); (try clear hcz25_0); (try clear hcz28_0); (try clear hcz29_0); (try clear hfz13_0); (try clear hfz20_0); (try clear hfz24_0); (try clear hfz25_0); (try clear hfz28_0); (try clear hfz29_0)
   obtain ⟨kq, x37_6, rfl, HA, HJ6, HO_5, HO_278000, HO_286000, BK277, BK285, HB⟩ := hcut
   cases kq with
   | zero => exact absurd HA.out (by simp [laws_FnExactDecodeBundle.j0])
   | succ kj6 =>
    have H := HA.out; clear HA
    simp only [laws_FnExactDecodeBundle.j0] at H
    by_cases c31 : x37_6 = true
    ·subst c31; rw [if_pos rfl] at H
     exact absurd H (by simp)
    ·replace c31 := Bool.eq_false_iff.mpr c31
     subst c31
     have H1 : ((laws_toByteS.f kj6 l0).bind fun t287 => ((laws_eqByteS.f kj6 t278 t287).bind fun t290 => (if t290 = true then ((laws_markByteS.f kj6 t278 1).bind fun bt291 => (if bt291.1 < 0 then (laws_FnExactDecodeBundle.j1 kj6 l0 t276 true t273 t281) else ((laws_eqBundle.f kj6 t281 t273).bind fun t293 => (if t293 = true then (laws_FnExactDecodeBundle.j1 kj6 l0 t276 (t284 != t276) t273 t281) else (laws_FnExactDecodeBundle.j1 kj6 l0 t276 true t273 t281))))) else (some false)))) = some true := by first | (rw [if_neg (show ¬ (false = true) by decide)] at H; exact H) | (rw [if_neg (show ¬ (false = true) by decide)] at H)
     clear H; have H := H1; clear H1; replace H := Option.bind_eq_some_iff.mp H; obtain ⟨t287, A320, H⟩ := H; (try dsimp only at H); have A32 := Aside0.mk A320; clear A320; replace H := Option.bind_eq_some_iff.mp H; obtain ⟨t290, A330, H⟩ := H; (try dsimp only at H); have A33 := Aside0.mk A330; clear A330
     by_cases c34 : t290 = true
     ·subst c34; rw [if_pos rfl] at H; replace H := Option.bind_eq_some_iff.mp H; obtain ⟨⟨t291, t292⟩, A350, H⟩ := H; (try dsimp only at H); have A35 := Aside0.mk A350; clear A350; have HC36 := Aside0.mk H; clear H
      go_upto_region 12 with (first | ((with_reducible refine gate_callee (f := 36) rfl ?_); refine goesL_ (some 40) rfl rfl Try.func36 (by kernel_rfl) rfl #[.slice A0 l0.length c0] rfl Cmp.q ?_; (with_reducible refine (laws_toByteS.calls kj6 _ _ l0 t287 _ ?side1 ?side2 A32.out).mono ?_); (case side1 => exact Cmp.rc (Kd.C_below HR0.out HB.out)); (case side2 => exact HC0.out); rintro e w37 ⟨v288, rfl, ho0, hb⟩; refine ⟨_, rfl, ?_⟩; have n0_ := Aside0.mk (Kd.R_elder' (Cmp.rr HO_5.out) (Kd.R_base ho0) hb); have n1_ := Aside0.mk (Kd.R_below (Cmp.rr HO_278000.out) hb); have n2_ := Aside0.mk (Kd.R_below (Cmp.rr HO_286000.out) hb); have n3_ := Aside0.mk (Kd.R_lower (Kd.R_new' ho0 (Kd.R_lt (Cmp.rr HO_5.out))) (below_size (Cmp.g HB.out))); have n4_ := Aside0.mk (blk_below (Cmp.b BK277.out) hb); have n5_ := Aside0.mk (blk_below (Cmp.b BK285.out) hb); have n6_ := Aside0.mk (below_step (Cmp.g HB.out) hb); clear HO_5; clear HO_278000; clear HO_286000; clear BK277; clear BK285; clear HB; have HO_5 := n0_; have HO_278000 := n1_; have HO_286000 := n2_; have HO289 := n3_; have BK277 := n4_; have BK285 := n5_; have HB := n6_; clear n0_ n1_ n2_ n3_ n4_ n5_ n6_; (try clear hb); (try clear hb2); (try clear hk); (try clear hi); (try clear ho0); obtain ⟨Ao38, co38, eo38⟩ := Kd.R_slice HO289.out; subst eo38) | ((with_reducible refine gate_callee (f := 39) rfl ?_); refine goesL_ (some 41) rfl rfl Try.func39 (by kernel_rfl) rfl #[.slice Ao15 t278.length co15, .slice Ao38 t287.length co38] rfl Cmp.q ?_; (with_reducible refine (laws_eqByteS.calls kj6 _ _ t278 _ _ t287 true _ ?side1 ?side2 ?side3 ?side4 A33.out).mono ?_); (case side1 => exact Cmp.rc (Kd.R_reads' HO_5.out).2.2); (case side2 => exact (Kd.R_reads' HO_5.out).2.1); (case side3 => exact Cmp.rc (Kd.R_reads' HO289.out).2.2); (case side4 => exact (Kd.R_reads' HO289.out).2.1); rintro e w' ⟨rfl, ⟨nd, rfl⟩⟩; refine ⟨_, rfl, ?_⟩) | ((with_reducible refine gate_callee (f := 40) rfl ?_); refine goesL_ (some 45) rfl rfl Try.func40 (by kernel_rfl) rfl #[.slice Ao15 t278.length co15, .int .i64 1] rfl Cmp.q ?_; (with_reducible refine (laws_markByteS.calls kj6 (fun k_ => some k_ = (.slice Ao15 t278.length co15 : Value).ownBlock) (.slice Ao15 t278.length co15) t278 1 t291 t292 w _ ?side1 ?side2 A35.out).mono ?_); (case side1 => repeat (first | (with_reducible first | exact HB.out | apply below_alloc | apply pw_below_drewN | apply below_drew1 | refine below_set ?_ GE277.out | refine below_set ?_ GE285.out) | exact HB.out)); (case side2 => exact Kd.R_tight rfl HO_5.out); rintro e w39 ⟨rfl, hy0, hb, hkp⟩; refine ⟨_, rfl, ?_⟩; have n0_ := Aside0.mk (Kd.R_reok rfl hy0 (fun k_ e_ => HO_5.out.1 k_ e_)); have n1_ := Aside0.mk (Kd.R_mono (ok' := fun k_ => some k_ ≠ (.slice Ao18 t281.length co18 : Value).ownBlock) (Kd.R_keptB ((Kd.R_apart' HO_278000.out (Kd.R_typed HO_5.out) (by decide))) hkp (fun k_ hk_ hs_ => (hk_.2) hs_)) (fun k_ hk_ => hk_.1.1)); have n2_ := Aside0.mk (Kd.R_mono (ok' := fun k_ => some k_ ≠ (.slice Ao12 t273.length co12 : Value).ownBlock) (Kd.R_keptB ((Kd.R_apart' HO_286000.out (Kd.R_typed HO_5.out) (by decide))) hkp (fun k_ hk_ hs_ => (hk_.2) hs_)) (fun k_ hk_ => hk_.1.1)); have n3_ := Aside0.mk (blk_kept (Cmp.b BK277.out) hkp (fun hs_ => (fun e_ => (Kd.R_ne HO_5.out BK277.out (by decide)) e_) hs_)); have n4_ := Aside0.mk (blk_kept (Cmp.b BK285.out) hkp (fun hs_ => (fun e_ => (Kd.R_ne HO_5.out BK285.out (by decide)) e_) hs_)); have n5_ := Aside0.mk (Kd.R_mono (ok' := fun k_ => some k_ ≠ (.slice Ao15 t278.length co15 : Value).ownBlock) (Kd.R_keptB (HO289.out) hkp (fun k_ hk_ hs_ => (hk_.2) hs_)) (fun k_ hk_ => hk_.1.2)); have n6_ := Aside0.mk (hb); clear HO_5; clear HO_278000; clear HO_286000; clear BK277; clear BK285; clear HO289; clear HB; have HO_5 := n0_; have HO_278000 := n1_; have HO_286000 := n2_; have BK277 := n3_; have BK285 := n4_; have HO289 := n5_; have HB := n6_; clear n0_ n1_ n2_ n3_ n4_ n5_ n6_; (try clear hb); (try clear hkp); (try clear hy0)))
      (try simp only [Act.put, List.setIfInBounds_toArray, List.set_cons_zero, List.set_cons_succ])
      go_cut [58] (fun v58 wc => ∃ (kq : Nat) (x58_35 : Bool), v58 = .bool x58_35 ∧ Aside0 (laws_FnExactDecodeBundle.j1 kq l0 t276 x58_35 t273 t281 = some true) ∧ Aside0 (kq ≤ kj6) ∧ Aside0 (Kd.R k49 49 wc w.heap.size (fun k_ => some k_ ≠ ((.slice Ao18 t281.length co18) : Value).ownBlock) (.slice Ao12 t273.length co12) t273) ∧ Aside0 (Kd.R k49 49 wc w.heap.size (fun k_ => some k_ ≠ ((.slice Ao12 t273.length co12) : Value).ownBlock) (.slice Ao18 t281.length co18) t281) ∧ Aside0 (wc.heap[gb277]? = some (.cells #[(.slice Ao12 t273.length co12)] 41 (0, 0))) ∧ Aside0 (wc.heap[gb285]? = some (.cells #[(.slice Ao18 t281.length co18)] 41 (0, 0))) ∧ Aside0 (Below w.heap.size w wc))
      case first =>
       have H := HC36.out; clear HC36
       by_cases c40 : t291 < 0
       ·rw [if_pos c40] at H; have c40b0 : decide (t291 < 0) = true := decide_eq_true c40; clear c40
        (first | rw [c40b0] | (simp only [i64_w, i32_w]; rw [c40b0]) | skip)
        have H' := Aside0.mk H
        clear H
        go_wp2
        go_meet
        case rel => exact ⟨_, (true), (by first | rfl | simp | simp [*]), H', ⟨by have := HJ6.out; first | omega | exact Nat.le_refl _⟩, ⟨by refine Cmp.rr ?_; exact HO_278000.out⟩, ⟨by refine Cmp.rr ?_; exact HO_286000.out⟩, ⟨by refine Cmp.b ?_; exact BK277.out⟩, ⟨by refine Cmp.b ?_; exact BK285.out⟩, ⟨Cmp.g HB.out⟩⟩
       ·rw [if_neg c40] at H; have c40b0 : decide (t291 < 0) = false := decide_eq_false c40; clear c40
        (first | rw [c40b0] | (simp only [i64_w, i32_w]; rw [c40b0]) | skip)
        replace H := Option.bind_eq_some_iff.mp H; obtain ⟨t293, A410, H⟩ := H; (try dsimp only at H); have A41 := Aside0.mk A410; clear A410
        by_cases c42 : t293 = true
        ·subst c42; rw [if_pos rfl] at H
         have H' := Aside0.mk H
         clear H; have hnb43 := NB285_277.out; have hnc43 := NB277_285.out
         have hcz44_0 : w39.cell? ⟨gb285, 0, none⟩ = some (.slice Ao18 t281.length co18) := (blk_cell BK285.out 0).trans rfl
         have hfz44_0 := blk_frozen BK285.out 0
         have hcz45_0 : w39.cell? ⟨gb277, 0, none⟩ = some (.slice Ao12 t273.length co12) := (blk_cell BK277.out 0).trans rfl
         have hfz45_0 := blk_frozen BK277.out 0
         go_wp2_with (first | (go_at_call 38; (with_reducible refine (laws_eqBundle.calls kj6 _ _ t281 _ _ t273 true _ ?side1 ?side2 ?side3 ?side4 A41.out).mono ?_); (case side1 => exact Cmp.rc (Kd.R_reads' HO_286000.out).2.2); (case side2 => exact (Kd.R_reads' HO_286000.out).2.1); (case side3 => exact Cmp.rc (Kd.R_reads' HO_278000.out).2.2); (case side4 => exact (Kd.R_reads' HO_278000.out).2.1); rintro e w46 ⟨rfl, hb⟩; have n0_ := Aside0.mk (Kd.R_below (Cmp.rr HO_5.out) hb); have n1_ := Aside0.mk (Kd.R_below (Cmp.rr HO_278000.out) hb); have n2_ := Aside0.mk (Kd.R_below (Cmp.rr HO_286000.out) hb); have n3_ := Aside0.mk (Kd.R_below (Cmp.rr HO289.out) hb); have n4_ := Aside0.mk (blk_below (Cmp.b BK277.out) hb); have n5_ := Aside0.mk (blk_below (Cmp.b BK285.out) hb); have n6_ := Aside0.mk (below_step (Cmp.g HB.out) hb); clear HO_5; clear HO_278000; clear HO_286000; clear HO289; clear BK277; clear BK285; clear HB; have HO_5 := n0_; have HO_278000 := n1_; have HO_286000 := n2_; have HO289 := n3_; have BK277 := n4_; have BK285 := n5_; have HB := n6_; clear n0_ n1_ n2_ n3_ n4_ n5_ n6_; (try clear hb); (try clear hb2); (try clear hk); (try clear hi)))
         go_meet
         case rel => exact ⟨_, ((t284 != t276)), (by first | rfl | simp | simp [*]), H', ⟨by have := HJ6.out; first | omega | exact Nat.le_refl _⟩, ⟨by refine Cmp.rr ?_; exact HO_278000.out⟩, ⟨by refine Cmp.rr ?_; exact HO_286000.out⟩, ⟨by refine Cmp.b ?_; exact BK277.out⟩, ⟨by refine Cmp.b ?_; exact BK285.out⟩, ⟨Cmp.g HB.out⟩⟩
        ·replace c42 := Bool.eq_false_iff.mpr c42
         subst c42
         have H1 : (laws_FnExactDecodeBundle.j1 kj6 l0 t276 true t273 t281) = some true := by first | (rw [if_neg (show ¬ (false = true) by decide)] at H; exact H) | (rw [if_neg (show ¬ (false = true) by decide)] at H)
         clear H; have H := H1; clear H1
         have H' := Aside0.mk H
         clear H; have hnb47 := NB285_277.out; have hnc47 := NB277_285.out
         have hcz48_0 : w39.cell? ⟨gb285, 0, none⟩ = some (.slice Ao18 t281.length co18) := (blk_cell BK285.out 0).trans rfl
         have hfz48_0 := blk_frozen BK285.out 0
         have hcz49_0 : w39.cell? ⟨gb277, 0, none⟩ = some (.slice Ao12 t273.length co12) := (blk_cell BK277.out 0).trans rfl
         have hfz49_0 := blk_frozen BK277.out 0
         go_wp2_with (first | (go_at_call 38; (with_reducible refine (laws_eqBundle.calls kj6 _ _ t281 _ _ t273 false _ ?side1 ?side2 ?side3 ?side4 A41.out).mono ?_); (case side1 => exact Cmp.rc (Kd.R_reads' HO_286000.out).2.2); (case side2 => exact (Kd.R_reads' HO_286000.out).2.1); (case side3 => exact Cmp.rc (Kd.R_reads' HO_278000.out).2.2); (case side4 => exact (Kd.R_reads' HO_278000.out).2.1); rintro e w50 ⟨rfl, hb⟩; have n0_ := Aside0.mk (Kd.R_below (Cmp.rr HO_5.out) hb); have n1_ := Aside0.mk (Kd.R_below (Cmp.rr HO_278000.out) hb); have n2_ := Aside0.mk (Kd.R_below (Cmp.rr HO_286000.out) hb); have n3_ := Aside0.mk (Kd.R_below (Cmp.rr HO289.out) hb); have n4_ := Aside0.mk (blk_below (Cmp.b BK277.out) hb); have n5_ := Aside0.mk (blk_below (Cmp.b BK285.out) hb); have n6_ := Aside0.mk (below_step (Cmp.g HB.out) hb); clear HO_5; clear HO_278000; clear HO_286000; clear HO289; clear BK277; clear BK285; clear HB; have HO_5 := n0_; have HO_278000 := n1_; have HO_286000 := n2_; have HO289 := n3_; have BK277 := n4_; have BK285 := n5_; have HB := n6_; clear n0_ n1_ n2_ n3_ n4_ n5_ n6_; (try clear hb); (try clear hb2); (try clear hk); (try clear hi)))
         go_meet
         case rel => exact ⟨_, (true), (by first | rfl | simp | simp [*]), H', ⟨by have := HJ6.out; first | omega | exact Nat.le_refl _⟩, ⟨by refine Cmp.rr ?_; exact HO_278000.out⟩, ⟨by refine Cmp.rr ?_; exact HO_286000.out⟩, ⟨by refine Cmp.b ?_; exact BK277.out⟩, ⟨by refine Cmp.b ?_; exact BK285.out⟩, ⟨Cmp.g HB.out⟩⟩
      case rest =>
       clear HC36; (try clear c1); (try clear c2); (try clear c2b0); (try clear c2b1); (try clear p2); (try clear c3); (try clear c4); (try clear c8); (try clear c19); (try clear c22); (try clear c23); (try clear c27); (try clear c31); (try clear c34); (try clear c35); (try clear c36); (try clear c37); (try clear c38); (try clear c39); (try clear c40); (try clear c40b0); (try clear c42); (try clear c43); (try clear c47); (try clear hcz13_0); (try clear hcz20_0); (try clear hcz24_0); (try clear hcz25_0); (try clear hcz28_0); (try clear hcz29_0); (try clear hcz44_0); (try clear hcz45_0); (try clear hcz48_0); (try clear hcz49_0); (try clear hfz13_0); (try clear hfz20_0); (try clear hfz24_0); (try clear hfz25_0); (try clear hfz28_0); (try clear hfz29_0); (try clear hfz44_0); (try clear hfz45_0); (try clear hfz48_0); (try clear hfz49_0); (try clear p2)
       obtain ⟨kq, x58_35, rfl, HA, HJ35, HO_278000, HO_286000, BK277, BK285, HB⟩ := hcut
       cases kq with
       | zero => exact absurd HA.out (by simp [laws_FnExactDecodeBundle.j1])
       | succ kj35 =>
        have H := HA.out; clear HA
        simp only [laws_FnExactDecodeBundle.j1] at H
        by_cases c51 : x58_35 = true
        ·subst c51; rw [if_pos rfl] at H
         exact absurd H (by simp)
        ·replace c51 := Bool.eq_false_iff.mpr c51
         subst c51
         have H1 : ((laws_markBundle.f kj35 t281 1).bind fun bt294 => ((laws_heldBundle.f kj35 bt294.2 1).bind fun t296 => (if t296 < 0 then (some false) else (if t296 = bt294.1 then ((laws_toByteS.f kj35 l0).bind fun t297 => ((impl_DecodeBundle.f kj35 t297).bind fun bt300 => ((laws_eqBundle.f kj35 bt300.1 t273).bind fun t305 => (if t305 = true then (laws_FnExactDecodeBundle.j2 kj35 bt294.1 (bt300.2 != t276) bt294.2) else (laws_FnExactDecodeBundle.j2 kj35 bt294.1 true bt294.2))))) else (some false))))) = some true := by first | (rw [if_neg (show ¬ (false = true) by decide)] at H; exact H) | (rw [if_neg (show ¬ (false = true) by decide)] at H)
         clear H; have H := H1; clear H1; replace H := Option.bind_eq_some_iff.mp H; obtain ⟨⟨t294, t295⟩, A520, H⟩ := H; (try dsimp only at H); have A52 := Aside0.mk A520; clear A520; replace H := Option.bind_eq_some_iff.mp H; obtain ⟨t296, A530, H⟩ := H; (try dsimp only at H); have A53 := Aside0.mk A530; clear A530
         by_cases c54 : t296 < 0
         ·rw [if_pos c54] at H; have c54b0 : decide (t296 < 0) = true := decide_eq_true c54; clear c54
          exact absurd H (by simp)
         ·rw [if_neg c54] at H; have c54b0 : decide (t296 < 0) = false := decide_eq_false c54; clear c54
          by_cases c60 : t296 = t294
          ·rw [if_pos c60] at H; have c60b0 : (t296 == t294) = true := beq_iff_eq.mpr c60; have c60b1 : (t296 != t294) = false := bne_eq_false_iff_eq.mpr c60; clear c60; replace H := Option.bind_eq_some_iff.mp H; obtain ⟨t297, A610, H⟩ := H; (try dsimp only at H); have A61 := Aside0.mk A610; clear A610; replace H := Option.bind_eq_some_iff.mp H; obtain ⟨⟨t300, t303⟩, A620, H⟩ := H; (try dsimp only at H); have A62 := Aside0.mk A620; clear A620; have HC63 := Aside0.mk H; clear H; have hnb64 := NB285_277.out; have hnc64 := NB277_285.out
           have hcz65_0 : wc.cell? ⟨gb285, 0, none⟩ = some (.slice Ao18 t281.length co18) := (blk_cell BK285.out 0).trans rfl
           have hfz65_0 := blk_frozen BK285.out 0
           go_upto_region 23 with (first | ((with_reducible refine gate_callee (f := 41) rfl ?_); refine goesL_ (some 61) rfl rfl Try.func41 (by kernel_rfl) rfl #[.agg #[.slice Ao18 t281.length co18], .int .i64 1] rfl Cmp.q ?_; (with_reducible refine (laws_markBundle.calls kj35 (fun k_ => some k_ = (.slice Ao18 t281.length co18 : Value).ownBlock) (.slice Ao18 t281.length co18) t281 1 t294 t295 w _ ?side1 ?side2 A52.out).mono ?_); (case side1 => repeat (first | (with_reducible first | exact HB.out | apply below_alloc | apply pw_below_drewN | apply below_drew1 | refine below_set ?_ GE277.out | refine below_set ?_ GE285.out) | exact HB.out)); (case side2 => exact Kd.R_tight rfl HO_286000.out); rintro e w66 ⟨rfl, hy0, hb, hkp⟩; refine ⟨_, rfl, ?_⟩; have n0_ := Aside0.mk (Kd.R_mono (ok' := fun k_ => some k_ ≠ (.slice Ao18 t281.length co18 : Value).ownBlock) (Kd.R_keptB (HO_278000.out) hkp (fun k_ hk_ hs_ => (hk_) hs_)) (fun k_ hk_ => hk_.1)); have n1_ := Aside0.mk (Kd.R_reok rfl hy0 (fun k_ e_ => HO_286000.out.1 k_ e_)); have n2_ := Aside0.mk (blk_kept (Cmp.b BK277.out) hkp (fun hs_ => (fun e_ => (Kd.R_ne HO_286000.out BK277.out (by decide)) e_) hs_)); have n3_ := Aside0.mk (blk_kept (Cmp.b BK285.out) hkp (fun hs_ => (fun e_ => (Kd.R_ne HO_286000.out BK285.out (by decide)) e_) hs_)); have n4_ := Aside0.mk (hb); clear HO_278000; clear HO_286000; clear BK277; clear BK285; clear HB; have HO_278000 := n0_; have HO_286000 := n1_; have BK277 := n2_; have BK285 := n3_; have HB := n4_; clear n0_ n1_ n2_ n3_ n4_; (try clear hb); (try clear hkp); (try clear hy0); have hcz67_0 : w66.cell? ⟨gb285, 0, none⟩ = some (.slice Ao18 t281.length co18) := (blk_cell BK285.out 0).trans rfl; have hfz67_0 := blk_frozen BK285.out 0) | ((with_reducible refine gate_callee (f := 42) rfl ?_); refine goesL_ (some 64) rfl rfl Try.func42 (by kernel_rfl) rfl #[.agg #[.slice Ao18 t295.length co18], .int .i64 1] rfl (by (try simp only [List.map_toArray, List.map_cons, List.map_nil]); first | done | (rw [show t295.length = t281.length from (Kd.R_reads' HO_286000.out).1.symm] <;> rfl) | rfl | (simp only [List.length_drop, List.length_take]; rfl)) ?_; (with_reducible refine (laws_heldBundle.calls kj35 _ _ t295 1 t296 _ ?side1 ?side2 A53.out).mono ?_); (case side1 => exact Cmp.rc (Kd.R_reads' HO_286000.out).2.2); (case side2 => rw [show t295.length = t281.length from (Kd.R_reads' HO_286000.out).1.symm]; exact (Kd.R_reads' HO_286000.out).2.1); rintro e w68 ⟨rfl, hb⟩; refine ⟨_, rfl, ?_⟩; have n0_ := Aside0.mk (Kd.R_below (Cmp.rr HO_278000.out) hb); have n1_ := Aside0.mk (Kd.R_below (Cmp.rr HO_286000.out) hb); have n2_ := Aside0.mk (blk_below (Cmp.b BK277.out) hb); have n3_ := Aside0.mk (blk_below (Cmp.b BK285.out) hb); have n4_ := Aside0.mk (below_step (Cmp.g HB.out) hb); clear HO_278000; clear HO_286000; clear BK277; clear BK285; clear HB; have HO_278000 := n0_; have HO_286000 := n1_; have BK277 := n2_; have BK285 := n3_; have HB := n4_; clear n0_ n1_ n2_ n3_ n4_; (try clear hb); (try clear hb2); (try clear hk); (try clear hi)) | ((with_reducible refine gate_callee (f := 36) rfl ?_); refine goesL_ (some 72) rfl rfl Try.func36 (by kernel_rfl) rfl #[.slice A0 l0.length c0] rfl Cmp.q ?_; (with_reducible refine (laws_toByteS.calls kj35 _ _ l0 t297 _ ?side1 ?side2 A61.out).mono ?_); (case side1 => exact Cmp.rc (Kd.C_below HR0.out HB.out)); (case side2 => exact HC0.out); rintro e w69 ⟨v298, rfl, ho0, hb⟩; refine ⟨_, rfl, ?_⟩; have n0_ := Aside0.mk (Kd.R_below (Cmp.rr HO_278000.out) hb); have n1_ := Aside0.mk (Kd.R_below (Cmp.rr HO_286000.out) hb); have n2_ := Aside0.mk (Kd.R_lower ho0 (below_size (Cmp.g HB.out))); have n3_ := Aside0.mk (blk_below (Cmp.b BK277.out) hb); have n4_ := Aside0.mk (blk_below (Cmp.b BK285.out) hb); have n5_ := Aside0.mk (below_step (Cmp.g HB.out) hb); clear HO_278000; clear HO_286000; clear BK277; clear BK285; clear HB; have HO_278000 := n0_; have HO_286000 := n1_; have HO299 := n2_; have BK277 := n3_; have BK285 := n4_; have HB := n5_; clear n0_ n1_ n2_ n3_ n4_ n5_; (try clear hb); (try clear hb2); (try clear hk); (try clear hi); (try clear ho0); obtain ⟨Ao70, co70, eo70⟩ := Kd.R_slice HO299.out; subst eo70) | ((with_reducible refine gate_callee (f := 37) rfl ?_); refine goesL_ (some 73) rfl rfl Try.func37 (by kernel_rfl) rfl #[.slice Ao70 t297.length co70] rfl Cmp.q ?_; (with_reducible refine (impl_DecodeBundle.calls kj35 _ _ t297 t300 t303 _ ?side1 ?side2 A62.out).mono ?_); (case side1 => exact Cmp.rc (Kd.R_reads' HO299.out).2.2); (case side2 => exact (Kd.R_reads' HO299.out).2.1); rintro e w71 ⟨v301, rfl, ho0, hb⟩; refine ⟨_, rfl, ?_⟩; have n0_ := Aside0.mk (Kd.R_elder' (Cmp.rr HO_278000.out) (Kd.R_base ho0) hb); have n1_ := Aside0.mk (Kd.R_elder' (Cmp.rr HO_286000.out) (Kd.R_base ho0) hb); have n2_ := Aside0.mk (Kd.R_below (Cmp.rr HO299.out) hb); have n3_ := Aside0.mk (Kd.R_lower (Kd.R_new' (Kd.R_new' ho0 (Kd.R_lt (Cmp.rr HO_278000.out))) (Kd.R_lt (Cmp.rr HO_286000.out))) (below_size (Cmp.g HB.out))); have n4_ := Aside0.mk (blk_below (Cmp.b BK277.out) hb); have n5_ := Aside0.mk (blk_below (Cmp.b BK285.out) hb); have n6_ := Aside0.mk (below_step (Cmp.g HB.out) hb); clear HO_278000; clear HO_286000; clear HO299; clear BK277; clear BK285; clear HB; have HO_278000 := n0_; have HO_286000 := n1_; have HO299 := n2_; have HO302 := n3_; have BK277 := n4_; have BK285 := n5_; have HB := n6_; clear n0_ n1_ n2_ n3_ n4_ n5_ n6_; (try clear hb); (try clear hb2); (try clear hk); (try clear hi); (try clear ho0)) | ((with_reducible refine gate_dst (N := 11) rfl ?_); refine box_event (by rfl) (N := 11) (by rfl) (cs := #[.slice none 0 0]) (t := 41) (by first | (go_simp; done) | (go_simp; rfl)) ?_; intro gb304 hg w72 hbox hb; have n0_ := Aside0.mk (Kd.R_below (Cmp.rr HO_278000.out) hb); have n1_ := Aside0.mk (Kd.R_below (Cmp.rr HO_286000.out) hb); have n2_ := Aside0.mk (Kd.R_below (Cmp.rr HO299.out) hb); have n3_ := Aside0.mk (Kd.R_below (Cmp.rr HO302.out) hb); have n4_ := Aside0.mk (blk_below (Cmp.b BK277.out) hb); have n5_ := Aside0.mk (blk_below (Cmp.b BK285.out) hb); have n6_ := Aside0.mk (below_step (Cmp.g HB.out) hb); have n7_ := Aside0.mk (hbox); have n8_ := Aside0.mk ((by rw [hg]; exact (below_size (Cmp.g HB.out)) : w.heap.size ≤ gb304)); have n9_ := Aside0.mk ((by rw [hg]; exact (below_size (Cmp.g HB.out)) : w.heap.size ≤ gb304)); have n10_ := Aside0.mk ((by rw [hg]; exact Nat.ne_of_lt (blk_lt (Cmp.b BK277.out)) : gb277 ≠ gb304)); have n11_ := Aside0.mk ((by rw [hg]; exact Nat.ne_of_gt (blk_lt (Cmp.b BK277.out)) : gb304 ≠ gb277)); have n12_ := Aside0.mk ((by rw [hg]; exact Nat.ne_of_lt (blk_lt (Cmp.b BK285.out)) : gb285 ≠ gb304)); have n13_ := Aside0.mk ((by rw [hg]; exact Nat.ne_of_gt (blk_lt (Cmp.b BK285.out)) : gb304 ≠ gb285)); clear HO_278000; clear HO_286000; clear HO299; clear HO302; clear BK277; clear BK285; clear HB; have HO_278000 := n0_; have HO_286000 := n1_; have HO299 := n2_; have HO302 := n3_; have BK277 := n4_; have BK285 := n5_; have HB := n6_; have BK304 := n7_; have GW304 := n8_; have GE304 := n9_; have NB277_304 := n10_; have NB304_277 := n11_; have NB285_304 := n12_; have NB304_285 := n13_; clear n0_ n1_ n2_ n3_ n4_ n5_ n6_ n7_ n8_ n9_ n10_ n11_ n12_ n13_; clear hb hbox hg; obtain ⟨Ao73, co73, eo73⟩ := Kd.R_slice HO302.out; subst eo73; have hnb74 := NB304_277.out; have hnc74 := NB277_304.out; have hnb75 := NB304_285.out; have hnc75 := NB285_304.out; have hcz76_0 : w72.cell? ⟨gb304, 0, none⟩ = some (.slice none 0 0) := (blk_cell BK304.out 0).trans rfl; have hfz76_0 := blk_frozen BK304.out 0))
           (try simp only [Act.put, List.setIfInBounds_toArray, List.set_cons_zero, List.set_cons_succ])
           go_cut [84] (fun v84 wc => ∃ (kq : Nat) (x84_62 : Bool), v84 = .bool x84_62 ∧ Aside0 (laws_FnExactDecodeBundle.j2 kq t294 x84_62 t295 = some true) ∧ Aside0 (kq ≤ kj35) ∧ Aside0 (Kd.R k49 49 wc w.heap.size (fun k_ => some k_ ≠ ((.slice Ao18 t281.length co18) : Value).ownBlock ∧ some k_ ≠ ((.slice Ao73 t300.length co73) : Value).ownBlock) (.slice Ao12 t273.length co12) t273) ∧ Aside0 (Kd.R k49 49 wc w.heap.size (fun k_ => some k_ ≠ ((.slice Ao12 t273.length co12) : Value).ownBlock ∧ some k_ ≠ ((.slice Ao73 t300.length co73) : Value).ownBlock) (.slice Ao18 t281.length co18) t295) ∧ Aside0 (Kd.R k49 49 wc w.heap.size (fun k_ => some k_ ≠ ((.slice Ao12 t273.length co12) : Value).ownBlock ∧ some k_ ≠ ((.slice Ao18 t281.length co18) : Value).ownBlock) (.slice Ao73 t300.length co73) t300) ∧ Aside0 (wc.heap[gb277]? = some (.cells #[(.slice Ao12 t273.length co12)] 41 (0, 0))) ∧ Aside0 (wc.heap[gb285]? = some (.cells #[(.slice Ao18 t281.length co18)] 41 (0, 0))) ∧ Aside0 (wc.heap[gb304]? = some (.cells #[(.slice Ao73 t300.length co73)] 41 (0, 0))) ∧ Aside0 (Below w.heap.size w wc))
           case first =>
            have H := HC63.out; clear HC63; replace H := Option.bind_eq_some_iff.mp H; obtain ⟨t305, A770, H⟩ := H; (try dsimp only at H); have A77 := Aside0.mk A770; clear A770
            by_cases c78 : t305 = true
            ·subst c78; rw [if_pos rfl] at H
             have H' := Aside0.mk H
             clear H; have hnb79 := NB304_277.out; have hnc79 := NB277_304.out; have hnb80 := NB304_285.out; have hnc80 := NB285_304.out
             have hcz81_0 : w72.cell? ⟨gb304, 0, none⟩ = some (.slice none 0 0) := (blk_cell BK304.out 0).trans rfl
             have hfz81_0 := blk_frozen BK304.out 0; have hnb82 := NB277_285.out; have hnc82 := NB285_277.out
             have hcz83_0 : w72.cell? ⟨gb277, 0, none⟩ = some (.slice Ao12 t273.length co12) := (blk_cell BK277.out 0).trans rfl
             have hfz83_0 := blk_frozen BK277.out 0
             go_wp2_with (first | ((with_reducible refine gate_callee (f := 38) rfl ?_); refine goesL_ (some 78) rfl rfl Try.func38 (by kernel_rfl) rfl #[.agg #[.slice Ao73 t300.length co73], .agg #[.slice Ao12 t273.length co12]] rfl Cmp.q ?_; (with_reducible refine (laws_eqBundle.calls kj35 _ _ t300 _ _ t273 true _ ?side1 ?side2 ?side3 ?side4 A77.out).mono ?_); (case side1 => refine (Kd.R_reads' (e := 49) (base := w.heap.size) (ok := fun k_ => ((True ∧ some k_ ≠ (.slice Ao12 t273.length co12 : Value).ownBlock) ∧ some k_ ≠ (.slice Ao18 t281.length co18 : Value).ownBlock)) (n := t300.length) (c := co73) ?_).2.2; exact (by refine Cmp.rr ?_; exact (Kd.R_mono (Kd.R_far (p := ⟨gb304, 0, none⟩) (Kd.R_types HO302.out BK304.out (by decide)) (fun _ hk => hk.2) (.slice Ao73 t300.length co73)) (fun _ h_ => h_.1)))); (case side2 => exact (Kd.R_reads' HO302.out).2.1); (case side3 => refine (Kd.R_reads' (e := 49) (base := w.heap.size) (ok := fun k_ => (some k_ ≠ (.slice Ao18 t281.length co18 : Value).ownBlock ∧ some k_ ≠ (.slice Ao73 t300.length co73 : Value).ownBlock)) (n := t273.length) (c := co12) ?_).2.2; exact (by refine Cmp.rr ?_; exact (Kd.R_mono (Kd.R_far (p := ⟨gb304, 0, none⟩) (Kd.R_types HO_278000.out BK304.out (by decide)) (fun _ hk => hk.2) (.slice Ao73 t300.length co73)) (fun _ h_ => h_.1)))); (case side4 => exact (Kd.R_reads' HO_278000.out).2.1); rintro e w84 ⟨rfl, hb⟩; refine ⟨_, rfl, ?_⟩; have n0_ := Aside0.mk (Kd.R_below (by refine Cmp.rr ?_; exact (Kd.R_mono (Kd.R_far (p := ⟨gb304, 0, none⟩) (Kd.R_types HO_278000.out BK304.out (by decide)) (fun _ hk => hk.2) (.slice Ao73 t300.length co73)) (fun _ h_ => h_.1))) hb); have n1_ := Aside0.mk (Kd.R_below (by refine Cmp.rr ?_; exact (Kd.R_mono (Kd.R_far (p := ⟨gb304, 0, none⟩) (Kd.R_types HO_286000.out BK304.out (by decide)) (fun _ hk => hk.2) (.slice Ao73 t300.length co73)) (fun _ h_ => h_.1))) hb); have n2_ := Aside0.mk (Kd.R_below (by refine Cmp.rr ?_; exact (Kd.R_mono (Kd.R_far (p := ⟨gb304, 0, none⟩) (Kd.R_types HO299.out BK304.out (by decide)) (fun _ hk => hk.2) (.slice Ao73 t300.length co73)) (fun _ h_ => h_.1))) hb); have n3_ := Aside0.mk (Kd.R_below (by refine Cmp.rr ?_; exact (Kd.R_mono (Kd.R_far (p := ⟨gb304, 0, none⟩) (Kd.R_types HO302.out BK304.out (by decide)) (fun _ hk => hk.2) (.slice Ao73 t300.length co73)) (fun _ h_ => h_.1))) hb); have n4_ := Aside0.mk (blk_below (g := gb277) (o := .cells #[.slice Ao12 t273.length co12] 41 (0, 0)) (by refine Cmp.b ?_; refine blk_far ?_ NB277_304.out _; refine Cmp.b ?_; exact BK277.out) hb); have n5_ := Aside0.mk (blk_below (g := gb285) (o := .cells #[.slice Ao18 t281.length co18] 41 (0, 0)) (by refine Cmp.b ?_; refine blk_far ?_ NB285_304.out _; refine Cmp.b ?_; exact BK285.out) hb); have n6_ := Aside0.mk (blk_below (g := gb304) (o := .cells #[.slice Ao73 t300.length co73] 41 (0, 0)) (by refine Cmp.b ?_; refine blk_put (cs := #[.slice none 0 0]) ?_ 0 _ rfl; refine Cmp.b ?_; exact BK304.out) hb); have n7_ := Aside0.mk (below_step (Cmp.g HB.out) hb); clear HO_278000; clear HO_286000; clear HO299; clear HO302; clear BK277; clear BK285; clear BK304; clear HB; have HO_278000 := n0_; have HO_286000 := n1_; have HO299 := n2_; have HO302 := n3_; have BK277 := n4_; have BK285 := n5_; have BK304 := n6_; have HB := n7_; clear n0_ n1_ n2_ n3_ n4_ n5_ n6_ n7_; (try clear hb); (try clear hb2); (try clear hk); (try clear hi)))
             go_meet
             case rel => exact ⟨_, ((t303 != t276)), (by first | rfl | simp | simp [*]), H', ⟨by have := HJ6.out; have := HJ35.out; first | omega | exact Nat.le_refl _⟩, ⟨by refine Cmp.rr ?_; exact HO_278000.out⟩, ⟨by refine Cmp.rr ?_; exact HO_286000.out⟩, ⟨by refine Cmp.rr ?_; exact Kd.R_mono HO302.out (fun _ hk => ⟨hk.1.2, hk.2⟩)⟩, ⟨by refine Cmp.b ?_; exact BK277.out⟩, ⟨by refine Cmp.b ?_; exact BK285.out⟩, ⟨by refine Cmp.b ?_; exact BK304.out⟩, ⟨Cmp.g HB.out⟩⟩
            ·replace c78 := Bool.eq_false_iff.mpr c78
             subst c78
             have H1 : (laws_FnExactDecodeBundle.j2 kj35 t294 true t295) = some true := by first | (rw [if_neg (show ¬ (false = true) by decide)] at H; exact H) | (rw [if_neg (show ¬ (false = true) by decide)] at H)
             clear H; have H := H1; clear H1
             have H' := Aside0.mk H
             clear H; have hnb85 := NB304_277.out; have hnc85 := NB277_304.out; have hnb86 := NB304_285.out; have hnc86 := NB285_304.out
             have hcz87_0 : w72.cell? ⟨gb304, 0, none⟩ = some (.slice none 0 0) := (blk_cell BK304.out 0).trans rfl
             have hfz87_0 := blk_frozen BK304.out 0; have hnb88 := NB277_285.out; have hnc88 := NB285_277.out
             have hcz89_0 : w72.cell? ⟨gb277, 0, none⟩ = some (.slice Ao12 t273.length co12) := (blk_cell BK277.out 0).trans rfl
             have hfz89_0 := blk_frozen BK277.out 0
             go_wp2_with (first | ((with_reducible refine gate_callee (f := 38) rfl ?_); refine goesL_ (some 78) rfl rfl Try.func38 (by kernel_rfl) rfl #[.agg #[.slice Ao73 t300.length co73], .agg #[.slice Ao12 t273.length co12]] rfl Cmp.q ?_; (with_reducible refine (laws_eqBundle.calls kj35 _ _ t300 _ _ t273 false _ ?side1 ?side2 ?side3 ?side4 A77.out).mono ?_); (case side1 => refine (Kd.R_reads' (e := 49) (base := w.heap.size) (ok := fun k_ => ((True ∧ some k_ ≠ (.slice Ao12 t273.length co12 : Value).ownBlock) ∧ some k_ ≠ (.slice Ao18 t281.length co18 : Value).ownBlock)) (n := t300.length) (c := co73) ?_).2.2; exact (by refine Cmp.rr ?_; exact (Kd.R_mono (Kd.R_far (p := ⟨gb304, 0, none⟩) (Kd.R_types HO302.out BK304.out (by decide)) (fun _ hk => hk.2) (.slice Ao73 t300.length co73)) (fun _ h_ => h_.1)))); (case side2 => exact (Kd.R_reads' HO302.out).2.1); (case side3 => refine (Kd.R_reads' (e := 49) (base := w.heap.size) (ok := fun k_ => (some k_ ≠ (.slice Ao18 t281.length co18 : Value).ownBlock ∧ some k_ ≠ (.slice Ao73 t300.length co73 : Value).ownBlock)) (n := t273.length) (c := co12) ?_).2.2; exact (by refine Cmp.rr ?_; exact (Kd.R_mono (Kd.R_far (p := ⟨gb304, 0, none⟩) (Kd.R_types HO_278000.out BK304.out (by decide)) (fun _ hk => hk.2) (.slice Ao73 t300.length co73)) (fun _ h_ => h_.1)))); (case side4 => exact (Kd.R_reads' HO_278000.out).2.1); rintro e w90 ⟨rfl, hb⟩; refine ⟨_, rfl, ?_⟩; have n0_ := Aside0.mk (Kd.R_below (by refine Cmp.rr ?_; exact (Kd.R_mono (Kd.R_far (p := ⟨gb304, 0, none⟩) (Kd.R_types HO_278000.out BK304.out (by decide)) (fun _ hk => hk.2) (.slice Ao73 t300.length co73)) (fun _ h_ => h_.1))) hb); have n1_ := Aside0.mk (Kd.R_below (by refine Cmp.rr ?_; exact (Kd.R_mono (Kd.R_far (p := ⟨gb304, 0, none⟩) (Kd.R_types HO_286000.out BK304.out (by decide)) (fun _ hk => hk.2) (.slice Ao73 t300.length co73)) (fun _ h_ => h_.1))) hb); have n2_ := Aside0.mk (Kd.R_below (by refine Cmp.rr ?_; exact (Kd.R_mono (Kd.R_far (p := ⟨gb304, 0, none⟩) (Kd.R_types HO299.out BK304.out (by decide)) (fun _ hk => hk.2) (.slice Ao73 t300.length co73)) (fun _ h_ => h_.1))) hb); have n3_ := Aside0.mk (Kd.R_below (by refine Cmp.rr ?_; exact (Kd.R_mono (Kd.R_far (p := ⟨gb304, 0, none⟩) (Kd.R_types HO302.out BK304.out (by decide)) (fun _ hk => hk.2) (.slice Ao73 t300.length co73)) (fun _ h_ => h_.1))) hb); have n4_ := Aside0.mk (blk_below (g := gb277) (o := .cells #[.slice Ao12 t273.length co12] 41 (0, 0)) (by refine Cmp.b ?_; refine blk_far ?_ NB277_304.out _; refine Cmp.b ?_; exact BK277.out) hb); have n5_ := Aside0.mk (blk_below (g := gb285) (o := .cells #[.slice Ao18 t281.length co18] 41 (0, 0)) (by refine Cmp.b ?_; refine blk_far ?_ NB285_304.out _; refine Cmp.b ?_; exact BK285.out) hb); have n6_ := Aside0.mk (blk_below (g := gb304) (o := .cells #[.slice Ao73 t300.length co73] 41 (0, 0)) (by refine Cmp.b ?_; refine blk_put (cs := #[.slice none 0 0]) ?_ 0 _ rfl; refine Cmp.b ?_; exact BK304.out) hb); have n7_ := Aside0.mk (below_step (Cmp.g HB.out) hb); clear HO_278000; clear HO_286000; clear HO299; clear HO302; clear BK277; clear BK285; clear BK304; clear HB; have HO_278000 := n0_; have HO_286000 := n1_; have HO299 := n2_; have HO302 := n3_; have BK277 := n4_; have BK285 := n5_; have BK304 := n6_; have HB := n7_; clear n0_ n1_ n2_ n3_ n4_ n5_ n6_ n7_; (try clear hb); (try clear hb2); (try clear hk); (try clear hi)))
             go_meet
             case rel => exact ⟨_, (true), (by first | rfl | simp | simp [*]), H', ⟨by have := HJ6.out; have := HJ35.out; first | omega | exact Nat.le_refl _⟩, ⟨by refine Cmp.rr ?_; exact HO_278000.out⟩, ⟨by refine Cmp.rr ?_; exact HO_286000.out⟩, ⟨by refine Cmp.rr ?_; exact Kd.R_mono HO302.out (fun _ hk => ⟨hk.1.2, hk.2⟩)⟩, ⟨by refine Cmp.b ?_; exact BK277.out⟩, ⟨by refine Cmp.b ?_; exact BK285.out⟩, ⟨by refine Cmp.b ?_; exact BK304.out⟩, ⟨Cmp.g HB.out⟩⟩
           case rest =>
            clear HC63; (try clear c1); (try clear c2); (try clear c2b0); (try clear c2b1); (try clear p2); (try clear c3); (try clear c4); (try clear c5); (try clear c6); (try clear c7); (try clear c8); (try clear c19); (try clear c22); (try clear c23); (try clear c27); (try clear c31); (try clear c34); (try clear c35); (try clear c36); (try clear c37); (try clear c38); (try clear c39); (try clear c40); (try clear c40b0); (try clear c41); (try clear c42); (try clear c43); (try clear c47); (try clear c51); (try clear c54); (try clear c54b0); (try clear c55); (try clear c60); (try clear c60b0); (try clear c60b1); (try clear c64); (try clear c74); (try clear c75); (try clear c78); (try clear c79); (try clear c80); (try clear c82); (try clear c85); (try clear c86); (try clear c88); (try clear hcz13_0); (try clear hcz20_0); (try clear hcz24_0); (try clear hcz25_0); (try clear hcz28_0); (try clear hcz29_0); (try clear hcz44_0); (try clear hcz45_0); (try clear hcz48_0); (try clear hcz49_0); (try clear hcz56_0); (try clear hcz58_0); (try clear hcz65_0); (try clear hcz67_0); (try clear hcz76_0); (try clear hcz81_0); (try clear hcz83_0); (try clear hcz87_0); (try clear hcz89_0); (try clear hfz13_0); (try clear hfz20_0); (try clear hfz24_0); (try clear hfz25_0); (try clear hfz28_0); (try clear hfz29_0); (try clear hfz44_0); (try clear hfz45_0); (try clear hfz48_0); (try clear hfz49_0); (try clear hfz56_0); (try clear hfz58_0); (try clear hfz65_0); (try clear hfz67_0); (try clear hfz76_0); (try clear hfz81_0); (try clear hfz83_0); (try clear hfz87_0); (try clear hfz89_0); (try clear p2)
            obtain ⟨kq, x84_62, rfl, HA, HJ62, HO_278000, HO_286000, HO_305000, BK277, BK285, BK304, HB⟩ := hcut
            have hl286000_62 := (Kd.R_reads' HO_286000.out).1
            rw [hl286000_62] at HO_286000
            (try simp only [hl286000_62])
            (try simp only [hl286000_62] at BK277)
            (try simp only [hl286000_62] at BK285)
            (try simp only [hl286000_62] at BK304)
            (try simp only [hl286000_62] at HO_278000)
            (try simp only [hl286000_62] at HO_305000)
            cases kq with
            | zero => exact absurd HA.out (by simp [laws_FnExactDecodeBundle.j2])
            | succ kj62 =>
             have H := HA.out; clear HA
             simp only [laws_FnExactDecodeBundle.j2] at H
             by_cases c91 : x84_62 = true
             ·subst c91; rw [if_pos rfl] at H
              exact absurd H (by simp)
             ·replace c91 := Bool.eq_false_iff.mpr c91
              subst c91
              have H1 : ((laws_heldBundle.f kj62 t295 1).bind fun t306 => (if t306 < 0 then (some false) else (if t306 = t294 then (some true) else (some false)))) = some true := by first | (rw [if_neg (show ¬ (false = true) by decide)] at H; exact H) | (rw [if_neg (show ¬ (false = true) by decide)] at H)
              clear H; have H := H1; clear H1; replace H := Option.bind_eq_some_iff.mp H; obtain ⟨t306, A920, H⟩ := H; (try dsimp only at H); have A92 := Aside0.mk A920; clear A920
              by_cases c93 : t306 < 0
              ·rw [if_pos c93] at H; have c93b0 : decide (t306 < 0) = true := decide_eq_true c93; clear c93
               exact absurd H (by simp)
              ·rw [if_neg c93] at H; have c93b0 : decide (t306 < 0) = false := decide_eq_false c93; clear c93
               by_cases c98 : t306 = t294
               ·rw [if_pos c98] at H; have c98b0 : (t306 == t294) = true := beq_iff_eq.mpr c98; have c98b1 : (t306 != t294) = false := bne_eq_false_iff_eq.mpr c98; clear c98
                clear H
                have hnb99 := NB285_277.out; have hnc99 := NB277_285.out; have hnb100 := NB285_304.out; have hnc100 := NB304_285.out
                have hcz101_0 : wc.cell? ⟨gb285, 0, none⟩ = some (.slice Ao18 t295.length co18) := (blk_cell BK285.out 0).trans rfl
                have hfz101_0 := blk_frozen BK285.out 0
                go_wp2_with (first | ((with_reducible refine gate_callee (f := 42) rfl ?_); refine goesL_ (some 87) rfl rfl Try.func42 (by kernel_rfl) rfl #[.agg #[.slice Ao18 t295.length co18], .int .i64 1] rfl Cmp.q ?_; (with_reducible refine (laws_heldBundle.calls kj62 _ _ t295 1 t306 _ ?side1 ?side2 A92.out).mono ?_); (case side1 => exact Cmp.rc (Kd.R_reads' HO_286000.out).2.2); (case side2 => exact (Kd.R_reads' HO_286000.out).2.1); rintro e w102 ⟨rfl, hb⟩; refine ⟨_, rfl, ?_⟩; have n0_ := Aside0.mk (Kd.R_below (Cmp.rr HO_278000.out) hb); have n1_ := Aside0.mk (Kd.R_below (Cmp.rr HO_286000.out) hb); have n2_ := Aside0.mk (Kd.R_below (Cmp.rr HO_305000.out) hb); have n3_ := Aside0.mk (blk_below (Cmp.b BK277.out) hb); have n4_ := Aside0.mk (blk_below (Cmp.b BK285.out) hb); have n5_ := Aside0.mk (blk_below (Cmp.b BK304.out) hb); have n6_ := Aside0.mk (below_step (Cmp.g HB.out) hb); clear HO_278000; clear HO_286000; clear HO_305000; clear BK277; clear BK285; clear BK304; clear HB; have HO_278000 := n0_; have HO_286000 := n1_; have HO_305000 := n2_; have BK277 := n3_; have BK285 := n4_; have BK304 := n5_; have HB := n6_; clear n0_ n1_ n2_ n3_ n4_ n5_ n6_; (try clear hb); (try clear hb2); (try clear hk); (try clear hi)))
                go_ret
                exact ⟨by first | rfl | (simp [errW_none, errW_some] <;> rfl) | (simp [*, errW_none, errW_some] <;> rfl), Cmp.g HB.out⟩
               ·rw [if_neg c98] at H; have c98b0 : (t306 == t294) = false := beq_eq_false_iff_ne.mpr c98; have c98b1 : (t306 != t294) = true := bne_iff_ne.mpr c98
                exact absurd H (by simp)
          ·rw [if_neg c60] at H; have c60b0 : (t296 == t294) = false := beq_eq_false_iff_ne.mpr c60; have c60b1 : (t296 != t294) = true := bne_iff_ne.mpr c60
           exact absurd H (by simp)
     ·replace c34 := Bool.eq_false_iff.mpr c34
      subst c34
      have H1 : (some false) = some true := by first | (rw [if_neg (show ¬ (false = true) by decide)] at H; exact H) | (rw [if_neg (show ¬ (false = true) by decide)] at H)
      clear H; have H := H1; clear H1
      exact absurd H (by simp)
end Go.Proofs.Ytoffbjjkegeccaa.PFnExactDecodeBundle

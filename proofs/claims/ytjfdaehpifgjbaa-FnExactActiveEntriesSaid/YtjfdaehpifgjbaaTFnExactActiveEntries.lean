/- The law FnExactActiveEntries's own function, walked where it answers true. No condition. -/
import Derived.Test.YtjfdaehpifgjbaaCmp
import Derived.Test.YtjfdaehpifgjbaaPFnExactActiveEntriesx0
import Derived.Test.YtjfdaehpifgjbaaPFnExactActiveEntriesx1
import Derived.Test.YtjfdaehpifgjbaaPFnExactActiveEntriesx2
namespace Go.Proofs.Ytjfdaehpifgjbaa.PFnExactActiveEntries
open Go.Proofs.Ytjfdaehpifgjbaa
open Go.RowKit Go.Proofs.YtjfdaehpifgjbaaW.PrintWords Go.Proofs.YtjfdaehpifgjbaaW.PrintLast Go.Proofs.YtjfdaehpifgjbaaW.PrintMore
attribute [local go_sem] max2_int min2_int max_two min_two max_three min_three max_four min_four   -- for this text's walks alone
set_option linter.unusedVariables false
set_option linter.unusedSimpArgs false

/-! ### laws_FnExactActiveEntries: function 3 -/
def laws_FnExactActiveEntries.j0 : Nat → List (S38) → List (S38) → Bool → List (S42) → Option (Bool)
  | 0, _, _, _, _ => none
  | k + 1, x4, x6, x42, x159000 => if x42 = true then (some false) else ((laws_markEntryS.f k x6 1).bind fun bt181 => ((laws_heldEntryS.f k bt181.2 1).bind fun t183 => (if t183 < 0 then (some false) else (if t183 = bt181.1 then ((laws_toBundle.f k x159000).bind fun t184 => ((impl_ActiveEntries.f k t184).bind fun t187 => ((laws_eqEntryS.f k t187 x4).bind fun t190 => (if t190 = true then ((laws_heldEntryS.f k bt181.2 1).bind fun t191 => (if t191 < 0 then (some false) else (if t191 = bt181.1 then (some true) else (some false)))) else (some false))))) else (some false)))))
def laws_FnExactActiveEntries.f (k : Nat) (l0_0 : List (S42)) : Option (Bool) := (laws_szBundle.f l0_0 1048576).bind fun t159 => (if t159 < 0 then (some true) else ((laws_toBundle.f k l0_0).bind fun t160 => ((spec_ActiveEntries.f k t160).bind fun t163 => ((laws_toBundle.f k l0_0).bind fun t166 => ((impl_ActiveEntries.f k t166).bind fun t170 => ((laws_eqEntryS.f k t170 t163).bind fun t173 => (if t173 = true then ((laws_toBundle.f k l0_0).bind fun t174 => ((laws_eqBundle.f k t166 t174).bind fun t177 => (if t177 = true then ((laws_markBundle.f k t166 1).bind fun bt178 => (if bt178.1 < 0 then (laws_FnExactActiveEntries.j0 k t163 t170 true l0_0) else ((laws_eqEntryS.f k t170 t163).bind fun t180 => (laws_FnExactActiveEntries.j0 k t163 t170 (!t180) l0_0)))) else (some false)))) else (some false))))))))
theorem laws_FnExactActiveEntries.mono_l : ∀ k, (∀ y0 y1 y2 y3, LeO (laws_FnExactActiveEntries.j0 k y0 y1 y2 y3) (laws_FnExactActiveEntries.j0 (k + 1) y0 y1 y2 y3))
  | 0 => fun _ _ _ _ r h => by simp [laws_FnExactActiveEntries.j0] at h
  | k + 1 => by
    have ih0 := laws_FnExactActiveEntries.mono_l k
    · intro y0 y1 y2 y3
      unfold laws_FnExactActiveEntries.j0
      repeat' first
      | (with_reducible exact ih0 _ _ _ _)
      | (with_reducible exact impl_ActiveEntries.mono _ _)
      | (with_reducible exact laws_eqBundle.mono _ _ _)
      | (with_reducible exact laws_eqEntryS.mono _ _ _)
      | (with_reducible exact laws_heldEntryS.mono _ _ _)
      | (with_reducible exact laws_markBundle.mono _ _ _)
      | (with_reducible exact laws_markEntryS.mono _ _ _)
      | (with_reducible exact laws_toBundle.mono _ _)
      | (with_reducible exact spec_ActiveEntries.mono _ _)
      | (with_reducible exact LeO.refl _)
      | (with_reducible exact LeO.none _)
      | (with_reducible refine LeO.ite ?_ ?_)
      | (with_reducible refine LeO.bind ?_ (fun _ => ?_))
      | exact ih0 _ _ _ _
      | exact impl_ActiveEntries.mono _ _
      | exact laws_eqBundle.mono _ _ _
      | exact laws_eqEntryS.mono _ _ _
      | exact laws_heldEntryS.mono _ _ _
      | exact laws_markBundle.mono _ _ _
      | exact laws_markEntryS.mono _ _ _
      | exact laws_toBundle.mono _ _
      | exact spec_ActiveEntries.mono _ _
      | exact LeO.none _
      | refine LeO.ite ?_ ?_
      | refine LeO.bind ?_ (fun _ => ?_)
theorem laws_FnExactActiveEntries.mono : ∀ a0 k, LeO (laws_FnExactActiveEntries.f k a0) (laws_FnExactActiveEntries.f (k + 1) a0) := by
  intro a0 k
  have ih0 := laws_FnExactActiveEntries.mono_l k
  unfold laws_FnExactActiveEntries.f
  repeat' first
      | (with_reducible exact ih0 _ _ _ _)
      | (with_reducible exact impl_ActiveEntries.mono _ _)
      | (with_reducible exact laws_eqBundle.mono _ _ _)
      | (with_reducible exact laws_eqEntryS.mono _ _ _)
      | (with_reducible exact laws_heldEntryS.mono _ _ _)
      | (with_reducible exact laws_markBundle.mono _ _ _)
      | (with_reducible exact laws_markEntryS.mono _ _ _)
      | (with_reducible exact laws_toBundle.mono _ _)
      | (with_reducible exact spec_ActiveEntries.mono _ _)
      | (with_reducible exact LeO.refl _)
      | (with_reducible exact LeO.none _)
      | (with_reducible refine LeO.ite ?_ ?_)
      | (with_reducible refine LeO.bind ?_ (fun _ => ?_))
      | exact ih0 _ _ _ _
      | exact impl_ActiveEntries.mono _ _
      | exact laws_eqBundle.mono _ _ _
      | exact laws_eqEntryS.mono _ _ _
      | exact laws_heldEntryS.mono _ _ _
      | exact laws_markBundle.mono _ _ _
      | exact laws_markEntryS.mono _ _ _
      | exact laws_toBundle.mono _ _
      | exact spec_ActiveEntries.mono _ _
      | exact LeO.none _
      | refine LeO.ite ?_ ?_
      | refine LeO.bind ?_ (fun _ => ?_)
set_option maxHeartbeats 8000000 in
set_option maxRecDepth 100000 in
theorem laws_FnExactActiveEntries.calls (k : Nat) (A0_0 : Option Addr) (c0_0 : Nat) (l0_0 : List (S42)) (w : World) (hr0_0 : Kd.C k42 w A0_0 l0_0.length l0_0) (hc0_0 : l0_0.length ≤ c0_0) (h : laws_FnExactActiveEntries.f k l0_0 = some true) :
    Calls Try.prog 3 #[.agg #[.slice A0_0 l0_0.length c0_0]] w fun e w' => e = .returned (.bool true) ∧ Below w.heap.size w w' := by
 have hu24 := Try.underlying24; have hu29 := Try.underlying29; have HR0_0 := Aside0.mk hr0_0; have HC0_0 := Aside0.mk hc0_0; clear hr0_0 hc0_0
 have HB := Aside0.mk (Below.refl w.heap.size w)
 have H : ((laws_szBundle.f l0_0 1048576).bind fun t159 => (if t159 < 0 then (some true) else ((laws_toBundle.f k l0_0).bind fun t160 => ((spec_ActiveEntries.f k t160).bind fun t163 => ((laws_toBundle.f k l0_0).bind fun t166 => ((impl_ActiveEntries.f k t166).bind fun t170 => ((laws_eqEntryS.f k t170 t163).bind fun t173 => (if t173 = true then ((laws_toBundle.f k l0_0).bind fun t174 => ((laws_eqBundle.f k t166 t174).bind fun t177 => (if t177 = true then ((laws_markBundle.f k t166 1).bind fun bt178 => (if bt178.1 < 0 then (laws_FnExactActiveEntries.j0 k t163 t170 true l0_0) else ((laws_eqEntryS.f k t170 t163).bind fun t180 => (laws_FnExactActiveEntries.j0 k t163 t170 (!t180) l0_0)))) else (some false)))) else (some false))))))))) = some true := h
 clear h; replace H := Option.bind_eq_some_iff.mp H; obtain ⟨t159, A20, H⟩ := H; (try dsimp only at H); have A2 := Aside0.mk A20; clear A20
 by_cases c3 : t159 < 0
 ·rw [if_pos c3] at H; have c3b0 : decide (t159 < 0) = true := decide_eq_true c3; clear c3; clear H
  go_enter Try.func3, Try.ntmps3
  go_wp2_with (first | ((with_reducible refine gate_dst (N := 1) rfl ?_); refine box_event (by rfl) (N := 1) (by rfl) (cs := #[.slice A0_0 l0_0.length c0_0]) (t := 24) (by first | (go_simp; done) | (go_simp; rfl)) ?_; intro gb158 hg w4 hbox hb; have n0_ := Aside0.mk (below_step (Cmp.g HB.out) hb); have n1_ := Aside0.mk (hbox); have n2_ := Aside0.mk ((by rw [hg]; exact (below_size (Cmp.g HB.out)) : w.heap.size ≤ gb158)); have n3_ := Aside0.mk ((by rw [hg]; exact (below_size (Cmp.g HB.out)) : w.heap.size ≤ gb158)); clear HB; have HB := n0_; have BK158 := n1_; have GW158 := n2_; have GE158 := n3_; clear n0_ n1_ n2_ n3_; clear hb hbox hg; have hcz5_0 : w4.cell? ⟨gb158, 0, none⟩ = some (.slice A0_0 l0_0.length c0_0) := (blk_cell BK158.out 0).trans rfl; have hfz5_0 := blk_frozen BK158.out 0) | ((with_reducible refine gate_callee (f := 4) rfl ?_); refine goesL_ (some 13) rfl rfl Try.func4 (by kernel_rfl) rfl #[.agg #[.slice A0_0 l0_0.length c0_0], .int .i64 1048576] rfl Cmp.q ?_; (with_reducible refine (laws_szBundle.calls _ _ l0_0 1048576 t159 _ ?side1 ?side2 A2.out).mono ?_); (case side1 => exact Cmp.rc (Kd.C_below HR0_0.out HB.out)); (case side2 => exact HC0_0.out); rintro e w6 ⟨rfl, hb⟩; refine ⟨_, rfl, ?_⟩; have n0_ := Aside0.mk (blk_below (Cmp.b BK158.out) hb); have n1_ := Aside0.mk (below_step (Cmp.g HB.out) hb); clear BK158; clear HB; have BK158 := n0_; have HB := n1_; clear n0_ n1_; (try clear hb); (try clear hb2); (try clear hk); (try clear hi)))
  go_ret
  exact ⟨by first | rfl | (simp [errW_none, errW_some] <;> rfl) | (simp [*, errW_none, errW_some] <;> rfl), Cmp.g HB.out⟩
 ·rw [if_neg c3] at H; have c3b0 : decide (t159 < 0) = false := decide_eq_false c3; clear c3; replace H := Option.bind_eq_some_iff.mp H; obtain ⟨t160, A70, H⟩ := H; (try dsimp only at H); have A7 := Aside0.mk A70; clear A70; replace H := Option.bind_eq_some_iff.mp H; obtain ⟨t163, A80, H⟩ := H; (try dsimp only at H); have A8 := Aside0.mk A80; clear A80; replace H := Option.bind_eq_some_iff.mp H; obtain ⟨t166, A90, H⟩ := H; (try dsimp only at H); have A9 := Aside0.mk A90; clear A90; replace H := Option.bind_eq_some_iff.mp H; obtain ⟨t170, A100, H⟩ := H; (try dsimp only at H); have A10 := Aside0.mk A100; clear A100; replace H := Option.bind_eq_some_iff.mp H; obtain ⟨t173, A110, H⟩ := H; (try dsimp only at H); have A11 := Aside0.mk A110; clear A110
  by_cases c12 : t173 = true
  ·subst c12; rw [if_pos rfl] at H; replace H := Option.bind_eq_some_iff.mp H; obtain ⟨t174, A130, H⟩ := H; (try dsimp only at H); have A13 := Aside0.mk A130; clear A130; replace H := Option.bind_eq_some_iff.mp H; obtain ⟨t177, A140, H⟩ := H; (try dsimp only at H); have A14 := Aside0.mk A140; clear A140
   by_cases c15 : t177 = true
   ·subst c15; rw [if_pos rfl] at H; replace H := Option.bind_eq_some_iff.mp H; obtain ⟨⟨t178, t179⟩, A160, H⟩ := H; (try dsimp only at H); have A16 := Aside0.mk A160; clear A160; have HC17 := Aside0.mk H; clear H
    go_enter Try.func3, Try.ntmps3
    try go_wp2_with (first | ((with_reducible refine gate_dst (N := 1) rfl ?_); refine box_event (by rfl) (N := 1) (by rfl) (cs := #[.slice A0_0 l0_0.length c0_0]) (t := 24) (by first | (go_simp; done) | (go_simp; rfl)) ?_; intro gb158 hg w18 hbox hb; have n0_ := Aside0.mk (below_step (Cmp.g HB.out) hb); have n1_ := Aside0.mk (hbox); have n2_ := Aside0.mk ((by rw [hg]; exact (below_size (Cmp.g HB.out)) : w.heap.size ≤ gb158)); have n3_ := Aside0.mk ((by rw [hg]; exact (below_size (Cmp.g HB.out)) : w.heap.size ≤ gb158)); clear HB; have HB := n0_; have BK158 := n1_; have GW158 := n2_; have GE158 := n3_; clear n0_ n1_ n2_ n3_; clear hb hbox hg; have hcz19_0 : w18.cell? ⟨gb158, 0, none⟩ = some (.slice A0_0 l0_0.length c0_0) := (blk_cell BK158.out 0).trans rfl; have hfz19_0 := blk_frozen BK158.out 0) | ((with_reducible refine gate_callee (f := 4) rfl ?_); refine goesL_ (some 13) rfl rfl Try.func4 (by kernel_rfl) rfl #[.agg #[.slice A0_0 l0_0.length c0_0], .int .i64 1048576] rfl Cmp.q ?_; (with_reducible refine (laws_szBundle.calls _ _ l0_0 1048576 t159 _ ?side1 ?side2 A2.out).mono ?_); (case side1 => exact Cmp.rc (Kd.C_below HR0_0.out HB.out)); (case side2 => exact HC0_0.out); rintro e w20 ⟨rfl, hb⟩; refine ⟨_, rfl, ?_⟩; have n0_ := Aside0.mk (blk_below (Cmp.b BK158.out) hb); have n1_ := Aside0.mk (below_step (Cmp.g HB.out) hb); clear BK158; clear HB; have BK158 := n0_; have HB := n1_; clear n0_ n1_; (try clear hb); (try clear hb2); (try clear hk); (try clear hi); have hcz21_0 : w20.cell? ⟨gb158, 0, none⟩ = some (.slice A0_0 l0_0.length c0_0) := (blk_cell BK158.out 0).trans rfl; have hfz21_0 := blk_frozen BK158.out 0) | ((with_reducible refine gate_callee (f := 6) rfl ?_); refine goesL_ (some 17) rfl rfl Try.func6 (by kernel_rfl) rfl #[.agg #[.slice A0_0 l0_0.length c0_0]] rfl Cmp.q ?_; (with_reducible refine (laws_toBundle.calls k _ _ l0_0 t160 _ ?side1 ?side2 A7.out).mono ?_); (case side1 => exact Cmp.rc (Kd.C_below HR0_0.out HB.out)); (case side2 => exact HC0_0.out); rintro e w22 ⟨v161, rfl, ho0, hb⟩; refine ⟨_, rfl, ?_⟩; have n0_ := Aside0.mk (Kd.R_lower ho0 (below_size (Cmp.g HB.out))); have n1_ := Aside0.mk (blk_below (Cmp.b BK158.out) hb); have n2_ := Aside0.mk (below_step (Cmp.g HB.out) hb); clear BK158; clear HB; have HO162 := n0_; have BK158 := n1_; have HB := n2_; clear n0_ n1_ n2_; (try clear hb); (try clear hb2); (try clear hk); (try clear hi); (try clear ho0); obtain ⟨Ao23, co23, eo23⟩ := Kd.R_slice HO162.out; subst eo23) | ((with_reducible refine gate_callee (f := 5) rfl ?_); refine goesL_ (some 18) rfl rfl Try.func5 (by kernel_rfl) rfl #[.agg #[.slice Ao23 t160.length co23]] rfl Cmp.q ?_; (with_reducible refine (spec_ActiveEntries.calls k _ _ t160 t163 _ ?side1 ?side2 A8.out).mono ?_); (case side1 => exact Cmp.rc (Kd.R_reads' HO162.out).2.2); (case side2 => exact (Kd.R_reads' HO162.out).2.1); rintro e w24 ⟨v164, rfl, ho0, hb⟩; refine ⟨_, rfl, ?_⟩; have n0_ := Aside0.mk (Kd.R_elder' (Cmp.rr HO162.out) (Kd.R_base ho0) hb); have n1_ := Aside0.mk (Kd.R_lower (Kd.R_new' ho0 (Kd.R_lt (Cmp.rr HO162.out))) (below_size (Cmp.g HB.out))); have n2_ := Aside0.mk (blk_below (Cmp.b BK158.out) hb); have n3_ := Aside0.mk (below_step (Cmp.g HB.out) hb); clear HO162; clear BK158; clear HB; have HO162 := n0_; have HO165 := n1_; have BK158 := n2_; have HB := n3_; clear n0_ n1_ n2_ n3_; (try clear hb); (try clear hb2); (try clear hk); (try clear hi); (try clear ho0); have hcz25_0 : w24.cell? ⟨gb158, 0, none⟩ = some (.slice A0_0 l0_0.length c0_0) := (blk_cell BK158.out 0).trans rfl; have hfz25_0 := blk_frozen BK158.out 0) | ((with_reducible refine gate_callee (f := 6) rfl ?_); refine goesL_ (some 20) rfl rfl Try.func6 (by kernel_rfl) rfl #[.agg #[.slice A0_0 l0_0.length c0_0]] rfl Cmp.q ?_; (with_reducible refine (laws_toBundle.calls k _ _ l0_0 t166 _ ?side1 ?side2 A9.out).mono ?_); (case side1 => exact Cmp.rc (Kd.C_below HR0_0.out HB.out)); (case side2 => exact HC0_0.out); rintro e w26 ⟨v167, rfl, ho0, hb⟩; refine ⟨_, rfl, ?_⟩; have n0_ := Aside0.mk (Kd.R_elder' (Cmp.rr HO162.out) (Kd.R_base ho0) hb); have n1_ := Aside0.mk (Kd.R_elder' (Cmp.rr HO165.out) (Kd.R_base ho0) hb); have n2_ := Aside0.mk (Kd.R_lower (Kd.R_new' (Kd.R_new' ho0 (Kd.R_lt (Cmp.rr HO162.out))) (Kd.R_lt (Cmp.rr HO165.out))) (below_size (Cmp.g HB.out))); have n3_ := Aside0.mk (blk_below (Cmp.b BK158.out) hb); have n4_ := Aside0.mk (below_step (Cmp.g HB.out) hb); clear HO162; clear HO165; clear BK158; clear HB; have HO162 := n0_; have HO165 := n1_; have HO168 := n2_; have BK158 := n3_; have HB := n4_; clear n0_ n1_ n2_ n3_ n4_; (try clear hb); (try clear hb2); (try clear hk); (try clear hi); (try clear ho0)) | ((with_reducible refine gate_dst (N := 5) rfl ?_); refine box_event (by rfl) (N := 5) (by rfl) (cs := #[.slice none 0 0]) (t := 29) (by first | (go_simp; done) | (go_simp; rfl)) ?_; intro gb169 hg w27 hbox hb; have n0_ := Aside0.mk (Kd.R_below (Cmp.rr HO162.out) hb); have n1_ := Aside0.mk (Kd.R_below (Cmp.rr HO165.out) hb); have n2_ := Aside0.mk (Kd.R_below (Cmp.rr HO168.out) hb); have n3_ := Aside0.mk (blk_below (Cmp.b BK158.out) hb); have n4_ := Aside0.mk (below_step (Cmp.g HB.out) hb); have n5_ := Aside0.mk (hbox); have n6_ := Aside0.mk ((by rw [hg]; exact (below_size (Cmp.g HB.out)) : w.heap.size ≤ gb169)); have n7_ := Aside0.mk ((by rw [hg]; exact (below_size (Cmp.g HB.out)) : w.heap.size ≤ gb169)); have n8_ := Aside0.mk ((by rw [hg]; exact Nat.ne_of_lt (blk_lt (Cmp.b BK158.out)) : gb158 ≠ gb169)); have n9_ := Aside0.mk ((by rw [hg]; exact Nat.ne_of_gt (blk_lt (Cmp.b BK158.out)) : gb169 ≠ gb158)); clear HO162; clear HO165; clear HO168; clear BK158; clear HB; have HO162 := n0_; have HO165 := n1_; have HO168 := n2_; have BK158 := n3_; have HB := n4_; have BK169 := n5_; have GW169 := n6_; have GE169 := n7_; have NB158_169 := n8_; have NB169_158 := n9_; clear n0_ n1_ n2_ n3_ n4_ n5_ n6_ n7_ n8_ n9_; clear hb hbox hg; obtain ⟨Ao28, co28, eo28⟩ := Kd.R_slice HO168.out; subst eo28; have hnb29 := NB169_158.out; have hnc29 := NB158_169.out; have hcz30_0 : w27.cell? ⟨gb169, 0, none⟩ = some (.slice none 0 0) := (blk_cell BK169.out 0).trans rfl; have hfz30_0 := blk_frozen BK169.out 0) | ((with_reducible refine gate_callee (f := 7) rfl ?_); refine goesL_ (some 22) rfl rfl Try.func7 (by kernel_rfl) rfl #[.agg #[.slice Ao28 t166.length co28]] rfl Cmp.q ?_; (with_reducible refine (impl_ActiveEntries.calls k _ _ t166 t170 _ ?side1 ?side2 A10.out).mono ?_); (case side1 => refine (Kd.R_reads' (e := 38) (base := w.heap.size) (ok := fun k_ => ((True ∧ some k_ ≠ (.slice Ao23 t160.length co23 : Value).ownBlock) ∧ some k_ ≠ (v164 : Value).ownBlock)) (n := t166.length) (c := co28) ?_).2.2; exact (by refine Cmp.rr ?_; exact (Kd.R_mono (Kd.R_far (p := ⟨gb169, 0, none⟩) (Kd.R_types HO168.out BK169.out (by decide)) (fun _ hk => hk.2) (.slice Ao28 t166.length co28)) (fun _ h_ => h_.1)))); (case side2 => exact (Kd.R_reads' HO168.out).2.1); rintro e w31 ⟨v171, rfl, ho0, hb⟩; refine ⟨_, rfl, ?_⟩; have n0_ := Aside0.mk (Kd.R_elder' (by refine Cmp.rr ?_; exact (Kd.R_mono (Kd.R_far (p := ⟨gb169, 0, none⟩) (Kd.R_types HO162.out BK169.out (by decide)) (fun _ hk => hk.2) (.slice Ao28 t166.length co28)) (fun _ h_ => h_.1))) (Kd.R_base ho0) hb); have n1_ := Aside0.mk (Kd.R_elder' (by refine Cmp.rr ?_; exact (Kd.R_mono (Kd.R_far (p := ⟨gb169, 0, none⟩) (Kd.R_types HO165.out BK169.out (by decide)) (fun _ hk => hk.2) (.slice Ao28 t166.length co28)) (fun _ h_ => h_.1))) (Kd.R_base ho0) hb); have n2_ := Aside0.mk (Kd.R_elder' (by refine Cmp.rr ?_; exact (Kd.R_mono (Kd.R_far (p := ⟨gb169, 0, none⟩) (Kd.R_types HO168.out BK169.out (by decide)) (fun _ hk => hk.2) (.slice Ao28 t166.length co28)) (fun _ h_ => h_.1))) (Kd.R_base ho0) hb); have n3_ := Aside0.mk (Kd.R_lower (Kd.R_new' (Kd.R_new' (Kd.R_new' ho0 (Kd.R_lt (by refine Cmp.rr ?_; exact (Kd.R_mono (Kd.R_far (p := ⟨gb169, 0, none⟩) (Kd.R_types HO162.out BK169.out (by decide)) (fun _ hk => hk.2) (.slice Ao28 t166.length co28)) (fun _ h_ => h_.1))))) (Kd.R_lt (by refine Cmp.rr ?_; exact (Kd.R_mono (Kd.R_far (p := ⟨gb169, 0, none⟩) (Kd.R_types HO165.out BK169.out (by decide)) (fun _ hk => hk.2) (.slice Ao28 t166.length co28)) (fun _ h_ => h_.1))))) (Kd.R_lt (by refine Cmp.rr ?_; exact (Kd.R_mono (Kd.R_far (p := ⟨gb169, 0, none⟩) (Kd.R_types HO168.out BK169.out (by decide)) (fun _ hk => hk.2) (.slice Ao28 t166.length co28)) (fun _ h_ => h_.1))))) (below_size (Cmp.g HB.out))); have n4_ := Aside0.mk (blk_below (g := gb158) (o := .cells #[.slice A0_0 l0_0.length c0_0] 24 (0, 0)) (by refine Cmp.b ?_; refine blk_far ?_ NB158_169.out _; refine Cmp.b ?_; exact BK158.out) hb); have n5_ := Aside0.mk (blk_below (g := gb169) (o := .cells #[.slice Ao28 t166.length co28] 29 (0, 0)) (by refine Cmp.b ?_; refine blk_put (cs := #[.slice none 0 0]) ?_ 0 _ rfl; refine Cmp.b ?_; exact BK169.out) hb); have n6_ := Aside0.mk (below_step (Cmp.g HB.out) hb); clear HO162; clear HO165; clear HO168; clear BK158; clear BK169; clear HB; have HO162 := n0_; have HO165 := n1_; have HO168 := n2_; have HO172 := n3_; have BK158 := n4_; have BK169 := n5_; have HB := n6_; clear n0_ n1_ n2_ n3_ n4_ n5_ n6_; (try clear hb); (try clear hb2); (try clear hk); (try clear hi); (try clear ho0); obtain ⟨Ao32, co32, eo32⟩ := Kd.R_slice HO172.out; subst eo32; obtain ⟨Ao33, co33, eo33⟩ := Kd.R_slice HO165.out; subst eo33) | ((with_reducible refine gate_callee (f := 8) rfl ?_); refine goesL_ (some 25) rfl rfl Try.func8 (by kernel_rfl) rfl #[.slice Ao32 t170.length co32, .slice Ao33 t163.length co33] rfl Cmp.q ?_; (with_reducible refine (laws_eqEntryS.calls k _ _ t170 _ _ t163 true _ ?side1 ?side2 ?side3 ?side4 A11.out).mono ?_); (case side1 => exact Cmp.rc (Kd.R_reads' HO172.out).2.2); (case side2 => exact (Kd.R_reads' HO172.out).2.1); (case side3 => exact Cmp.rc (Kd.R_reads' HO165.out).2.2); (case side4 => exact (Kd.R_reads' HO165.out).2.1); rintro e w34 ⟨rfl, hb⟩; refine ⟨_, rfl, ?_⟩; have n0_ := Aside0.mk (Kd.R_below (Cmp.rr HO162.out) hb); have n1_ := Aside0.mk (Kd.R_below (Cmp.rr HO165.out) hb); have n2_ := Aside0.mk (Kd.R_below (Cmp.rr HO168.out) hb); have n3_ := Aside0.mk (Kd.R_below (Cmp.rr HO172.out) hb); have n4_ := Aside0.mk (blk_below (Cmp.b BK158.out) hb); have n5_ := Aside0.mk (blk_below (Cmp.b BK169.out) hb); have n6_ := Aside0.mk (below_step (Cmp.g HB.out) hb); clear HO162; clear HO165; clear HO168; clear HO172; clear BK158; clear BK169; clear HB; have HO162 := n0_; have HO165 := n1_; have HO168 := n2_; have HO172 := n3_; have BK158 := n4_; have BK169 := n5_; have HB := n6_; clear n0_ n1_ n2_ n3_ n4_ n5_ n6_; (try clear hb); (try clear hb2); (try clear hk); (try clear hi)))
    have n0_ := Aside0.mk (Kd.R_drew HO162.out); have n1_ := Aside0.mk (Kd.R_drew HO165.out); have n2_ := Aside0.mk (Kd.R_drew HO168.out); have n3_ := Aside0.mk (Kd.R_drew HO172.out); have n4_ := Aside0.mk (blk_drew BK158.out); have n5_ := Aside0.mk (blk_drew BK169.out); have n6_ := Aside0.mk (below_drew1 HB.out); clear HO162; clear HO165; clear HO168; clear HO172; clear BK158; clear BK169; clear HB; have HO162 := n0_; have HO165 := n1_; have HO168 := n2_; have HO172 := n3_; have BK158 := n4_; have BK169 := n5_; have HB := n6_; clear n0_ n1_ n2_ n3_ n4_ n5_ n6_
    refine start_ (n := 5) (S := fun w' => w'.cell? ⟨gb169, 0, none⟩ = some (.slice Ao28 t166.length co28) ∧ w'.cell? ⟨gb158, 0, none⟩ = some (.slice A0_0 l0_0.length c0_0)) (ds := []) #[false, false, false, false, false] (by kernel_rfl) rfl rfl ⟨(blk_cell BK169.out 0).trans rfl, (blk_cell BK158.out 0).trans rfl⟩ (fun hHeld => ?_)
    generalize w34.drew = w35 at HO162 HO165 HO168 HO172 BK158 BK169 HB hHeld ⊢
    refine take_ (i := 0) (N := some 27) (v := ?_) (a' := ?_) #[true, false, false, false, false] rfl rfl (by kernel_rfl) (fun _ _ _ h => h) (Or.inl ⟨by rfl, ?_⟩) hHeld ?_ ?_
    rotate_left
    ·rintro w' ⟨s0, s1⟩; go_simp; with_reducible rfl
    rotate_left
    ·simp only [Act.put, Cmp.s, Cmp.z, Cmp.c, i64_w, i32_w]; rfl
    refine take_ (i := 1) (N := some 28) (v := ?_) (a' := ?_) #[true, true, false, false, false] rfl rfl (by kernel_rfl) (fun _ _ _ h => h) (Or.inl ⟨by rfl, ?_⟩) hHeld ?_ ?_
    rotate_left
    ·rintro w' ⟨s0, s1⟩; go_simp; with_reducible rfl
    rotate_left
    ·simp only [Act.put, Cmp.s, Cmp.z, Cmp.c, i64_w, i32_w]; rfl
    refine one_ (i := 2) (N := some 29) #[true, true, true, false, false] rfl rfl (by kernel_rfl) (by decide) (fun K hK => ?_)
    refine goes_ Try.func6 (by kernel_rfl) rfl #[.agg #[.slice A0_0 l0_0.length c0_0]] (by rfl) rfl rfl Cmp.q ?_
    with_reducible refine (laws_toBundle.calls k _ _ l0_0 t174 _ ?side1 ?side2 A13.out).mono ?_
    (case side1 => exact Cmp.rc (Kd.C_below HR0_0.out HB.out))
    (case side2 => exact HC0_0.out)
    rintro e w36 ⟨v175, rfl, ho0, hb⟩; refine ⟨_, rfl, ?_⟩
    have n0_ := Aside0.mk (Kd.R_elder' (Cmp.rr HO162.out) (Kd.R_base ho0) hb)
    have n1_ := Aside0.mk (Kd.R_elder' (Cmp.rr HO165.out) (Kd.R_base ho0) hb)
    have n2_ := Aside0.mk (Kd.R_elder' (Cmp.rr HO168.out) (Kd.R_base ho0) hb)
    have n3_ := Aside0.mk (Kd.R_elder' (Cmp.rr HO172.out) (Kd.R_base ho0) hb)
    have n4_ := Aside0.mk (Kd.R_lower (Kd.R_new' (Kd.R_new' (Kd.R_new' (Kd.R_new' ho0 (Kd.R_lt (Cmp.rr HO162.out))) (Kd.R_lt (Cmp.rr HO165.out))) (Kd.R_lt (Cmp.rr HO168.out))) (Kd.R_lt (Cmp.rr HO172.out))) (below_size (Cmp.g HB.out)))
    have n5_ := Aside0.mk (blk_below (Cmp.b BK158.out) hb)
    have n6_ := Aside0.mk (blk_below (Cmp.b BK169.out) hb)
    have n7_ := Aside0.mk (below_step (Cmp.g HB.out) hb)
    clear HO162; clear HO165; clear HO168; clear HO172; clear BK158; clear BK169; clear HB; have HO162 := n0_; have HO165 := n1_; have HO168 := n2_; have HO172 := n3_; have HO176 := n4_; have BK158 := n5_; have BK169 := n6_; have HB := n7_; clear n0_ n1_ n2_ n3_ n4_ n5_ n6_ n7_; (try clear hb); (try clear hb2); (try clear hk); (try clear hi); (try clear ho0)
    obtain ⟨Ao37, co37, eo37⟩ := Kd.R_slice HO176.out
    (first | subst eo37 | (injection eo37 with f1_ f2_ f3_; have f4_ := f1_.symm; have f5_ := f3_.symm; clear f1_ f2_ f3_; subst f4_; subst f5_))
    refine hK.out _ _ ⟨(blk_cell BK169.out 0).trans rfl, (blk_cell BK158.out 0).trans rfl⟩ (fun hHeld => ?_)
    clear hK K
    refine norm_ (a' := ?_) ?_ ?_
    rotate_left
    ·show Act.put _ (some 29) _ = _
     simp only [Act.put, Cmp.s, Cmp.z, Cmp.c, i64_w, i32_w]; rfl
    refine one_ (i := 3) (N := some 30) #[true, true, true, true, false] rfl rfl (by kernel_rfl) (by decide) (fun K hK => ?_)
    refine goes_ Try.func9 (by kernel_rfl) rfl #[.agg #[.slice Ao28 t166.length co28], .agg #[.slice Ao37 t174.length co37]] (by rfl) rfl rfl Cmp.q ?_
    with_reducible refine (laws_eqBundle.calls k _ _ t166 _ _ t174 true _ ?side1 ?side2 ?side3 ?side4 A14.out).mono ?_
    (case side1 => exact Cmp.rc (Kd.R_reads' HO168.out).2.2)
    (case side2 => exact (Kd.R_reads' HO168.out).2.1)
    (case side3 => exact Cmp.rc (Kd.R_reads' HO176.out).2.2)
    (case side4 => exact (Kd.R_reads' HO176.out).2.1)
    rintro e w38 ⟨rfl, hb⟩; refine ⟨_, rfl, ?_⟩
    have n0_ := Aside0.mk (Kd.R_below (Cmp.rr HO162.out) hb)
    have n1_ := Aside0.mk (Kd.R_below (Cmp.rr HO165.out) hb)
    have n2_ := Aside0.mk (Kd.R_below (Cmp.rr HO168.out) hb)
    have n3_ := Aside0.mk (Kd.R_below (Cmp.rr HO172.out) hb)
    have n4_ := Aside0.mk (Kd.R_below (Cmp.rr HO176.out) hb)
    have n5_ := Aside0.mk (blk_below (Cmp.b BK158.out) hb)
    have n6_ := Aside0.mk (blk_below (Cmp.b BK169.out) hb)
    have n7_ := Aside0.mk (below_step (Cmp.g HB.out) hb)
    clear HO162; clear HO165; clear HO168; clear HO172; clear HO176; clear BK158; clear BK169; clear HB; have HO162 := n0_; have HO165 := n1_; have HO168 := n2_; have HO172 := n3_; have HO176 := n4_; have BK158 := n5_; have BK169 := n6_; have HB := n7_; clear n0_ n1_ n2_ n3_ n4_ n5_ n6_ n7_; (try clear hb); (try clear hb2); (try clear hk); (try clear hi)
    refine hK.out _ _ ⟨(blk_cell BK169.out 0).trans rfl, (blk_cell BK158.out 0).trans rfl⟩ (fun hHeld => ?_)
    clear hK K
    refine norm_ (a' := ?_) ?_ ?_
    rotate_left
    ·show Act.put _ (some 30) _ = _
     simp only [Act.put, Cmp.s, Cmp.z, Cmp.c, i64_w, i32_w]; rfl
    refine pure_ (i := 4) (N := some 31) (v := ?_) (a' := ?_) #[true, true, true, true, true] rfl rfl (by kernel_rfl) (fun _ _ _ h => h) (Or.inl ⟨by rfl, ?_⟩) ?_ ?_
    rotate_left
    ·intro w'; go_simp; with_reducible rfl
    rotate_left
    ·simp only [Act.put, Cmp.s, Cmp.z, Cmp.c, i64_w, i32_w]; rfl
    refine done_ (by kernel_rfl) ?_
    have hcz39_0 : w38.cell? ⟨gb169, 0, none⟩ = some (.slice Ao28 t166.length co28) := (blk_cell BK169.out 0).trans rfl
    have hfz39_0 := blk_frozen BK169.out 0
    go_upto_region 14 with (first | ((with_reducible refine gate_callee (f := 10) rfl ?_); refine goesL_ (some 34) rfl rfl Try.func10 (by kernel_rfl) rfl #[.agg #[.slice Ao28 t166.length co28], .int .i64 1] rfl Cmp.q ?_; (with_reducible refine (laws_markBundle.calls k (fun k_ => some k_ = (.slice Ao28 t166.length co28 : Value).ownBlock) (.slice Ao28 t166.length co28) t166 1 t178 t179 w _ ?side1 ?side2 A16.out).mono ?_); (case side1 => repeat (first | (with_reducible first | exact HB.out | apply below_alloc | apply pw_below_drewN | apply below_drew1 | refine below_set ?_ GE158.out | refine below_set ?_ GE169.out) | exact HB.out)); (case side2 => exact Kd.R_tight rfl HO168.out); rintro e w40 ⟨rfl, hy0, hb, hkp⟩; refine ⟨_, rfl, ?_⟩; have n0_ := Aside0.mk (blk_kept (Cmp.b BK158.out) hkp (fun hs_ => (fun e_ => (Kd.R_ne HO168.out BK158.out (by decide)) e_) hs_)); have n1_ := Aside0.mk (Kd.R_mono (ok' := fun k_ => some k_ ≠ (.slice Ao33 t163.length co33 : Value).ownBlock ∧ some k_ ≠ (.slice Ao28 t166.length co28 : Value).ownBlock ∧ some k_ ≠ (.slice Ao32 t170.length co32 : Value).ownBlock ∧ some k_ ≠ (.slice Ao37 t174.length co37 : Value).ownBlock) (Kd.R_keptB (HO162.out) hkp (fun k_ hk_ hs_ => (hk_.1.1.2) hs_)) (fun k_ hk_ => ⟨hk_.1.1.1.1.2, hk_.1.1.1.2, hk_.1.1.2, hk_.1.2⟩)); have n2_ := Aside0.mk (Kd.R_mono (ok' := fun k_ => some k_ ≠ (.slice Ao23 t160.length co23 : Value).ownBlock ∧ some k_ ≠ (.slice Ao28 t166.length co28 : Value).ownBlock ∧ some k_ ≠ (.slice Ao32 t170.length co32 : Value).ownBlock ∧ some k_ ≠ (.slice Ao37 t174.length co37 : Value).ownBlock) (Kd.R_keptB (HO165.out) hkp (fun k_ hk_ hs_ => (hk_.1.1.2) hs_)) (fun k_ hk_ => ⟨hk_.1.1.1.1.2, hk_.1.1.1.2, hk_.1.1.2, hk_.1.2⟩)); have n3_ := Aside0.mk (Kd.R_reok rfl hy0 (fun k_ e_ => HO168.out.1 k_ e_)); have n4_ := Aside0.mk (blk_kept (Cmp.b BK169.out) hkp (fun hs_ => (fun e_ => (Kd.R_ne HO168.out BK169.out (by decide)) e_) hs_)); have n5_ := Aside0.mk (Kd.R_mono (ok' := fun k_ => some k_ ≠ (.slice Ao23 t160.length co23 : Value).ownBlock ∧ some k_ ≠ (.slice Ao33 t163.length co33 : Value).ownBlock ∧ some k_ ≠ (.slice Ao28 t166.length co28 : Value).ownBlock ∧ some k_ ≠ (.slice Ao37 t174.length co37 : Value).ownBlock) (Kd.R_keptB (HO172.out) hkp (fun k_ hk_ hs_ => (hk_.1.2) hs_)) (fun k_ hk_ => ⟨hk_.1.1.1.1.2, hk_.1.1.1.2, hk_.1.1.2, hk_.1.2⟩)); have n6_ := Aside0.mk (Kd.R_mono (ok' := fun k_ => some k_ ≠ (.slice Ao23 t160.length co23 : Value).ownBlock ∧ some k_ ≠ (.slice Ao33 t163.length co33 : Value).ownBlock ∧ some k_ ≠ (.slice Ao28 t166.length co28 : Value).ownBlock ∧ some k_ ≠ (.slice Ao32 t170.length co32 : Value).ownBlock) (Kd.R_keptB (HO176.out) hkp (fun k_ hk_ hs_ => (hk_.1.2) hs_)) (fun k_ hk_ => ⟨hk_.1.1.1.1.2, hk_.1.1.1.2, hk_.1.1.2, hk_.1.2⟩)); have n7_ := Aside0.mk (hb); clear BK158; clear HO162; clear HO165; clear HO168; clear BK169; clear HO172; clear HO176; clear HB; have BK158 := n0_; have HO162 := n1_; have HO165 := n2_; have HO168 := n3_; have BK169 := n4_; have HO172 := n5_; have HO176 := n6_; have HB := n7_; clear n0_ n1_ n2_ n3_ n4_ n5_ n6_ n7_; (try clear hb); (try clear hkp); (try clear hy0)))
    (try simp only [Act.put, List.setIfInBounds_toArray, List.set_cons_zero, List.set_cons_succ])
    go_cut [42] (fun v42 wc => ∃ (kq : Nat) (x42_16 : Bool), v42 = .bool x42_16 ∧ Aside0 (laws_FnExactActiveEntries.j0 kq t163 t170 x42_16 l0_0 = some true) ∧ Aside0 (kq ≤ k) ∧ Aside0 (Kd.R k38 38 wc w.heap.size (fun k_ => some k_ ≠ ((.slice Ao32 t170.length co32) : Value).ownBlock ∧ some k_ ≠ ((.slice Ao28 t166.length co28) : Value).ownBlock) (.slice Ao33 t163.length co33) t163) ∧ Aside0 (Kd.R k38 38 wc w.heap.size (fun k_ => some k_ ≠ ((.slice Ao33 t163.length co33) : Value).ownBlock ∧ some k_ ≠ ((.slice Ao28 t166.length co28) : Value).ownBlock) (.slice Ao32 t170.length co32) t170) ∧ Aside0 (Kd.R k38 38 wc w.heap.size (fun k_ => some k_ ≠ ((.slice Ao33 t163.length co33) : Value).ownBlock ∧ some k_ ≠ ((.slice Ao32 t170.length co32) : Value).ownBlock) (.slice Ao28 t166.length co28) t179) ∧ Aside0 (wc.heap[gb158]? = some (.cells #[(.slice A0_0 l0_0.length c0_0)] 24 (0, 0))) ∧ Aside0 (wc.heap[gb169]? = some (.cells #[(.slice Ao28 t166.length co28)] 29 (0, 0))) ∧ Aside0 (Below w.heap.size w wc))
    case first =>
     have H := HC17.out; clear HC17
     by_cases c41 : t178 < 0
     ·rw [if_pos c41] at H; have c41b0 : decide (t178 < 0) = true := decide_eq_true c41; clear c41
      (first | rw [c41b0] | (simp only [i64_w, i32_w]; rw [c41b0]) | skip)
      have H' := Aside0.mk H
      clear H
      go_wp2
      go_meet
      case rel => exact ⟨_, (true), (by first | rfl | simp | simp [*]), H', ⟨by first | omega | exact Nat.le_refl _⟩, ⟨by refine Cmp.rr ?_; exact Kd.R_mono HO165.out (fun _ hk => ⟨hk.2.2.1, hk.2.1⟩)⟩, ⟨by refine Cmp.rr ?_; exact Kd.R_mono HO172.out (fun _ hk => ⟨hk.2.1, hk.2.2.1⟩)⟩, ⟨by refine Cmp.rr ?_; exact Kd.R_mono HO168.out (fun _ hk => ⟨hk.1.1.2, hk.1.2⟩)⟩, ⟨by refine Cmp.b ?_; exact BK158.out⟩, ⟨by refine Cmp.b ?_; exact BK169.out⟩, ⟨Cmp.g HB.out⟩⟩
     ·rw [if_neg c41] at H; have c41b0 : decide (t178 < 0) = false := decide_eq_false c41; clear c41
      (first | rw [c41b0] | (simp only [i64_w, i32_w]; rw [c41b0]) | skip)
      replace H := Option.bind_eq_some_iff.mp H; obtain ⟨t180, A420, H⟩ := H; (try dsimp only at H); have A42 := Aside0.mk A420; clear A420
      have H' := Aside0.mk H
      clear H
      go_wp2_with (first | (go_at_call 8; (with_reducible refine (laws_eqEntryS.calls k _ _ t170 _ _ t163 t180 _ ?side1 ?side2 ?side3 ?side4 A42.out).mono ?_); (case side1 => exact Cmp.rc (Kd.R_reads' HO172.out).2.2); (case side2 => exact (Kd.R_reads' HO172.out).2.1); (case side3 => exact Cmp.rc (Kd.R_reads' HO165.out).2.2); (case side4 => exact (Kd.R_reads' HO165.out).2.1); rintro e w43 ⟨rfl, hb⟩; have n0_ := Aside0.mk (Kd.R_below (Cmp.rr HO162.out) hb); have n1_ := Aside0.mk (Kd.R_below (Cmp.rr HO165.out) hb); have n2_ := Aside0.mk (Kd.R_below (Cmp.rr HO168.out) hb); have n3_ := Aside0.mk (Kd.R_below (Cmp.rr HO172.out) hb); have n4_ := Aside0.mk (Kd.R_below (Cmp.rr HO176.out) hb); have n5_ := Aside0.mk (blk_below (Cmp.b BK158.out) hb); have n6_ := Aside0.mk (blk_below (Cmp.b BK169.out) hb); have n7_ := Aside0.mk (below_step (Cmp.g HB.out) hb); clear HO162; clear HO165; clear HO168; clear HO172; clear HO176; clear BK158; clear BK169; clear HB; have HO162 := n0_; have HO165 := n1_; have HO168 := n2_; have HO172 := n3_; have HO176 := n4_; have BK158 := n5_; have BK169 := n6_; have HB := n7_; clear n0_ n1_ n2_ n3_ n4_ n5_ n6_ n7_; (try clear hb); (try clear hb2); (try clear hk); (try clear hi)))
      go_meet
      case rel => exact ⟨_, (!t180), (by first | rfl | simp | simp [*]), H', ⟨by first | omega | exact Nat.le_refl _⟩, ⟨by refine Cmp.rr ?_; exact Kd.R_mono HO165.out (fun _ hk => ⟨hk.2.2.1, hk.2.1⟩)⟩, ⟨by refine Cmp.rr ?_; exact Kd.R_mono HO172.out (fun _ hk => ⟨hk.2.1, hk.2.2.1⟩)⟩, ⟨by refine Cmp.rr ?_; exact Kd.R_mono HO168.out (fun _ hk => ⟨hk.1.1.2, hk.1.2⟩)⟩, ⟨by refine Cmp.b ?_; exact BK158.out⟩, ⟨by refine Cmp.b ?_; exact BK169.out⟩, ⟨Cmp.g HB.out⟩⟩
    case rest =>
     clear HC17; (try clear c1); (try clear c2); (try clear p2); (try clear c3); (try clear c3b0); (try clear c4); (try clear c5); (try clear c6); (try clear c7); (try clear c8); (try clear c9); (try clear c10); (try clear c12); (try clear c15); (try clear c29); (try clear c41); (try clear c41b0); (try clear hcz19_0); (try clear hcz21_0); (try clear hcz25_0); (try clear hcz30_0); (try clear hcz39_0); (try clear hcz5_0); (try clear hfz19_0); (try clear hfz21_0); (try clear hfz25_0); (try clear hfz30_0); (try clear hfz39_0); (try clear hfz5_0)
     obtain ⟨kq, x42_16, rfl, HA, HJ16, HO_4, HO_6, HO_170000, BK158, BK169, HB⟩ := hcut
     have hl170000_16 := (Kd.R_reads' HO_170000.out).1
     rw [hl170000_16] at HO_170000
     (try simp only [hl170000_16])
     (try simp only [hl170000_16] at BK158)
     (try simp only [hl170000_16] at BK169)
     (try simp only [hl170000_16] at HO_4)
     (try simp only [hl170000_16] at HO_6)
     cases kq with
     | zero => exact absurd HA.out (by simp [laws_FnExactActiveEntries.j0])
     | succ kj16 =>
      have H := HA.out; clear HA
      simp only [laws_FnExactActiveEntries.j0] at H
      by_cases c44 : x42_16 = true
      ·subst c44; rw [if_pos rfl] at H; exact absurd H (by simp)
      ·replace c44 := Bool.eq_false_iff.mpr c44
       subst c44
       have H1 : ((laws_markEntryS.f kj16 t170 1).bind fun bt181 => ((laws_heldEntryS.f kj16 bt181.2 1).bind fun t183 => (if t183 < 0 then (some false) else (if t183 = bt181.1 then ((laws_toBundle.f kj16 l0_0).bind fun t184 => ((impl_ActiveEntries.f kj16 t184).bind fun t187 => ((laws_eqEntryS.f kj16 t187 t163).bind fun t190 => (if t190 = true then ((laws_heldEntryS.f kj16 bt181.2 1).bind fun t191 => (if t191 < 0 then (some false) else (if t191 = bt181.1 then (some true) else (some false)))) else (some false))))) else (some false))))) = some true := by first | (rw [if_neg (show ¬ (false = true) by decide)] at H; exact H) | (rw [if_neg (show ¬ (false = true) by decide)] at H)
       clear H; have H := H1; clear H1; replace H := Option.bind_eq_some_iff.mp H; obtain ⟨⟨t181, t182⟩, A450, H⟩ := H; (try dsimp only at H); have A45 := Aside0.mk A450; clear A450; replace H := Option.bind_eq_some_iff.mp H; obtain ⟨t183, A460, H⟩ := H; (try dsimp only at H); have A46 := Aside0.mk A460; clear A460
       by_cases c47 : t183 < 0
       ·rw [if_pos c47] at H; have c47b0 : decide (t183 < 0) = true := decide_eq_true c47; clear c47; exact absurd H (by simp)
       ·rw [if_neg c47] at H; have c47b0 : decide (t183 < 0) = false := decide_eq_false c47; clear c47
        by_cases c49 : t183 = t181
        ·rw [if_pos c49] at H; have c49b0 : (t183 == t181) = true := beq_iff_eq.mpr c49; have c49b1 : (t183 != t181) = false := bne_eq_false_iff_eq.mpr c49; clear c49; replace H := Option.bind_eq_some_iff.mp H; obtain ⟨t184, A500, H⟩ := H; (try dsimp only at H); have A50 := Aside0.mk A500; clear A500; replace H := Option.bind_eq_some_iff.mp H; obtain ⟨t187, A510, H⟩ := H; (try dsimp only at H); have A51 := Aside0.mk A510; clear A510; replace H := Option.bind_eq_some_iff.mp H; obtain ⟨t190, A520, H⟩ := H; (try dsimp only at H); have A52 := Aside0.mk A520; clear A520
         by_cases c53 : t190 = true
         ·subst c53; rw [if_pos rfl] at H; replace H := Option.bind_eq_some_iff.mp H; obtain ⟨t191, A540, H⟩ := H; (try dsimp only at H); have A54 := Aside0.mk A540; clear A540
          by_cases c55 : t191 < 0
          ·rw [if_pos c55] at H; have c55b0 : decide (t191 < 0) = true := decide_eq_true c55; clear c55; exact absurd H (by simp)
          ·rw [if_neg c55] at H; have c55b0 : decide (t191 < 0) = false := decide_eq_false c55; clear c55
           by_cases c64 : t191 = t181
           ·rw [if_pos c64] at H; have c64b0 : (t191 == t181) = true := beq_iff_eq.mpr c64; have c64b1 : (t191 != t181) = false := bne_eq_false_iff_eq.mpr c64; clear c64; clear H
            go_wp2_with (first | ((with_reducible refine gate_callee (f := 11) rfl ?_); refine goesL_ (some 45) rfl rfl Try.func11 (by kernel_rfl) rfl #[.slice Ao32 t170.length co32, .int .i64 1] rfl Cmp.q ?_; (with_reducible refine (laws_markEntryS.calls kj16 (fun k_ => some k_ = (.slice Ao32 t170.length co32 : Value).ownBlock) (.slice Ao32 t170.length co32) t170 1 t181 t182 w _ ?side1 ?side2 A45.out).mono ?_); (case side1 => repeat (first | (with_reducible first | exact HB.out | apply below_alloc | apply pw_below_drewN | apply below_drew1 | refine below_set ?_ GE158.out | refine below_set ?_ GE169.out) | exact HB.out)); (case side2 => exact Kd.R_tight rfl HO_6.out); rintro e w65 ⟨rfl, hy0, hb, hkp⟩; refine ⟨_, rfl, ?_⟩; have n0_ := Aside0.mk (Kd.R_mono (ok' := fun k_ => some k_ ≠ (.slice Ao32 t170.length co32 : Value).ownBlock ∧ some k_ ≠ (.slice Ao28 t179.length co28 : Value).ownBlock) (Kd.R_keptB (HO_4.out) hkp (fun k_ hk_ hs_ => (hk_.1) hs_)) (fun k_ hk_ => ⟨hk_.1.1, hk_.1.2⟩)); have n1_ := Aside0.mk (Kd.R_reok rfl hy0 (fun k_ e_ => HO_6.out.1 k_ e_)); have n2_ := Aside0.mk (Kd.R_mono (ok' := fun k_ => some k_ ≠ (.slice Ao33 t163.length co33 : Value).ownBlock ∧ some k_ ≠ (.slice Ao32 t170.length co32 : Value).ownBlock) (Kd.R_keptB (HO_170000.out) hkp (fun k_ hk_ hs_ => (hk_.2) hs_)) (fun k_ hk_ => ⟨hk_.1.1, hk_.1.2⟩)); have n3_ := Aside0.mk (blk_kept (Cmp.b BK158.out) hkp (fun hs_ => (fun e_ => (Kd.R_ne HO_6.out BK158.out (by decide)) e_) hs_)); have n4_ := Aside0.mk (blk_kept (Cmp.b BK169.out) hkp (fun hs_ => (fun e_ => (Kd.R_ne HO_6.out BK169.out (by decide)) e_) hs_)); have n5_ := Aside0.mk (hb); clear HO_4; clear HO_6; clear HO_170000; clear BK158; clear BK169; clear HB; have HO_4 := n0_; have HO_6 := n1_; have HO_170000 := n2_; have BK158 := n3_; have BK169 := n4_; have HB := n5_; clear n0_ n1_ n2_ n3_ n4_ n5_; (try clear hb); (try clear hkp); (try clear hy0)) | ((with_reducible refine gate_callee (f := 12) rfl ?_); refine goesL_ (some 48) rfl rfl Try.func12 (by kernel_rfl) rfl #[.slice Ao32 t182.length co32, .int .i64 1] rfl (by (try simp only [List.map_toArray, List.map_cons, List.map_nil]); first | done | (rw [show t182.length = t170.length from (Kd.R_reads' HO_6.out).1.symm] <;> rfl) | rfl | (simp only [List.length_drop, List.length_take]; rfl)) ?_; (with_reducible refine (laws_heldEntryS.calls kj16 _ _ t182 1 t183 _ ?side1 ?side2 A46.out).mono ?_); (case side1 => exact Cmp.rc (Kd.R_reads' HO_6.out).2.2); (case side2 => rw [show t182.length = t170.length from (Kd.R_reads' HO_6.out).1.symm]; exact (Kd.R_reads' HO_6.out).2.1); rintro e w' ⟨rfl, ⟨nd, rfl⟩⟩; refine ⟨_, rfl, ?_⟩; have hnb66 := NB158_169.out; have hnc66 := NB169_158.out; have hcz67_0 : w65.cell? ⟨gb158, 0, none⟩ = some (.slice A0_0 l0_0.length c0_0) := (blk_cell BK158.out 0).trans rfl; have hfz67_0 := blk_frozen BK158.out 0) | ((with_reducible refine gate_callee (f := 6) rfl ?_); refine goesL_ (some 55) rfl rfl Try.func6 (by kernel_rfl) rfl #[.agg #[.slice A0_0 l0_0.length c0_0]] rfl Cmp.q ?_; (with_reducible refine (laws_toBundle.calls kj16 _ _ l0_0 t184 _ ?side1 ?side2 A50.out).mono ?_); (case side1 => exact Cmp.rc (Kd.C_below HR0_0.out (Cmp.g HB.out))); (case side2 => exact HC0_0.out); rintro e w68 ⟨v185, rfl, ho0, hb⟩; refine ⟨_, rfl, ?_⟩; have n0_ := Aside0.mk (Kd.R_elder' (Cmp.rr HO_4.out) (Kd.R_base ho0) hb); have n1_ := Aside0.mk (Kd.R_elder' (Cmp.rr HO_6.out) (Kd.R_base ho0) hb); have n2_ := Aside0.mk (Kd.R_elder' (Cmp.rr HO_170000.out) (Kd.R_base ho0) hb); have n3_ := Aside0.mk (Kd.R_lower (Kd.R_new' (Kd.R_new' (Kd.R_new' ho0 (Kd.R_lt (Cmp.rr HO_4.out))) (Kd.R_lt (Cmp.rr HO_6.out))) (Kd.R_lt (Cmp.rr HO_170000.out))) (below_size (Cmp.g HB.out))); have n4_ := Aside0.mk (blk_below (Cmp.b BK158.out) hb); have n5_ := Aside0.mk (blk_below (Cmp.b BK169.out) hb); have n6_ := Aside0.mk (below_step (Cmp.g HB.out) hb); clear HO_4; clear HO_6; clear HO_170000; clear BK158; clear BK169; clear HB; have HO_4 := n0_; have HO_6 := n1_; have HO_170000 := n2_; have HO186 := n3_; have BK158 := n4_; have BK169 := n5_; have HB := n6_; clear n0_ n1_ n2_ n3_ n4_ n5_ n6_; (try clear hb); (try clear hb2); (try clear hk); (try clear hi); (try clear ho0); obtain ⟨Ao69, co69, eo69⟩ := Kd.R_slice HO186.out; subst eo69) | ((with_reducible refine gate_callee (f := 7) rfl ?_); refine goesL_ (some 56) rfl rfl Try.func7 (by kernel_rfl) rfl #[.agg #[.slice Ao69 t184.length co69]] rfl Cmp.q ?_; (with_reducible refine (impl_ActiveEntries.calls kj16 _ _ t184 t187 _ ?side1 ?side2 A51.out).mono ?_); (case side1 => exact Cmp.rc (Kd.R_reads' HO186.out).2.2); (case side2 => exact (Kd.R_reads' HO186.out).2.1); rintro e w70 ⟨v188, rfl, ho0, hb⟩; refine ⟨_, rfl, ?_⟩; have n0_ := Aside0.mk (Kd.R_elder' (Cmp.rr HO_4.out) (Kd.R_base ho0) hb); have n1_ := Aside0.mk (Kd.R_elder' (Cmp.rr HO_6.out) (Kd.R_base ho0) hb); have n2_ := Aside0.mk (Kd.R_elder' (Cmp.rr HO_170000.out) (Kd.R_base ho0) hb); have n3_ := Aside0.mk (Kd.R_elder' (Cmp.rr HO186.out) (Kd.R_base ho0) hb); have n4_ := Aside0.mk (Kd.R_lower (Kd.R_new' (Kd.R_new' (Kd.R_new' (Kd.R_new' ho0 (Kd.R_lt (Cmp.rr HO_4.out))) (Kd.R_lt (Cmp.rr HO_6.out))) (Kd.R_lt (Cmp.rr HO_170000.out))) (Kd.R_lt (Cmp.rr HO186.out))) (below_size (Cmp.g HB.out))); have n5_ := Aside0.mk (blk_below (Cmp.b BK158.out) hb); have n6_ := Aside0.mk (blk_below (Cmp.b BK169.out) hb); have n7_ := Aside0.mk (below_step (Cmp.g HB.out) hb); clear HO_4; clear HO_6; clear HO_170000; clear HO186; clear BK158; clear BK169; clear HB; have HO_4 := n0_; have HO_6 := n1_; have HO_170000 := n2_; have HO186 := n3_; have HO189 := n4_; have BK158 := n5_; have BK169 := n6_; have HB := n7_; clear n0_ n1_ n2_ n3_ n4_ n5_ n6_ n7_; (try clear hb); (try clear hb2); (try clear hk); (try clear hi); (try clear ho0); obtain ⟨Ao71, co71, eo71⟩ := Kd.R_slice HO189.out; subst eo71) | ((with_reducible refine gate_callee (f := 8) rfl ?_); refine goesL_ (some 59) rfl rfl Try.func8 (by kernel_rfl) rfl #[.slice Ao71 t187.length co71, .slice Ao33 t163.length co33] rfl Cmp.q ?_; (with_reducible refine (laws_eqEntryS.calls kj16 _ _ t187 _ _ t163 true _ ?side1 ?side2 ?side3 ?side4 A52.out).mono ?_); (case side1 => exact Cmp.rc (Kd.R_reads' HO189.out).2.2); (case side2 => exact (Kd.R_reads' HO189.out).2.1); (case side3 => exact Cmp.rc (Kd.R_reads' HO_4.out).2.2); (case side4 => exact (Kd.R_reads' HO_4.out).2.1); rintro e w72 ⟨rfl, hb⟩; refine ⟨_, rfl, ?_⟩; have n0_ := Aside0.mk (Kd.R_below (Cmp.rr HO_4.out) hb); have n1_ := Aside0.mk (Kd.R_below (Cmp.rr HO_6.out) hb); have n2_ := Aside0.mk (Kd.R_below (Cmp.rr HO_170000.out) hb); have n3_ := Aside0.mk (Kd.R_below (Cmp.rr HO186.out) hb); have n4_ := Aside0.mk (Kd.R_below (Cmp.rr HO189.out) hb); have n5_ := Aside0.mk (blk_below (Cmp.b BK158.out) hb); have n6_ := Aside0.mk (blk_below (Cmp.b BK169.out) hb); have n7_ := Aside0.mk (below_step (Cmp.g HB.out) hb); clear HO_4; clear HO_6; clear HO_170000; clear HO186; clear HO189; clear BK158; clear BK169; clear HB; have HO_4 := n0_; have HO_6 := n1_; have HO_170000 := n2_; have HO186 := n3_; have HO189 := n4_; have BK158 := n5_; have BK169 := n6_; have HB := n7_; clear n0_ n1_ n2_ n3_ n4_ n5_ n6_ n7_; (try clear hb); (try clear hb2); (try clear hk); (try clear hi)) | ((with_reducible refine gate_callee (f := 12) rfl ?_); refine goesL_ (some 63) rfl rfl Try.func12 (by kernel_rfl) rfl #[.slice Ao32 t182.length co32, .int .i64 1] rfl (by (try simp only [List.map_toArray, List.map_cons, List.map_nil]); first | done | (rw [show t182.length = t170.length from (Kd.R_reads' HO_6.out).1.symm] <;> rfl) | rfl | (simp only [List.length_drop, List.length_take]; rfl)) ?_; (with_reducible refine (laws_heldEntryS.calls kj16 _ _ t182 1 t191 _ ?side1 ?side2 A54.out).mono ?_); (case side1 => exact Cmp.rc (Kd.R_reads' HO_6.out).2.2); (case side2 => rw [show t182.length = t170.length from (Kd.R_reads' HO_6.out).1.symm]; exact (Kd.R_reads' HO_6.out).2.1); rintro e w' ⟨rfl, ⟨nd, rfl⟩⟩; refine ⟨_, rfl, ?_⟩))
            go_ret
            exact ⟨by first | rfl | (simp [errW_none, errW_some] <;> rfl) | (simp [*, errW_none, errW_some] <;> rfl), Cmp.g HB.out⟩
           ·rw [if_neg c64] at H; have c64b0 : (t191 == t181) = false := beq_eq_false_iff_ne.mpr c64; have c64b1 : (t191 != t181) = true := bne_iff_ne.mpr c64; exact absurd H (by simp)
         ·replace c53 := Bool.eq_false_iff.mpr c53
          subst c53
          have H1 : (some false) = some true := by first | (rw [if_neg (show ¬ (false = true) by decide)] at H; exact H) | (rw [if_neg (show ¬ (false = true) by decide)] at H)
          clear H; have H := H1; clear H1; exact absurd H (by simp)
        ·rw [if_neg c49] at H; have c49b0 : (t183 == t181) = false := beq_eq_false_iff_ne.mpr c49; have c49b1 : (t183 != t181) = true := bne_iff_ne.mpr c49; exact absurd H (by simp)
   ·replace c15 := Bool.eq_false_iff.mpr c15
    subst c15
    have H1 : (some false) = some true := by first | (rw [if_neg (show ¬ (false = true) by decide)] at H; exact H) | (rw [if_neg (show ¬ (false = true) by decide)] at H)
    clear H; have H := H1; clear H1; exact absurd H (by simp)
  ·replace c12 := Bool.eq_false_iff.mpr c12
   subst c12
   have H1 : (some false) = some true := by first | (rw [if_neg (show ¬ (false = true) by decide)] at H; exact H) | (rw [if_neg (show ¬ (false = true) by decide)] at H)
   clear H; have H := H1; clear H1
   exact absurd H (by simp)end Go.Proofs.Ytjfdaehpifgjbaa.PFnExactActiveEntries

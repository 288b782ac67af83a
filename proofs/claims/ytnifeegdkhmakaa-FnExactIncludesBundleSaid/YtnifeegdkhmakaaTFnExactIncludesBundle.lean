/- The law FnExactIncludesBundle's own function, walked where it answers true. No condition. -/
import Derived.Test.YtnifeegdkhmakaaCmp
import Derived.Test.YtnifeegdkhmakaaPFnExactIncludesBundlex0
import Derived.Test.YtnifeegdkhmakaaPFnExactIncludesBundlex2
import Derived.Test.YtnifeegdkhmakaaPFnExactIncludesBundlex7
import Derived.Test.YtnifeegdkhmakaaPFnExactIncludesBundlex11
namespace Go.Proofs.Ytnifeegdkhmakaa.PFnExactIncludesBundle
open Go.Proofs.Ytnifeegdkhmakaa
open Go.RowKit Go.Proofs.YtnifeegdkhmakaaW.PrintWords Go.Proofs.YtnifeegdkhmakaaW.PrintLast Go.Proofs.YtnifeegdkhmakaaW.PrintMore
attribute [local go_sem] max2_int min2_int max_two min_two max_three min_three max_four min_four   -- for this text's walks alone
set_option linter.unusedVariables false
set_option linter.unusedSimpArgs false

/-! ### laws_FnExactIncludesBundle: function 5 -/
def laws_FnExactIncludesBundle.f (k : Nat) (l0_0 : List (S80)) (l1_0 : List (S80)) : Option (Bool) := (laws_szBundle.f l0_0 1048576).bind fun t323 => (if t323 < 0 then (some true) else ((laws_szBundle.f l1_0 t323).bind fun t324 => (if t324 < 0 then (some true) else ((laws_toBundle.f k l0_0).bind fun t325 => ((laws_toBundle.f k l1_0).bind fun t328 => ((spec_IncludesBundle.f k t325 t328).bind fun t331 => ((laws_toBundle.f k l0_0).bind fun t332 => ((laws_toBundle.f k l1_0).bind fun t336 => ((impl_IncludesBundle.f k t332 t336).bind fun t340 => (if (t340 != t331) = true then (some false) else ((laws_toBundle.f k l0_0).bind fun t341 => ((laws_eqBundle.f k t332 t341).bind fun t344 => (if t344 = true then ((laws_toBundle.f k l1_0).bind fun t345 => ((laws_eqBundle.f k t336 t345).bind fun t348 => (if t348 = true then (some true) else (some false)))) else (some false))))))))))))))
theorem laws_FnExactIncludesBundle.mono : ∀ a0 a1 k, LeO (laws_FnExactIncludesBundle.f k a0 a1) (laws_FnExactIncludesBundle.f (k + 1) a0 a1) := by
  intro a0 a1 k
  unfold laws_FnExactIncludesBundle.f
  repeat' first
      | (with_reducible exact impl_IncludesBundle.mono _ _ _)
      | (with_reducible exact laws_eqBundle.mono _ _ _)
      | (with_reducible exact laws_toBundle.mono _ _)
      | (with_reducible exact spec_IncludesBundle.mono _ _ _)
      | (with_reducible exact LeO.refl _)
      | (with_reducible exact LeO.none _)
      | (with_reducible refine LeO.ite ?_ ?_)
      | (with_reducible refine LeO.bind ?_ (fun _ => ?_))
      | exact impl_IncludesBundle.mono _ _ _
      | exact laws_eqBundle.mono _ _ _
      | exact laws_toBundle.mono _ _
      | exact spec_IncludesBundle.mono _ _ _
      | exact LeO.none _
      | refine LeO.ite ?_ ?_
      | refine LeO.bind ?_ (fun _ => ?_)
set_option maxHeartbeats 8000000 in
set_option maxRecDepth 100000 in
theorem laws_FnExactIncludesBundle.calls (k : Nat) (A0_0 : Option Addr) (c0_0 : Nat) (l0_0 : List (S80)) (A1_0 : Option Addr) (c1_0 : Nat) (l1_0 : List (S80)) (w : World) (hr0_0 : Kd.C k80 w A0_0 l0_0.length l0_0) (hc0_0 : l0_0.length ≤ c0_0) (hr1_0 : Kd.C k80 w A1_0 l1_0.length l1_0) (hc1_0 : l1_0.length ≤ c1_0) (h : laws_FnExactIncludesBundle.f k l0_0 l1_0 = some true) :
    Calls Try.prog 5 #[.agg #[.slice A0_0 l0_0.length c0_0], .agg #[.slice A1_0 l1_0.length c1_0]] w fun e w' => e = .returned (.bool true) ∧ Below w.heap.size w w' := by
 have hu35 := Try.underlying35; have hu39 := Try.underlying39; have HR0_0 := Aside0.mk hr0_0; have HC0_0 := Aside0.mk hc0_0; clear hr0_0 hc0_0; have HR1_0 := Aside0.mk hr1_0; have HC1_0 := Aside0.mk hc1_0; clear hr1_0 hc1_0
 have HB := Aside0.mk (Below.refl w.heap.size w)
 have H : ((laws_szBundle.f l0_0 1048576).bind fun t323 => (if t323 < 0 then (some true) else ((laws_szBundle.f l1_0 t323).bind fun t324 => (if t324 < 0 then (some true) else ((laws_toBundle.f k l0_0).bind fun t325 => ((laws_toBundle.f k l1_0).bind fun t328 => ((spec_IncludesBundle.f k t325 t328).bind fun t331 => ((laws_toBundle.f k l0_0).bind fun t332 => ((laws_toBundle.f k l1_0).bind fun t336 => ((impl_IncludesBundle.f k t332 t336).bind fun t340 => (if (t340 != t331) = true then (some false) else ((laws_toBundle.f k l0_0).bind fun t341 => ((laws_eqBundle.f k t332 t341).bind fun t344 => (if t344 = true then ((laws_toBundle.f k l1_0).bind fun t345 => ((laws_eqBundle.f k t336 t345).bind fun t348 => (if t348 = true then (some true) else (some false)))) else (some false))))))))))))))) = some true := h
 clear h; replace H := Option.bind_eq_some_iff.mp H; obtain ⟨t323, A30, H⟩ := H; (try dsimp only at H); have A3 := Aside0.mk A30; clear A30
 by_cases c4 : t323 < 0
 ·rw [if_pos c4] at H; have c4b0 : decide (t323 < 0) = true := decide_eq_true c4; clear c4; clear H
  go_enter Try.func5, Try.ntmps5
  go_wp2_with (first | ((with_reducible refine gate_dst (N := 2) rfl ?_); refine box_event ?hg (N := 2) ?hd (cs := #[.slice A0_0 l0_0.length c0_0]) (t := 35) ?hr ?_; (case hd => rfl); (case hg => rfl); (case hr => first | (go_simp; done) | (go_simp; rfl)); intro gb321 hg w5 hbox hb; have n0_ := Aside0.mk (below_step (Cmp.g HB.out) hb); have n1_ := Aside0.mk (hbox); have n2_ := Aside0.mk ((by rw [hg]; exact (below_size (Cmp.g HB.out)) : w.heap.size ≤ gb321)); have n3_ := Aside0.mk ((by rw [hg]; exact (below_size (Cmp.g HB.out)) : w.heap.size ≤ gb321)); clear HB; have HB := n0_; have BK321 := n1_; have GW321 := n2_; have GE321 := n3_; clear n0_ n1_ n2_ n3_; clear hb hbox hg) | ((with_reducible refine gate_dst (N := 3) rfl ?_); refine box_event ?hg (N := 3) ?hd (cs := #[.slice A1_0 l1_0.length c1_0]) (t := 35) ?hr ?_; (case hd => rfl); (case hg => rfl); (case hr => first | (go_simp; done) | (go_simp; rfl)); intro gb322 hg w6 hbox hb; have n0_ := Aside0.mk (blk_below (g := gb321) (o := .cells #[.slice A0_0 l0_0.length c0_0] 35 (0, 0)) (Cmp.b BK321.out) hb); have n1_ := Aside0.mk (below_step (Cmp.g HB.out) hb); have n2_ := Aside0.mk (hbox); have n3_ := Aside0.mk ((by rw [hg]; exact (below_size (Cmp.g HB.out)) : w.heap.size ≤ gb322)); have n4_ := Aside0.mk ((by rw [hg]; exact (below_size (Cmp.g HB.out)) : w.heap.size ≤ gb322)); have n5_ := Aside0.mk ((by rw [hg]; exact Nat.ne_of_lt (blk_lt (g := gb321) (o := .cells #[.slice A0_0 l0_0.length c0_0] 35 (0, 0)) (Cmp.b BK321.out)) : gb321 ≠ gb322)); have n6_ := Aside0.mk ((by rw [hg]; exact Nat.ne_of_gt (blk_lt (g := gb321) (o := .cells #[.slice A0_0 l0_0.length c0_0] 35 (0, 0)) (Cmp.b BK321.out)) : gb322 ≠ gb321)); clear BK321; clear HB; have BK321 := n0_; have HB := n1_; have BK322 := n2_; have GW322 := n3_; have GE322 := n4_; have NB321_322 := n5_; have NB322_321 := n6_; clear n0_ n1_ n2_ n3_ n4_ n5_ n6_; clear hb hbox hg; have hnb7 := NB321_322.out; have hnc7 := NB322_321.out; have hcz8_0 : w6.cell? ⟨gb321, 0, none⟩ = some (.slice A0_0 l0_0.length c0_0) := (blk_cell BK321.out 0).trans rfl; have hfz8_0 := blk_frozen BK321.out 0) | ((with_reducible refine gate_callee (f := 14) rfl ?_); refine goesL_ (some 12) rfl rfl Try.func14 (by kernel_rfl) rfl #[.agg #[.slice A0_0 l0_0.length c0_0], .int .i64 1048576] rfl Cmp.q ?_; (with_reducible refine (laws_szBundle.calls _ _ l0_0 1048576 t323 _ ?side1 ?side2 A3.out).mono ?_); (case side1 => exact Cmp.rc (Kd.C_below HR0_0.out HB.out)); (case side2 => exact HC0_0.out); rintro e w9 ⟨rfl, hb⟩; refine ⟨_, rfl, ?_⟩; have n0_ := Aside0.mk (blk_below (g := gb321) (o := .cells #[.slice A0_0 l0_0.length c0_0] 35 (0, 0)) (Cmp.b BK321.out) hb); have n1_ := Aside0.mk (blk_below (g := gb322) (o := .cells #[.slice A1_0 l1_0.length c1_0] 35 (0, 0)) (Cmp.b BK322.out) hb); have n2_ := Aside0.mk (below_step (Cmp.g HB.out) hb); clear BK321; clear BK322; clear HB; have BK321 := n0_; have BK322 := n1_; have HB := n2_; clear n0_ n1_ n2_; (try clear hb); (try clear hb2); (try clear hk); (try clear hi)))
  go_ret
  exact ⟨by first | rfl | (simp [errW_none, errW_some] <;> rfl) | (simp [*, errW_none, errW_some] <;> rfl), Cmp.g HB.out⟩
 ·rw [if_neg c4] at H; have c4b0 : decide (t323 < 0) = false := decide_eq_false c4; clear c4; replace H := Option.bind_eq_some_iff.mp H; obtain ⟨t324, A100, H⟩ := H; (try dsimp only at H); have A10 := Aside0.mk A100; clear A100
  by_cases c11 : t324 < 0
  ·rw [if_pos c11] at H; have c11b0 : decide (t324 < 0) = true := decide_eq_true c11; clear c11; clear H
   go_enter Try.func5, Try.ntmps5
   go_wp2_with (first | ((with_reducible refine gate_dst (N := 2) rfl ?_); refine box_event ?hg (N := 2) ?hd (cs := #[.slice A0_0 l0_0.length c0_0]) (t := 35) ?hr ?_; (case hd => rfl); (case hg => rfl); (case hr => first | (go_simp; done) | (go_simp; rfl)); intro gb321 hg w12 hbox hb; have n0_ := Aside0.mk (below_step (Cmp.g HB.out) hb); have n1_ := Aside0.mk (hbox); have n2_ := Aside0.mk ((by rw [hg]; exact (below_size (Cmp.g HB.out)) : w.heap.size ≤ gb321)); have n3_ := Aside0.mk ((by rw [hg]; exact (below_size (Cmp.g HB.out)) : w.heap.size ≤ gb321)); clear HB; have HB := n0_; have BK321 := n1_; have GW321 := n2_; have GE321 := n3_; clear n0_ n1_ n2_ n3_; clear hb hbox hg) | ((with_reducible refine gate_dst (N := 3) rfl ?_); refine box_event ?hg (N := 3) ?hd (cs := #[.slice A1_0 l1_0.length c1_0]) (t := 35) ?hr ?_; (case hd => rfl); (case hg => rfl); (case hr => first | (go_simp; done) | (go_simp; rfl)); intro gb322 hg w13 hbox hb; have n0_ := Aside0.mk (blk_below (g := gb321) (o := .cells #[.slice A0_0 l0_0.length c0_0] 35 (0, 0)) (Cmp.b BK321.out) hb); have n1_ := Aside0.mk (below_step (Cmp.g HB.out) hb); have n2_ := Aside0.mk (hbox); have n3_ := Aside0.mk ((by rw [hg]; exact (below_size (Cmp.g HB.out)) : w.heap.size ≤ gb322)); have n4_ := Aside0.mk ((by rw [hg]; exact (below_size (Cmp.g HB.out)) : w.heap.size ≤ gb322)); have n5_ := Aside0.mk ((by rw [hg]; exact Nat.ne_of_lt (blk_lt (g := gb321) (o := .cells #[.slice A0_0 l0_0.length c0_0] 35 (0, 0)) (Cmp.b BK321.out)) : gb321 ≠ gb322)); have n6_ := Aside0.mk ((by rw [hg]; exact Nat.ne_of_gt (blk_lt (g := gb321) (o := .cells #[.slice A0_0 l0_0.length c0_0] 35 (0, 0)) (Cmp.b BK321.out)) : gb322 ≠ gb321)); clear BK321; clear HB; have BK321 := n0_; have HB := n1_; have BK322 := n2_; have GW322 := n3_; have GE322 := n4_; have NB321_322 := n5_; have NB322_321 := n6_; clear n0_ n1_ n2_ n3_ n4_ n5_ n6_; clear hb hbox hg; have hnb14 := NB321_322.out; have hnc14 := NB322_321.out; have hcz15_0 : w13.cell? ⟨gb321, 0, none⟩ = some (.slice A0_0 l0_0.length c0_0) := (blk_cell BK321.out 0).trans rfl; have hfz15_0 := blk_frozen BK321.out 0) | ((with_reducible refine gate_callee (f := 14) rfl ?_); refine goesL_ (some 12) rfl rfl Try.func14 (by kernel_rfl) rfl #[.agg #[.slice A0_0 l0_0.length c0_0], .int .i64 1048576] rfl Cmp.q ?_; (with_reducible refine (laws_szBundle.calls _ _ l0_0 1048576 t323 _ ?side1 ?side2 A3.out).mono ?_); (case side1 => exact Cmp.rc (Kd.C_below HR0_0.out HB.out)); (case side2 => exact HC0_0.out); rintro e w16 ⟨rfl, hb⟩; refine ⟨_, rfl, ?_⟩; have n0_ := Aside0.mk (blk_below (g := gb321) (o := .cells #[.slice A0_0 l0_0.length c0_0] 35 (0, 0)) (Cmp.b BK321.out) hb); have n1_ := Aside0.mk (blk_below (g := gb322) (o := .cells #[.slice A1_0 l1_0.length c1_0] 35 (0, 0)) (Cmp.b BK322.out) hb); have n2_ := Aside0.mk (below_step (Cmp.g HB.out) hb); clear BK321; clear BK322; clear HB; have BK321 := n0_; have BK322 := n1_; have HB := n2_; clear n0_ n1_ n2_; (try clear hb); (try clear hb2); (try clear hk); (try clear hi); have hcz17_0 : w16.cell? ⟨gb322, 0, none⟩ = some (.slice A1_0 l1_0.length c1_0) := (blk_cell BK322.out 0).trans rfl; have hfz17_0 := blk_frozen BK322.out 0) | ((with_reducible refine gate_callee (f := 14) rfl ?_); refine goesL_ (some 17) rfl rfl Try.func14 (by kernel_rfl) rfl #[.agg #[.slice A1_0 l1_0.length c1_0], .int .i64 t323] rfl Cmp.q ?_; (with_reducible refine (laws_szBundle.calls _ _ l1_0 t323 t324 _ ?side1 ?side2 A10.out).mono ?_); (case side1 => exact Cmp.rc (Kd.C_below HR1_0.out HB.out)); (case side2 => exact HC1_0.out); rintro e w18 ⟨rfl, hb⟩; refine ⟨_, rfl, ?_⟩; have n0_ := Aside0.mk (blk_below (g := gb321) (o := .cells #[.slice A0_0 l0_0.length c0_0] 35 (0, 0)) (Cmp.b BK321.out) hb); have n1_ := Aside0.mk (blk_below (g := gb322) (o := .cells #[.slice A1_0 l1_0.length c1_0] 35 (0, 0)) (Cmp.b BK322.out) hb); have n2_ := Aside0.mk (below_step (Cmp.g HB.out) hb); clear BK321; clear BK322; clear HB; have BK321 := n0_; have BK322 := n1_; have HB := n2_; clear n0_ n1_ n2_; (try clear hb); (try clear hb2); (try clear hk); (try clear hi)))
   go_ret
   exact ⟨by first | rfl | (simp [errW_none, errW_some] <;> rfl) | (simp [*, errW_none, errW_some] <;> rfl), Cmp.g HB.out⟩
  ·rw [if_neg c11] at H; have c11b0 : decide (t324 < 0) = false := decide_eq_false c11; clear c11; replace H := Option.bind_eq_some_iff.mp H; obtain ⟨t325, A190, H⟩ := H; (try dsimp only at H); have A19 := Aside0.mk A190; clear A190; replace H := Option.bind_eq_some_iff.mp H; obtain ⟨t328, A200, H⟩ := H; (try dsimp only at H); have A20 := Aside0.mk A200; clear A200; replace H := Option.bind_eq_some_iff.mp H; obtain ⟨t331, A210, H⟩ := H; (try dsimp only at H); have A21 := Aside0.mk A210; clear A210; replace H := Option.bind_eq_some_iff.mp H; obtain ⟨t332, A220, H⟩ := H; (try dsimp only at H); have A22 := Aside0.mk A220; clear A220; replace H := Option.bind_eq_some_iff.mp H; obtain ⟨t336, A230, H⟩ := H; (try dsimp only at H); have A23 := Aside0.mk A230; clear A230; replace H := Option.bind_eq_some_iff.mp H; obtain ⟨t340, A240, H⟩ := H; (try dsimp only at H); have A24 := Aside0.mk A240; clear A240
   by_cases c25 : (t340 != t331) = true
   ·rw [if_pos c25] at H
    have c25b0 : (t340 != t331) = true := c25
    (try (have c25b1 : decide (t340 = t331) = false := by simpa using c25))
    (try (have c25b2 : (t340 == t331) = false := by simpa using c25))
    (try (have c25b3 : ¬ (t340 = t331) := by simpa using c25))
    clear c25; exact absurd H (by simp)
   ·rw [if_neg c25] at H
    have c25b0 : (t340 != t331) = false := by simpa using c25
    (try (have c25b1 : decide (t340 = t331) = true := by simpa using c25))
    (try (have c25b2 : (t340 == t331) = true := by simpa using c25))
    clear c25; replace H := Option.bind_eq_some_iff.mp H; obtain ⟨t341, A560, H⟩ := H; (try dsimp only at H); have A56 := Aside0.mk A560; clear A560; replace H := Option.bind_eq_some_iff.mp H; obtain ⟨t344, A570, H⟩ := H; (try dsimp only at H); have A57 := Aside0.mk A570; clear A570
    by_cases c58 : t344 = true
    ·subst c58; rw [if_pos rfl] at H; replace H := Option.bind_eq_some_iff.mp H; obtain ⟨t345, A590, H⟩ := H; (try dsimp only at H); have A59 := Aside0.mk A590; clear A590; replace H := Option.bind_eq_some_iff.mp H; obtain ⟨t348, A600, H⟩ := H; (try dsimp only at H); have A60 := Aside0.mk A600; clear A600
     by_cases c61 : t348 = true
     ·subst c61; rw [if_pos rfl] at H; clear H
      go_enter Try.func5, Try.ntmps5
      try go_wp2_with (first | ((with_reducible refine gate_dst (N := 2) rfl ?_); refine box_event ?hg (N := 2) ?hd (cs := #[.slice A0_0 l0_0.length c0_0]) (t := 35) ?hr ?_; (case hd => rfl); (case hg => rfl); (case hr => first | (go_simp; done) | (go_simp; rfl)); intro gb321 hg w62 hbox hb; have n0_ := Aside0.mk (below_step (Cmp.g HB.out) hb); have n1_ := Aside0.mk (hbox); have n2_ := Aside0.mk ((by rw [hg]; exact (below_size (Cmp.g HB.out)) : w.heap.size ≤ gb321)); have n3_ := Aside0.mk ((by rw [hg]; exact (below_size (Cmp.g HB.out)) : w.heap.size ≤ gb321)); clear HB; have HB := n0_; have BK321 := n1_; have GW321 := n2_; have GE321 := n3_; clear n0_ n1_ n2_ n3_; clear hb hbox hg) | ((with_reducible refine gate_dst (N := 3) rfl ?_); refine box_event ?hg (N := 3) ?hd (cs := #[.slice A1_0 l1_0.length c1_0]) (t := 35) ?hr ?_; (case hd => rfl); (case hg => rfl); (case hr => first | (go_simp; done) | (go_simp; rfl)); intro gb322 hg w63 hbox hb; have n0_ := Aside0.mk (blk_below (g := gb321) (o := .cells #[.slice A0_0 l0_0.length c0_0] 35 (0, 0)) (Cmp.b BK321.out) hb); have n1_ := Aside0.mk (below_step (Cmp.g HB.out) hb); have n2_ := Aside0.mk (hbox); have n3_ := Aside0.mk ((by rw [hg]; exact (below_size (Cmp.g HB.out)) : w.heap.size ≤ gb322)); have n4_ := Aside0.mk ((by rw [hg]; exact (below_size (Cmp.g HB.out)) : w.heap.size ≤ gb322)); have n5_ := Aside0.mk ((by rw [hg]; exact Nat.ne_of_lt (blk_lt (g := gb321) (o := .cells #[.slice A0_0 l0_0.length c0_0] 35 (0, 0)) (Cmp.b BK321.out)) : gb321 ≠ gb322)); have n6_ := Aside0.mk ((by rw [hg]; exact Nat.ne_of_gt (blk_lt (g := gb321) (o := .cells #[.slice A0_0 l0_0.length c0_0] 35 (0, 0)) (Cmp.b BK321.out)) : gb322 ≠ gb321)); clear BK321; clear HB; have BK321 := n0_; have HB := n1_; have BK322 := n2_; have GW322 := n3_; have GE322 := n4_; have NB321_322 := n5_; have NB322_321 := n6_; clear n0_ n1_ n2_ n3_ n4_ n5_ n6_; clear hb hbox hg; have hnb64 := NB321_322.out; have hnc64 := NB322_321.out; have hcz65_0 : w63.cell? ⟨gb321, 0, none⟩ = some (.slice A0_0 l0_0.length c0_0) := (blk_cell BK321.out 0).trans rfl; have hfz65_0 := blk_frozen BK321.out 0) | ((with_reducible refine gate_callee (f := 14) rfl ?_); refine goesL_ (some 12) rfl rfl Try.func14 (by kernel_rfl) rfl #[.agg #[.slice A0_0 l0_0.length c0_0], .int .i64 1048576] rfl Cmp.q ?_; (with_reducible refine (laws_szBundle.calls _ _ l0_0 1048576 t323 _ ?side1 ?side2 A3.out).mono ?_); (case side1 => exact Cmp.rc (Kd.C_below HR0_0.out HB.out)); (case side2 => exact HC0_0.out); rintro e w66 ⟨rfl, hb⟩; refine ⟨_, rfl, ?_⟩; have n0_ := Aside0.mk (blk_below (g := gb321) (o := .cells #[.slice A0_0 l0_0.length c0_0] 35 (0, 0)) (Cmp.b BK321.out) hb); have n1_ := Aside0.mk (blk_below (g := gb322) (o := .cells #[.slice A1_0 l1_0.length c1_0] 35 (0, 0)) (Cmp.b BK322.out) hb); have n2_ := Aside0.mk (below_step (Cmp.g HB.out) hb); clear BK321; clear BK322; clear HB; have BK321 := n0_; have BK322 := n1_; have HB := n2_; clear n0_ n1_ n2_; (try clear hb); (try clear hb2); (try clear hk); (try clear hi); have hcz67_0 : w66.cell? ⟨gb322, 0, none⟩ = some (.slice A1_0 l1_0.length c1_0) := (blk_cell BK322.out 0).trans rfl; have hfz67_0 := blk_frozen BK322.out 0) | ((with_reducible refine gate_callee (f := 14) rfl ?_); refine goesL_ (some 17) rfl rfl Try.func14 (by kernel_rfl) rfl #[.agg #[.slice A1_0 l1_0.length c1_0], .int .i64 t323] rfl Cmp.q ?_; (with_reducible refine (laws_szBundle.calls _ _ l1_0 t323 t324 _ ?side1 ?side2 A10.out).mono ?_); (case side1 => exact Cmp.rc (Kd.C_below HR1_0.out HB.out)); (case side2 => exact HC1_0.out); rintro e w68 ⟨rfl, hb⟩; refine ⟨_, rfl, ?_⟩; have n0_ := Aside0.mk (blk_below (g := gb321) (o := .cells #[.slice A0_0 l0_0.length c0_0] 35 (0, 0)) (Cmp.b BK321.out) hb); have n1_ := Aside0.mk (blk_below (g := gb322) (o := .cells #[.slice A1_0 l1_0.length c1_0] 35 (0, 0)) (Cmp.b BK322.out) hb); have n2_ := Aside0.mk (below_step (Cmp.g HB.out) hb); clear BK321; clear BK322; clear HB; have BK321 := n0_; have BK322 := n1_; have HB := n2_; clear n0_ n1_ n2_; (try clear hb); (try clear hb2); (try clear hk); (try clear hi)))
      have n0_ := Aside0.mk (blk_drew BK321.out); have n1_ := Aside0.mk (blk_drew BK322.out); have n2_ := Aside0.mk (below_drew1 HB.out); clear BK321; clear BK322; clear HB; have BK321 := n0_; have BK322 := n1_; have HB := n2_; clear n0_ n1_ n2_
      refine start_ (n := 6) (S := fun w' => w'.cell? ⟨gb321, 0, none⟩ = some (.slice A0_0 l0_0.length c0_0) ∧ w'.cell? ⟨gb322, 0, none⟩ = some (.slice A1_0 l1_0.length c1_0)) (ds := []) (Cmp.bm 0 6) (by kernel_rfl) rfl rfl ⟨(blk_cell BK321.out 0).trans rfl, (blk_cell BK322.out 0).trans rfl⟩ (fun hHeld => ?_)
      generalize w68.drew = w69 at BK321 BK322 HB hHeld ⊢
      refine take_ (i := 0) (N := some 20) (v := ?_) (a' := ?_) (Cmp.bm 1 5) rfl rfl (by kernel_rfl) (fun _ _ _ h => h) (Or.inl ⟨by rfl, ?_⟩) hHeld ?_ ?_
      rotate_left
      ·rintro w' ⟨s0, s1⟩; go_simp; with_reducible rfl
      rotate_left
      ·simp only [Act.put, Cmp.s, Cmp.z, Cmp.c, i64_w, i32_w]; rfl
      refine take_ (i := 2) (N := some 22) (v := ?_) (a' := ?_) (Cmp.bb 6 5) rfl rfl (by kernel_rfl) (fun _ _ _ h => h) (Or.inl ⟨by rfl, ?_⟩) hHeld ?_ ?_
      rotate_left
      ·rintro w' ⟨s0, s1⟩; go_simp; with_reducible rfl
      rotate_left
      ·simp only [Act.put, Cmp.s, Cmp.z, Cmp.c, i64_w, i32_w]; rfl
      refine one_ (i := 1) (N := some 21) (Cmp.bm 3 3) rfl rfl (by kernel_rfl) (by decide) (fun K hK => ?_)
      refine goes_ Try.func16 (by kernel_rfl) rfl #[.agg #[.slice A0_0 l0_0.length c0_0]] (by rfl) rfl rfl Cmp.q ?_
      with_reducible refine (laws_toBundle.calls k _ _ l0_0 t325 _ ?side1 ?side2 A19.out).mono ?_
      (case side1 => exact Cmp.rc (Kd.C_below HR0_0.out HB.out))
      (case side2 => exact HC0_0.out)
      rintro e w70 ⟨v326, rfl, ho0, hb⟩; refine ⟨_, rfl, ?_⟩
      have n0_ := Aside0.mk (Kd.R_lower ho0 (below_size (Cmp.g HB.out)))
      have n1_ := Aside0.mk (blk_below (g := gb321) (o := .cells #[.slice A0_0 l0_0.length c0_0] 35 (0, 0)) (Cmp.b BK321.out) hb)
      have n2_ := Aside0.mk (blk_below (g := gb322) (o := .cells #[.slice A1_0 l1_0.length c1_0] 35 (0, 0)) (Cmp.b BK322.out) hb)
      have n3_ := Aside0.mk (below_step (Cmp.g HB.out) hb)
      clear BK321; clear BK322; clear HB; have HO327 := n0_; have BK321 := n1_; have BK322 := n2_; have HB := n3_; clear n0_ n1_ n2_ n3_; (try clear hb); (try clear hb2); (try clear hk); (try clear hi); (try clear ho0)
      refine hK.out _ _ ⟨(blk_cell BK321.out 0).trans rfl, (blk_cell BK322.out 0).trans rfl⟩ (fun hHeld => ?_)
      clear hK K
      refine norm_ (a' := ?_) ?_ ?_
      rotate_left
      ·show Act.put _ (some 21) _ = _
       simp only [Act.put, Cmp.s, Cmp.z, Cmp.c, i64_w, i32_w]; rfl
      refine one_ (i := 3) (N := some 23) (Cmp.bm 4 2) rfl rfl (by kernel_rfl) (by decide) (fun K hK => ?_)
      refine goes_ Try.func16 (by kernel_rfl) rfl #[.agg #[.slice A1_0 l1_0.length c1_0]] (by rfl) rfl rfl Cmp.q ?_
      with_reducible refine (laws_toBundle.calls k _ _ l1_0 t328 _ ?side1 ?side2 A20.out).mono ?_
      (case side1 => exact Cmp.rc (Kd.C_below HR1_0.out HB.out))
      (case side2 => exact HC1_0.out)
      rintro e w71 ⟨v329, rfl, ho0, hb⟩; refine ⟨_, rfl, ?_⟩
      have n0_ := Aside0.mk (Kd.R_elder' (Cmp.rr HO327.out) (Kd.R_base ho0) hb)
      have n1_ := Aside0.mk (Kd.R_lower (Kd.R_new' ho0 (Kd.R_lt (Cmp.rr HO327.out))) (below_size (Cmp.g HB.out)))
      have n2_ := Aside0.mk (blk_below (g := gb321) (o := .cells #[.slice A0_0 l0_0.length c0_0] 35 (0, 0)) (Cmp.b BK321.out) hb)
      have n3_ := Aside0.mk (blk_below (g := gb322) (o := .cells #[.slice A1_0 l1_0.length c1_0] 35 (0, 0)) (Cmp.b BK322.out) hb)
      have n4_ := Aside0.mk (below_step (Cmp.g HB.out) hb)
      clear HO327; clear BK321; clear BK322; clear HB; have HO327 := n0_; have HO330 := n1_; have BK321 := n2_; have BK322 := n3_; have HB := n4_; clear n0_ n1_ n2_ n3_ n4_; (try clear hb); (try clear hb2); (try clear hk); (try clear hi); (try clear ho0)
      obtain ⟨Ao72, co72, eo72⟩ := Kd.R_slice HO327.out
      (first | subst eo72 | (injection eo72 with f1_ f2_ f3_; have f4_ := f1_.symm; have f5_ := f3_.symm; clear f1_ f2_ f3_; subst f4_; subst f5_))
      obtain ⟨Ao73, co73, eo73⟩ := Kd.R_slice HO330.out
      (first | subst eo73 | (injection eo73 with f1_ f2_ f3_; have f4_ := f1_.symm; have f5_ := f3_.symm; clear f1_ f2_ f3_; subst f4_; subst f5_))
      refine hK.out _ _ ⟨(blk_cell BK321.out 0).trans rfl, (blk_cell BK322.out 0).trans rfl⟩ (fun hHeld => ?_)
      clear hK K
      refine norm_ (a' := ?_) ?_ ?_
      rotate_left
      ·show Act.put _ (some 23) _ = _
       simp only [Act.put, Cmp.s, Cmp.z, Cmp.c, i64_w, i32_w]; rfl
      refine one_ (i := 4) (N := some 24) (Cmp.bm 5 1) rfl rfl (by kernel_rfl) (by decide) (fun K hK => ?_)
      refine goes_ Try.func21 (by kernel_rfl) rfl #[.agg #[.slice Ao72 t325.length co72], .agg #[.slice Ao73 t328.length co73]] (by rfl) rfl rfl Cmp.q ?_
      with_reducible refine (spec_IncludesBundle.calls k _ _ t325 _ _ t328 t331 _ ?side1 ?side2 ?side3 ?side4 A21.out).mono ?_
      (case side1 => exact Cmp.rc (Kd.R_reads' HO327.out).2.2)
      (case side2 => exact (Kd.R_reads' HO327.out).2.1)
      (case side3 => exact Cmp.rc (Kd.R_reads' HO330.out).2.2)
      (case side4 => exact (Kd.R_reads' HO330.out).2.1)
      rintro e w74 ⟨rfl, hb⟩; refine ⟨_, rfl, ?_⟩
      have n0_ := Aside0.mk (Kd.R_below (Cmp.rr HO327.out) hb)
      have n1_ := Aside0.mk (Kd.R_below (Cmp.rr HO330.out) hb)
      have n2_ := Aside0.mk (blk_below (g := gb321) (o := .cells #[.slice A0_0 l0_0.length c0_0] 35 (0, 0)) (Cmp.b BK321.out) hb)
      have n3_ := Aside0.mk (blk_below (g := gb322) (o := .cells #[.slice A1_0 l1_0.length c1_0] 35 (0, 0)) (Cmp.b BK322.out) hb)
      have n4_ := Aside0.mk (below_step (Cmp.g HB.out) hb)
      clear HO327; clear HO330; clear BK321; clear BK322; clear HB; have HO327 := n0_; have HO330 := n1_; have BK321 := n2_; have BK322 := n3_; have HB := n4_; clear n0_ n1_ n2_ n3_ n4_; (try clear hb); (try clear hb2); (try clear hk); (try clear hi)
      refine hK.out _ _ ⟨(blk_cell BK321.out 0).trans rfl, (blk_cell BK322.out 0).trans rfl⟩ (fun hHeld => ?_)
      clear hK K
      refine norm_ (a' := ?_) ?_ ?_
      rotate_left
      ·show Act.put _ (some 24) _ = _
       simp only [Act.put, Cmp.s, Cmp.z, Cmp.c, i64_w, i32_w]; rfl
      refine pure_ (i := 5) (N := some 6) (v := ?_) (a' := ?_) (Cmp.bm 6 0) rfl rfl (by kernel_rfl) (fun _ _ _ h => h) (Or.inl ⟨by rfl, ?_⟩) ?_ ?_
      rotate_left
      ·intro w'; go_simp; with_reducible rfl
      rotate_left
      ·simp only [Act.put, Cmp.s, Cmp.z, Cmp.c, i64_w, i32_w]; rfl
      refine done_ (by kernel_rfl) ?_
      have hcz75_0 : w74.cell? ⟨gb321, 0, none⟩ = some (.slice A0_0 l0_0.length c0_0) := (blk_cell BK321.out 0).trans rfl
      have hfz75_0 := blk_frozen BK321.out 0
      try go_wp2_with (first | ((with_reducible refine gate_callee (f := 16) rfl ?_); refine goesL_ (some 26) rfl rfl Try.func16 (by kernel_rfl) rfl #[.agg #[.slice A0_0 l0_0.length c0_0]] rfl Cmp.q ?_; (with_reducible refine (laws_toBundle.calls k _ _ l0_0 t332 _ ?side1 ?side2 A22.out).mono ?_); (case side1 => exact Cmp.rc (Kd.C_below HR0_0.out HB.out)); (case side2 => exact HC0_0.out); rintro e w76 ⟨v333, rfl, ho0, hb⟩; refine ⟨_, rfl, ?_⟩; have n0_ := Aside0.mk (Kd.R_elder' (Cmp.rr HO327.out) (Kd.R_base ho0) hb); have n1_ := Aside0.mk (Kd.R_elder' (Cmp.rr HO330.out) (Kd.R_base ho0) hb); have n2_ := Aside0.mk (Kd.R_lower (Kd.R_new' (Kd.R_new' ho0 (Kd.R_lt (Cmp.rr HO327.out))) (Kd.R_lt (Cmp.rr HO330.out))) (below_size (Cmp.g HB.out))); have n3_ := Aside0.mk (blk_below (g := gb321) (o := .cells #[.slice A0_0 l0_0.length c0_0] 35 (0, 0)) (Cmp.b BK321.out) hb); have n4_ := Aside0.mk (blk_below (g := gb322) (o := .cells #[.slice A1_0 l1_0.length c1_0] 35 (0, 0)) (Cmp.b BK322.out) hb); have n5_ := Aside0.mk (below_step (Cmp.g HB.out) hb); clear HO327; clear HO330; clear BK321; clear BK322; clear HB; have HO327 := n0_; have HO330 := n1_; have HO334 := n2_; have BK321 := n3_; have BK322 := n4_; have HB := n5_; clear n0_ n1_ n2_ n3_ n4_ n5_; (try clear hb); (try clear hb2); (try clear hk); (try clear hi); (try clear ho0)) | ((with_reducible refine gate_dst (N := 7) rfl ?_); refine box_event ?hg (N := 7) ?hd (cs := #[.slice none 0 0]) (t := 39) ?hr ?_; (case hd => rfl); (case hg => rfl); (case hr => first | (go_simp; done) | (go_simp; rfl)); intro gb335 hg w77 hbox hb; have n0_ := Aside0.mk (Kd.R_below (Cmp.rr HO327.out) hb); have n1_ := Aside0.mk (Kd.R_below (Cmp.rr HO330.out) hb); have n2_ := Aside0.mk (Kd.R_below (Cmp.rr HO334.out) hb); have n3_ := Aside0.mk (blk_below (g := gb321) (o := .cells #[.slice A0_0 l0_0.length c0_0] 35 (0, 0)) (Cmp.b BK321.out) hb); have n4_ := Aside0.mk (blk_below (g := gb322) (o := .cells #[.slice A1_0 l1_0.length c1_0] 35 (0, 0)) (Cmp.b BK322.out) hb); have n5_ := Aside0.mk (below_step (Cmp.g HB.out) hb); have n6_ := Aside0.mk (hbox); have n7_ := Aside0.mk ((by rw [hg]; exact (below_size (Cmp.g HB.out)) : w.heap.size ≤ gb335)); have n8_ := Aside0.mk ((by rw [hg]; exact (below_size (Cmp.g HB.out)) : w.heap.size ≤ gb335)); have n9_ := Aside0.mk ((by rw [hg]; exact Nat.ne_of_lt (blk_lt (g := gb321) (o := .cells #[.slice A0_0 l0_0.length c0_0] 35 (0, 0)) (Cmp.b BK321.out)) : gb321 ≠ gb335)); have n10_ := Aside0.mk ((by rw [hg]; exact Nat.ne_of_gt (blk_lt (g := gb321) (o := .cells #[.slice A0_0 l0_0.length c0_0] 35 (0, 0)) (Cmp.b BK321.out)) : gb335 ≠ gb321)); have n11_ := Aside0.mk ((by rw [hg]; exact Nat.ne_of_lt (blk_lt (g := gb322) (o := .cells #[.slice A1_0 l1_0.length c1_0] 35 (0, 0)) (Cmp.b BK322.out)) : gb322 ≠ gb335)); have n12_ := Aside0.mk ((by rw [hg]; exact Nat.ne_of_gt (blk_lt (g := gb322) (o := .cells #[.slice A1_0 l1_0.length c1_0] 35 (0, 0)) (Cmp.b BK322.out)) : gb335 ≠ gb322)); clear HO327; clear HO330; clear HO334; clear BK321; clear BK322; clear HB; have HO327 := n0_; have HO330 := n1_; have HO334 := n2_; have BK321 := n3_; have BK322 := n4_; have HB := n5_; have BK335 := n6_; have GW335 := n7_; have GE335 := n8_; have NB321_335 := n9_; have NB335_321 := n10_; have NB322_335 := n11_; have NB335_322 := n12_; clear n0_ n1_ n2_ n3_ n4_ n5_ n6_ n7_ n8_ n9_ n10_ n11_ n12_; clear hb hbox hg; obtain ⟨Ao78, co78, eo78⟩ := Kd.R_slice HO334.out; subst eo78; have hnb79 := NB335_321.out; have hnc79 := NB321_335.out; have hnb80 := NB335_322.out; have hnc80 := NB322_335.out; have hcz81_0 : w77.cell? ⟨gb335, 0, none⟩ = some (.slice none 0 0) := (blk_cell BK335.out 0).trans rfl; have hfz81_0 := blk_frozen BK335.out 0; have hcz82_0 : w77.cell? ⟨gb322, 0, none⟩ = some (.slice A1_0 l1_0.length c1_0) := (blk_cell BK322.out 0).trans rfl; have hfz82_0 := blk_frozen BK322.out 0) | ((with_reducible refine gate_callee (f := 16) rfl ?_); refine goesL_ (some 28) rfl rfl Try.func16 (by kernel_rfl) rfl #[.agg #[.slice A1_0 l1_0.length c1_0]] rfl Cmp.q ?_; (with_reducible refine (laws_toBundle.calls k _ _ l1_0 t336 _ ?side1 ?side2 A23.out).mono ?_); (case side1 => exact Kd.C_below HR1_0.out (Cmp.g HB.out)); (case side2 => exact HC1_0.out); rintro e w83 ⟨v337, rfl, ho0, hb⟩; refine ⟨_, rfl, ?_⟩; have n0_ := Aside0.mk (Kd.R_elder' (by (with_reducible repeat (first | apply Kd.R_alloc | apply Kd.R_drewN | apply Kd.R_drew)); exact (Kd.R_mono (Kd.R_far (p := ⟨gb335, 0, none⟩) (Kd.R_types HO327.out BK335.out (by decide)) (fun _ hk => hk.2) (.slice Ao78 t332.length co78)) (fun _ h_ => h_.1))) (Kd.R_base ho0) hb); have n1_ := Aside0.mk (Kd.R_elder' (by (with_reducible repeat (first | apply Kd.R_alloc | apply Kd.R_drewN | apply Kd.R_drew)); exact (Kd.R_mono (Kd.R_far (p := ⟨gb335, 0, none⟩) (Kd.R_types HO330.out BK335.out (by decide)) (fun _ hk => hk.2) (.slice Ao78 t332.length co78)) (fun _ h_ => h_.1))) (Kd.R_base ho0) hb); have n2_ := Aside0.mk (Kd.R_elder' (by (with_reducible repeat (first | apply Kd.R_alloc | apply Kd.R_drewN | apply Kd.R_drew)); exact (Kd.R_mono (Kd.R_far (p := ⟨gb335, 0, none⟩) (Kd.R_types HO334.out BK335.out (by decide)) (fun _ hk => hk.2) (.slice Ao78 t332.length co78)) (fun _ h_ => h_.1))) (Kd.R_base ho0) hb); have n3_ := Aside0.mk (Kd.R_lower (Kd.R_new' (Kd.R_new' (Kd.R_new' ho0 (Kd.R_lt (by (with_reducible repeat (first | apply Kd.R_alloc | apply Kd.R_drewN | apply Kd.R_drew)); exact (Kd.R_mono (Kd.R_far (p := ⟨gb335, 0, none⟩) (Kd.R_types HO327.out BK335.out (by decide)) (fun _ hk => hk.2) (.slice Ao78 t332.length co78)) (fun _ h_ => h_.1))))) (Kd.R_lt (by (with_reducible repeat (first | apply Kd.R_alloc | apply Kd.R_drewN | apply Kd.R_drew)); exact (Kd.R_mono (Kd.R_far (p := ⟨gb335, 0, none⟩) (Kd.R_types HO330.out BK335.out (by decide)) (fun _ hk => hk.2) (.slice Ao78 t332.length co78)) (fun _ h_ => h_.1))))) (Kd.R_lt (by (with_reducible repeat (first | apply Kd.R_alloc | apply Kd.R_drewN | apply Kd.R_drew)); exact (Kd.R_mono (Kd.R_far (p := ⟨gb335, 0, none⟩) (Kd.R_types HO334.out BK335.out (by decide)) (fun _ hk => hk.2) (.slice Ao78 t332.length co78)) (fun _ h_ => h_.1))))) (below_size (Cmp.g HB.out))); have n4_ := Aside0.mk (blk_below (g := gb321) (o := .cells #[.slice A0_0 l0_0.length c0_0] 35 (0, 0)) (by (with_reducible repeat (first | refine blk_drewN ?_ _ | refine blk_drew ?_ | refine blk_alloc ?_ _)); refine blk_far ?_ NB321_335.out _; (with_reducible repeat (first | refine blk_drewN ?_ _ | refine blk_drew ?_ | refine blk_alloc ?_ _)); exact BK321.out) hb); have n5_ := Aside0.mk (blk_below (g := gb322) (o := .cells #[.slice A1_0 l1_0.length c1_0] 35 (0, 0)) (by (with_reducible repeat (first | refine blk_drewN ?_ _ | refine blk_drew ?_ | refine blk_alloc ?_ _)); refine blk_far ?_ NB322_335.out _; (with_reducible repeat (first | refine blk_drewN ?_ _ | refine blk_drew ?_ | refine blk_alloc ?_ _)); exact BK322.out) hb); have n6_ := Aside0.mk (blk_below (g := gb335) (o := .cells #[.slice Ao78 t332.length co78] 39 (0, 0)) (by (with_reducible repeat (first | refine blk_drewN ?_ _ | refine blk_drew ?_ | refine blk_alloc ?_ _)); refine blk_put (cs := #[.slice none 0 0]) ?_ 0 _ rfl; (with_reducible repeat (first | refine blk_drewN ?_ _ | refine blk_drew ?_ | refine blk_alloc ?_ _)); exact BK335.out) hb); have n7_ := Aside0.mk (below_step (Cmp.g HB.out) hb); clear HO327; clear HO330; clear HO334; clear BK321; clear BK322; clear BK335; clear HB; have HO327 := n0_; have HO330 := n1_; have HO334 := n2_; have HO338 := n3_; have BK321 := n4_; have BK322 := n5_; have BK335 := n6_; have HB := n7_; clear n0_ n1_ n2_ n3_ n4_ n5_ n6_ n7_; (try clear hb); (try clear hb2); (try clear hk); (try clear hi); (try clear ho0)) | ((with_reducible refine gate_dst (N := 8) rfl ?_); refine box_event ?hg (N := 8) ?hd (cs := #[.slice none 0 0]) (t := 39) ?hr ?_; (case hd => rfl); (case hg => rfl); (case hr => first | (go_simp; done) | (go_simp; rfl)); intro gb339 hg w84 hbox hb; have n0_ := Aside0.mk (Kd.R_below (Cmp.rr HO327.out) hb); have n1_ := Aside0.mk (Kd.R_below (Cmp.rr HO330.out) hb); have n2_ := Aside0.mk (Kd.R_below (Cmp.rr HO334.out) hb); have n3_ := Aside0.mk (Kd.R_below (Cmp.rr HO338.out) hb); have n4_ := Aside0.mk (blk_below (g := gb321) (o := .cells #[.slice A0_0 l0_0.length c0_0] 35 (0, 0)) (Cmp.b BK321.out) hb); have n5_ := Aside0.mk (blk_below (g := gb322) (o := .cells #[.slice A1_0 l1_0.length c1_0] 35 (0, 0)) (Cmp.b BK322.out) hb); have n6_ := Aside0.mk (blk_below (g := gb335) (o := .cells #[.slice Ao78 t332.length co78] 39 (0, 0)) (Cmp.b BK335.out) hb); have n7_ := Aside0.mk (below_step (Cmp.g HB.out) hb); have n8_ := Aside0.mk (hbox); have n9_ := Aside0.mk ((by rw [hg]; exact (below_size (Cmp.g HB.out)) : w.heap.size ≤ gb339)); have n10_ := Aside0.mk ((by rw [hg]; exact (below_size (Cmp.g HB.out)) : w.heap.size ≤ gb339)); have n11_ := Aside0.mk ((by rw [hg]; exact Nat.ne_of_lt (blk_lt (g := gb321) (o := .cells #[.slice A0_0 l0_0.length c0_0] 35 (0, 0)) (Cmp.b BK321.out)) : gb321 ≠ gb339)); have n12_ := Aside0.mk ((by rw [hg]; exact Nat.ne_of_gt (blk_lt (g := gb321) (o := .cells #[.slice A0_0 l0_0.length c0_0] 35 (0, 0)) (Cmp.b BK321.out)) : gb339 ≠ gb321)); have n13_ := Aside0.mk ((by rw [hg]; exact Nat.ne_of_lt (blk_lt (g := gb322) (o := .cells #[.slice A1_0 l1_0.length c1_0] 35 (0, 0)) (Cmp.b BK322.out)) : gb322 ≠ gb339)); have n14_ := Aside0.mk ((by rw [hg]; exact Nat.ne_of_gt (blk_lt (g := gb322) (o := .cells #[.slice A1_0 l1_0.length c1_0] 35 (0, 0)) (Cmp.b BK322.out)) : gb339 ≠ gb322)); have n15_ := Aside0.mk ((by rw [hg]; exact Nat.ne_of_lt (blk_lt (g := gb335) (o := .cells #[.slice Ao78 t332.length co78] 39 (0, 0)) (Cmp.b BK335.out)) : gb335 ≠ gb339)); have n16_ := Aside0.mk ((by rw [hg]; exact Nat.ne_of_gt (blk_lt (g := gb335) (o := .cells #[.slice Ao78 t332.length co78] 39 (0, 0)) (Cmp.b BK335.out)) : gb339 ≠ gb335)); clear HO327; clear HO330; clear HO334; clear HO338; clear BK321; clear BK322; clear BK335; clear HB; have HO327 := n0_; have HO330 := n1_; have HO334 := n2_; have HO338 := n3_; have BK321 := n4_; have BK322 := n5_; have BK335 := n6_; have HB := n7_; have BK339 := n8_; have GW339 := n9_; have GE339 := n10_; have NB321_339 := n11_; have NB339_321 := n12_; have NB322_339 := n13_; have NB339_322 := n14_; have NB335_339 := n15_; have NB339_335 := n16_; clear n0_ n1_ n2_ n3_ n4_ n5_ n6_ n7_ n8_ n9_ n10_ n11_ n12_ n13_ n14_ n15_ n16_; clear hb hbox hg; obtain ⟨Ao85, co85, eo85⟩ := Kd.R_slice HO338.out; subst eo85; have hnb86 := NB339_321.out; have hnc86 := NB321_339.out; have hnb87 := NB339_322.out; have hnc87 := NB322_339.out; have hnb88 := NB339_335.out; have hnc88 := NB335_339.out; have hcz89_0 : w84.cell? ⟨gb339, 0, none⟩ = some (.slice none 0 0) := (blk_cell BK339.out 0).trans rfl; have hfz89_0 := blk_frozen BK339.out 0; have hcz90_0 : w84.cell? ⟨gb335, 0, none⟩ = some (.slice Ao78 t332.length co78) := (blk_cell BK335.out 0).trans rfl; have hfz90_0 := blk_frozen BK335.out 0) | ((with_reducible refine gate_callee (f := 22) rfl ?_); refine goesL_ (some 31) rfl rfl Try.func22 (by kernel_rfl) rfl #[.agg #[.slice Ao78 t332.length co78], .agg #[.slice Ao85 t336.length co85]] rfl Cmp.q ?_; (with_reducible refine (impl_IncludesBundle.calls k _ _ t332 _ _ t336 t340 _ ?side1 ?side2 ?side3 ?side4 A24.out).mono ?_); (case side1 => refine (Kd.R_reads' (e := 64) (base := w.heap.size) (ok := fun k_ => (((True ∧ some k_ ≠ (.slice Ao72 t325.length co72 : Value).ownBlock) ∧ some k_ ≠ (.slice Ao73 t328.length co73 : Value).ownBlock) ∧ some k_ ≠ (.slice Ao85 t336.length co85 : Value).ownBlock)) (n := t332.length) (c := co78) ?_).2.2; exact (by (with_reducible repeat (first | apply Kd.R_alloc | apply Kd.R_drewN | apply Kd.R_drew)); exact (Kd.R_mono (Kd.R_far (p := ⟨gb339, 0, none⟩) (Kd.R_types HO334.out BK339.out (by decide)) (fun _ hk => hk.2) (.slice Ao85 t336.length co85)) (fun _ h_ => h_.1)))); (case side2 => exact (Kd.R_reads' HO334.out).2.1); (case side3 => refine (Kd.R_reads' (e := 64) (base := w.heap.size) (ok := fun k_ => (((True ∧ some k_ ≠ (.slice Ao72 t325.length co72 : Value).ownBlock) ∧ some k_ ≠ (.slice Ao73 t328.length co73 : Value).ownBlock) ∧ some k_ ≠ (.slice Ao78 t332.length co78 : Value).ownBlock)) (n := t336.length) (c := co85) ?_).2.2; exact (by (with_reducible repeat (first | apply Kd.R_alloc | apply Kd.R_drewN | apply Kd.R_drew)); exact (Kd.R_mono (Kd.R_far (p := ⟨gb339, 0, none⟩) (Kd.R_types HO338.out BK339.out (by decide)) (fun _ hk => hk.2) (.slice Ao85 t336.length co85)) (fun _ h_ => h_.1)))); (case side4 => exact (Kd.R_reads' HO338.out).2.1); rintro e w91 ⟨rfl, hb⟩; refine ⟨_, rfl, ?_⟩; have n0_ := Aside0.mk (Kd.R_below (by (with_reducible repeat (first | apply Kd.R_alloc | apply Kd.R_drewN | apply Kd.R_drew)); exact (Kd.R_mono (Kd.R_far (p := ⟨gb339, 0, none⟩) (Kd.R_types HO327.out BK339.out (by decide)) (fun _ hk => hk.2) (.slice Ao85 t336.length co85)) (fun _ h_ => h_.1))) hb); have n1_ := Aside0.mk (Kd.R_below (by (with_reducible repeat (first | apply Kd.R_alloc | apply Kd.R_drewN | apply Kd.R_drew)); exact (Kd.R_mono (Kd.R_far (p := ⟨gb339, 0, none⟩) (Kd.R_types HO330.out BK339.out (by decide)) (fun _ hk => hk.2) (.slice Ao85 t336.length co85)) (fun _ h_ => h_.1))) hb); have n2_ := Aside0.mk (Kd.R_below (by (with_reducible repeat (first | apply Kd.R_alloc | apply Kd.R_drewN | apply Kd.R_drew)); exact (Kd.R_mono (Kd.R_far (p := ⟨gb339, 0, none⟩) (Kd.R_types HO334.out BK339.out (by decide)) (fun _ hk => hk.2) (.slice Ao85 t336.length co85)) (fun _ h_ => h_.1))) hb); have n3_ := Aside0.mk (Kd.R_below (by (with_reducible repeat (first | apply Kd.R_alloc | apply Kd.R_drewN | apply Kd.R_drew)); exact (Kd.R_mono (Kd.R_far (p := ⟨gb339, 0, none⟩) (Kd.R_types HO338.out BK339.out (by decide)) (fun _ hk => hk.2) (.slice Ao85 t336.length co85)) (fun _ h_ => h_.1))) hb); have n4_ := Aside0.mk (blk_below (g := gb321) (o := .cells #[.slice A0_0 l0_0.length c0_0] 35 (0, 0)) (by (with_reducible repeat (first | refine blk_drewN ?_ _ | refine blk_drew ?_ | refine blk_alloc ?_ _)); refine blk_far ?_ NB321_339.out _; (with_reducible repeat (first | refine blk_drewN ?_ _ | refine blk_drew ?_ | refine blk_alloc ?_ _)); exact BK321.out) hb); have n5_ := Aside0.mk (blk_below (g := gb322) (o := .cells #[.slice A1_0 l1_0.length c1_0] 35 (0, 0)) (by (with_reducible repeat (first | refine blk_drewN ?_ _ | refine blk_drew ?_ | refine blk_alloc ?_ _)); refine blk_far ?_ NB322_339.out _; (with_reducible repeat (first | refine blk_drewN ?_ _ | refine blk_drew ?_ | refine blk_alloc ?_ _)); exact BK322.out) hb); have n6_ := Aside0.mk (blk_below (g := gb335) (o := .cells #[.slice Ao78 t332.length co78] 39 (0, 0)) (by (with_reducible repeat (first | refine blk_drewN ?_ _ | refine blk_drew ?_ | refine blk_alloc ?_ _)); refine blk_far ?_ NB335_339.out _; (with_reducible repeat (first | refine blk_drewN ?_ _ | refine blk_drew ?_ | refine blk_alloc ?_ _)); exact BK335.out) hb); have n7_ := Aside0.mk (blk_below (g := gb339) (o := .cells #[.slice Ao85 t336.length co85] 39 (0, 0)) (by (with_reducible repeat (first | refine blk_drewN ?_ _ | refine blk_drew ?_ | refine blk_alloc ?_ _)); refine blk_put (cs := #[.slice none 0 0]) ?_ 0 _ rfl; (with_reducible repeat (first | refine blk_drewN ?_ _ | refine blk_drew ?_ | refine blk_alloc ?_ _)); exact BK339.out) hb); have n8_ := Aside0.mk (below_step (Cmp.g HB.out) hb); clear HO327; clear HO330; clear HO334; clear HO338; clear BK321; clear BK322; clear BK335; clear BK339; clear HB; have HO327 := n0_; have HO330 := n1_; have HO334 := n2_; have HO338 := n3_; have BK321 := n4_; have BK322 := n5_; have BK335 := n6_; have BK339 := n7_; have HB := n8_; clear n0_ n1_ n2_ n3_ n4_ n5_ n6_ n7_ n8_; (try clear hb); (try clear hb2); (try clear hk); (try clear hi)))
      have n0_ := Aside0.mk (Kd.R_drew HO327.out); have n1_ := Aside0.mk (Kd.R_drew HO330.out); have n2_ := Aside0.mk (Kd.R_drew HO334.out); have n3_ := Aside0.mk (Kd.R_drew HO338.out); have n4_ := Aside0.mk (blk_drew BK321.out); have n5_ := Aside0.mk (blk_drew BK322.out); have n6_ := Aside0.mk (blk_drew BK335.out); have n7_ := Aside0.mk (blk_drew BK339.out); have n8_ := Aside0.mk (below_drew1 HB.out); clear HO327; clear HO330; clear HO334; clear HO338; clear BK321; clear BK322; clear BK335; clear BK339; clear HB; have HO327 := n0_; have HO330 := n1_; have HO334 := n2_; have HO338 := n3_; have BK321 := n4_; have BK322 := n5_; have BK335 := n6_; have BK339 := n7_; have HB := n8_; clear n0_ n1_ n2_ n3_ n4_ n5_ n6_ n7_ n8_
      refine start_ (n := 5) (S := fun w' => w'.cell? ⟨gb335, 0, none⟩ = some (.slice Ao78 t332.length co78) ∧ w'.cell? ⟨gb321, 0, none⟩ = some (.slice A0_0 l0_0.length c0_0)) (ds := []) #[false, false, false, false, false] (by kernel_rfl) rfl rfl ⟨(blk_cell BK335.out 0).trans rfl, (blk_cell BK321.out 0).trans rfl⟩ (fun hHeld => ?_)
      generalize w91.drew = w92 at HO327 HO330 HO334 HO338 BK321 BK322 BK335 BK339 HB hHeld ⊢
      refine take_ (i := 0) (N := some 35) (v := ?_) (a' := ?_) #[true, false, false, false, false] rfl rfl (by kernel_rfl) (fun _ _ _ h => h) (Or.inl ⟨by rfl, ?_⟩) hHeld ?_ ?_
      rotate_left
      ·rintro w' ⟨s0, s1⟩; go_simp; with_reducible rfl
      rotate_left
      ·simp only [Act.put, Cmp.s, Cmp.z, Cmp.c, i64_w, i32_w]; rfl
      refine take_ (i := 1) (N := some 36) (v := ?_) (a' := ?_) #[true, true, false, false, false] rfl rfl (by kernel_rfl) (fun _ _ _ h => h) (Or.inl ⟨by rfl, ?_⟩) hHeld ?_ ?_
      rotate_left
      ·rintro w' ⟨s0, s1⟩; go_simp; with_reducible rfl
      rotate_left
      ·simp only [Act.put, Cmp.s, Cmp.z, Cmp.c, i64_w, i32_w]; rfl
      refine one_ (i := 2) (N := some 37) #[true, true, true, false, false] rfl rfl (by kernel_rfl) (by decide) (fun K hK => ?_)
      refine goes_ Try.func16 (by kernel_rfl) rfl #[.agg #[.slice A0_0 l0_0.length c0_0]] (by rfl) rfl rfl Cmp.q ?_
      with_reducible refine (laws_toBundle.calls k _ _ l0_0 t341 _ ?side1 ?side2 A56.out).mono ?_
      (case side1 => exact Cmp.rc (Kd.C_below HR0_0.out HB.out))
      (case side2 => exact HC0_0.out)
      rintro e w93 ⟨v342, rfl, ho0, hb⟩; refine ⟨_, rfl, ?_⟩
      have n0_ := Aside0.mk (Kd.R_elder' (Cmp.rr HO327.out) (Kd.R_base ho0) hb)
      have n1_ := Aside0.mk (Kd.R_elder' (Cmp.rr HO330.out) (Kd.R_base ho0) hb)
      have n2_ := Aside0.mk (Kd.R_elder' (Cmp.rr HO334.out) (Kd.R_base ho0) hb)
      have n3_ := Aside0.mk (Kd.R_elder' (Cmp.rr HO338.out) (Kd.R_base ho0) hb)
      have n4_ := Aside0.mk (Kd.R_lower (Kd.R_new' (Kd.R_new' (Kd.R_new' (Kd.R_new' ho0 (Kd.R_lt (Cmp.rr HO327.out))) (Kd.R_lt (Cmp.rr HO330.out))) (Kd.R_lt (Cmp.rr HO334.out))) (Kd.R_lt (Cmp.rr HO338.out))) (below_size (Cmp.g HB.out)))
      have n5_ := Aside0.mk (blk_below (g := gb321) (o := .cells #[.slice A0_0 l0_0.length c0_0] 35 (0, 0)) (Cmp.b BK321.out) hb)
      have n6_ := Aside0.mk (blk_below (g := gb322) (o := .cells #[.slice A1_0 l1_0.length c1_0] 35 (0, 0)) (Cmp.b BK322.out) hb)
      have n7_ := Aside0.mk (blk_below (g := gb335) (o := .cells #[.slice Ao78 t332.length co78] 39 (0, 0)) (Cmp.b BK335.out) hb)
      have n8_ := Aside0.mk (blk_below (g := gb339) (o := .cells #[.slice Ao85 t336.length co85] 39 (0, 0)) (Cmp.b BK339.out) hb)
      have n9_ := Aside0.mk (below_step (Cmp.g HB.out) hb)
      clear HO327; clear HO330; clear HO334; clear HO338; clear BK321; clear BK322; clear BK335; clear BK339; clear HB; have HO327 := n0_; have HO330 := n1_; have HO334 := n2_; have HO338 := n3_; have HO343 := n4_; have BK321 := n5_; have BK322 := n6_; have BK335 := n7_; have BK339 := n8_; have HB := n9_; clear n0_ n1_ n2_ n3_ n4_ n5_ n6_ n7_ n8_ n9_; (try clear hb); (try clear hb2); (try clear hk); (try clear hi); (try clear ho0)
      obtain ⟨Ao94, co94, eo94⟩ := Kd.R_slice HO343.out
      (first | subst eo94 | (injection eo94 with f1_ f2_ f3_; have f4_ := f1_.symm; have f5_ := f3_.symm; clear f1_ f2_ f3_; subst f4_; subst f5_))
      refine hK.out _ _ ⟨(blk_cell BK335.out 0).trans rfl, (blk_cell BK321.out 0).trans rfl⟩ (fun hHeld => ?_)
      clear hK K
      refine norm_ (a' := ?_) ?_ ?_
      rotate_left
      ·show Act.put _ (some 37) _ = _
       simp only [Act.put, Cmp.s, Cmp.z, Cmp.c, i64_w, i32_w]; rfl
      refine one_ (i := 3) (N := some 38) #[true, true, true, true, false] rfl rfl (by kernel_rfl) (by decide) (fun K hK => ?_)
      refine goes_ Try.func18 (by kernel_rfl) rfl #[.agg #[.slice Ao78 t332.length co78], .agg #[.slice Ao94 t341.length co94]] (by rfl) rfl rfl Cmp.q ?_
      with_reducible refine (laws_eqBundle.calls k _ _ t332 _ _ t341 true _ ?side1 ?side2 ?side3 ?side4 A57.out).mono ?_
      (case side1 => exact Cmp.rc (Kd.R_reads' HO334.out).2.2)
      (case side2 => exact (Kd.R_reads' HO334.out).2.1)
      (case side3 => exact Cmp.rc (Kd.R_reads' HO343.out).2.2)
      (case side4 => exact (Kd.R_reads' HO343.out).2.1)
      rintro e w95 ⟨rfl, hb⟩; refine ⟨_, rfl, ?_⟩
      have n0_ := Aside0.mk (Kd.R_below (Cmp.rr HO327.out) hb)
      have n1_ := Aside0.mk (Kd.R_below (Cmp.rr HO330.out) hb)
      have n2_ := Aside0.mk (Kd.R_below (Cmp.rr HO334.out) hb)
      have n3_ := Aside0.mk (Kd.R_below (Cmp.rr HO338.out) hb)
      have n4_ := Aside0.mk (Kd.R_below (Cmp.rr HO343.out) hb)
      have n5_ := Aside0.mk (blk_below (g := gb321) (o := .cells #[.slice A0_0 l0_0.length c0_0] 35 (0, 0)) (Cmp.b BK321.out) hb)
      have n6_ := Aside0.mk (blk_below (g := gb322) (o := .cells #[.slice A1_0 l1_0.length c1_0] 35 (0, 0)) (Cmp.b BK322.out) hb)
      have n7_ := Aside0.mk (blk_below (g := gb335) (o := .cells #[.slice Ao78 t332.length co78] 39 (0, 0)) (Cmp.b BK335.out) hb)
      have n8_ := Aside0.mk (blk_below (g := gb339) (o := .cells #[.slice Ao85 t336.length co85] 39 (0, 0)) (Cmp.b BK339.out) hb)
      have n9_ := Aside0.mk (below_step (Cmp.g HB.out) hb)
      clear HO327; clear HO330; clear HO334; clear HO338; clear HO343; clear BK321; clear BK322; clear BK335; clear BK339; clear HB; have HO327 := n0_; have HO330 := n1_; have HO334 := n2_; have HO338 := n3_; have HO343 := n4_; have BK321 := n5_; have BK322 := n6_; have BK335 := n7_; have BK339 := n8_; have HB := n9_; clear n0_ n1_ n2_ n3_ n4_ n5_ n6_ n7_ n8_ n9_; (try clear hb); (try clear hb2); (try clear hk); (try clear hi)
      refine hK.out _ _ ⟨(blk_cell BK335.out 0).trans rfl, (blk_cell BK321.out 0).trans rfl⟩ (fun hHeld => ?_)
      clear hK K
      refine norm_ (a' := ?_) ?_ ?_
      rotate_left
      ·show Act.put _ (some 38) _ = _
       simp only [Act.put, Cmp.s, Cmp.z, Cmp.c, i64_w, i32_w]; rfl
      refine pure_ (i := 4) (N := some 39) (v := ?_) (a' := ?_) #[true, true, true, true, true] rfl rfl (by kernel_rfl) (fun _ _ _ h => h) (Or.inl ⟨by rfl, ?_⟩) ?_ ?_
      rotate_left
      ·intro w'; go_simp; with_reducible rfl
      rotate_left
      ·simp only [Act.put, Cmp.s, Cmp.z, Cmp.c, i64_w, i32_w]; rfl
      refine done_ (by kernel_rfl) ?_
      try go_wp2
      have n0_ := Aside0.mk (Kd.R_drew HO327.out); have n1_ := Aside0.mk (Kd.R_drew HO330.out); have n2_ := Aside0.mk (Kd.R_drew HO334.out); have n3_ := Aside0.mk (Kd.R_drew HO338.out); have n4_ := Aside0.mk (Kd.R_drew HO343.out); have n5_ := Aside0.mk (blk_drew BK321.out); have n6_ := Aside0.mk (blk_drew BK322.out); have n7_ := Aside0.mk (blk_drew BK335.out); have n8_ := Aside0.mk (blk_drew BK339.out); have n9_ := Aside0.mk (below_drew1 HB.out); clear HO327; clear HO330; clear HO334; clear HO338; clear HO343; clear BK321; clear BK322; clear BK335; clear BK339; clear HB; have HO327 := n0_; have HO330 := n1_; have HO334 := n2_; have HO338 := n3_; have HO343 := n4_; have BK321 := n5_; have BK322 := n6_; have BK335 := n7_; have BK339 := n8_; have HB := n9_; clear n0_ n1_ n2_ n3_ n4_ n5_ n6_ n7_ n8_ n9_
      refine start_ (n := 5) (S := fun w' => w'.cell? ⟨gb339, 0, none⟩ = some (.slice Ao85 t336.length co85) ∧ w'.cell? ⟨gb322, 0, none⟩ = some (.slice A1_0 l1_0.length c1_0)) (ds := []) #[false, false, false, false, false] (by kernel_rfl) rfl rfl ⟨(blk_cell BK339.out 0).trans rfl, (blk_cell BK322.out 0).trans rfl⟩ (fun hHeld => ?_)
      generalize w95.drew = w96 at HO327 HO330 HO334 HO338 HO343 BK321 BK322 BK335 BK339 HB hHeld ⊢
      refine take_ (i := 0) (N := some 40) (v := ?_) (a' := ?_) #[true, false, false, false, false] rfl rfl (by kernel_rfl) (fun _ _ _ h => h) (Or.inl ⟨by rfl, ?_⟩) hHeld ?_ ?_
      rotate_left
      ·rintro w' ⟨s0, s1⟩; go_simp; with_reducible rfl
      rotate_left
      ·simp only [Act.put, Cmp.s, Cmp.z, Cmp.c, i64_w, i32_w]; rfl
      refine take_ (i := 1) (N := some 41) (v := ?_) (a' := ?_) #[true, true, false, false, false] rfl rfl (by kernel_rfl) (fun _ _ _ h => h) (Or.inl ⟨by rfl, ?_⟩) hHeld ?_ ?_
      rotate_left
      ·rintro w' ⟨s0, s1⟩; go_simp; with_reducible rfl
      rotate_left
      ·simp only [Act.put, Cmp.s, Cmp.z, Cmp.c, i64_w, i32_w]; rfl
      refine one_ (i := 2) (N := some 42) #[true, true, true, false, false] rfl rfl (by kernel_rfl) (by decide) (fun K hK => ?_)
      refine goes_ Try.func16 (by kernel_rfl) rfl #[.agg #[.slice A1_0 l1_0.length c1_0]] (by rfl) rfl rfl Cmp.q ?_
      with_reducible refine (laws_toBundle.calls k _ _ l1_0 t345 _ ?side1 ?side2 A59.out).mono ?_
      (case side1 => exact Cmp.rc (Kd.C_below HR1_0.out HB.out))
      (case side2 => exact HC1_0.out)
      rintro e w97 ⟨v346, rfl, ho0, hb⟩; refine ⟨_, rfl, ?_⟩
      have n0_ := Aside0.mk (Kd.R_elder' (Cmp.rr HO327.out) (Kd.R_base ho0) hb)
      have n1_ := Aside0.mk (Kd.R_elder' (Cmp.rr HO330.out) (Kd.R_base ho0) hb)
      have n2_ := Aside0.mk (Kd.R_elder' (Cmp.rr HO334.out) (Kd.R_base ho0) hb)
      have n3_ := Aside0.mk (Kd.R_elder' (Cmp.rr HO338.out) (Kd.R_base ho0) hb)
      have n4_ := Aside0.mk (Kd.R_elder' (Cmp.rr HO343.out) (Kd.R_base ho0) hb)
      have n5_ := Aside0.mk (Kd.R_lower (Kd.R_new' (Kd.R_new' (Kd.R_new' (Kd.R_new' (Kd.R_new' ho0 (Kd.R_lt (Cmp.rr HO327.out))) (Kd.R_lt (Cmp.rr HO330.out))) (Kd.R_lt (Cmp.rr HO334.out))) (Kd.R_lt (Cmp.rr HO338.out))) (Kd.R_lt (Cmp.rr HO343.out))) (below_size (Cmp.g HB.out)))
      have n6_ := Aside0.mk (blk_below (g := gb321) (o := .cells #[.slice A0_0 l0_0.length c0_0] 35 (0, 0)) (Cmp.b BK321.out) hb)
      have n7_ := Aside0.mk (blk_below (g := gb322) (o := .cells #[.slice A1_0 l1_0.length c1_0] 35 (0, 0)) (Cmp.b BK322.out) hb)
      have n8_ := Aside0.mk (blk_below (g := gb335) (o := .cells #[.slice Ao78 t332.length co78] 39 (0, 0)) (Cmp.b BK335.out) hb)
      have n9_ := Aside0.mk (blk_below (g := gb339) (o := .cells #[.slice Ao85 t336.length co85] 39 (0, 0)) (Cmp.b BK339.out) hb)
      have n10_ := Aside0.mk (below_step (Cmp.g HB.out) hb)
      clear HO327; clear HO330; clear HO334; clear HO338; clear HO343; clear BK321; clear BK322; clear BK335; clear BK339; clear HB; have HO327 := n0_; have HO330 := n1_; have HO334 := n2_; have HO338 := n3_; have HO343 := n4_; have HO347 := n5_; have BK321 := n6_; have BK322 := n7_; have BK335 := n8_; have BK339 := n9_; have HB := n10_; clear n0_ n1_ n2_ n3_ n4_ n5_ n6_ n7_ n8_ n9_ n10_; (try clear hb); (try clear hb2); (try clear hk); (try clear hi); (try clear ho0)
      obtain ⟨Ao98, co98, eo98⟩ := Kd.R_slice HO347.out
      (first | subst eo98 | (injection eo98 with f1_ f2_ f3_; have f4_ := f1_.symm; have f5_ := f3_.symm; clear f1_ f2_ f3_; subst f4_; subst f5_))
      refine hK.out _ _ ⟨(blk_cell BK339.out 0).trans rfl, (blk_cell BK322.out 0).trans rfl⟩ (fun hHeld => ?_)
      clear hK K
      refine norm_ (a' := ?_) ?_ ?_
      rotate_left
      ·show Act.put _ (some 42) _ = _
       simp only [Act.put, Cmp.s, Cmp.z, Cmp.c, i64_w, i32_w]; rfl
      refine one_ (i := 3) (N := some 43) #[true, true, true, true, false] rfl rfl (by kernel_rfl) (by decide) (fun K hK => ?_)
      refine goes_ Try.func18 (by kernel_rfl) rfl #[.agg #[.slice Ao85 t336.length co85], .agg #[.slice Ao98 t345.length co98]] (by rfl) rfl rfl Cmp.q ?_
      with_reducible refine (laws_eqBundle.calls k _ _ t336 _ _ t345 true _ ?side1 ?side2 ?side3 ?side4 A60.out).mono ?_
      (case side1 => exact Cmp.rc (Kd.R_reads' HO338.out).2.2)
      (case side2 => exact (Kd.R_reads' HO338.out).2.1)
      (case side3 => exact Cmp.rc (Kd.R_reads' HO347.out).2.2)
      (case side4 => exact (Kd.R_reads' HO347.out).2.1)
      rintro e w99 ⟨rfl, hb⟩; refine ⟨_, rfl, ?_⟩
      have n0_ := Aside0.mk (Kd.R_below (Cmp.rr HO327.out) hb)
      have n1_ := Aside0.mk (Kd.R_below (Cmp.rr HO330.out) hb)
      have n2_ := Aside0.mk (Kd.R_below (Cmp.rr HO334.out) hb)
      have n3_ := Aside0.mk (Kd.R_below (Cmp.rr HO338.out) hb)
      have n4_ := Aside0.mk (Kd.R_below (Cmp.rr HO343.out) hb)
      have n5_ := Aside0.mk (Kd.R_below (Cmp.rr HO347.out) hb)
      have n6_ := Aside0.mk (blk_below (g := gb321) (o := .cells #[.slice A0_0 l0_0.length c0_0] 35 (0, 0)) (Cmp.b BK321.out) hb)
      have n7_ := Aside0.mk (blk_below (g := gb322) (o := .cells #[.slice A1_0 l1_0.length c1_0] 35 (0, 0)) (Cmp.b BK322.out) hb)
      have n8_ := Aside0.mk (blk_below (g := gb335) (o := .cells #[.slice Ao78 t332.length co78] 39 (0, 0)) (Cmp.b BK335.out) hb)
      have n9_ := Aside0.mk (blk_below (g := gb339) (o := .cells #[.slice Ao85 t336.length co85] 39 (0, 0)) (Cmp.b BK339.out) hb)
      have n10_ := Aside0.mk (below_step (Cmp.g HB.out) hb)
      clear HO327; clear HO330; clear HO334; clear HO338; clear HO343; clear HO347; clear BK321; clear BK322; clear BK335; clear BK339; clear HB; have HO327 := n0_; have HO330 := n1_; have HO334 := n2_; have HO338 := n3_; have HO343 := n4_; have HO347 := n5_; have BK321 := n6_; have BK322 := n7_; have BK335 := n8_; have BK339 := n9_; have HB := n10_; clear n0_ n1_ n2_ n3_ n4_ n5_ n6_ n7_ n8_ n9_ n10_; (try clear hb); (try clear hb2); (try clear hk); (try clear hi)
      refine hK.out _ _ ⟨(blk_cell BK339.out 0).trans rfl, (blk_cell BK322.out 0).trans rfl⟩ (fun hHeld => ?_)
      clear hK K
      refine norm_ (a' := ?_) ?_ ?_
      rotate_left
      ·show Act.put _ (some 43) _ = _
       simp only [Act.put, Cmp.s, Cmp.z, Cmp.c, i64_w, i32_w]; rfl
      refine pure_ (i := 4) (N := some 44) (v := ?_) (a' := ?_) #[true, true, true, true, true] rfl rfl (by kernel_rfl) (fun _ _ _ h => h) (Or.inl ⟨by rfl, ?_⟩) ?_ ?_
      rotate_left
      ·intro w'; go_simp; with_reducible rfl
      rotate_left
      ·simp only [Act.put, Cmp.s, Cmp.z, Cmp.c, i64_w, i32_w]; rfl
      refine done_ (by kernel_rfl) ?_
      try go_wp2
      go_ret
      exact ⟨by first | rfl | (simp [errW_none, errW_some] <;> rfl) | (simp [*, errW_none, errW_some] <;> rfl), Cmp.g HB.out⟩
     ·replace c61 := Bool.eq_false_iff.mpr c61
      subst c61
      have H1 : (some false) = some true := by first | (rw [if_neg (show ¬ (false = true) by decide)] at H; exact H) | (rw [if_neg (show ¬ (false = true) by decide)] at H)
      clear H; have H := H1; clear H1; exact absurd H (by simp)
    ·replace c58 := Bool.eq_false_iff.mpr c58
     subst c58
     have H1 : (some false) = some true := by first | (rw [if_neg (show ¬ (false = true) by decide)] at H; exact H) | (rw [if_neg (show ¬ (false = true) by decide)] at H)
     clear H; have H := H1; clear H1
     exact absurd H (by simp)end Go.Proofs.Ytnifeegdkhmakaa.PFnExactIncludesBundle

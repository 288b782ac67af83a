/- Printed functions of the program, out of print.sh, told more shortly. No condition. -/
import Derived.Test.YtgcipecdaimjfaaCmp
import Derived.Test.YtgcipecdaimjfaaPFnDeviceLogsx0
import Derived.Test.YtgcipecdaimjfaaPFnDeviceLogsx5
import Derived.Test.YtgcipecdaimjfaaPFnDeviceLogsx6
import Derived.Test.YtgcipecdaimjfaaPFnDeviceLogsx8
namespace Go.Proofs.Ytgcipecdaimjfaa.PFnDeviceLogs
open Go.Proofs.Ytgcipecdaimjfaa
open Go.RowKit Go.Proofs.YtgcipecdaimjfaaW.PrintWords Go.Proofs.YtgcipecdaimjfaaW.PrintLast Go.Proofs.YtgcipecdaimjfaaW.PrintMore
attribute [local go_sem] max2_int min2_int max_two min_two max_three min_three max_four min_four   -- for this text's walks alone
set_option linter.unusedVariables false
set_option linter.unusedSimpArgs false

/-! ### spec_AppendEntry: function 140 -/
def spec_AppendEntry.f (k : Nat) (l0 : List (S86)) (a1 : Int) (a2 : Int) (a3_0 : Int) (a3_1 : Int) (a3_2 : Int) (a3_3 : Int) : Option ((List (S86)) × Bool) := (spec_DevicePublic.f k a3_0 a3_1 a3_2 a3_3).bind fun t308 => ((spec_LogHead.f k l0).bind fun t309 => ((spec_EntryHash.f k (l0.length : Int) a1 a2 t308 t309 0).bind fun t311 => ((spec_SignAsDevice.f k a3_0 a3_1 a3_2 a3_3 (([t311] : List Int))).bind fun t315 => ((spec_l19Copy.f l0).bind fun t316 => ((some (([(⟨(l0.length : Int), a1, a2, t308, t309, t315⟩ : S86)] : List (S86)) : List (S86))).bind fun y319 => (if t316.length + y319.length < 2932031007402 then ((some (t316 ++ y319 : List (S86))).bind fun y322 => (if (l0.length : Int) > 0 then ((spec_VerifyLog.f k l0).bind fun t325 => (if t325 = true then ((spec_VerifyLog.f k y322).bind fun t326 => (if t326 = true then (some (y322, true)) else ((spec_l19Copy.f l0).bind fun t327 => (some (t327, false))))) else ((spec_l19Copy.f l0).bind fun t330 => (some (t330, false))))) else ((spec_VerifyLog.f k y322).bind fun t333 => (if t333 = true then (some (y322, true)) else ((spec_l19Copy.f l0).bind fun t334 => (some (t334, false))))))) else (none)))))))
theorem spec_AppendEntry.mono : ∀ a0 a1 a2 a3 a4 a5 a6 k, LeO (spec_AppendEntry.f k a0 a1 a2 a3 a4 a5 a6) (spec_AppendEntry.f (k + 1) a0 a1 a2 a3 a4 a5 a6) := by
  intro a0 a1 a2 a3 a4 a5 a6 k
  unfold spec_AppendEntry.f
  repeat' first
      | (with_reducible exact spec_DevicePublic.mono _ _ _ _ _)
      | (with_reducible exact spec_EntryHash.mono _ _ _ _ _ _ _)
      | (with_reducible exact spec_LogHead.mono _ _)
      | (with_reducible exact spec_SignAsDevice.mono _ _ _ _ _ _)
      | (with_reducible exact spec_VerifyLog.mono _ _)
      | (with_reducible exact LeO.refl _)
      | (with_reducible exact LeO.none _)
      | (with_reducible refine LeO.ite ?_ ?_)
      | (with_reducible refine LeO.bind ?_ (fun _ => ?_))
      | exact spec_DevicePublic.mono _ _ _ _ _
      | exact spec_EntryHash.mono _ _ _ _ _ _ _
      | exact spec_LogHead.mono _ _
      | exact spec_SignAsDevice.mono _ _ _ _ _ _
      | exact spec_VerifyLog.mono _ _
      | exact LeO.none _
      | refine LeO.ite ?_ ?_
      | refine LeO.bind ?_ (fun _ => ?_)
set_option maxHeartbeats 8000000 in
set_option maxRecDepth 100000 in
theorem spec_AppendEntry.calls (k : Nat) (A0 : Option Addr) (c0 : Nat) (l0 : List (S86)) (a1 : Int) (a2 : Int) (a3_0 : Int) (a3_1 : Int) (a3_2 : Int) (a3_3 : Int) (r1 : List (S86)) (r2 : Bool) (w : World) (hr0 : Kd.C k86 w A0 l0.length l0) (hc0 : l0.length ≤ c0) (h : spec_AppendEntry.f k l0 a1 a2 a3_0 a3_1 a3_2 a3_3 = some (r1, r2)) :
    Calls Try.prog 140 #[.slice A0 l0.length c0, .int .i64 a1, .int .i64 a2, .agg #[.int .i64 a3_0, .int .i64 a3_1, .int .i64 a3_2, .int .i64 a3_3]] w fun e w' => ∃ v0_ : Value, e = .returned (.tuple #[v0_, .bool r2]) ∧ Kd.R k86 86 w' w.heap.size (fun _ => True) v0_ r1 ∧ Below w.heap.size w w' := by
 have hu84 := Try.underlying84; have hu86 := Try.underlying86; have HR0 := Aside0.mk hr0; have HC0 := Aside0.mk hc0; clear hr0 hc0
 have HB := Aside0.mk (Below.refl w.heap.size w)
 have H : ((spec_DevicePublic.f k a3_0 a3_1 a3_2 a3_3).bind fun t308 => ((spec_LogHead.f k l0).bind fun t309 => ((spec_EntryHash.f k (l0.length : Int) a1 a2 t308 t309 0).bind fun t311 => ((spec_SignAsDevice.f k a3_0 a3_1 a3_2 a3_3 (([t311] : List Int))).bind fun t315 => ((spec_l19Copy.f l0).bind fun t316 => ((some (([(⟨(l0.length : Int), a1, a2, t308, t309, t315⟩ : S86)] : List (S86)) : List (S86))).bind fun y319 => (if t316.length + y319.length < 2932031007402 then ((some (t316 ++ y319 : List (S86))).bind fun y322 => (if (l0.length : Int) > 0 then ((spec_VerifyLog.f k l0).bind fun t325 => (if t325 = true then ((spec_VerifyLog.f k y322).bind fun t326 => (if t326 = true then (some (y322, true)) else ((spec_l19Copy.f l0).bind fun t327 => (some (t327, false))))) else ((spec_l19Copy.f l0).bind fun t330 => (some (t330, false))))) else ((spec_VerifyLog.f k y322).bind fun t333 => (if t333 = true then (some (y322, true)) else ((spec_l19Copy.f l0).bind fun t334 => (some (t334, false))))))) else (none)))))))) = some (r1, r2) := h
 clear h; replace H := Option.bind_eq_some_iff.mp H; obtain ⟨t308, A50, H⟩ := H; (try dsimp only at H); have A5 := Aside0.mk A50; clear A50; replace H := Option.bind_eq_some_iff.mp H; obtain ⟨t309, A60, H⟩ := H; (try dsimp only at H); have A6 := Aside0.mk A60; clear A60; replace H := Option.bind_eq_some_iff.mp H; obtain ⟨t311, A70, H⟩ := H; (try dsimp only at H); have A7 := Aside0.mk A70; clear A70
 obtain ⟨y312, hy312⟩ : ∃ y_ : List Int, y_ = (([t311] : List Int)) := ⟨_, rfl⟩
 replace H : ((spec_SignAsDevice.f k a3_0 a3_1 a3_2 a3_3 y312).bind fun t315 => ((spec_l19Copy.f l0).bind fun t316 => ((some (([(⟨(l0.length : Int), a1, a2, t308, t309, t315⟩ : S86)] : List (S86)) : List (S86))).bind fun y319 => (if t316.length + y319.length < 2932031007402 then ((some (t316 ++ y319 : List (S86))).bind fun y322 => (if (l0.length : Int) > 0 then ((spec_VerifyLog.f k l0).bind fun t325 => (if t325 = true then ((spec_VerifyLog.f k y322).bind fun t326 => (if t326 = true then (some (y322, true)) else ((spec_l19Copy.f l0).bind fun t327 => (some (t327, false))))) else ((spec_l19Copy.f l0).bind fun t330 => (some (t330, false))))) else ((spec_VerifyLog.f k y322).bind fun t333 => (if t333 = true then (some (y322, true)) else ((spec_l19Copy.f l0).bind fun t334 => (some (t334, false))))))) else (none))))) = some (r1, r2) := by first | (rw [hy312]; with_reducible exact H) | (have H2_ := (Option.bind_some _ _).symm.trans H; rw [hy312]; with_reducible exact H2_) | (have H2_ := (Option.bind_some _ _).symm.trans H; with_reducible exact H2_) | with_reducible exact H | (rw [hy312]; exact H) | exact H
 have Ny312 := Aside0.mk hy312; clear hy312; replace H := Option.bind_eq_some_iff.mp H; obtain ⟨t315, A80, H⟩ := H; (try dsimp only at H); have A8 := Aside0.mk A80; clear A80; replace H := Option.bind_eq_some_iff.mp H; obtain ⟨t316, A90, H⟩ := H; (try dsimp only at H); have A9 := Aside0.mk A90; clear A90
 obtain ⟨y319, hy319⟩ : ∃ y_ : List (S86), y_ = (([(⟨(l0.length : Int), a1, a2, t308, t309, t315⟩ : S86)] : List (S86))) := ⟨_, rfl⟩
 replace H : (if t316.length + y319.length < 2932031007402 then ((some (t316 ++ y319 : List (S86))).bind fun y322 => (if (l0.length : Int) > 0 then ((spec_VerifyLog.f k l0).bind fun t325 => (if t325 = true then ((spec_VerifyLog.f k y322).bind fun t326 => (if t326 = true then (some (y322, true)) else ((spec_l19Copy.f l0).bind fun t327 => (some (t327, false))))) else ((spec_l19Copy.f l0).bind fun t330 => (some (t330, false))))) else ((spec_VerifyLog.f k y322).bind fun t333 => (if t333 = true then (some (y322, true)) else ((spec_l19Copy.f l0).bind fun t334 => (some (t334, false))))))) else (none)) = some (r1, r2) := by first | (rw [hy319]; with_reducible exact H) | (have H2_ := (Option.bind_some _ _).symm.trans H; rw [hy319]; with_reducible exact H2_) | (have H2_ := (Option.bind_some _ _).symm.trans H; with_reducible exact H2_) | with_reducible exact H | (rw [hy319]; exact H) | exact H
 have Ny319 := Aside0.mk hy319; clear hy319
 by_cases c10 : t316.length + y319.length < 2932031007402
 ·rw [if_pos c10] at H; have LMc10 := Aside0.mk c10; clear c10
  obtain ⟨y322, hy322⟩ : ∃ y_ : List (S86), y_ = (t316 ++ y319) := ⟨_, rfl⟩
  replace H : (if (l0.length : Int) > 0 then ((spec_VerifyLog.f k l0).bind fun t325 => (if t325 = true then ((spec_VerifyLog.f k y322).bind fun t326 => (if t326 = true then (some (y322, true)) else ((spec_l19Copy.f l0).bind fun t327 => (some (t327, false))))) else ((spec_l19Copy.f l0).bind fun t330 => (some (t330, false))))) else ((spec_VerifyLog.f k y322).bind fun t333 => (if t333 = true then (some (y322, true)) else ((spec_l19Copy.f l0).bind fun t334 => (some (t334, false)))))) = some (r1, r2) := by first | (rw [hy322]; with_reducible exact H) | (have H2_ := (Option.bind_some _ _).symm.trans H; rw [hy322]; with_reducible exact H2_) | (have H2_ := (Option.bind_some _ _).symm.trans H; with_reducible exact H2_) | with_reducible exact H | (rw [hy322]; exact H) | exact H
  have Ny322 := Aside0.mk hy322; clear hy322
  by_cases c11 : (l0.length : Int) > 0
  ·rw [if_pos c11] at H
   have c11b0 : decide (0 < (l0.length : Int)) = true := decide_eq_true c11
   have c11b1 : decide (0 < l0.length) = true := decide_eq_true (by omega)
   clear c11; replace H := Option.bind_eq_some_iff.mp H; obtain ⟨t325, A120, H⟩ := H; (try dsimp only at H); have A12 := Aside0.mk A120; clear A120
   by_cases c13 : t325 = true
   ·subst c13; rw [if_pos rfl] at H; replace H := Option.bind_eq_some_iff.mp H; obtain ⟨t326, A140, H⟩ := H; (try dsimp only at H); have A14 := Aside0.mk A140; clear A140
    by_cases c15 : t326 = true
    ·subst c15; rw [if_pos rfl] at H
     simp only [Option.some.injEq, Prod.mk.injEq] at H
     obtain ⟨rfl, rfl⟩ := H
     go_enter Try.func140, Try.ntmps140
     try go_wp2_with (first | ((with_reducible refine gate_dst (N := 7) rfl ?_); refine box_event ?hg (N := 7) ?hd (cs := #[.int .i64 a3_0, .int .i64 a3_1, .int .i64 a3_2, .int .i64 a3_3]) (t := 84) ?hr ?_; (case hd => rfl); (case hg => rfl); (case hr => first | (go_simp; done) | (go_simp; rfl)); intro gb307 hg w16 hbox hb; have n0_ := Aside0.mk (below_step (Cmp.g HB.out) hb); have n1_ := Aside0.mk (hbox); have n2_ := Aside0.mk ((by rw [hg]; exact (below_size (Cmp.g HB.out)) : w.heap.size ≤ gb307)); have n3_ := Aside0.mk ((by rw [hg]; exact (below_size (Cmp.g HB.out)) : w.heap.size ≤ gb307)); clear HB; have HB := n0_; have BK307 := n1_; have GW307 := n2_; have GE307 := n3_; clear n0_ n1_ n2_ n3_; clear hb hbox hg; have hcz17_0 : w16.cell? ⟨gb307, 0, none⟩ = some (.int .i64 a3_0) := (blk_cell BK307.out 0).trans rfl; have hcz17_1 : w16.cell? ⟨gb307, 1, none⟩ = some (.int .i64 a3_1) := (blk_cell BK307.out 1).trans rfl; have hcz17_2 : w16.cell? ⟨gb307, 2, none⟩ = some (.int .i64 a3_2) := (blk_cell BK307.out 2).trans rfl; have hcz17_3 : w16.cell? ⟨gb307, 3, none⟩ = some (.int .i64 a3_3) := (blk_cell BK307.out 3).trans rfl; have hfz17_0 := blk_frozen BK307.out 0; have hfz17_1 := blk_frozen BK307.out 1; have hfz17_2 := blk_frozen BK307.out 2; have hfz17_3 := blk_frozen BK307.out 3) | ((with_reducible refine gate_callee (f := 40) rfl ?_); refine goesL_ (some 17) rfl rfl Try.func40 (by kernel_rfl) rfl #[.agg #[.int .i64 a3_0, .int .i64 a3_1, .int .i64 a3_2, .int .i64 a3_3]] rfl Cmp.q ?_; (with_reducible refine (spec_DevicePublic.calls k a3_0 a3_1 a3_2 a3_3 t308 _ A5.out).mono ?_); rintro e w18 ⟨rfl, hb⟩; refine ⟨_, rfl, ?_⟩; have n0_ := Aside0.mk (blk_below (Cmp.b BK307.out) hb); have n1_ := Aside0.mk (below_step (Cmp.g HB.out) hb); clear BK307; clear HB; have BK307 := n0_; have HB := n1_; clear n0_ n1_; (try clear hb); (try clear hb2); (try clear hk); (try clear hi)) | ((with_reducible refine gate_callee (f := 119) rfl ?_); refine goesL_ (some 19) rfl rfl Try.func119 (by kernel_rfl) rfl #[.slice A0 l0.length c0] rfl Cmp.q ?_; (with_reducible refine (spec_LogHead.calls k _ _ l0 t309 _ ?side1 ?side2 A6.out).mono ?_); (case side1 => exact Cmp.rc (Kd.C_below HR0.out HB.out)); (case side2 => exact HC0.out); rintro e w19 ⟨rfl, hb⟩; refine ⟨_, rfl, ?_⟩; have n0_ := Aside0.mk (blk_below (Cmp.b BK307.out) hb); have n1_ := Aside0.mk (below_step (Cmp.g HB.out) hb); clear BK307; clear HB; have BK307 := n0_; have HB := n1_; clear n0_ n1_; (try clear hb); (try clear hb2); (try clear hk); (try clear hi)) | ((with_reducible refine gate_dst (N := 10) rfl ?_); refine box_event ?hg (N := 10) ?hd (cs := #[.int .i64 0, .int .i64 0, .int .i64 0, .int .i64 0, .int .i64 0, .int .i64 0]) (t := 86) ?hr ?_; (case hd => rfl); (case hg => rfl); (case hr => first | (go_simp; done) | (go_simp; rfl)); intro gb310 hg w20 hbox hb; have n0_ := Aside0.mk (blk_below (Cmp.b BK307.out) hb); have n1_ := Aside0.mk (below_step (Cmp.g HB.out) hb); have n2_ := Aside0.mk (hbox); have n3_ := Aside0.mk ((by rw [hg]; exact (below_size (Cmp.g HB.out)) : w.heap.size ≤ gb310)); have n4_ := Aside0.mk ((by rw [hg]; exact (below_size (Cmp.g HB.out)) : w.heap.size ≤ gb310)); have n5_ := Aside0.mk ((by rw [hg]; exact Nat.ne_of_lt (blk_lt (Cmp.b BK307.out)) : gb307 ≠ gb310)); have n6_ := Aside0.mk ((by rw [hg]; exact Nat.ne_of_gt (blk_lt (Cmp.b BK307.out)) : gb310 ≠ gb307)); clear BK307; clear HB; have BK307 := n0_; have HB := n1_; have BK310 := n2_; have GW310 := n3_; have GE310 := n4_; have NB307_310 := n5_; have NB310_307 := n6_; clear n0_ n1_ n2_ n3_ n4_ n5_ n6_; clear hb hbox hg; have hnb21 := NB310_307.out; have hnc21 := NB307_310.out; have hcz22_0 : w20.cell? ⟨gb310, 0, none⟩ = some (.int .i64 0) := (blk_cell BK310.out 0).trans rfl; have hcz22_1 : w20.cell? ⟨gb310, 1, none⟩ = some (.int .i64 0) := (blk_cell BK310.out 1).trans rfl; have hcz22_2 : w20.cell? ⟨gb310, 2, none⟩ = some (.int .i64 0) := (blk_cell BK310.out 2).trans rfl; have hcz22_3 : w20.cell? ⟨gb310, 3, none⟩ = some (.int .i64 0) := (blk_cell BK310.out 3).trans rfl; have hcz22_4 : w20.cell? ⟨gb310, 4, none⟩ = some (.int .i64 0) := (blk_cell BK310.out 4).trans rfl; have hcz22_5 : w20.cell? ⟨gb310, 5, none⟩ = some (.int .i64 0) := (blk_cell BK310.out 5).trans rfl; have hfz22_0 := blk_frozen BK310.out 0; have hfz22_1 := blk_frozen BK310.out 1; have hfz22_2 := blk_frozen BK310.out 2; have hfz22_3 := blk_frozen BK310.out 3; have hfz22_4 := blk_frozen BK310.out 4; have hfz22_5 := blk_frozen BK310.out 5))
     have n0_ : Aside0 (((((((w20.setCell ⟨gb310, 0, none⟩ (.int .i64 (l0.length : Int))).setCell ⟨gb310, 1, none⟩ (.int .i64 a1)).setCell ⟨gb310, 2, none⟩ (.int .i64 a2)).setCell ⟨gb310, 3, none⟩ (.int .i64 t308)).setCell ⟨gb310, 4, none⟩ (.int .i64 t309)).setCell ⟨gb310, 5, none⟩ (.int .i64 0)).heap[gb307]? = some (.cells #[.int .i64 a3_0, .int .i64 a3_1, .int .i64 a3_2, .int .i64 a3_3] 84 (0, 0))) := ⟨by (with_reducible repeat (first | refine blk_drewN ?_ _ | refine blk_drew ?_ | refine blk_alloc ?_ _)); refine blk_far ?_ NB307_310.out _; (with_reducible repeat (first | refine blk_drewN ?_ _ | refine blk_drew ?_ | refine blk_alloc ?_ _)); refine blk_far ?_ NB307_310.out _; (with_reducible repeat (first | refine blk_drewN ?_ _ | refine blk_drew ?_ | refine blk_alloc ?_ _)); refine blk_far ?_ NB307_310.out _; (with_reducible repeat (first | refine blk_drewN ?_ _ | refine blk_drew ?_ | refine blk_alloc ?_ _)); refine blk_far ?_ NB307_310.out _; (with_reducible repeat (first | refine blk_drewN ?_ _ | refine blk_drew ?_ | refine blk_alloc ?_ _)); refine blk_far ?_ NB307_310.out _; (with_reducible repeat (first | refine blk_drewN ?_ _ | refine blk_drew ?_ | refine blk_alloc ?_ _)); refine blk_far ?_ NB307_310.out _; (with_reducible repeat (first | refine blk_drewN ?_ _ | refine blk_drew ?_ | refine blk_alloc ?_ _)); exact BK307.out⟩
     have n1_ : Aside0 (((((((w20.setCell ⟨gb310, 0, none⟩ (.int .i64 (l0.length : Int))).setCell ⟨gb310, 1, none⟩ (.int .i64 a1)).setCell ⟨gb310, 2, none⟩ (.int .i64 a2)).setCell ⟨gb310, 3, none⟩ (.int .i64 t308)).setCell ⟨gb310, 4, none⟩ (.int .i64 t309)).setCell ⟨gb310, 5, none⟩ (.int .i64 0)).heap[gb310]? = some (.cells #[.int .i64 (l0.length : Int), .int .i64 a1, .int .i64 a2, .int .i64 t308, .int .i64 t309, .int .i64 0] 86 (0, 0))) := ⟨by (with_reducible repeat (first | refine blk_drewN ?_ _ | refine blk_drew ?_ | refine blk_alloc ?_ _)); refine blk_put (cs := #[.int .i64 (l0.length : Int), .int .i64 a1, .int .i64 a2, .int .i64 t308, .int .i64 t309, .int .i64 0]) ?_ 5 _ rfl; (with_reducible repeat (first | refine blk_drewN ?_ _ | refine blk_drew ?_ | refine blk_alloc ?_ _)); refine blk_put (cs := #[.int .i64 (l0.length : Int), .int .i64 a1, .int .i64 a2, .int .i64 t308, .int .i64 0, .int .i64 0]) ?_ 4 _ rfl; (with_reducible repeat (first | refine blk_drewN ?_ _ | refine blk_drew ?_ | refine blk_alloc ?_ _)); refine blk_put (cs := #[.int .i64 (l0.length : Int), .int .i64 a1, .int .i64 a2, .int .i64 0, .int .i64 0, .int .i64 0]) ?_ 3 _ rfl; (with_reducible repeat (first | refine blk_drewN ?_ _ | refine blk_drew ?_ | refine blk_alloc ?_ _)); refine blk_put (cs := #[.int .i64 (l0.length : Int), .int .i64 a1, .int .i64 0, .int .i64 0, .int .i64 0, .int .i64 0]) ?_ 2 _ rfl; (with_reducible repeat (first | refine blk_drewN ?_ _ | refine blk_drew ?_ | refine blk_alloc ?_ _)); refine blk_put (cs := #[.int .i64 (l0.length : Int), .int .i64 0, .int .i64 0, .int .i64 0, .int .i64 0, .int .i64 0]) ?_ 1 _ rfl; (with_reducible repeat (first | refine blk_drewN ?_ _ | refine blk_drew ?_ | refine blk_alloc ?_ _)); refine blk_put (cs := #[.int .i64 0, .int .i64 0, .int .i64 0, .int .i64 0, .int .i64 0, .int .i64 0]) ?_ 0 _ rfl; (with_reducible repeat (first | refine blk_drewN ?_ _ | refine blk_drew ?_ | refine blk_alloc ?_ _)); exact BK310.out⟩
     have n2_ : Aside0 (Below w.heap.size w ((((((w20.setCell ⟨gb310, 0, none⟩ (.int .i64 (l0.length : Int))).setCell ⟨gb310, 1, none⟩ (.int .i64 a1)).setCell ⟨gb310, 2, none⟩ (.int .i64 a2)).setCell ⟨gb310, 3, none⟩ (.int .i64 t308)).setCell ⟨gb310, 4, none⟩ (.int .i64 t309)).setCell ⟨gb310, 5, none⟩ (.int .i64 0))) := ⟨Cmp.g HB.out⟩
     (try clear BK307); (try clear BK310); (try clear HB)
     generalize ((((((w20.setCell ⟨gb310, 0, none⟩ (.int .i64 (l0.length : Int))).setCell ⟨gb310, 1, none⟩ (.int .i64 a1)).setCell ⟨gb310, 2, none⟩ (.int .i64 a2)).setCell ⟨gb310, 3, none⟩ (.int .i64 t308)).setCell ⟨gb310, 4, none⟩ (.int .i64 t309)).setCell ⟨gb310, 5, none⟩ (.int .i64 0)) = w23 at n0_ n1_ n2_ ⊢
     have BK307 := n0_; have BK310 := n1_; have HB := n2_; clear n0_ n1_ n2_; have n0_ := Aside0.mk (blk_drew BK307.out); have n1_ := Aside0.mk (blk_drew BK310.out); have n2_ := Aside0.mk (below_drew1 HB.out); clear BK307; clear BK310; clear HB; have BK307 := n0_; have BK310 := n1_; have HB := n2_; clear n0_ n1_ n2_
     refine start_ (n := 7) (S := fun w' => w'.cell? ⟨gb307, 0, none⟩ = some (.int .i64 a3_0) ∧ w'.cell? ⟨gb307, 1, none⟩ = some (.int .i64 a3_1) ∧ w'.cell? ⟨gb307, 2, none⟩ = some (.int .i64 a3_2) ∧ w'.cell? ⟨gb307, 3, none⟩ = some (.int .i64 a3_3) ∧ w'.cell? ⟨gb310, 0, none⟩ = some (.int .i64 (l0.length : Int)) ∧ w'.cell? ⟨gb310, 1, none⟩ = some (.int .i64 a1) ∧ w'.cell? ⟨gb310, 2, none⟩ = some (.int .i64 a2) ∧ w'.cell? ⟨gb310, 3, none⟩ = some (.int .i64 t308) ∧ w'.cell? ⟨gb310, 4, none⟩ = some (.int .i64 t309) ∧ w'.cell? ⟨gb310, 5, none⟩ = some (.int .i64 0)) (ds := [6]) (Cmp.bm 0 7) (by kernel_rfl) rfl rfl ⟨(blk_cell BK307.out 0).trans rfl, (blk_cell BK307.out 1).trans rfl, (blk_cell BK307.out 2).trans rfl, (blk_cell BK307.out 3).trans rfl, (blk_cell BK310.out 0).trans rfl, (blk_cell BK310.out 1).trans rfl, (blk_cell BK310.out 2).trans rfl, (blk_cell BK310.out 3).trans rfl, (blk_cell BK310.out 4).trans rfl, (blk_cell BK310.out 5).trans rfl⟩ (fun hHeld => ?_)
     generalize w23.drew = w24 at BK307 BK310 HB hHeld ⊢
     refine take_ (i := 0) (N := some 21) (v := ?_) (a' := ?_) (Cmp.bm 1 6) rfl rfl (by kernel_rfl) (fun _ _ _ h => h) (Or.inl ⟨by rfl, ?_⟩) hHeld ?_ ?_
     rotate_left
     ·rintro w' ⟨s0, s1, s2, s3, s4, s5, s6, s7, s8, s9⟩; go_simp; with_reducible rfl
     rotate_left
     ·simp only [Act.put, Cmp.s, Cmp.z, Cmp.c, i64_w, i32_w]; rfl
     refine take_ (i := 1) (N := some 22) (v := ?_) (a' := ?_) (Cmp.bm 2 5) rfl rfl (by kernel_rfl) (fun _ _ _ h => h) (Or.inl ⟨by rfl, ?_⟩) hHeld ?_ ?_
     rotate_left
     ·rintro w' ⟨s0, s1, s2, s3, s4, s5, s6, s7, s8, s9⟩; go_simp; with_reducible rfl
     rotate_left
     ·simp only [Act.put, Cmp.s, Cmp.z, Cmp.c, i64_w, i32_w]; rfl
     refine one_ (i := 2) (N := some 23) (Cmp.bm 3 4) rfl rfl (by kernel_rfl) (by decide) (fun K hK => ?_)
     refine goes_ Try.func121 (by kernel_rfl) rfl #[.agg #[.int .i64 (l0.length : Int), .int .i64 a1, .int .i64 a2, .int .i64 t308, .int .i64 t309, .int .i64 0]] (by rfl) rfl rfl Cmp.q ?_
     with_reducible refine (spec_EntryHash.calls k (l0.length : Int) a1 a2 t308 t309 0 t311 _ A7.out).mono ?_
     rintro e w25 ⟨rfl, hb⟩; refine ⟨_, rfl, ?_⟩
     have n0_ := Aside0.mk (blk_below (Cmp.b BK307.out) hb)
     have n1_ := Aside0.mk (blk_below (Cmp.b BK310.out) hb)
     have n2_ := Aside0.mk (below_step (Cmp.g HB.out) hb)
     clear BK307; clear BK310; clear HB; have BK307 := n0_; have BK310 := n1_; have HB := n2_; clear n0_ n1_ n2_; (try clear hb); (try clear hb2); (try clear hk); (try clear hi)
     refine hK.out _ _ ⟨(blk_cell BK307.out 0).trans rfl, (blk_cell BK307.out 1).trans rfl, (blk_cell BK307.out 2).trans rfl, (blk_cell BK307.out 3).trans rfl, (blk_cell BK310.out 0).trans rfl, (blk_cell BK310.out 1).trans rfl, (blk_cell BK310.out 2).trans rfl, (blk_cell BK310.out 3).trans rfl, (blk_cell BK310.out 4).trans rfl, (blk_cell BK310.out 5).trans rfl⟩ (fun hHeld => ?_)
     clear hK K
     refine norm_ (a' := ?_) ?_ ?_
     rotate_left
     ·show Act.put _ (some 23) _ = _
      simp only [Act.put, Cmp.s, Cmp.z, Cmp.c, i64_w, i32_w]; rfl
     refine one_ (i := 3) (N := some 24) (Cmp.bm 4 3) rfl rfl (by kernel_rfl) (by decide) (fun K hK => ?_)
     refine Kd.R_lit_step (Kd.int .i64) _ 3 ?hg (N := 24) ?hd (xs := ([t311] : List Int)) (inner := [.int .i64 t311]) (ok := fun _ => True) (okp := fun _ => True) ?hr ?hp (fun _ hk => hk) trivial (Below.refl _ _) (Nat.le_refl _) (by simp) ?_; (case hd => rfl); (case hg => rfl); (case hr => first | (go_simp; done) | (go_simp; rfl)); (case hp => exact (Reps.one (show Kd.M (Kd.int .i64) _ _ _ t311 [.int .i64 t311] from rfl) (Reps.none _ _)))
     intro v313 w26 ho27 hb hg_ hnew_
     clear hg_ hnew_
     (first | rw [← Ny312.out] at ho27 | (simp only [Int.reduceToNat] at ho27; rw [← Ny312.out] at ho27))
     have n0_ := Aside0.mk (Kd.R_lower ho27 (below_size (Cmp.g HB.out)))
     have n1_ := Aside0.mk (blk_below (Cmp.b BK307.out) hb)
     have n2_ := Aside0.mk (blk_below (Cmp.b BK310.out) hb)
     have n3_ := Aside0.mk (below_step (Cmp.g HB.out) hb)
     clear BK307; clear BK310; clear HB; have HO314 := n0_; have BK307 := n1_; have BK310 := n2_; have HB := n3_; clear n0_ n1_ n2_ n3_; clear hb ho27
     obtain ⟨Ao28, co28, eo28⟩ := Kd.R_slice HO314.out
     (first | subst eo28 | (injection eo28 with f1_ f2_ f3_; have f4_ := f1_.symm; have f5_ := f3_.symm; clear f1_ f2_ f3_; subst f4_; subst f5_))
     refine hK.out _ _ ⟨(blk_cell BK307.out 0).trans rfl, (blk_cell BK307.out 1).trans rfl, (blk_cell BK307.out 2).trans rfl, (blk_cell BK307.out 3).trans rfl, (blk_cell BK310.out 0).trans rfl, (blk_cell BK310.out 1).trans rfl, (blk_cell BK310.out 2).trans rfl, (blk_cell BK310.out 3).trans rfl, (blk_cell BK310.out 4).trans rfl, (blk_cell BK310.out 5).trans rfl⟩ (fun hHeld => ?_)
     clear hK K
     refine norm_ (a' := ?_) ?_ ?_
     rotate_left
     ·show Act.put _ (some 24) _ = _
      simp only [Act.put, Cmp.s, Cmp.z, Cmp.c, i64_w, i32_w]; rfl
     refine one_ (i := 4) (N := some 25) (Cmp.bm 5 2) rfl rfl (by kernel_rfl) (by decide) (fun K hK => ?_)
     refine goes_ Try.func161 (by kernel_rfl) rfl #[.agg #[.int .i64 a3_0, .int .i64 a3_1, .int .i64 a3_2, .int .i64 a3_3], .slice Ao28 y312.length co28] (by rfl) rfl rfl Cmp.q ?_
     with_reducible refine (spec_SignAsDevice.calls k a3_0 a3_1 a3_2 a3_3 _ _ y312 t315 _ ?side1 ?side2 A8.out).mono ?_
     (case side1 => exact Cmp.rc (Kd.R_reads' HO314.out).2.2)
     (case side2 => exact (Kd.R_reads' HO314.out).2.1)
     rintro e w29 ⟨rfl, hb⟩; refine ⟨_, rfl, ?_⟩
     have n0_ := Aside0.mk (Kd.R_below (Cmp.rr HO314.out) hb)
     have n1_ := Aside0.mk (blk_below (Cmp.b BK307.out) hb)
     have n2_ := Aside0.mk (blk_below (Cmp.b BK310.out) hb)
     have n3_ := Aside0.mk (below_step (Cmp.g HB.out) hb)
     clear HO314; clear BK307; clear BK310; clear HB; have HO314 := n0_; have BK307 := n1_; have BK310 := n2_; have HB := n3_; clear n0_ n1_ n2_ n3_; (try clear hb); (try clear hb2); (try clear hk); (try clear hi)
     refine hK.out _ _ ⟨(blk_cell BK307.out 0).trans rfl, (blk_cell BK307.out 1).trans rfl, (blk_cell BK307.out 2).trans rfl, (blk_cell BK307.out 3).trans rfl, (blk_cell BK310.out 0).trans rfl, (blk_cell BK310.out 1).trans rfl, (blk_cell BK310.out 2).trans rfl, (blk_cell BK310.out 3).trans rfl, (blk_cell BK310.out 4).trans rfl, (blk_cell BK310.out 5).trans rfl⟩ (fun hHeld => ?_)
     clear hK K
     refine norm_ (a' := ?_) ?_ ?_
     rotate_left
     ·show Act.put _ (some 25) _ = _
      simp only [Act.put, Cmp.s, Cmp.z, Cmp.c, i64_w, i32_w]; rfl
     refine pure_ (i := 5) (N := some 26) (v := ?_) (a' := ?_) (Cmp.bm 6 1) rfl rfl (by kernel_rfl) (fun _ _ _ h => h) (Or.inl ⟨by rfl, ?_⟩) ?_ ?_
     rotate_left
     ·intro w'; go_simp; with_reducible rfl
     rotate_left
     ·simp only [Act.put, Cmp.s, Cmp.z, Cmp.c, i64_w, i32_w]; rfl
     refine last_ (i := 6) (N := none) (Cmp.bm 7 0) rfl rfl (by kernel_rfl) (by decide) (fun K hK => ?_)
     have hs30 : w29.cell? ⟨gb310, 5, none⟩ = some (.int .i64 0) := (blk_cell BK310.out 5).trans rfl
     have hfs30 := blk_frozen BK310.out 5; have hns30_0 := NB307_310.out; have hms30_0 := NB310_307.out
     refine skip_ (w1 := ?_) (by rfl) rfl ?_ ?_
     rotate_left
     ·go_simp; rfl
     refine hK.out _ _ ?_
     clear hK K
     refine done_ (by kernel_rfl) ?_
     try go_wp2
     have n0_ : Aside0 (Kd.R (Kd.int .i64) 3 (w29.setCell ⟨gb310, 5, none⟩ (.int .i64 t315)) w.heap.size (fun _ => True) (.slice Ao28 y312.length co28) y312) := ⟨by (with_reducible repeat (first | apply Kd.R_alloc | apply Kd.R_drewN | apply Kd.R_drew)); exact Kd.R_mono (Kd.R_far (p := ⟨gb310, 5, none⟩) (Kd.R_types HO314.out BK310.out (by decide)) (fun _ hk => hk.2) (.int .i64 t315)) (fun _ hk => trivial)⟩
     have n1_ : Aside0 ((w29.setCell ⟨gb310, 5, none⟩ (.int .i64 t315)).heap[gb307]? = some (.cells #[.int .i64 a3_0, .int .i64 a3_1, .int .i64 a3_2, .int .i64 a3_3] 84 (0, 0))) := ⟨by (with_reducible repeat (first | refine blk_drewN ?_ _ | refine blk_drew ?_ | refine blk_alloc ?_ _)); refine blk_far ?_ NB307_310.out _; (with_reducible repeat (first | refine blk_drewN ?_ _ | refine blk_drew ?_ | refine blk_alloc ?_ _)); exact BK307.out⟩
     have n2_ : Aside0 ((w29.setCell ⟨gb310, 5, none⟩ (.int .i64 t315)).heap[gb310]? = some (.cells #[.int .i64 (l0.length : Int), .int .i64 a1, .int .i64 a2, .int .i64 t308, .int .i64 t309, .int .i64 t315] 86 (0, 0))) := ⟨by (with_reducible repeat (first | refine blk_drewN ?_ _ | refine blk_drew ?_ | refine blk_alloc ?_ _)); refine blk_put (cs := #[.int .i64 (l0.length : Int), .int .i64 a1, .int .i64 a2, .int .i64 t308, .int .i64 t309, .int .i64 0]) ?_ 5 _ rfl; (with_reducible repeat (first | refine blk_drewN ?_ _ | refine blk_drew ?_ | refine blk_alloc ?_ _)); exact BK310.out⟩
     have n3_ : Aside0 (Below w.heap.size w (w29.setCell ⟨gb310, 5, none⟩ (.int .i64 t315))) := ⟨Cmp.g HB.out⟩
     (try clear HO314); (try clear BK307); (try clear BK310); (try clear HB)
     generalize (w29.setCell ⟨gb310, 5, none⟩ (.int .i64 t315)) = w31 at n0_ n1_ n2_ n3_ ⊢
     have HO314 := n0_; have BK307 := n1_; have BK310 := n2_; have HB := n3_; clear n0_ n1_ n2_ n3_; have n0_ := Aside0.mk (Kd.R_drew HO314.out); have n1_ := Aside0.mk (blk_drew BK307.out); have n2_ := Aside0.mk (blk_drew BK310.out); have n3_ := Aside0.mk (below_drew1 HB.out); clear HO314; clear BK307; clear BK310; clear HB; have HO314 := n0_; have BK307 := n1_; have BK310 := n2_; have HB := n3_; clear n0_ n1_ n2_ n3_
     refine start_ (n := 6) (S := fun w' => w'.cell? ⟨gb310, 0, none⟩ = some (.int .i64 (l0.length : Int)) ∧ w'.cell? ⟨gb310, 1, none⟩ = some (.int .i64 a1) ∧ w'.cell? ⟨gb310, 2, none⟩ = some (.int .i64 a2) ∧ w'.cell? ⟨gb310, 3, none⟩ = some (.int .i64 t308) ∧ w'.cell? ⟨gb310, 4, none⟩ = some (.int .i64 t309) ∧ w'.cell? ⟨gb310, 5, none⟩ = some (.int .i64 t315)) (ds := []) (Cmp.bm 0 6) (by kernel_rfl) rfl rfl ⟨(blk_cell BK310.out 0).trans rfl, (blk_cell BK310.out 1).trans rfl, (blk_cell BK310.out 2).trans rfl, (blk_cell BK310.out 3).trans rfl, (blk_cell BK310.out 4).trans rfl, (blk_cell BK310.out 5).trans rfl⟩ (fun hHeld => ?_)
     generalize w31.drew = w32 at HO314 BK307 BK310 HB hHeld ⊢
     refine pure_ (i := 0) (N := some 27) (v := ?_) (a' := ?_) (Cmp.bm 1 5) rfl rfl (by kernel_rfl) (fun _ _ _ h => h) (Or.inl ⟨by rfl, ?_⟩) ?_ ?_
     rotate_left
     ·intro w'; go_simp; with_reducible rfl
     rotate_left
     ·simp only [Act.put, Cmp.s, Cmp.z, Cmp.c, i64_w, i32_w]; rfl
     refine take_ (i := 2) (N := some 29) (v := ?_) (a' := ?_) (Cmp.bb 6 5) rfl rfl (by kernel_rfl) (fun _ _ _ h => h) (Or.inl ⟨by rfl, ?_⟩) hHeld ?_ ?_
     rotate_left
     ·rintro w' ⟨s0, s1, s2, s3, s4, s5⟩; go_simp; with_reducible rfl
     rotate_left
     ·simp only [Act.put, Cmp.s, Cmp.z, Cmp.c, i64_w, i32_w]; rfl
     refine join_ (σ := Value × Value) 2 (Cmp.bm 4 2) (fun s_ => [(28, s_.1), (30, s_.2)]) (fun s_ w' => (w'.cell? ⟨gb310, 0, none⟩ = some (.int .i64 (l0.length : Int)) ∧ w'.cell? ⟨gb310, 1, none⟩ = some (.int .i64 a1) ∧ w'.cell? ⟨gb310, 2, none⟩ = some (.int .i64 a2) ∧ w'.cell? ⟨gb310, 3, none⟩ = some (.int .i64 t308) ∧ w'.cell? ⟨gb310, 4, none⟩ = some (.int .i64 t309) ∧ w'.cell? ⟨gb310, 5, none⟩ = some (.int .i64 t315)) ∧ (Kd.R (Kd.int .i64) 3 w' w.heap.size (fun _ => True) (.slice Ao28 y312.length co28) y312) ∧ (Kd.R k86 86 w' w.heap.size (fun k_ => some k_ ≠ (s_.2 : Value).ownBlock ∧ k_ ≠ gb310) s_.1 t316) ∧ (Kd.R k86 86 w' w.heap.size (fun k_ => some k_ ≠ (s_.1 : Value).ownBlock ∧ k_ ≠ gb310) s_.2 y319) ∧ (w'.heap[gb307]? = some (.cells #[.int .i64 a3_0, .int .i64 a3_1, .int .i64 a3_2, .int .i64 a3_3] 84 (0, 0))) ∧ (w'.heap[gb310]? = some (.cells #[.int .i64 (l0.length : Int), .int .i64 a1, .int .i64 a2, .int .i64 t308, .int .i64 t309, .int .i64 t315] 86 (0, 0))) ∧ (Below w.heap.size w w')) ?_ ?_
     rotate_left
     ·intro hCont
      refine two_ (i := 1) (j := 3) (Ni := some 28) (Nj := some 30) (Cmp.bm 3 3) (Cmp.bb 6 13) rfl rfl rfl rfl (by kernel_rfl) (by decide) (by decide) (fun K hK => ?_) (fun K hK => ?_)
      ·skip
       refine goes_ Try.func162 (by kernel_rfl) rfl #[.slice A0 l0.length c0] (by rfl) rfl rfl Cmp.q ?_
       with_reducible refine (spec_l19Copy.calls _ _ l0 t316 _ ?side1 ?side2 A9.out).mono ?_
       (case side1 => exact Cmp.rc (Kd.C_below HR0.out HB.out))
       (case side2 => exact HC0.out)
       rintro e w33 ⟨v317, rfl, ho0, hb⟩; refine ⟨_, rfl, ?_⟩
       have n0_ := Aside0.mk (Kd.R_below (Cmp.rr HO314.out) hb)
       have n1_ := Aside0.mk (Kd.R_lower (Kd.R_newB ho0 (g := gb310) (o := .cells #[.int .i64 (l0.length : Int), .int .i64 a1, .int .i64 a2, .int .i64 t308, .int .i64 t309, .int .i64 t315] 86 (0, 0)) (Cmp.b BK310.out)) (below_size (Cmp.g HB.out)))
       have n2_ := Aside0.mk (blk_below (Cmp.b BK307.out) hb)
       have n3_ := Aside0.mk (blk_below (Cmp.b BK310.out) hb)
       have n4_ := Aside0.mk (below_step (Cmp.g HB.out) hb)
       clear HO314; clear BK307; clear BK310; clear HB; have HO314 := n0_; have HO318 := n1_; have BK307 := n2_; have BK310 := n3_; have HB := n4_; clear n0_ n1_ n2_ n3_ n4_; (try clear hb); (try clear hb2); (try clear hk); (try clear hi); (try clear ho0)
       refine hK.out _ _ ⟨(blk_cell BK310.out 0).trans rfl, (blk_cell BK310.out 1).trans rfl, (blk_cell BK310.out 2).trans rfl, (blk_cell BK310.out 3).trans rfl, (blk_cell BK310.out 4).trans rfl, (blk_cell BK310.out 5).trans rfl⟩ (fun hHeld => ?_)
       clear hK K
       refine norm_ (a' := ?_) ?_ ?_
       rotate_left
       ·show Act.put _ (some 28) _ = _
        simp only [Act.put, Cmp.s, Cmp.z, Cmp.c, i64_w, i32_w]; rfl
       refine one_ (i := 3) (N := some 30) (Cmp.bm 4 2) rfl rfl (by kernel_rfl) (by decide) (fun K hK => ?_)
       refine Kd.R_lit_step k86 _ 86 ?hg (N := 30) ?hd (xs := ([(⟨(l0.length : Int), a1, a2, t308, t309, t315⟩ : S86)] : List (S86))) (inner := [.int .i64 (l0.length : Int), .int .i64 a1, .int .i64 a2, .int .i64 t308, .int .i64 t309, .int .i64 t315]) (ok := fun _ => True) (okp := fun _ => True) ?hr ?hp (fun _ hk => hk) trivial (Below.refl _ _) (Nat.le_refl _) (by simp) ?_; (case hd => rfl); (case hg => rfl); (case hr => first | (go_simp; done) | (go_simp; rfl)); (case hp => exact (Reps.c6 (show Kd.M k86 _ _ _ (⟨(l0.length : Int), a1, a2, t308, t309, t315⟩ : S86) [.int .i64 (l0.length : Int), .int .i64 a1, .int .i64 a2, .int .i64 t308, .int .i64 t309, .int .i64 t315] from (k86_mkM _ _ _ (⟨(l0.length : Int), a1, a2, t308, t309, t315⟩ : S86) )) (Reps.none _ _)))
       intro v320 w34 ho35 hb hg_ hnew_
       clear hg_ hnew_
       (first | rw [← Ny319.out] at ho35 | (simp only [Int.reduceToNat] at ho35; rw [← Ny319.out] at ho35))
       have n0_ := Aside0.mk (Kd.R_below (Cmp.rr HO314.out) hb)
       have n1_ := Aside0.mk (Kd.R_elder' (Cmp.rr HO318.out) (Kd.R_base ho35) hb)
       have n2_ := Aside0.mk (Kd.R_lower (Kd.R_newB (Kd.R_new' ho35 (Kd.R_lt (Cmp.rr HO318.out))) (g := gb310) (o := .cells #[.int .i64 (l0.length : Int), .int .i64 a1, .int .i64 a2, .int .i64 t308, .int .i64 t309, .int .i64 t315] 86 (0, 0)) (Cmp.b BK310.out)) (below_size (Cmp.g HB.out)))
       have n3_ := Aside0.mk (blk_below (Cmp.b BK307.out) hb)
       have n4_ := Aside0.mk (blk_below (Cmp.b BK310.out) hb)
       have n5_ := Aside0.mk (below_step (Cmp.g HB.out) hb)
       clear HO314; clear HO318; clear BK307; clear BK310; clear HB; have HO314 := n0_; have HO318 := n1_; have HO321 := n2_; have BK307 := n3_; have BK310 := n4_; have HB := n5_; clear n0_ n1_ n2_ n3_ n4_ n5_; clear hb ho35
       refine hK.out _ _ ⟨(blk_cell BK310.out 0).trans rfl, (blk_cell BK310.out 1).trans rfl, (blk_cell BK310.out 2).trans rfl, (blk_cell BK310.out 3).trans rfl, (blk_cell BK310.out 4).trans rfl, (blk_cell BK310.out 5).trans rfl⟩ (fun hHeld => ?_)
       clear hK K
       refine norm_ (a' := ?_) ?_ ?_
       rotate_left
       ·show Act.put _ (some 30) _ = _
        simp only [Act.put, Cmp.s, Cmp.z, Cmp.c, i64_w, i32_w]; rfl
       exact norm_ (by simp only [putAll, Act.put, List.setIfInBounds_toArray, List.set_cons_zero, List.set_cons_succ]) (hCont (v317, v320) _ ⟨hHeld, (Cmp.rr HO314.out), (by (with_reducible repeat (first | apply Kd.R_alloc | apply Kd.R_drewN | apply Kd.R_drew)); exact Kd.R_mono HO318.out (fun _ hk => ⟨hk.2, hk.1.2⟩)), (by (with_reducible repeat (first | apply Kd.R_alloc | apply Kd.R_drewN | apply Kd.R_drew)); exact Kd.R_mono HO321.out (fun _ hk => ⟨hk.1.2, hk.2⟩)), (Cmp.b BK307.out), (Cmp.b BK310.out), (Cmp.g HB.out)⟩)
      ·skip
       refine Kd.R_lit_step k86 _ 86 ?hg (N := 30) ?hd (xs := ([(⟨(l0.length : Int), a1, a2, t308, t309, t315⟩ : S86)] : List (S86))) (inner := [.int .i64 (l0.length : Int), .int .i64 a1, .int .i64 a2, .int .i64 t308, .int .i64 t309, .int .i64 t315]) (ok := fun _ => True) (okp := fun _ => True) ?hr ?hp (fun _ hk => hk) trivial (Below.refl _ _) (Nat.le_refl _) (by simp) ?_; (case hd => rfl); (case hg => rfl); (case hr => first | (go_simp; done) | (go_simp; rfl)); (case hp => exact (Reps.c6 (show Kd.M k86 _ _ _ (⟨(l0.length : Int), a1, a2, t308, t309, t315⟩ : S86) [.int .i64 (l0.length : Int), .int .i64 a1, .int .i64 a2, .int .i64 t308, .int .i64 t309, .int .i64 t315] from (k86_mkM _ _ _ (⟨(l0.length : Int), a1, a2, t308, t309, t315⟩ : S86) )) (Reps.none _ _)))
       intro v320 w33 ho34 hb hg_ hnew_
       clear hg_ hnew_
       (first | rw [← Ny319.out] at ho34 | (simp only [Int.reduceToNat] at ho34; rw [← Ny319.out] at ho34))
       have n0_ := Aside0.mk (Kd.R_below (Cmp.rr HO314.out) hb)
       have n1_ := Aside0.mk (Kd.R_lower (Kd.R_newB ho34 (g := gb310) (o := .cells #[.int .i64 (l0.length : Int), .int .i64 a1, .int .i64 a2, .int .i64 t308, .int .i64 t309, .int .i64 t315] 86 (0, 0)) (Cmp.b BK310.out)) (below_size (Cmp.g HB.out)))
       have n2_ := Aside0.mk (blk_below (Cmp.b BK307.out) hb)
       have n3_ := Aside0.mk (blk_below (Cmp.b BK310.out) hb)
       have n4_ := Aside0.mk (below_step (Cmp.g HB.out) hb)
       clear HO314; clear BK307; clear BK310; clear HB; have HO314 := n0_; have HO321 := n1_; have BK307 := n2_; have BK310 := n3_; have HB := n4_; clear n0_ n1_ n2_ n3_ n4_; clear hb ho34
       refine hK.out _ _ ⟨(blk_cell BK310.out 0).trans rfl, (blk_cell BK310.out 1).trans rfl, (blk_cell BK310.out 2).trans rfl, (blk_cell BK310.out 3).trans rfl, (blk_cell BK310.out 4).trans rfl, (blk_cell BK310.out 5).trans rfl⟩ (fun hHeld => ?_)
       clear hK K
       refine norm_ (a' := ?_) ?_ ?_
       rotate_left
       ·show Act.put _ (some 30) _ = _
        simp only [Act.put, Cmp.s, Cmp.z, Cmp.c, i64_w, i32_w]; rfl
       refine one_ (i := 1) (N := some 28) (Cmp.bm 4 2) rfl rfl (by kernel_rfl) (by decide) (fun K hK => ?_)
       refine goes_ Try.func162 (by kernel_rfl) rfl #[.slice A0 l0.length c0] (by rfl) rfl rfl Cmp.q ?_
       with_reducible refine (spec_l19Copy.calls _ _ l0 t316 _ ?side1 ?side2 A9.out).mono ?_
       (case side1 => exact Cmp.rc (Kd.C_below HR0.out HB.out))
       (case side2 => exact HC0.out)
       rintro e w35 ⟨v317, rfl, ho0, hb⟩; refine ⟨_, rfl, ?_⟩
       have n0_ := Aside0.mk (Kd.R_below (Cmp.rr HO314.out) hb)
       have n1_ := Aside0.mk (Kd.R_elder' (Cmp.rr HO321.out) (Kd.R_base ho0) hb)
       have n2_ := Aside0.mk (Kd.R_lower (Kd.R_newB (Kd.R_new' ho0 (Kd.R_lt (Cmp.rr HO321.out))) (g := gb310) (o := .cells #[.int .i64 (l0.length : Int), .int .i64 a1, .int .i64 a2, .int .i64 t308, .int .i64 t309, .int .i64 t315] 86 (0, 0)) (Cmp.b BK310.out)) (below_size (Cmp.g HB.out)))
       have n3_ := Aside0.mk (blk_below (Cmp.b BK307.out) hb)
       have n4_ := Aside0.mk (blk_below (Cmp.b BK310.out) hb)
       have n5_ := Aside0.mk (below_step (Cmp.g HB.out) hb)
       clear HO314; clear HO321; clear BK307; clear BK310; clear HB; have HO314 := n0_; have HO321 := n1_; have HO318 := n2_; have BK307 := n3_; have BK310 := n4_; have HB := n5_; clear n0_ n1_ n2_ n3_ n4_ n5_; (try clear hb); (try clear hb2); (try clear hk); (try clear hi); (try clear ho0)
       refine hK.out _ _ ⟨(blk_cell BK310.out 0).trans rfl, (blk_cell BK310.out 1).trans rfl, (blk_cell BK310.out 2).trans rfl, (blk_cell BK310.out 3).trans rfl, (blk_cell BK310.out 4).trans rfl, (blk_cell BK310.out 5).trans rfl⟩ (fun hHeld => ?_)
       clear hK K
       refine norm_ (a' := ?_) ?_ ?_
       rotate_left
       ·show Act.put _ (some 28) _ = _
        simp only [Act.put, Cmp.s, Cmp.z, Cmp.c, i64_w, i32_w]; rfl
       exact norm_ (by simp only [putAll, Act.put, List.setIfInBounds_toArray, List.set_cons_zero, List.set_cons_succ]) (hCont (v317, v320) _ ⟨hHeld, (Cmp.rr HO314.out), (by (with_reducible repeat (first | apply Kd.R_alloc | apply Kd.R_drewN | apply Kd.R_drew)); exact Kd.R_mono HO318.out (fun _ hk => ⟨hk.1.2, hk.2⟩)), (by (with_reducible repeat (first | apply Kd.R_alloc | apply Kd.R_drewN | apply Kd.R_drew)); exact Kd.R_mono HO321.out (fun _ hk => ⟨hk.2, hk.1.2⟩)), (Cmp.b BK307.out), (Cmp.b BK310.out), (Cmp.g HB.out)⟩)
     rintro ⟨v317, v320⟩ w36 ⟨hS_, h0_, h1_, h2_, h3_, h4_, h5_⟩
     have n0_ : Aside0 (Kd.R (Kd.int .i64) 3 w36 w.heap.size (fun _ => True) (.slice Ao28 y312.length co28) y312) := ⟨h0_⟩
     have n1_ : Aside0 (Kd.R k86 86 w36 w.heap.size (fun k_ => some k_ ≠ (v320 : Value).ownBlock ∧ k_ ≠ gb310) v317 t316) := ⟨h1_⟩
     have n2_ : Aside0 (Kd.R k86 86 w36 w.heap.size (fun k_ => some k_ ≠ (v317 : Value).ownBlock ∧ k_ ≠ gb310) v320 y319) := ⟨h2_⟩
     have n3_ : Aside0 (w36.heap[gb307]? = some (.cells #[.int .i64 a3_0, .int .i64 a3_1, .int .i64 a3_2, .int .i64 a3_3] 84 (0, 0))) := ⟨h3_⟩
     have n4_ : Aside0 (w36.heap[gb310]? = some (.cells #[.int .i64 (l0.length : Int), .int .i64 a1, .int .i64 a2, .int .i64 t308, .int .i64 t309, .int .i64 t315] 86 (0, 0))) := ⟨h4_⟩
     have n5_ : Aside0 (Below w.heap.size w w36) := ⟨h5_⟩
     clear HO314; clear BK307; clear BK310; clear HB; clear h0_ h1_ h2_ h3_ h4_ h5_; have HO314 := n0_; have HO318 := n1_; have HO321 := n2_; have BK307 := n3_; have BK310 := n4_; have HB := n5_; clear n0_ n1_ n2_ n3_ n4_ n5_
     have hHeld : w36.cell? ⟨gb310, 0, none⟩ = some (.int .i64 (l0.length : Int)) ∧ w36.cell? ⟨gb310, 1, none⟩ = some (.int .i64 a1) ∧ w36.cell? ⟨gb310, 2, none⟩ = some (.int .i64 a2) ∧ w36.cell? ⟨gb310, 3, none⟩ = some (.int .i64 t308) ∧ w36.cell? ⟨gb310, 4, none⟩ = some (.int .i64 t309) ∧ w36.cell? ⟨gb310, 5, none⟩ = some (.int .i64 t315) := hS_
     obtain ⟨Ao38, co38, eo38⟩ := Kd.R_slice HO321.out
     (first | subst eo38 | (injection eo38 with f1_ f2_ f3_; have f4_ := f1_.symm; have f5_ := f3_.symm; clear f1_ f2_ f3_; subst f4_; subst f5_))
     refine norm_ (a' := ?_) ?_ ?_
     rotate_left
     ·simp only [putAll, Act.put, List.setIfInBounds_toArray, List.set_cons_zero, List.set_cons_succ]; rfl
     refine one_ (i := 4) (N := some 31) (Cmp.bm 5 1) rfl rfl (by kernel_rfl) (by decide) (fun K hK => ?_)
     refine Kd.R_append_rows_step k86 (w0 := w) w.heap.size (by rfl) (.tmp 28) (.tmp 30) 40 86 (.agg #[(.int .i64 0), (.int .i64 0), (.int .i64 0), (.int .i64 0), (.int .i64 0), (.int .i64 0)]) 48 rfl Try.underlying40 info86 rfl (by decide) (by omega) v317 t316 y319 _ _ _ (fun k_ => some k_ ≠ (.slice Ao38 y319.length co38 : Value).ownBlock ∧ k_ ≠ gb310) (fun _ => False) rfl rfl ?aO ?aR (fun _ _ h => h) (fun _ h => h.elim) ?aF ?aB ?aS ?aL ?_
     (case aR => repeat (first | exact (Kd.R_reads' HO321.out).2.2 | (with_reducible refine Kd.C_alloc ?_ _) | (with_reducible refine Kd.C_drewN ?_ _) | (with_reducible refine Kd.C_drew ?_)))
     (case aB => exact (Cmp.g HB.out))
     (case aF => exact (fun k_ hk => ⟨Kd.fresh' (Kd.R_lt (Cmp.rr HO321.out)) k_ hk, Kd.freshB (g := gb310) (o := .cells #[.int .i64 (l0.length : Int), .int .i64 a1, .int .i64 a2, .int .i64 t308, .int .i64 t309, .int .i64 t315] 86 (0, 0)) (Cmp.b BK310.out) k_ hk⟩))
     (case aO => exact (Cmp.rr HO318.out))
     (case aS => exact (below_size (Cmp.g HB.out)))
     (case aL => have := LMc10.out; omega)
     intro v323 w37 ho hb hg hat
     rw [← Ny322.out] at ho
     have n0_ := Aside0.mk (blk_grown (g := gb307) (o := .cells #[.int .i64 a3_0, .int .i64 a3_1, .int .i64 a3_2, .int .i64 a3_3] 84 (0, 0)) (Cmp.b BK307.out) hg (Kd.R_ne HO318.out BK307.out (by decide)))
     have n1_ := Aside0.mk (blk_grown (g := gb310) (o := .cells #[.int .i64 (l0.length : Int), .int .i64 a1, .int .i64 a2, .int .i64 t308, .int .i64 t309, .int .i64 t315] 86 (0, 0)) (Cmp.b BK310.out) hg (Kd.R_away HO318.out (fun _ hk => hk.2)))
     have n2_ := Aside0.mk (Kd.R_over' (Cmp.rr HO314.out) (Kd.R_typed (Cmp.rr HO318.out)) (by decide) hg)
     have n3_ := Aside0.mk (Kd.R_after (ok := (fun k_ => k_ ≠ gb310)) (by (with_reducible repeat (first | apply Kd.R_alloc | apply Kd.R_drewN | apply Kd.R_drew)); exact Kd.R_mono HO321.out (fun _ hk => ⟨hk.2, hk.1⟩)) hg hat)
     have n4_ := Aside0.mk (hb)
     have n5_ := Aside0.mk (ho)
     clear BK307; clear BK310; clear HO314; clear HO321; clear HB; clear HO318; have BK307 := n0_; have BK310 := n1_; have HO314 := n2_; have HO321 := n3_; have HB := n4_; have HO324 := n5_; clear n0_ n1_ n2_ n3_ n4_ n5_; clear ho hb hg hat
     refine hK.out _ _ ⟨(blk_cell BK310.out 0).trans rfl, (blk_cell BK310.out 1).trans rfl, (blk_cell BK310.out 2).trans rfl, (blk_cell BK310.out 3).trans rfl, (blk_cell BK310.out 4).trans rfl, (blk_cell BK310.out 5).trans rfl⟩ (fun hHeld => ?_)
     clear hK K
     refine norm_ (a' := ?_) ?_ ?_
     rotate_left
     ·show Act.put _ (some 31) _ = _
      simp only [Act.put, Cmp.s, Cmp.z, Cmp.c, i64_w, i32_w]; rfl
     refine pure_ (i := 5) (N := some 11) (v := ?_) (a' := ?_) (Cmp.bm 6 0) rfl rfl (by kernel_rfl) (fun _ _ _ h => h) (Or.inl ⟨by rfl, ?_⟩) ?_ ?_
     rotate_left
     ·intro w'; go_simp; with_reducible rfl
     rotate_left
     ·simp only [Act.put, Cmp.s, Cmp.z, Cmp.c, i64_w, i32_w]; rfl
     refine done_ (by kernel_rfl) ?_
     try go_wp2_with (first | (go_at_call 18; (with_reducible refine (spec_VerifyLog.calls k _ _ l0 true _ ?side1 ?side2 A12.out).mono ?_); (case side1 => exact Cmp.rc (Kd.C_below HR0.out HB.out)); (case side2 => exact HC0.out); rintro e w39 ⟨rfl, hb⟩; have n0_ := Aside0.mk (Kd.R_below (Cmp.rr HO314.out) hb); have n1_ := Aside0.mk (Kd.R_below (Cmp.rr HO321.out) hb); have n2_ := Aside0.mk (Kd.R_below (Cmp.rr HO324.out) hb); have n3_ := Aside0.mk (blk_below (Cmp.b BK307.out) hb); have n4_ := Aside0.mk (blk_below (Cmp.b BK310.out) hb); have n5_ := Aside0.mk (below_step (Cmp.g HB.out) hb); clear HO314; clear HO321; clear HO324; clear BK307; clear BK310; clear HB; have HO314 := n0_; have HO321 := n1_; have HO324 := n2_; have BK307 := n3_; have BK310 := n4_; have HB := n5_; clear n0_ n1_ n2_ n3_ n4_ n5_; (try clear hb); (try clear hb2); (try clear hk); (try clear hi); obtain ⟨Ao40, co40, eo40⟩ := Kd.R_slice HO324.out; subst eo40) | (go_at_call 18; (with_reducible refine (spec_VerifyLog.calls k _ _ y322 true _ ?side1 ?side2 A14.out).mono ?_); (case side1 => exact Cmp.rc (Kd.R_reads' HO324.out).2.2); (case side2 => exact (Kd.R_reads' HO324.out).2.1); rintro e w41 ⟨rfl, hb⟩; have n0_ := Aside0.mk (Kd.R_below (Cmp.rr HO314.out) hb); have n1_ := Aside0.mk (Kd.R_below (Cmp.rr HO321.out) hb); have n2_ := Aside0.mk (Kd.R_below (Cmp.rr HO324.out) hb); have n3_ := Aside0.mk (blk_below (Cmp.b BK307.out) hb); have n4_ := Aside0.mk (blk_below (Cmp.b BK310.out) hb); have n5_ := Aside0.mk (below_step (Cmp.g HB.out) hb); clear HO314; clear HO321; clear HO324; clear BK307; clear BK310; clear HB; have HO314 := n0_; have HO321 := n1_; have HO324 := n2_; have BK307 := n3_; have BK310 := n4_; have HB := n5_; clear n0_ n1_ n2_ n3_ n4_ n5_; (try clear hb); (try clear hb2); (try clear hk); (try clear hi)))
     go_ret2
     exact ⟨_, by first | rfl | (simp [errW_none, errW_some] <;> rfl) | (simp [*, errW_none, errW_some] <;> rfl), by (with_reducible repeat (first | apply Kd.R_alloc | apply Kd.R_drewN | apply Kd.R_drew)); exact Kd.R_mono HO324.out (fun _ hk => trivial), Cmp.g HB.out⟩
    ·replace c15 := Bool.eq_false_iff.mpr c15
     subst c15
     have H1 : ((spec_l19Copy.f l0).bind fun t327 => (some (t327, false))) = some (r1, r2) := by rw [if_neg (show ¬ (false = true) by decide)] at H; exact H
     clear H; have H := H1; clear H1; replace H := Option.bind_eq_some_iff.mp H; obtain ⟨t327, A420, H⟩ := H; (try dsimp only at H); have A42 := Aside0.mk A420; clear A420
     simp only [Option.some.injEq, Prod.mk.injEq] at H
     obtain ⟨rfl, rfl⟩ := H
     go_enter Try.func140, Try.ntmps140
     try go_wp2_with (first | ((with_reducible refine gate_dst (N := 7) rfl ?_); refine box_event ?hg (N := 7) ?hd (cs := #[.int .i64 a3_0, .int .i64 a3_1, .int .i64 a3_2, .int .i64 a3_3]) (t := 84) ?hr ?_; (case hd => rfl); (case hg => rfl); (case hr => first | (go_simp; done) | (go_simp; rfl)); intro gb307 hg w43 hbox hb; have n0_ := Aside0.mk (below_step (Cmp.g HB.out) hb); have n1_ := Aside0.mk (hbox); have n2_ := Aside0.mk ((by rw [hg]; exact (below_size (Cmp.g HB.out)) : w.heap.size ≤ gb307)); have n3_ := Aside0.mk ((by rw [hg]; exact (below_size (Cmp.g HB.out)) : w.heap.size ≤ gb307)); clear HB; have HB := n0_; have BK307 := n1_; have GW307 := n2_; have GE307 := n3_; clear n0_ n1_ n2_ n3_; clear hb hbox hg; have hcz44_0 : w43.cell? ⟨gb307, 0, none⟩ = some (.int .i64 a3_0) := (blk_cell BK307.out 0).trans rfl; have hcz44_1 : w43.cell? ⟨gb307, 1, none⟩ = some (.int .i64 a3_1) := (blk_cell BK307.out 1).trans rfl; have hcz44_2 : w43.cell? ⟨gb307, 2, none⟩ = some (.int .i64 a3_2) := (blk_cell BK307.out 2).trans rfl; have hcz44_3 : w43.cell? ⟨gb307, 3, none⟩ = some (.int .i64 a3_3) := (blk_cell BK307.out 3).trans rfl; have hfz44_0 := blk_frozen BK307.out 0; have hfz44_1 := blk_frozen BK307.out 1; have hfz44_2 := blk_frozen BK307.out 2; have hfz44_3 := blk_frozen BK307.out 3) | ((with_reducible refine gate_callee (f := 40) rfl ?_); refine goesL_ (some 17) rfl rfl Try.func40 (by kernel_rfl) rfl #[.agg #[.int .i64 a3_0, .int .i64 a3_1, .int .i64 a3_2, .int .i64 a3_3]] rfl Cmp.q ?_; (with_reducible refine (spec_DevicePublic.calls k a3_0 a3_1 a3_2 a3_3 t308 _ A5.out).mono ?_); rintro e w45 ⟨rfl, hb⟩; refine ⟨_, rfl, ?_⟩; have n0_ := Aside0.mk (blk_below (Cmp.b BK307.out) hb); have n1_ := Aside0.mk (below_step (Cmp.g HB.out) hb); clear BK307; clear HB; have BK307 := n0_; have HB := n1_; clear n0_ n1_; (try clear hb); (try clear hb2); (try clear hk); (try clear hi)) | ((with_reducible refine gate_callee (f := 119) rfl ?_); refine goesL_ (some 19) rfl rfl Try.func119 (by kernel_rfl) rfl #[.slice A0 l0.length c0] rfl Cmp.q ?_; (with_reducible refine (spec_LogHead.calls k _ _ l0 t309 _ ?side1 ?side2 A6.out).mono ?_); (case side1 => exact Cmp.rc (Kd.C_below HR0.out HB.out)); (case side2 => exact HC0.out); rintro e w46 ⟨rfl, hb⟩; refine ⟨_, rfl, ?_⟩; have n0_ := Aside0.mk (blk_below (Cmp.b BK307.out) hb); have n1_ := Aside0.mk (below_step (Cmp.g HB.out) hb); clear BK307; clear HB; have BK307 := n0_; have HB := n1_; clear n0_ n1_; (try clear hb); (try clear hb2); (try clear hk); (try clear hi)) | ((with_reducible refine gate_dst (N := 10) rfl ?_); refine box_event ?hg (N := 10) ?hd (cs := #[.int .i64 0, .int .i64 0, .int .i64 0, .int .i64 0, .int .i64 0, .int .i64 0]) (t := 86) ?hr ?_; (case hd => rfl); (case hg => rfl); (case hr => first | (go_simp; done) | (go_simp; rfl)); intro gb310 hg w47 hbox hb; have n0_ := Aside0.mk (blk_below (Cmp.b BK307.out) hb); have n1_ := Aside0.mk (below_step (Cmp.g HB.out) hb); have n2_ := Aside0.mk (hbox); have n3_ := Aside0.mk ((by rw [hg]; exact (below_size (Cmp.g HB.out)) : w.heap.size ≤ gb310)); have n4_ := Aside0.mk ((by rw [hg]; exact (below_size (Cmp.g HB.out)) : w.heap.size ≤ gb310)); have n5_ := Aside0.mk ((by rw [hg]; exact Nat.ne_of_lt (blk_lt (Cmp.b BK307.out)) : gb307 ≠ gb310)); have n6_ := Aside0.mk ((by rw [hg]; exact Nat.ne_of_gt (blk_lt (Cmp.b BK307.out)) : gb310 ≠ gb307)); clear BK307; clear HB; have BK307 := n0_; have HB := n1_; have BK310 := n2_; have GW310 := n3_; have GE310 := n4_; have NB307_310 := n5_; have NB310_307 := n6_; clear n0_ n1_ n2_ n3_ n4_ n5_ n6_; clear hb hbox hg; have hnb48 := NB310_307.out; have hnc48 := NB307_310.out; have hcz49_0 : w47.cell? ⟨gb310, 0, none⟩ = some (.int .i64 0) := (blk_cell BK310.out 0).trans rfl; have hcz49_1 : w47.cell? ⟨gb310, 1, none⟩ = some (.int .i64 0) := (blk_cell BK310.out 1).trans rfl; have hcz49_2 : w47.cell? ⟨gb310, 2, none⟩ = some (.int .i64 0) := (blk_cell BK310.out 2).trans rfl; have hcz49_3 : w47.cell? ⟨gb310, 3, none⟩ = some (.int .i64 0) := (blk_cell BK310.out 3).trans rfl; have hcz49_4 : w47.cell? ⟨gb310, 4, none⟩ = some (.int .i64 0) := (blk_cell BK310.out 4).trans rfl; have hcz49_5 : w47.cell? ⟨gb310, 5, none⟩ = some (.int .i64 0) := (blk_cell BK310.out 5).trans rfl; have hfz49_0 := blk_frozen BK310.out 0; have hfz49_1 := blk_frozen BK310.out 1; have hfz49_2 := blk_frozen BK310.out 2; have hfz49_3 := blk_frozen BK310.out 3; have hfz49_4 := blk_frozen BK310.out 4; have hfz49_5 := blk_frozen BK310.out 5))
     have n0_ : Aside0 (((((((w47.setCell ⟨gb310, 0, none⟩ (.int .i64 (l0.length : Int))).setCell ⟨gb310, 1, none⟩ (.int .i64 a1)).setCell ⟨gb310, 2, none⟩ (.int .i64 a2)).setCell ⟨gb310, 3, none⟩ (.int .i64 t308)).setCell ⟨gb310, 4, none⟩ (.int .i64 t309)).setCell ⟨gb310, 5, none⟩ (.int .i64 0)).heap[gb307]? = some (.cells #[.int .i64 a3_0, .int .i64 a3_1, .int .i64 a3_2, .int .i64 a3_3] 84 (0, 0))) := ⟨by (with_reducible repeat (first | refine blk_drewN ?_ _ | refine blk_drew ?_ | refine blk_alloc ?_ _)); refine blk_far ?_ NB307_310.out _; (with_reducible repeat (first | refine blk_drewN ?_ _ | refine blk_drew ?_ | refine blk_alloc ?_ _)); refine blk_far ?_ NB307_310.out _; (with_reducible repeat (first | refine blk_drewN ?_ _ | refine blk_drew ?_ | refine blk_alloc ?_ _)); refine blk_far ?_ NB307_310.out _; (with_reducible repeat (first | refine blk_drewN ?_ _ | refine blk_drew ?_ | refine blk_alloc ?_ _)); refine blk_far ?_ NB307_310.out _; (with_reducible repeat (first | refine blk_drewN ?_ _ | refine blk_drew ?_ | refine blk_alloc ?_ _)); refine blk_far ?_ NB307_310.out _; (with_reducible repeat (first | refine blk_drewN ?_ _ | refine blk_drew ?_ | refine blk_alloc ?_ _)); refine blk_far ?_ NB307_310.out _; (with_reducible repeat (first | refine blk_drewN ?_ _ | refine blk_drew ?_ | refine blk_alloc ?_ _)); exact BK307.out⟩
     have n1_ : Aside0 (((((((w47.setCell ⟨gb310, 0, none⟩ (.int .i64 (l0.length : Int))).setCell ⟨gb310, 1, none⟩ (.int .i64 a1)).setCell ⟨gb310, 2, none⟩ (.int .i64 a2)).setCell ⟨gb310, 3, none⟩ (.int .i64 t308)).setCell ⟨gb310, 4, none⟩ (.int .i64 t309)).setCell ⟨gb310, 5, none⟩ (.int .i64 0)).heap[gb310]? = some (.cells #[.int .i64 (l0.length : Int), .int .i64 a1, .int .i64 a2, .int .i64 t308, .int .i64 t309, .int .i64 0] 86 (0, 0))) := ⟨by (with_reducible repeat (first | refine blk_drewN ?_ _ | refine blk_drew ?_ | refine blk_alloc ?_ _)); refine blk_put (cs := #[.int .i64 (l0.length : Int), .int .i64 a1, .int .i64 a2, .int .i64 t308, .int .i64 t309, .int .i64 0]) ?_ 5 _ rfl; (with_reducible repeat (first | refine blk_drewN ?_ _ | refine blk_drew ?_ | refine blk_alloc ?_ _)); refine blk_put (cs := #[.int .i64 (l0.length : Int), .int .i64 a1, .int .i64 a2, .int .i64 t308, .int .i64 0, .int .i64 0]) ?_ 4 _ rfl; (with_reducible repeat (first | refine blk_drewN ?_ _ | refine blk_drew ?_ | refine blk_alloc ?_ _)); refine blk_put (cs := #[.int .i64 (l0.length : Int), .int .i64 a1, .int .i64 a2, .int .i64 0, .int .i64 0, .int .i64 0]) ?_ 3 _ rfl; (with_reducible repeat (first | refine blk_drewN ?_ _ | refine blk_drew ?_ | refine blk_alloc ?_ _)); refine blk_put (cs := #[.int .i64 (l0.length : Int), .int .i64 a1, .int .i64 0, .int .i64 0, .int .i64 0, .int .i64 0]) ?_ 2 _ rfl; (with_reducible repeat (first | refine blk_drewN ?_ _ | refine blk_drew ?_ | refine blk_alloc ?_ _)); refine blk_put (cs := #[.int .i64 (l0.length : Int), .int .i64 0, .int .i64 0, .int .i64 0, .int .i64 0, .int .i64 0]) ?_ 1 _ rfl; (with_reducible repeat (first | refine blk_drewN ?_ _ | refine blk_drew ?_ | refine blk_alloc ?_ _)); refine blk_put (cs := #[.int .i64 0, .int .i64 0, .int .i64 0, .int .i64 0, .int .i64 0, .int .i64 0]) ?_ 0 _ rfl; (with_reducible repeat (first | refine blk_drewN ?_ _ | refine blk_drew ?_ | refine blk_alloc ?_ _)); exact BK310.out⟩
     have n2_ : Aside0 (Below w.heap.size w ((((((w47.setCell ⟨gb310, 0, none⟩ (.int .i64 (l0.length : Int))).setCell ⟨gb310, 1, none⟩ (.int .i64 a1)).setCell ⟨gb310, 2, none⟩ (.int .i64 a2)).setCell ⟨gb310, 3, none⟩ (.int .i64 t308)).setCell ⟨gb310, 4, none⟩ (.int .i64 t309)).setCell ⟨gb310, 5, none⟩ (.int .i64 0))) := ⟨Cmp.g HB.out⟩
     (try clear BK307); (try clear BK310); (try clear HB)
     generalize ((((((w47.setCell ⟨gb310, 0, none⟩ (.int .i64 (l0.length : Int))).setCell ⟨gb310, 1, none⟩ (.int .i64 a1)).setCell ⟨gb310, 2, none⟩ (.int .i64 a2)).setCell ⟨gb310, 3, none⟩ (.int .i64 t308)).setCell ⟨gb310, 4, none⟩ (.int .i64 t309)).setCell ⟨gb310, 5, none⟩ (.int .i64 0)) = w50 at n0_ n1_ n2_ ⊢
     have BK307 := n0_; have BK310 := n1_; have HB := n2_; clear n0_ n1_ n2_; have n0_ := Aside0.mk (blk_drew BK307.out); have n1_ := Aside0.mk (blk_drew BK310.out); have n2_ := Aside0.mk (below_drew1 HB.out); clear BK307; clear BK310; clear HB; have BK307 := n0_; have BK310 := n1_; have HB := n2_; clear n0_ n1_ n2_
     refine start_ (n := 7) (S := fun w' => w'.cell? ⟨gb307, 0, none⟩ = some (.int .i64 a3_0) ∧ w'.cell? ⟨gb307, 1, none⟩ = some (.int .i64 a3_1) ∧ w'.cell? ⟨gb307, 2, none⟩ = some (.int .i64 a3_2) ∧ w'.cell? ⟨gb307, 3, none⟩ = some (.int .i64 a3_3) ∧ w'.cell? ⟨gb310, 0, none⟩ = some (.int .i64 (l0.length : Int)) ∧ w'.cell? ⟨gb310, 1, none⟩ = some (.int .i64 a1) ∧ w'.cell? ⟨gb310, 2, none⟩ = some (.int .i64 a2) ∧ w'.cell? ⟨gb310, 3, none⟩ = some (.int .i64 t308) ∧ w'.cell? ⟨gb310, 4, none⟩ = some (.int .i64 t309) ∧ w'.cell? ⟨gb310, 5, none⟩ = some (.int .i64 0)) (ds := [6]) (Cmp.bm 0 7) (by kernel_rfl) rfl rfl ⟨(blk_cell BK307.out 0).trans rfl, (blk_cell BK307.out 1).trans rfl, (blk_cell BK307.out 2).trans rfl, (blk_cell BK307.out 3).trans rfl, (blk_cell BK310.out 0).trans rfl, (blk_cell BK310.out 1).trans rfl, (blk_cell BK310.out 2).trans rfl, (blk_cell BK310.out 3).trans rfl, (blk_cell BK310.out 4).trans rfl, (blk_cell BK310.out 5).trans rfl⟩ (fun hHeld => ?_)
     generalize w50.drew = w51 at BK307 BK310 HB hHeld ⊢
     refine take_ (i := 0) (N := some 21) (v := ?_) (a' := ?_) (Cmp.bm 1 6) rfl rfl (by kernel_rfl) (fun _ _ _ h => h) (Or.inl ⟨by rfl, ?_⟩) hHeld ?_ ?_
     rotate_left
     ·rintro w' ⟨s0, s1, s2, s3, s4, s5, s6, s7, s8, s9⟩; go_simp; with_reducible rfl
     rotate_left
     ·simp only [Act.put, Cmp.s, Cmp.z, Cmp.c, i64_w, i32_w]; rfl
     refine take_ (i := 1) (N := some 22) (v := ?_) (a' := ?_) (Cmp.bm 2 5) rfl rfl (by kernel_rfl) (fun _ _ _ h => h) (Or.inl ⟨by rfl, ?_⟩) hHeld ?_ ?_
     rotate_left
     ·rintro w' ⟨s0, s1, s2, s3, s4, s5, s6, s7, s8, s9⟩; go_simp; with_reducible rfl
     rotate_left
     ·simp only [Act.put, Cmp.s, Cmp.z, Cmp.c, i64_w, i32_w]; rfl
     refine one_ (i := 2) (N := some 23) (Cmp.bm 3 4) rfl rfl (by kernel_rfl) (by decide) (fun K hK => ?_)
     refine goes_ Try.func121 (by kernel_rfl) rfl #[.agg #[.int .i64 (l0.length : Int), .int .i64 a1, .int .i64 a2, .int .i64 t308, .int .i64 t309, .int .i64 0]] (by rfl) rfl rfl Cmp.q ?_
     with_reducible refine (spec_EntryHash.calls k (l0.length : Int) a1 a2 t308 t309 0 t311 _ A7.out).mono ?_
     rintro e w52 ⟨rfl, hb⟩; refine ⟨_, rfl, ?_⟩
     have n0_ := Aside0.mk (blk_below (Cmp.b BK307.out) hb)
     have n1_ := Aside0.mk (blk_below (Cmp.b BK310.out) hb)
     have n2_ := Aside0.mk (below_step (Cmp.g HB.out) hb)
     clear BK307; clear BK310; clear HB; have BK307 := n0_; have BK310 := n1_; have HB := n2_; clear n0_ n1_ n2_; (try clear hb); (try clear hb2); (try clear hk); (try clear hi)
     refine hK.out _ _ ⟨(blk_cell BK307.out 0).trans rfl, (blk_cell BK307.out 1).trans rfl, (blk_cell BK307.out 2).trans rfl, (blk_cell BK307.out 3).trans rfl, (blk_cell BK310.out 0).trans rfl, (blk_cell BK310.out 1).trans rfl, (blk_cell BK310.out 2).trans rfl, (blk_cell BK310.out 3).trans rfl, (blk_cell BK310.out 4).trans rfl, (blk_cell BK310.out 5).trans rfl⟩ (fun hHeld => ?_)
     clear hK K
     refine norm_ (a' := ?_) ?_ ?_
     rotate_left
     ·show Act.put _ (some 23) _ = _
      simp only [Act.put, Cmp.s, Cmp.z, Cmp.c, i64_w, i32_w]; rfl
     refine one_ (i := 3) (N := some 24) (Cmp.bm 4 3) rfl rfl (by kernel_rfl) (by decide) (fun K hK => ?_)
     refine Kd.R_lit_step (Kd.int .i64) _ 3 ?hg (N := 24) ?hd (xs := ([t311] : List Int)) (inner := [.int .i64 t311]) (ok := fun _ => True) (okp := fun _ => True) ?hr ?hp (fun _ hk => hk) trivial (Below.refl _ _) (Nat.le_refl _) (by simp) ?_; (case hd => rfl); (case hg => rfl); (case hr => first | (go_simp; done) | (go_simp; rfl)); (case hp => exact (Reps.one (show Kd.M (Kd.int .i64) _ _ _ t311 [.int .i64 t311] from rfl) (Reps.none _ _)))
     intro v313 w53 ho54 hb hg_ hnew_
     clear hg_ hnew_
     (first | rw [← Ny312.out] at ho54 | (simp only [Int.reduceToNat] at ho54; rw [← Ny312.out] at ho54))
     have n0_ := Aside0.mk (Kd.R_lower ho54 (below_size (Cmp.g HB.out)))
     have n1_ := Aside0.mk (blk_below (Cmp.b BK307.out) hb)
     have n2_ := Aside0.mk (blk_below (Cmp.b BK310.out) hb)
     have n3_ := Aside0.mk (below_step (Cmp.g HB.out) hb)
     clear BK307; clear BK310; clear HB; have HO314 := n0_; have BK307 := n1_; have BK310 := n2_; have HB := n3_; clear n0_ n1_ n2_ n3_; clear hb ho54
     obtain ⟨Ao55, co55, eo55⟩ := Kd.R_slice HO314.out
     (first | subst eo55 | (injection eo55 with f1_ f2_ f3_; have f4_ := f1_.symm; have f5_ := f3_.symm; clear f1_ f2_ f3_; subst f4_; subst f5_))
     refine hK.out _ _ ⟨(blk_cell BK307.out 0).trans rfl, (blk_cell BK307.out 1).trans rfl, (blk_cell BK307.out 2).trans rfl, (blk_cell BK307.out 3).trans rfl, (blk_cell BK310.out 0).trans rfl, (blk_cell BK310.out 1).trans rfl, (blk_cell BK310.out 2).trans rfl, (blk_cell BK310.out 3).trans rfl, (blk_cell BK310.out 4).trans rfl, (blk_cell BK310.out 5).trans rfl⟩ (fun hHeld => ?_)
     clear hK K
     refine norm_ (a' := ?_) ?_ ?_
     rotate_left
     ·show Act.put _ (some 24) _ = _
      simp only [Act.put, Cmp.s, Cmp.z, Cmp.c, i64_w, i32_w]; rfl
     refine one_ (i := 4) (N := some 25) (Cmp.bm 5 2) rfl rfl (by kernel_rfl) (by decide) (fun K hK => ?_)
     refine goes_ Try.func161 (by kernel_rfl) rfl #[.agg #[.int .i64 a3_0, .int .i64 a3_1, .int .i64 a3_2, .int .i64 a3_3], .slice Ao55 y312.length co55] (by rfl) rfl rfl Cmp.q ?_
     with_reducible refine (spec_SignAsDevice.calls k a3_0 a3_1 a3_2 a3_3 _ _ y312 t315 _ ?side1 ?side2 A8.out).mono ?_
     (case side1 => exact Cmp.rc (Kd.R_reads' HO314.out).2.2)
     (case side2 => exact (Kd.R_reads' HO314.out).2.1)
     rintro e w56 ⟨rfl, hb⟩; refine ⟨_, rfl, ?_⟩
     have n0_ := Aside0.mk (Kd.R_below (Cmp.rr HO314.out) hb)
     have n1_ := Aside0.mk (blk_below (Cmp.b BK307.out) hb)
     have n2_ := Aside0.mk (blk_below (Cmp.b BK310.out) hb)
     have n3_ := Aside0.mk (below_step (Cmp.g HB.out) hb)
     clear HO314; clear BK307; clear BK310; clear HB; have HO314 := n0_; have BK307 := n1_; have BK310 := n2_; have HB := n3_; clear n0_ n1_ n2_ n3_; (try clear hb); (try clear hb2); (try clear hk); (try clear hi)
     refine hK.out _ _ ⟨(blk_cell BK307.out 0).trans rfl, (blk_cell BK307.out 1).trans rfl, (blk_cell BK307.out 2).trans rfl, (blk_cell BK307.out 3).trans rfl, (blk_cell BK310.out 0).trans rfl, (blk_cell BK310.out 1).trans rfl, (blk_cell BK310.out 2).trans rfl, (blk_cell BK310.out 3).trans rfl, (blk_cell BK310.out 4).trans rfl, (blk_cell BK310.out 5).trans rfl⟩ (fun hHeld => ?_)
     clear hK K
     refine norm_ (a' := ?_) ?_ ?_
     rotate_left
     ·show Act.put _ (some 25) _ = _
      simp only [Act.put, Cmp.s, Cmp.z, Cmp.c, i64_w, i32_w]; rfl
     refine pure_ (i := 5) (N := some 26) (v := ?_) (a' := ?_) (Cmp.bm 6 1) rfl rfl (by kernel_rfl) (fun _ _ _ h => h) (Or.inl ⟨by rfl, ?_⟩) ?_ ?_
     rotate_left
     ·intro w'; go_simp; with_reducible rfl
     rotate_left
     ·simp only [Act.put, Cmp.s, Cmp.z, Cmp.c, i64_w, i32_w]; rfl
     refine last_ (i := 6) (N := none) (Cmp.bm 7 0) rfl rfl (by kernel_rfl) (by decide) (fun K hK => ?_)
     have hs57 : w56.cell? ⟨gb310, 5, none⟩ = some (.int .i64 0) := (blk_cell BK310.out 5).trans rfl
     have hfs57 := blk_frozen BK310.out 5; have hns57_0 := NB307_310.out; have hms57_0 := NB310_307.out
     refine skip_ (w1 := ?_) (by rfl) rfl ?_ ?_
     rotate_left
     ·go_simp; rfl
     refine hK.out _ _ ?_
     clear hK K
     refine done_ (by kernel_rfl) ?_
     try go_wp2
     have n0_ : Aside0 (Kd.R (Kd.int .i64) 3 (w56.setCell ⟨gb310, 5, none⟩ (.int .i64 t315)) w.heap.size (fun _ => True) (.slice Ao55 y312.length co55) y312) := ⟨by (with_reducible repeat (first | apply Kd.R_alloc | apply Kd.R_drewN | apply Kd.R_drew)); exact Kd.R_mono (Kd.R_far (p := ⟨gb310, 5, none⟩) (Kd.R_types HO314.out BK310.out (by decide)) (fun _ hk => hk.2) (.int .i64 t315)) (fun _ hk => trivial)⟩
     have n1_ : Aside0 ((w56.setCell ⟨gb310, 5, none⟩ (.int .i64 t315)).heap[gb307]? = some (.cells #[.int .i64 a3_0, .int .i64 a3_1, .int .i64 a3_2, .int .i64 a3_3] 84 (0, 0))) := ⟨by (with_reducible repeat (first | refine blk_drewN ?_ _ | refine blk_drew ?_ | refine blk_alloc ?_ _)); refine blk_far ?_ NB307_310.out _; (with_reducible repeat (first | refine blk_drewN ?_ _ | refine blk_drew ?_ | refine blk_alloc ?_ _)); exact BK307.out⟩
     have n2_ : Aside0 ((w56.setCell ⟨gb310, 5, none⟩ (.int .i64 t315)).heap[gb310]? = some (.cells #[.int .i64 (l0.length : Int), .int .i64 a1, .int .i64 a2, .int .i64 t308, .int .i64 t309, .int .i64 t315] 86 (0, 0))) := ⟨by (with_reducible repeat (first | refine blk_drewN ?_ _ | refine blk_drew ?_ | refine blk_alloc ?_ _)); refine blk_put (cs := #[.int .i64 (l0.length : Int), .int .i64 a1, .int .i64 a2, .int .i64 t308, .int .i64 t309, .int .i64 0]) ?_ 5 _ rfl; (with_reducible repeat (first | refine blk_drewN ?_ _ | refine blk_drew ?_ | refine blk_alloc ?_ _)); exact BK310.out⟩
     have n3_ : Aside0 (Below w.heap.size w (w56.setCell ⟨gb310, 5, none⟩ (.int .i64 t315))) := ⟨Cmp.g HB.out⟩
     (try clear HO314); (try clear BK307); (try clear BK310); (try clear HB)
     generalize (w56.setCell ⟨gb310, 5, none⟩ (.int .i64 t315)) = w58 at n0_ n1_ n2_ n3_ ⊢
     have HO314 := n0_; have BK307 := n1_; have BK310 := n2_; have HB := n3_; clear n0_ n1_ n2_ n3_; have n0_ := Aside0.mk (Kd.R_drew HO314.out); have n1_ := Aside0.mk (blk_drew BK307.out); have n2_ := Aside0.mk (blk_drew BK310.out); have n3_ := Aside0.mk (below_drew1 HB.out); clear HO314; clear BK307; clear BK310; clear HB; have HO314 := n0_; have BK307 := n1_; have BK310 := n2_; have HB := n3_; clear n0_ n1_ n2_ n3_
     refine start_ (n := 6) (S := fun w' => w'.cell? ⟨gb310, 0, none⟩ = some (.int .i64 (l0.length : Int)) ∧ w'.cell? ⟨gb310, 1, none⟩ = some (.int .i64 a1) ∧ w'.cell? ⟨gb310, 2, none⟩ = some (.int .i64 a2) ∧ w'.cell? ⟨gb310, 3, none⟩ = some (.int .i64 t308) ∧ w'.cell? ⟨gb310, 4, none⟩ = some (.int .i64 t309) ∧ w'.cell? ⟨gb310, 5, none⟩ = some (.int .i64 t315)) (ds := []) (Cmp.bm 0 6) (by kernel_rfl) rfl rfl ⟨(blk_cell BK310.out 0).trans rfl, (blk_cell BK310.out 1).trans rfl, (blk_cell BK310.out 2).trans rfl, (blk_cell BK310.out 3).trans rfl, (blk_cell BK310.out 4).trans rfl, (blk_cell BK310.out 5).trans rfl⟩ (fun hHeld => ?_)
     generalize w58.drew = w59 at HO314 BK307 BK310 HB hHeld ⊢
     refine pure_ (i := 0) (N := some 27) (v := ?_) (a' := ?_) (Cmp.bm 1 5) rfl rfl (by kernel_rfl) (fun _ _ _ h => h) (Or.inl ⟨by rfl, ?_⟩) ?_ ?_
     rotate_left
     ·intro w'; go_simp; with_reducible rfl
     rotate_left
     ·simp only [Act.put, Cmp.s, Cmp.z, Cmp.c, i64_w, i32_w]; rfl
     refine take_ (i := 2) (N := some 29) (v := ?_) (a' := ?_) (Cmp.bb 6 5) rfl rfl (by kernel_rfl) (fun _ _ _ h => h) (Or.inl ⟨by rfl, ?_⟩) hHeld ?_ ?_
     rotate_left
     ·rintro w' ⟨s0, s1, s2, s3, s4, s5⟩; go_simp; with_reducible rfl
     rotate_left
     ·simp only [Act.put, Cmp.s, Cmp.z, Cmp.c, i64_w, i32_w]; rfl
     refine join_ (σ := Value × Value) 2 (Cmp.bm 4 2) (fun s_ => [(28, s_.1), (30, s_.2)]) (fun s_ w' => (w'.cell? ⟨gb310, 0, none⟩ = some (.int .i64 (l0.length : Int)) ∧ w'.cell? ⟨gb310, 1, none⟩ = some (.int .i64 a1) ∧ w'.cell? ⟨gb310, 2, none⟩ = some (.int .i64 a2) ∧ w'.cell? ⟨gb310, 3, none⟩ = some (.int .i64 t308) ∧ w'.cell? ⟨gb310, 4, none⟩ = some (.int .i64 t309) ∧ w'.cell? ⟨gb310, 5, none⟩ = some (.int .i64 t315)) ∧ (Kd.R (Kd.int .i64) 3 w' w.heap.size (fun _ => True) (.slice Ao55 y312.length co55) y312) ∧ (Kd.R k86 86 w' w.heap.size (fun k_ => some k_ ≠ (s_.2 : Value).ownBlock ∧ k_ ≠ gb310) s_.1 t316) ∧ (Kd.R k86 86 w' w.heap.size (fun k_ => some k_ ≠ (s_.1 : Value).ownBlock ∧ k_ ≠ gb310) s_.2 y319) ∧ (w'.heap[gb307]? = some (.cells #[.int .i64 a3_0, .int .i64 a3_1, .int .i64 a3_2, .int .i64 a3_3] 84 (0, 0))) ∧ (w'.heap[gb310]? = some (.cells #[.int .i64 (l0.length : Int), .int .i64 a1, .int .i64 a2, .int .i64 t308, .int .i64 t309, .int .i64 t315] 86 (0, 0))) ∧ (Below w.heap.size w w')) ?_ ?_
     rotate_left
     ·intro hCont
      refine two_ (i := 1) (j := 3) (Ni := some 28) (Nj := some 30) (Cmp.bm 3 3) (Cmp.bb 6 13) rfl rfl rfl rfl (by kernel_rfl) (by decide) (by decide) (fun K hK => ?_) (fun K hK => ?_)
      ·skip
       refine goes_ Try.func162 (by kernel_rfl) rfl #[.slice A0 l0.length c0] (by rfl) rfl rfl Cmp.q ?_
       with_reducible refine (spec_l19Copy.calls _ _ l0 t316 _ ?side1 ?side2 A9.out).mono ?_
       (case side1 => exact Cmp.rc (Kd.C_below HR0.out HB.out))
       (case side2 => exact HC0.out)
       rintro e w60 ⟨v317, rfl, ho0, hb⟩; refine ⟨_, rfl, ?_⟩
       have n0_ := Aside0.mk (Kd.R_below (Cmp.rr HO314.out) hb)
       have n1_ := Aside0.mk (Kd.R_lower (Kd.R_newB ho0 (g := gb310) (o := .cells #[.int .i64 (l0.length : Int), .int .i64 a1, .int .i64 a2, .int .i64 t308, .int .i64 t309, .int .i64 t315] 86 (0, 0)) (Cmp.b BK310.out)) (below_size (Cmp.g HB.out)))
       have n2_ := Aside0.mk (blk_below (Cmp.b BK307.out) hb)
       have n3_ := Aside0.mk (blk_below (Cmp.b BK310.out) hb)
       have n4_ := Aside0.mk (below_step (Cmp.g HB.out) hb)
       clear HO314; clear BK307; clear BK310; clear HB; have HO314 := n0_; have HO318 := n1_; have BK307 := n2_; have BK310 := n3_; have HB := n4_; clear n0_ n1_ n2_ n3_ n4_; (try clear hb); (try clear hb2); (try clear hk); (try clear hi); (try clear ho0)
       refine hK.out _ _ ⟨(blk_cell BK310.out 0).trans rfl, (blk_cell BK310.out 1).trans rfl, (blk_cell BK310.out 2).trans rfl, (blk_cell BK310.out 3).trans rfl, (blk_cell BK310.out 4).trans rfl, (blk_cell BK310.out 5).trans rfl⟩ (fun hHeld => ?_)
       clear hK K
       refine norm_ (a' := ?_) ?_ ?_
       rotate_left
       ·show Act.put _ (some 28) _ = _
        simp only [Act.put, Cmp.s, Cmp.z, Cmp.c, i64_w, i32_w]; rfl
       refine one_ (i := 3) (N := some 30) (Cmp.bm 4 2) rfl rfl (by kernel_rfl) (by decide) (fun K hK => ?_)
       refine Kd.R_lit_step k86 _ 86 ?hg (N := 30) ?hd (xs := ([(⟨(l0.length : Int), a1, a2, t308, t309, t315⟩ : S86)] : List (S86))) (inner := [.int .i64 (l0.length : Int), .int .i64 a1, .int .i64 a2, .int .i64 t308, .int .i64 t309, .int .i64 t315]) (ok := fun _ => True) (okp := fun _ => True) ?hr ?hp (fun _ hk => hk) trivial (Below.refl _ _) (Nat.le_refl _) (by simp) ?_; (case hd => rfl); (case hg => rfl); (case hr => first | (go_simp; done) | (go_simp; rfl)); (case hp => exact (Reps.c6 (show Kd.M k86 _ _ _ (⟨(l0.length : Int), a1, a2, t308, t309, t315⟩ : S86) [.int .i64 (l0.length : Int), .int .i64 a1, .int .i64 a2, .int .i64 t308, .int .i64 t309, .int .i64 t315] from (k86_mkM _ _ _ (⟨(l0.length : Int), a1, a2, t308, t309, t315⟩ : S86) )) (Reps.none _ _)))
       intro v320 w61 ho62 hb hg_ hnew_
       clear hg_ hnew_
       (first | rw [← Ny319.out] at ho62 | (simp only [Int.reduceToNat] at ho62; rw [← Ny319.out] at ho62))
       have n0_ := Aside0.mk (Kd.R_below (Cmp.rr HO314.out) hb)
       have n1_ := Aside0.mk (Kd.R_elder' (Cmp.rr HO318.out) (Kd.R_base ho62) hb)
       have n2_ := Aside0.mk (Kd.R_lower (Kd.R_newB (Kd.R_new' ho62 (Kd.R_lt (Cmp.rr HO318.out))) (g := gb310) (o := .cells #[.int .i64 (l0.length : Int), .int .i64 a1, .int .i64 a2, .int .i64 t308, .int .i64 t309, .int .i64 t315] 86 (0, 0)) (Cmp.b BK310.out)) (below_size (Cmp.g HB.out)))
       have n3_ := Aside0.mk (blk_below (Cmp.b BK307.out) hb)
       have n4_ := Aside0.mk (blk_below (Cmp.b BK310.out) hb)
       have n5_ := Aside0.mk (below_step (Cmp.g HB.out) hb)
       clear HO314; clear HO318; clear BK307; clear BK310; clear HB; have HO314 := n0_; have HO318 := n1_; have HO321 := n2_; have BK307 := n3_; have BK310 := n4_; have HB := n5_; clear n0_ n1_ n2_ n3_ n4_ n5_; clear hb ho62
       refine hK.out _ _ ⟨(blk_cell BK310.out 0).trans rfl, (blk_cell BK310.out 1).trans rfl, (blk_cell BK310.out 2).trans rfl, (blk_cell BK310.out 3).trans rfl, (blk_cell BK310.out 4).trans rfl, (blk_cell BK310.out 5).trans rfl⟩ (fun hHeld => ?_)
       clear hK K
       refine norm_ (a' := ?_) ?_ ?_
       rotate_left
       ·show Act.put _ (some 30) _ = _
        simp only [Act.put, Cmp.s, Cmp.z, Cmp.c, i64_w, i32_w]; rfl
       exact norm_ (by simp only [putAll, Act.put, List.setIfInBounds_toArray, List.set_cons_zero, List.set_cons_succ]) (hCont (v317, v320) _ ⟨hHeld, (Cmp.rr HO314.out), (by (with_reducible repeat (first | apply Kd.R_alloc | apply Kd.R_drewN | apply Kd.R_drew)); exact Kd.R_mono HO318.out (fun _ hk => ⟨hk.2, hk.1.2⟩)), (by (with_reducible repeat (first | apply Kd.R_alloc | apply Kd.R_drewN | apply Kd.R_drew)); exact Kd.R_mono HO321.out (fun _ hk => ⟨hk.1.2, hk.2⟩)), (Cmp.b BK307.out), (Cmp.b BK310.out), (Cmp.g HB.out)⟩)
      ·skip
       refine Kd.R_lit_step k86 _ 86 ?hg (N := 30) ?hd (xs := ([(⟨(l0.length : Int), a1, a2, t308, t309, t315⟩ : S86)] : List (S86))) (inner := [.int .i64 (l0.length : Int), .int .i64 a1, .int .i64 a2, .int .i64 t308, .int .i64 t309, .int .i64 t315]) (ok := fun _ => True) (okp := fun _ => True) ?hr ?hp (fun _ hk => hk) trivial (Below.refl _ _) (Nat.le_refl _) (by simp) ?_; (case hd => rfl); (case hg => rfl); (case hr => first | (go_simp; done) | (go_simp; rfl)); (case hp => exact (Reps.c6 (show Kd.M k86 _ _ _ (⟨(l0.length : Int), a1, a2, t308, t309, t315⟩ : S86) [.int .i64 (l0.length : Int), .int .i64 a1, .int .i64 a2, .int .i64 t308, .int .i64 t309, .int .i64 t315] from (k86_mkM _ _ _ (⟨(l0.length : Int), a1, a2, t308, t309, t315⟩ : S86) )) (Reps.none _ _)))
       intro v320 w60 ho61 hb hg_ hnew_
       clear hg_ hnew_
       (first | rw [← Ny319.out] at ho61 | (simp only [Int.reduceToNat] at ho61; rw [← Ny319.out] at ho61))
       have n0_ := Aside0.mk (Kd.R_below (Cmp.rr HO314.out) hb)
       have n1_ := Aside0.mk (Kd.R_lower (Kd.R_newB ho61 (g := gb310) (o := .cells #[.int .i64 (l0.length : Int), .int .i64 a1, .int .i64 a2, .int .i64 t308, .int .i64 t309, .int .i64 t315] 86 (0, 0)) (Cmp.b BK310.out)) (below_size (Cmp.g HB.out)))
       have n2_ := Aside0.mk (blk_below (Cmp.b BK307.out) hb)
       have n3_ := Aside0.mk (blk_below (Cmp.b BK310.out) hb)
       have n4_ := Aside0.mk (below_step (Cmp.g HB.out) hb)
       clear HO314; clear BK307; clear BK310; clear HB; have HO314 := n0_; have HO321 := n1_; have BK307 := n2_; have BK310 := n3_; have HB := n4_; clear n0_ n1_ n2_ n3_ n4_; clear hb ho61
       refine hK.out _ _ ⟨(blk_cell BK310.out 0).trans rfl, (blk_cell BK310.out 1).trans rfl, (blk_cell BK310.out 2).trans rfl, (blk_cell BK310.out 3).trans rfl, (blk_cell BK310.out 4).trans rfl, (blk_cell BK310.out 5).trans rfl⟩ (fun hHeld => ?_)
       clear hK K
       refine norm_ (a' := ?_) ?_ ?_
       rotate_left
       ·show Act.put _ (some 30) _ = _
        simp only [Act.put, Cmp.s, Cmp.z, Cmp.c, i64_w, i32_w]; rfl
       refine one_ (i := 1) (N := some 28) (Cmp.bm 4 2) rfl rfl (by kernel_rfl) (by decide) (fun K hK => ?_)
       refine goes_ Try.func162 (by kernel_rfl) rfl #[.slice A0 l0.length c0] (by rfl) rfl rfl Cmp.q ?_
       with_reducible refine (spec_l19Copy.calls _ _ l0 t316 _ ?side1 ?side2 A9.out).mono ?_
       (case side1 => exact Cmp.rc (Kd.C_below HR0.out HB.out))
       (case side2 => exact HC0.out)
       rintro e w62 ⟨v317, rfl, ho0, hb⟩; refine ⟨_, rfl, ?_⟩
       have n0_ := Aside0.mk (Kd.R_below (Cmp.rr HO314.out) hb)
       have n1_ := Aside0.mk (Kd.R_elder' (Cmp.rr HO321.out) (Kd.R_base ho0) hb)
       have n2_ := Aside0.mk (Kd.R_lower (Kd.R_newB (Kd.R_new' ho0 (Kd.R_lt (Cmp.rr HO321.out))) (g := gb310) (o := .cells #[.int .i64 (l0.length : Int), .int .i64 a1, .int .i64 a2, .int .i64 t308, .int .i64 t309, .int .i64 t315] 86 (0, 0)) (Cmp.b BK310.out)) (below_size (Cmp.g HB.out)))
       have n3_ := Aside0.mk (blk_below (Cmp.b BK307.out) hb)
       have n4_ := Aside0.mk (blk_below (Cmp.b BK310.out) hb)
       have n5_ := Aside0.mk (below_step (Cmp.g HB.out) hb)
       clear HO314; clear HO321; clear BK307; clear BK310; clear HB; have HO314 := n0_; have HO321 := n1_; have HO318 := n2_; have BK307 := n3_; have BK310 := n4_; have HB := n5_; clear n0_ n1_ n2_ n3_ n4_ n5_; (try clear hb); (try clear hb2); (try clear hk); (try clear hi); (try clear ho0)
       refine hK.out _ _ ⟨(blk_cell BK310.out 0).trans rfl, (blk_cell BK310.out 1).trans rfl, (blk_cell BK310.out 2).trans rfl, (blk_cell BK310.out 3).trans rfl, (blk_cell BK310.out 4).trans rfl, (blk_cell BK310.out 5).trans rfl⟩ (fun hHeld => ?_)
       clear hK K
       refine norm_ (a' := ?_) ?_ ?_
       rotate_left
       ·show Act.put _ (some 28) _ = _
        simp only [Act.put, Cmp.s, Cmp.z, Cmp.c, i64_w, i32_w]; rfl
       exact norm_ (by simp only [putAll, Act.put, List.setIfInBounds_toArray, List.set_cons_zero, List.set_cons_succ]) (hCont (v317, v320) _ ⟨hHeld, (Cmp.rr HO314.out), (by (with_reducible repeat (first | apply Kd.R_alloc | apply Kd.R_drewN | apply Kd.R_drew)); exact Kd.R_mono HO318.out (fun _ hk => ⟨hk.1.2, hk.2⟩)), (by (with_reducible repeat (first | apply Kd.R_alloc | apply Kd.R_drewN | apply Kd.R_drew)); exact Kd.R_mono HO321.out (fun _ hk => ⟨hk.2, hk.1.2⟩)), (Cmp.b BK307.out), (Cmp.b BK310.out), (Cmp.g HB.out)⟩)
     rintro ⟨v317, v320⟩ w63 ⟨hS_, h0_, h1_, h2_, h3_, h4_, h5_⟩
     have n0_ : Aside0 (Kd.R (Kd.int .i64) 3 w63 w.heap.size (fun _ => True) (.slice Ao55 y312.length co55) y312) := ⟨h0_⟩
     have n1_ : Aside0 (Kd.R k86 86 w63 w.heap.size (fun k_ => some k_ ≠ (v320 : Value).ownBlock ∧ k_ ≠ gb310) v317 t316) := ⟨h1_⟩
     have n2_ : Aside0 (Kd.R k86 86 w63 w.heap.size (fun k_ => some k_ ≠ (v317 : Value).ownBlock ∧ k_ ≠ gb310) v320 y319) := ⟨h2_⟩
     have n3_ : Aside0 (w63.heap[gb307]? = some (.cells #[.int .i64 a3_0, .int .i64 a3_1, .int .i64 a3_2, .int .i64 a3_3] 84 (0, 0))) := ⟨h3_⟩
     have n4_ : Aside0 (w63.heap[gb310]? = some (.cells #[.int .i64 (l0.length : Int), .int .i64 a1, .int .i64 a2, .int .i64 t308, .int .i64 t309, .int .i64 t315] 86 (0, 0))) := ⟨h4_⟩
     have n5_ : Aside0 (Below w.heap.size w w63) := ⟨h5_⟩
     clear HO314; clear BK307; clear BK310; clear HB; clear h0_ h1_ h2_ h3_ h4_ h5_; have HO314 := n0_; have HO318 := n1_; have HO321 := n2_; have BK307 := n3_; have BK310 := n4_; have HB := n5_; clear n0_ n1_ n2_ n3_ n4_ n5_
     have hHeld : w63.cell? ⟨gb310, 0, none⟩ = some (.int .i64 (l0.length : Int)) ∧ w63.cell? ⟨gb310, 1, none⟩ = some (.int .i64 a1) ∧ w63.cell? ⟨gb310, 2, none⟩ = some (.int .i64 a2) ∧ w63.cell? ⟨gb310, 3, none⟩ = some (.int .i64 t308) ∧ w63.cell? ⟨gb310, 4, none⟩ = some (.int .i64 t309) ∧ w63.cell? ⟨gb310, 5, none⟩ = some (.int .i64 t315) := hS_
     obtain ⟨Ao65, co65, eo65⟩ := Kd.R_slice HO321.out
     (first | subst eo65 | (injection eo65 with f1_ f2_ f3_; have f4_ := f1_.symm; have f5_ := f3_.symm; clear f1_ f2_ f3_; subst f4_; subst f5_))
     refine norm_ (a' := ?_) ?_ ?_
     rotate_left
     ·simp only [putAll, Act.put, List.setIfInBounds_toArray, List.set_cons_zero, List.set_cons_succ]; rfl
     refine one_ (i := 4) (N := some 31) (Cmp.bm 5 1) rfl rfl (by kernel_rfl) (by decide) (fun K hK => ?_)
     refine Kd.R_append_rows_step k86 (w0 := w) w.heap.size (by rfl) (.tmp 28) (.tmp 30) 40 86 (.agg #[(.int .i64 0), (.int .i64 0), (.int .i64 0), (.int .i64 0), (.int .i64 0), (.int .i64 0)]) 48 rfl Try.underlying40 info86 rfl (by decide) (by omega) v317 t316 y319 _ _ _ (fun k_ => some k_ ≠ (.slice Ao65 y319.length co65 : Value).ownBlock ∧ k_ ≠ gb310) (fun _ => False) rfl rfl ?aO ?aR (fun _ _ h => h) (fun _ h => h.elim) ?aF ?aB ?aS ?aL ?_
     (case aR => repeat (first | exact (Kd.R_reads' HO321.out).2.2 | (with_reducible refine Kd.C_alloc ?_ _) | (with_reducible refine Kd.C_drewN ?_ _) | (with_reducible refine Kd.C_drew ?_)))
     (case aB => exact (Cmp.g HB.out))
     (case aF => exact (fun k_ hk => ⟨Kd.fresh' (Kd.R_lt (Cmp.rr HO321.out)) k_ hk, Kd.freshB (g := gb310) (o := .cells #[.int .i64 (l0.length : Int), .int .i64 a1, .int .i64 a2, .int .i64 t308, .int .i64 t309, .int .i64 t315] 86 (0, 0)) (Cmp.b BK310.out) k_ hk⟩))
     (case aO => exact (Cmp.rr HO318.out))
     (case aS => exact (below_size (Cmp.g HB.out)))
     (case aL => have := LMc10.out; omega)
     intro v323 w64 ho hb hg hat
     rw [← Ny322.out] at ho
     have n0_ := Aside0.mk (blk_grown (g := gb307) (o := .cells #[.int .i64 a3_0, .int .i64 a3_1, .int .i64 a3_2, .int .i64 a3_3] 84 (0, 0)) (Cmp.b BK307.out) hg (Kd.R_ne HO318.out BK307.out (by decide)))
     have n1_ := Aside0.mk (blk_grown (g := gb310) (o := .cells #[.int .i64 (l0.length : Int), .int .i64 a1, .int .i64 a2, .int .i64 t308, .int .i64 t309, .int .i64 t315] 86 (0, 0)) (Cmp.b BK310.out) hg (Kd.R_away HO318.out (fun _ hk => hk.2)))
     have n2_ := Aside0.mk (Kd.R_over' (Cmp.rr HO314.out) (Kd.R_typed (Cmp.rr HO318.out)) (by decide) hg)
     have n3_ := Aside0.mk (Kd.R_after (ok := (fun k_ => k_ ≠ gb310)) (by (with_reducible repeat (first | apply Kd.R_alloc | apply Kd.R_drewN | apply Kd.R_drew)); exact Kd.R_mono HO321.out (fun _ hk => ⟨hk.2, hk.1⟩)) hg hat)
     have n4_ := Aside0.mk (hb)
     have n5_ := Aside0.mk (ho)
     clear BK307; clear BK310; clear HO314; clear HO321; clear HB; clear HO318; have BK307 := n0_; have BK310 := n1_; have HO314 := n2_; have HO321 := n3_; have HB := n4_; have HO324 := n5_; clear n0_ n1_ n2_ n3_ n4_ n5_; clear ho hb hg hat
     refine hK.out _ _ ⟨(blk_cell BK310.out 0).trans rfl, (blk_cell BK310.out 1).trans rfl, (blk_cell BK310.out 2).trans rfl, (blk_cell BK310.out 3).trans rfl, (blk_cell BK310.out 4).trans rfl, (blk_cell BK310.out 5).trans rfl⟩ (fun hHeld => ?_)
     clear hK K
     refine norm_ (a' := ?_) ?_ ?_
     rotate_left
     ·show Act.put _ (some 31) _ = _
      simp only [Act.put, Cmp.s, Cmp.z, Cmp.c, i64_w, i32_w]; rfl
     refine pure_ (i := 5) (N := some 11) (v := ?_) (a' := ?_) (Cmp.bm 6 0) rfl rfl (by kernel_rfl) (fun _ _ _ h => h) (Or.inl ⟨by rfl, ?_⟩) ?_ ?_
     rotate_left
     ·intro w'; go_simp; with_reducible rfl
     rotate_left
     ·simp only [Act.put, Cmp.s, Cmp.z, Cmp.c, i64_w, i32_w]; rfl
     refine done_ (by kernel_rfl) ?_
     try go_wp2_with (first | (go_at_call 18; (with_reducible refine (spec_VerifyLog.calls k _ _ l0 true _ ?side1 ?side2 A12.out).mono ?_); (case side1 => exact Cmp.rc (Kd.C_below HR0.out HB.out)); (case side2 => exact HC0.out); rintro e w66 ⟨rfl, hb⟩; have n0_ := Aside0.mk (Kd.R_below (Cmp.rr HO314.out) hb); have n1_ := Aside0.mk (Kd.R_below (Cmp.rr HO321.out) hb); have n2_ := Aside0.mk (Kd.R_below (Cmp.rr HO324.out) hb); have n3_ := Aside0.mk (blk_below (Cmp.b BK307.out) hb); have n4_ := Aside0.mk (blk_below (Cmp.b BK310.out) hb); have n5_ := Aside0.mk (below_step (Cmp.g HB.out) hb); clear HO314; clear HO321; clear HO324; clear BK307; clear BK310; clear HB; have HO314 := n0_; have HO321 := n1_; have HO324 := n2_; have BK307 := n3_; have BK310 := n4_; have HB := n5_; clear n0_ n1_ n2_ n3_ n4_ n5_; (try clear hb); (try clear hb2); (try clear hk); (try clear hi); obtain ⟨Ao67, co67, eo67⟩ := Kd.R_slice HO324.out; subst eo67) | (go_at_call 18; (with_reducible refine (spec_VerifyLog.calls k _ _ y322 false _ ?side1 ?side2 A14.out).mono ?_); (case side1 => exact Cmp.rc (Kd.R_reads' HO324.out).2.2); (case side2 => exact (Kd.R_reads' HO324.out).2.1); rintro e w68 ⟨rfl, hb⟩; have n0_ := Aside0.mk (Kd.R_below (Cmp.rr HO314.out) hb); have n1_ := Aside0.mk (Kd.R_below (Cmp.rr HO321.out) hb); have n2_ := Aside0.mk (Kd.R_below (Cmp.rr HO324.out) hb); have n3_ := Aside0.mk (blk_below (Cmp.b BK307.out) hb); have n4_ := Aside0.mk (blk_below (Cmp.b BK310.out) hb); have n5_ := Aside0.mk (below_step (Cmp.g HB.out) hb); clear HO314; clear HO321; clear HO324; clear BK307; clear BK310; clear HB; have HO314 := n0_; have HO321 := n1_; have HO324 := n2_; have BK307 := n3_; have BK310 := n4_; have HB := n5_; clear n0_ n1_ n2_ n3_ n4_ n5_; (try clear hb); (try clear hb2); (try clear hk); (try clear hi)) | ((with_reducible refine gate_callee (f := 162) rfl ?_); refine goesL_ (some 46) rfl rfl Try.func162 (by kernel_rfl) rfl #[.slice A0 l0.length c0] rfl Cmp.q ?_; (with_reducible refine (spec_l19Copy.calls _ _ l0 t327 _ ?side1 ?side2 A42.out).mono ?_); (case side1 => exact Cmp.rc (Kd.C_below HR0.out HB.out)); (case side2 => exact HC0.out); rintro e w69 ⟨v328, rfl, ho0, hb⟩; refine ⟨_, rfl, ?_⟩; have n0_ := Aside0.mk (Kd.R_below (Cmp.rr HO314.out) hb); have n1_ := Aside0.mk (Kd.R_elder' (Cmp.rr HO321.out) (Kd.R_base ho0) hb); have n2_ := Aside0.mk (Kd.R_elder' (Cmp.rr HO324.out) (Kd.R_base ho0) hb); have n3_ := Aside0.mk (Kd.R_lower (Kd.R_newB (Kd.R_new' (Kd.R_new' ho0 (Kd.R_lt (Cmp.rr HO321.out))) (Kd.R_lt (Cmp.rr HO324.out))) (g := gb310) (o := .cells #[.int .i64 (l0.length : Int), .int .i64 a1, .int .i64 a2, .int .i64 t308, .int .i64 t309, .int .i64 t315] 86 (0, 0)) (Cmp.b BK310.out)) (below_size (Cmp.g HB.out))); have n4_ := Aside0.mk (blk_below (Cmp.b BK307.out) hb); have n5_ := Aside0.mk (blk_below (Cmp.b BK310.out) hb); have n6_ := Aside0.mk (below_step (Cmp.g HB.out) hb); clear HO314; clear HO321; clear HO324; clear BK307; clear BK310; clear HB; have HO314 := n0_; have HO321 := n1_; have HO324 := n2_; have HO329 := n3_; have BK307 := n4_; have BK310 := n5_; have HB := n6_; clear n0_ n1_ n2_ n3_ n4_ n5_ n6_; (try clear hb); (try clear hb2); (try clear hk); (try clear hi); (try clear ho0)))
     go_ret2
     exact ⟨_, by first | rfl | (simp [errW_none, errW_some] <;> rfl) | (simp [*, errW_none, errW_some] <;> rfl), by (with_reducible repeat (first | apply Kd.R_alloc | apply Kd.R_drewN | apply Kd.R_drew)); exact Kd.R_mono HO329.out (fun _ hk => trivial), Cmp.g HB.out⟩
   ·replace c13 := Bool.eq_false_iff.mpr c13
    subst c13
    have H1 : ((spec_l19Copy.f l0).bind fun t330 => (some (t330, false))) = some (r1, r2) := by rw [if_neg (show ¬ (false = true) by decide)] at H; exact H
    clear H; have H := H1; clear H1; replace H := Option.bind_eq_some_iff.mp H; obtain ⟨t330, A700, H⟩ := H; (try dsimp only at H); have A70 := Aside0.mk A700; clear A700
    simp only [Option.some.injEq, Prod.mk.injEq] at H
    obtain ⟨rfl, rfl⟩ := H
    go_enter Try.func140, Try.ntmps140
    try go_wp2_with (first | ((with_reducible refine gate_dst (N := 7) rfl ?_); refine box_event ?hg (N := 7) ?hd (cs := #[.int .i64 a3_0, .int .i64 a3_1, .int .i64 a3_2, .int .i64 a3_3]) (t := 84) ?hr ?_; (case hd => rfl); (case hg => rfl); (case hr => first | (go_simp; done) | (go_simp; rfl)); intro gb307 hg w71 hbox hb; have n0_ := Aside0.mk (below_step (Cmp.g HB.out) hb); have n1_ := Aside0.mk (hbox); have n2_ := Aside0.mk ((by rw [hg]; exact (below_size (Cmp.g HB.out)) : w.heap.size ≤ gb307)); have n3_ := Aside0.mk ((by rw [hg]; exact (below_size (Cmp.g HB.out)) : w.heap.size ≤ gb307)); clear HB; have HB := n0_; have BK307 := n1_; have GW307 := n2_; have GE307 := n3_; clear n0_ n1_ n2_ n3_; clear hb hbox hg; have hcz72_0 : w71.cell? ⟨gb307, 0, none⟩ = some (.int .i64 a3_0) := (blk_cell BK307.out 0).trans rfl; have hcz72_1 : w71.cell? ⟨gb307, 1, none⟩ = some (.int .i64 a3_1) := (blk_cell BK307.out 1).trans rfl; have hcz72_2 : w71.cell? ⟨gb307, 2, none⟩ = some (.int .i64 a3_2) := (blk_cell BK307.out 2).trans rfl; have hcz72_3 : w71.cell? ⟨gb307, 3, none⟩ = some (.int .i64 a3_3) := (blk_cell BK307.out 3).trans rfl; have hfz72_0 := blk_frozen BK307.out 0; have hfz72_1 := blk_frozen BK307.out 1; have hfz72_2 := blk_frozen BK307.out 2; have hfz72_3 := blk_frozen BK307.out 3) | ((with_reducible refine gate_callee (f := 40) rfl ?_); refine goesL_ (some 17) rfl rfl Try.func40 (by kernel_rfl) rfl #[.agg #[.int .i64 a3_0, .int .i64 a3_1, .int .i64 a3_2, .int .i64 a3_3]] rfl Cmp.q ?_; (with_reducible refine (spec_DevicePublic.calls k a3_0 a3_1 a3_2 a3_3 t308 _ A5.out).mono ?_); rintro e w73 ⟨rfl, hb⟩; refine ⟨_, rfl, ?_⟩; have n0_ := Aside0.mk (blk_below (Cmp.b BK307.out) hb); have n1_ := Aside0.mk (below_step (Cmp.g HB.out) hb); clear BK307; clear HB; have BK307 := n0_; have HB := n1_; clear n0_ n1_; (try clear hb); (try clear hb2); (try clear hk); (try clear hi)) | ((with_reducible refine gate_callee (f := 119) rfl ?_); refine goesL_ (some 19) rfl rfl Try.func119 (by kernel_rfl) rfl #[.slice A0 l0.length c0] rfl Cmp.q ?_; (with_reducible refine (spec_LogHead.calls k _ _ l0 t309 _ ?side1 ?side2 A6.out).mono ?_); (case side1 => exact Cmp.rc (Kd.C_below HR0.out HB.out)); (case side2 => exact HC0.out); rintro e w74 ⟨rfl, hb⟩; refine ⟨_, rfl, ?_⟩; have n0_ := Aside0.mk (blk_below (Cmp.b BK307.out) hb); have n1_ := Aside0.mk (below_step (Cmp.g HB.out) hb); clear BK307; clear HB; have BK307 := n0_; have HB := n1_; clear n0_ n1_; (try clear hb); (try clear hb2); (try clear hk); (try clear hi)) | ((with_reducible refine gate_dst (N := 10) rfl ?_); refine box_event ?hg (N := 10) ?hd (cs := #[.int .i64 0, .int .i64 0, .int .i64 0, .int .i64 0, .int .i64 0, .int .i64 0]) (t := 86) ?hr ?_; (case hd => rfl); (case hg => rfl); (case hr => first | (go_simp; done) | (go_simp; rfl)); intro gb310 hg w75 hbox hb; have n0_ := Aside0.mk (blk_below (Cmp.b BK307.out) hb); have n1_ := Aside0.mk (below_step (Cmp.g HB.out) hb); have n2_ := Aside0.mk (hbox); have n3_ := Aside0.mk ((by rw [hg]; exact (below_size (Cmp.g HB.out)) : w.heap.size ≤ gb310)); have n4_ := Aside0.mk ((by rw [hg]; exact (below_size (Cmp.g HB.out)) : w.heap.size ≤ gb310)); have n5_ := Aside0.mk ((by rw [hg]; exact Nat.ne_of_lt (blk_lt (Cmp.b BK307.out)) : gb307 ≠ gb310)); have n6_ := Aside0.mk ((by rw [hg]; exact Nat.ne_of_gt (blk_lt (Cmp.b BK307.out)) : gb310 ≠ gb307)); clear BK307; clear HB; have BK307 := n0_; have HB := n1_; have BK310 := n2_; have GW310 := n3_; have GE310 := n4_; have NB307_310 := n5_; have NB310_307 := n6_; clear n0_ n1_ n2_ n3_ n4_ n5_ n6_; clear hb hbox hg; have hnb76 := NB310_307.out; have hnc76 := NB307_310.out; have hcz77_0 : w75.cell? ⟨gb310, 0, none⟩ = some (.int .i64 0) := (blk_cell BK310.out 0).trans rfl; have hcz77_1 : w75.cell? ⟨gb310, 1, none⟩ = some (.int .i64 0) := (blk_cell BK310.out 1).trans rfl; have hcz77_2 : w75.cell? ⟨gb310, 2, none⟩ = some (.int .i64 0) := (blk_cell BK310.out 2).trans rfl; have hcz77_3 : w75.cell? ⟨gb310, 3, none⟩ = some (.int .i64 0) := (blk_cell BK310.out 3).trans rfl; have hcz77_4 : w75.cell? ⟨gb310, 4, none⟩ = some (.int .i64 0) := (blk_cell BK310.out 4).trans rfl; have hcz77_5 : w75.cell? ⟨gb310, 5, none⟩ = some (.int .i64 0) := (blk_cell BK310.out 5).trans rfl; have hfz77_0 := blk_frozen BK310.out 0; have hfz77_1 := blk_frozen BK310.out 1; have hfz77_2 := blk_frozen BK310.out 2; have hfz77_3 := blk_frozen BK310.out 3; have hfz77_4 := blk_frozen BK310.out 4; have hfz77_5 := blk_frozen BK310.out 5))
    have n0_ : Aside0 (((((((w75.setCell ⟨gb310, 0, none⟩ (.int .i64 (l0.length : Int))).setCell ⟨gb310, 1, none⟩ (.int .i64 a1)).setCell ⟨gb310, 2, none⟩ (.int .i64 a2)).setCell ⟨gb310, 3, none⟩ (.int .i64 t308)).setCell ⟨gb310, 4, none⟩ (.int .i64 t309)).setCell ⟨gb310, 5, none⟩ (.int .i64 0)).heap[gb307]? = some (.cells #[.int .i64 a3_0, .int .i64 a3_1, .int .i64 a3_2, .int .i64 a3_3] 84 (0, 0))) := ⟨by (with_reducible repeat (first | refine blk_drewN ?_ _ | refine blk_drew ?_ | refine blk_alloc ?_ _)); refine blk_far ?_ NB307_310.out _; (with_reducible repeat (first | refine blk_drewN ?_ _ | refine blk_drew ?_ | refine blk_alloc ?_ _)); refine blk_far ?_ NB307_310.out _; (with_reducible repeat (first | refine blk_drewN ?_ _ | refine blk_drew ?_ | refine blk_alloc ?_ _)); refine blk_far ?_ NB307_310.out _; (with_reducible repeat (first | refine blk_drewN ?_ _ | refine blk_drew ?_ | refine blk_alloc ?_ _)); refine blk_far ?_ NB307_310.out _; (with_reducible repeat (first | refine blk_drewN ?_ _ | refine blk_drew ?_ | refine blk_alloc ?_ _)); refine blk_far ?_ NB307_310.out _; (with_reducible repeat (first | refine blk_drewN ?_ _ | refine blk_drew ?_ | refine blk_alloc ?_ _)); refine blk_far ?_ NB307_310.out _; (with_reducible repeat (first | refine blk_drewN ?_ _ | refine blk_drew ?_ | refine blk_alloc ?_ _)); exact BK307.out⟩
    have n1_ : Aside0 (((((((w75.setCell ⟨gb310, 0, none⟩ (.int .i64 (l0.length : Int))).setCell ⟨gb310, 1, none⟩ (.int .i64 a1)).setCell ⟨gb310, 2, none⟩ (.int .i64 a2)).setCell ⟨gb310, 3, none⟩ (.int .i64 t308)).setCell ⟨gb310, 4, none⟩ (.int .i64 t309)).setCell ⟨gb310, 5, none⟩ (.int .i64 0)).heap[gb310]? = some (.cells #[.int .i64 (l0.length : Int), .int .i64 a1, .int .i64 a2, .int .i64 t308, .int .i64 t309, .int .i64 0] 86 (0, 0))) := ⟨by (with_reducible repeat (first | refine blk_drewN ?_ _ | refine blk_drew ?_ | refine blk_alloc ?_ _)); refine blk_put (cs := #[.int .i64 (l0.length : Int), .int .i64 a1, .int .i64 a2, .int .i64 t308, .int .i64 t309, .int .i64 0]) ?_ 5 _ rfl; (with_reducible repeat (first | refine blk_drewN ?_ _ | refine blk_drew ?_ | refine blk_alloc ?_ _)); refine blk_put (cs := #[.int .i64 (l0.length : Int), .int .i64 a1, .int .i64 a2, .int .i64 t308, .int .i64 0, .int .i64 0]) ?_ 4 _ rfl; (with_reducible repeat (first | refine blk_drewN ?_ _ | refine blk_drew ?_ | refine blk_alloc ?_ _)); refine blk_put (cs := #[.int .i64 (l0.length : Int), .int .i64 a1, .int .i64 a2, .int .i64 0, .int .i64 0, .int .i64 0]) ?_ 3 _ rfl; (with_reducible repeat (first | refine blk_drewN ?_ _ | refine blk_drew ?_ | refine blk_alloc ?_ _)); refine blk_put (cs := #[.int .i64 (l0.length : Int), .int .i64 a1, .int .i64 0, .int .i64 0, .int .i64 0, .int .i64 0]) ?_ 2 _ rfl; (with_reducible repeat (first | refine blk_drewN ?_ _ | refine blk_drew ?_ | refine blk_alloc ?_ _)); refine blk_put (cs := #[.int .i64 (l0.length : Int), .int .i64 0, .int .i64 0, .int .i64 0, .int .i64 0, .int .i64 0]) ?_ 1 _ rfl; (with_reducible repeat (first | refine blk_drewN ?_ _ | refine blk_drew ?_ | refine blk_alloc ?_ _)); refine blk_put (cs := #[.int .i64 0, .int .i64 0, .int .i64 0, .int .i64 0, .int .i64 0, .int .i64 0]) ?_ 0 _ rfl; (with_reducible repeat (first | refine blk_drewN ?_ _ | refine blk_drew ?_ | refine blk_alloc ?_ _)); exact BK310.out⟩
    have n2_ : Aside0 (Below w.heap.size w ((((((w75.setCell ⟨gb310, 0, none⟩ (.int .i64 (l0.length : Int))).setCell ⟨gb310, 1, none⟩ (.int .i64 a1)).setCell ⟨gb310, 2, none⟩ (.int .i64 a2)).setCell ⟨gb310, 3, none⟩ (.int .i64 t308)).setCell ⟨gb310, 4, none⟩ (.int .i64 t309)).setCell ⟨gb310, 5, none⟩ (.int .i64 0))) := ⟨Cmp.g HB.out⟩
    (try clear BK307); (try clear BK310); (try clear HB)
    generalize ((((((w75.setCell ⟨gb310, 0, none⟩ (.int .i64 (l0.length : Int))).setCell ⟨gb310, 1, none⟩ (.int .i64 a1)).setCell ⟨gb310, 2, none⟩ (.int .i64 a2)).setCell ⟨gb310, 3, none⟩ (.int .i64 t308)).setCell ⟨gb310, 4, none⟩ (.int .i64 t309)).setCell ⟨gb310, 5, none⟩ (.int .i64 0)) = w78 at n0_ n1_ n2_ ⊢
    have BK307 := n0_; have BK310 := n1_; have HB := n2_; clear n0_ n1_ n2_; have n0_ := Aside0.mk (blk_drew BK307.out); have n1_ := Aside0.mk (blk_drew BK310.out); have n2_ := Aside0.mk (below_drew1 HB.out); clear BK307; clear BK310; clear HB; have BK307 := n0_; have BK310 := n1_; have HB := n2_; clear n0_ n1_ n2_
    refine start_ (n := 7) (S := fun w' => w'.cell? ⟨gb307, 0, none⟩ = some (.int .i64 a3_0) ∧ w'.cell? ⟨gb307, 1, none⟩ = some (.int .i64 a3_1) ∧ w'.cell? ⟨gb307, 2, none⟩ = some (.int .i64 a3_2) ∧ w'.cell? ⟨gb307, 3, none⟩ = some (.int .i64 a3_3) ∧ w'.cell? ⟨gb310, 0, none⟩ = some (.int .i64 (l0.length : Int)) ∧ w'.cell? ⟨gb310, 1, none⟩ = some (.int .i64 a1) ∧ w'.cell? ⟨gb310, 2, none⟩ = some (.int .i64 a2) ∧ w'.cell? ⟨gb310, 3, none⟩ = some (.int .i64 t308) ∧ w'.cell? ⟨gb310, 4, none⟩ = some (.int .i64 t309) ∧ w'.cell? ⟨gb310, 5, none⟩ = some (.int .i64 0)) (ds := [6]) (Cmp.bm 0 7) (by kernel_rfl) rfl rfl ⟨(blk_cell BK307.out 0).trans rfl, (blk_cell BK307.out 1).trans rfl, (blk_cell BK307.out 2).trans rfl, (blk_cell BK307.out 3).trans rfl, (blk_cell BK310.out 0).trans rfl, (blk_cell BK310.out 1).trans rfl, (blk_cell BK310.out 2).trans rfl, (blk_cell BK310.out 3).trans rfl, (blk_cell BK310.out 4).trans rfl, (blk_cell BK310.out 5).trans rfl⟩ (fun hHeld => ?_)
    generalize w78.drew = w79 at BK307 BK310 HB hHeld ⊢
    refine take_ (i := 0) (N := some 21) (v := ?_) (a' := ?_) (Cmp.bm 1 6) rfl rfl (by kernel_rfl) (fun _ _ _ h => h) (Or.inl ⟨by rfl, ?_⟩) hHeld ?_ ?_
    rotate_left
    ·rintro w' ⟨s0, s1, s2, s3, s4, s5, s6, s7, s8, s9⟩; go_simp; with_reducible rfl
    rotate_left
    ·simp only [Act.put, Cmp.s, Cmp.z, Cmp.c, i64_w, i32_w]; rfl
    refine take_ (i := 1) (N := some 22) (v := ?_) (a' := ?_) (Cmp.bm 2 5) rfl rfl (by kernel_rfl) (fun _ _ _ h => h) (Or.inl ⟨by rfl, ?_⟩) hHeld ?_ ?_
    rotate_left
    ·rintro w' ⟨s0, s1, s2, s3, s4, s5, s6, s7, s8, s9⟩; go_simp; with_reducible rfl
    rotate_left
    ·simp only [Act.put, Cmp.s, Cmp.z, Cmp.c, i64_w, i32_w]; rfl
    refine one_ (i := 2) (N := some 23) (Cmp.bm 3 4) rfl rfl (by kernel_rfl) (by decide) (fun K hK => ?_)
    refine goes_ Try.func121 (by kernel_rfl) rfl #[.agg #[.int .i64 (l0.length : Int), .int .i64 a1, .int .i64 a2, .int .i64 t308, .int .i64 t309, .int .i64 0]] (by rfl) rfl rfl Cmp.q ?_
    with_reducible refine (spec_EntryHash.calls k (l0.length : Int) a1 a2 t308 t309 0 t311 _ A7.out).mono ?_
    rintro e w80 ⟨rfl, hb⟩; refine ⟨_, rfl, ?_⟩
    have n0_ := Aside0.mk (blk_below (Cmp.b BK307.out) hb)
    have n1_ := Aside0.mk (blk_below (Cmp.b BK310.out) hb)
    have n2_ := Aside0.mk (below_step (Cmp.g HB.out) hb)
    clear BK307; clear BK310; clear HB; have BK307 := n0_; have BK310 := n1_; have HB := n2_; clear n0_ n1_ n2_; (try clear hb); (try clear hb2); (try clear hk); (try clear hi)
    refine hK.out _ _ ⟨(blk_cell BK307.out 0).trans rfl, (blk_cell BK307.out 1).trans rfl, (blk_cell BK307.out 2).trans rfl, (blk_cell BK307.out 3).trans rfl, (blk_cell BK310.out 0).trans rfl, (blk_cell BK310.out 1).trans rfl, (blk_cell BK310.out 2).trans rfl, (blk_cell BK310.out 3).trans rfl, (blk_cell BK310.out 4).trans rfl, (blk_cell BK310.out 5).trans rfl⟩ (fun hHeld => ?_)
    clear hK K
    refine norm_ (a' := ?_) ?_ ?_
    rotate_left
    ·show Act.put _ (some 23) _ = _
     simp only [Act.put, Cmp.s, Cmp.z, Cmp.c, i64_w, i32_w]; rfl
    refine one_ (i := 3) (N := some 24) (Cmp.bm 4 3) rfl rfl (by kernel_rfl) (by decide) (fun K hK => ?_)
    refine Kd.R_lit_step (Kd.int .i64) _ 3 ?hg (N := 24) ?hd (xs := ([t311] : List Int)) (inner := [.int .i64 t311]) (ok := fun _ => True) (okp := fun _ => True) ?hr ?hp (fun _ hk => hk) trivial (Below.refl _ _) (Nat.le_refl _) (by simp) ?_; (case hd => rfl); (case hg => rfl); (case hr => first | (go_simp; done) | (go_simp; rfl)); (case hp => exact (Reps.one (show Kd.M (Kd.int .i64) _ _ _ t311 [.int .i64 t311] from rfl) (Reps.none _ _)))
    intro v313 w81 ho82 hb hg_ hnew_
    clear hg_ hnew_
    (first | rw [← Ny312.out] at ho82 | (simp only [Int.reduceToNat] at ho82; rw [← Ny312.out] at ho82))
    have n0_ := Aside0.mk (Kd.R_lower ho82 (below_size (Cmp.g HB.out)))
    have n1_ := Aside0.mk (blk_below (Cmp.b BK307.out) hb)
    have n2_ := Aside0.mk (blk_below (Cmp.b BK310.out) hb)
    have n3_ := Aside0.mk (below_step (Cmp.g HB.out) hb)
    clear BK307; clear BK310; clear HB; have HO314 := n0_; have BK307 := n1_; have BK310 := n2_; have HB := n3_; clear n0_ n1_ n2_ n3_; clear hb ho82
    obtain ⟨Ao83, co83, eo83⟩ := Kd.R_slice HO314.out
    (first | subst eo83 | (injection eo83 with f1_ f2_ f3_; have f4_ := f1_.symm; have f5_ := f3_.symm; clear f1_ f2_ f3_; subst f4_; subst f5_))
    refine hK.out _ _ ⟨(blk_cell BK307.out 0).trans rfl, (blk_cell BK307.out 1).trans rfl, (blk_cell BK307.out 2).trans rfl, (blk_cell BK307.out 3).trans rfl, (blk_cell BK310.out 0).trans rfl, (blk_cell BK310.out 1).trans rfl, (blk_cell BK310.out 2).trans rfl, (blk_cell BK310.out 3).trans rfl, (blk_cell BK310.out 4).trans rfl, (blk_cell BK310.out 5).trans rfl⟩ (fun hHeld => ?_)
    clear hK K
    refine norm_ (a' := ?_) ?_ ?_
    rotate_left
    ·show Act.put _ (some 24) _ = _
     simp only [Act.put, Cmp.s, Cmp.z, Cmp.c, i64_w, i32_w]; rfl
    refine one_ (i := 4) (N := some 25) (Cmp.bm 5 2) rfl rfl (by kernel_rfl) (by decide) (fun K hK => ?_)
    refine goes_ Try.func161 (by kernel_rfl) rfl #[.agg #[.int .i64 a3_0, .int .i64 a3_1, .int .i64 a3_2, .int .i64 a3_3], .slice Ao83 y312.length co83] (by rfl) rfl rfl Cmp.q ?_
    with_reducible refine (spec_SignAsDevice.calls k a3_0 a3_1 a3_2 a3_3 _ _ y312 t315 _ ?side1 ?side2 A8.out).mono ?_
    (case side1 => exact Cmp.rc (Kd.R_reads' HO314.out).2.2)
    (case side2 => exact (Kd.R_reads' HO314.out).2.1)
    rintro e w84 ⟨rfl, hb⟩; refine ⟨_, rfl, ?_⟩
    have n0_ := Aside0.mk (Kd.R_below (Cmp.rr HO314.out) hb)
    have n1_ := Aside0.mk (blk_below (Cmp.b BK307.out) hb)
    have n2_ := Aside0.mk (blk_below (Cmp.b BK310.out) hb)
    have n3_ := Aside0.mk (below_step (Cmp.g HB.out) hb)
    clear HO314; clear BK307; clear BK310; clear HB; have HO314 := n0_; have BK307 := n1_; have BK310 := n2_; have HB := n3_; clear n0_ n1_ n2_ n3_; (try clear hb); (try clear hb2); (try clear hk); (try clear hi)
    refine hK.out _ _ ⟨(blk_cell BK307.out 0).trans rfl, (blk_cell BK307.out 1).trans rfl, (blk_cell BK307.out 2).trans rfl, (blk_cell BK307.out 3).trans rfl, (blk_cell BK310.out 0).trans rfl, (blk_cell BK310.out 1).trans rfl, (blk_cell BK310.out 2).trans rfl, (blk_cell BK310.out 3).trans rfl, (blk_cell BK310.out 4).trans rfl, (blk_cell BK310.out 5).trans rfl⟩ (fun hHeld => ?_)
    clear hK K
    refine norm_ (a' := ?_) ?_ ?_
    rotate_left
    ·show Act.put _ (some 25) _ = _
     simp only [Act.put, Cmp.s, Cmp.z, Cmp.c, i64_w, i32_w]; rfl
    refine pure_ (i := 5) (N := some 26) (v := ?_) (a' := ?_) (Cmp.bm 6 1) rfl rfl (by kernel_rfl) (fun _ _ _ h => h) (Or.inl ⟨by rfl, ?_⟩) ?_ ?_
    rotate_left
    ·intro w'; go_simp; with_reducible rfl
    rotate_left
    ·simp only [Act.put, Cmp.s, Cmp.z, Cmp.c, i64_w, i32_w]; rfl
    refine last_ (i := 6) (N := none) (Cmp.bm 7 0) rfl rfl (by kernel_rfl) (by decide) (fun K hK => ?_)
    have hs85 : w84.cell? ⟨gb310, 5, none⟩ = some (.int .i64 0) := (blk_cell BK310.out 5).trans rfl
    have hfs85 := blk_frozen BK310.out 5; have hns85_0 := NB307_310.out; have hms85_0 := NB310_307.out
    refine skip_ (w1 := ?_) (by rfl) rfl ?_ ?_
    rotate_left
    ·go_simp; rfl
    refine hK.out _ _ ?_
    clear hK K
    refine done_ (by kernel_rfl) ?_
    try go_wp2
    have n0_ : Aside0 (Kd.R (Kd.int .i64) 3 (w84.setCell ⟨gb310, 5, none⟩ (.int .i64 t315)) w.heap.size (fun _ => True) (.slice Ao83 y312.length co83) y312) := ⟨by (with_reducible repeat (first | apply Kd.R_alloc | apply Kd.R_drewN | apply Kd.R_drew)); exact Kd.R_mono (Kd.R_far (p := ⟨gb310, 5, none⟩) (Kd.R_types HO314.out BK310.out (by decide)) (fun _ hk => hk.2) (.int .i64 t315)) (fun _ hk => trivial)⟩
    have n1_ : Aside0 ((w84.setCell ⟨gb310, 5, none⟩ (.int .i64 t315)).heap[gb307]? = some (.cells #[.int .i64 a3_0, .int .i64 a3_1, .int .i64 a3_2, .int .i64 a3_3] 84 (0, 0))) := ⟨by (with_reducible repeat (first | refine blk_drewN ?_ _ | refine blk_drew ?_ | refine blk_alloc ?_ _)); refine blk_far ?_ NB307_310.out _; (with_reducible repeat (first | refine blk_drewN ?_ _ | refine blk_drew ?_ | refine blk_alloc ?_ _)); exact BK307.out⟩
    have n2_ : Aside0 ((w84.setCell ⟨gb310, 5, none⟩ (.int .i64 t315)).heap[gb310]? = some (.cells #[.int .i64 (l0.length : Int), .int .i64 a1, .int .i64 a2, .int .i64 t308, .int .i64 t309, .int .i64 t315] 86 (0, 0))) := ⟨by (with_reducible repeat (first | refine blk_drewN ?_ _ | refine blk_drew ?_ | refine blk_alloc ?_ _)); refine blk_put (cs := #[.int .i64 (l0.length : Int), .int .i64 a1, .int .i64 a2, .int .i64 t308, .int .i64 t309, .int .i64 0]) ?_ 5 _ rfl; (with_reducible repeat (first | refine blk_drewN ?_ _ | refine blk_drew ?_ | refine blk_alloc ?_ _)); exact BK310.out⟩
    have n3_ : Aside0 (Below w.heap.size w (w84.setCell ⟨gb310, 5, none⟩ (.int .i64 t315))) := ⟨Cmp.g HB.out⟩
    (try clear HO314); (try clear BK307); (try clear BK310); (try clear HB)
    generalize (w84.setCell ⟨gb310, 5, none⟩ (.int .i64 t315)) = w86 at n0_ n1_ n2_ n3_ ⊢
    have HO314 := n0_; have BK307 := n1_; have BK310 := n2_; have HB := n3_; clear n0_ n1_ n2_ n3_; have n0_ := Aside0.mk (Kd.R_drew HO314.out); have n1_ := Aside0.mk (blk_drew BK307.out); have n2_ := Aside0.mk (blk_drew BK310.out); have n3_ := Aside0.mk (below_drew1 HB.out); clear HO314; clear BK307; clear BK310; clear HB; have HO314 := n0_; have BK307 := n1_; have BK310 := n2_; have HB := n3_; clear n0_ n1_ n2_ n3_
    refine start_ (n := 6) (S := fun w' => w'.cell? ⟨gb310, 0, none⟩ = some (.int .i64 (l0.length : Int)) ∧ w'.cell? ⟨gb310, 1, none⟩ = some (.int .i64 a1) ∧ w'.cell? ⟨gb310, 2, none⟩ = some (.int .i64 a2) ∧ w'.cell? ⟨gb310, 3, none⟩ = some (.int .i64 t308) ∧ w'.cell? ⟨gb310, 4, none⟩ = some (.int .i64 t309) ∧ w'.cell? ⟨gb310, 5, none⟩ = some (.int .i64 t315)) (ds := []) (Cmp.bm 0 6) (by kernel_rfl) rfl rfl ⟨(blk_cell BK310.out 0).trans rfl, (blk_cell BK310.out 1).trans rfl, (blk_cell BK310.out 2).trans rfl, (blk_cell BK310.out 3).trans rfl, (blk_cell BK310.out 4).trans rfl, (blk_cell BK310.out 5).trans rfl⟩ (fun hHeld => ?_)
    generalize w86.drew = w87 at HO314 BK307 BK310 HB hHeld ⊢
    refine pure_ (i := 0) (N := some 27) (v := ?_) (a' := ?_) (Cmp.bm 1 5) rfl rfl (by kernel_rfl) (fun _ _ _ h => h) (Or.inl ⟨by rfl, ?_⟩) ?_ ?_
    rotate_left
    ·intro w'; go_simp; with_reducible rfl
    rotate_left
    ·simp only [Act.put, Cmp.s, Cmp.z, Cmp.c, i64_w, i32_w]; rfl
    refine take_ (i := 2) (N := some 29) (v := ?_) (a' := ?_) (Cmp.bb 6 5) rfl rfl (by kernel_rfl) (fun _ _ _ h => h) (Or.inl ⟨by rfl, ?_⟩) hHeld ?_ ?_
    rotate_left
    ·rintro w' ⟨s0, s1, s2, s3, s4, s5⟩; go_simp; with_reducible rfl
    rotate_left
    ·simp only [Act.put, Cmp.s, Cmp.z, Cmp.c, i64_w, i32_w]; rfl
    refine join_ (σ := Value × Value) 2 (Cmp.bm 4 2) (fun s_ => [(28, s_.1), (30, s_.2)]) (fun s_ w' => (w'.cell? ⟨gb310, 0, none⟩ = some (.int .i64 (l0.length : Int)) ∧ w'.cell? ⟨gb310, 1, none⟩ = some (.int .i64 a1) ∧ w'.cell? ⟨gb310, 2, none⟩ = some (.int .i64 a2) ∧ w'.cell? ⟨gb310, 3, none⟩ = some (.int .i64 t308) ∧ w'.cell? ⟨gb310, 4, none⟩ = some (.int .i64 t309) ∧ w'.cell? ⟨gb310, 5, none⟩ = some (.int .i64 t315)) ∧ (Kd.R (Kd.int .i64) 3 w' w.heap.size (fun _ => True) (.slice Ao83 y312.length co83) y312) ∧ (Kd.R k86 86 w' w.heap.size (fun k_ => some k_ ≠ (s_.2 : Value).ownBlock ∧ k_ ≠ gb310) s_.1 t316) ∧ (Kd.R k86 86 w' w.heap.size (fun k_ => some k_ ≠ (s_.1 : Value).ownBlock ∧ k_ ≠ gb310) s_.2 y319) ∧ (w'.heap[gb307]? = some (.cells #[.int .i64 a3_0, .int .i64 a3_1, .int .i64 a3_2, .int .i64 a3_3] 84 (0, 0))) ∧ (w'.heap[gb310]? = some (.cells #[.int .i64 (l0.length : Int), .int .i64 a1, .int .i64 a2, .int .i64 t308, .int .i64 t309, .int .i64 t315] 86 (0, 0))) ∧ (Below w.heap.size w w')) ?_ ?_
    rotate_left
    ·intro hCont
     refine two_ (i := 1) (j := 3) (Ni := some 28) (Nj := some 30) (Cmp.bm 3 3) (Cmp.bb 6 13) rfl rfl rfl rfl (by kernel_rfl) (by decide) (by decide) (fun K hK => ?_) (fun K hK => ?_)
     ·skip
      refine goes_ Try.func162 (by kernel_rfl) rfl #[.slice A0 l0.length c0] (by rfl) rfl rfl Cmp.q ?_
      with_reducible refine (spec_l19Copy.calls _ _ l0 t316 _ ?side1 ?side2 A9.out).mono ?_
      (case side1 => exact Cmp.rc (Kd.C_below HR0.out HB.out))
      (case side2 => exact HC0.out)
      rintro e w88 ⟨v317, rfl, ho0, hb⟩; refine ⟨_, rfl, ?_⟩
      have n0_ := Aside0.mk (Kd.R_below (Cmp.rr HO314.out) hb)
      have n1_ := Aside0.mk (Kd.R_lower (Kd.R_newB ho0 (g := gb310) (o := .cells #[.int .i64 (l0.length : Int), .int .i64 a1, .int .i64 a2, .int .i64 t308, .int .i64 t309, .int .i64 t315] 86 (0, 0)) (Cmp.b BK310.out)) (below_size (Cmp.g HB.out)))
      have n2_ := Aside0.mk (blk_below (Cmp.b BK307.out) hb)
      have n3_ := Aside0.mk (blk_below (Cmp.b BK310.out) hb)
      have n4_ := Aside0.mk (below_step (Cmp.g HB.out) hb)
      clear HO314; clear BK307; clear BK310; clear HB; have HO314 := n0_; have HO318 := n1_; have BK307 := n2_; have BK310 := n3_; have HB := n4_; clear n0_ n1_ n2_ n3_ n4_; (try clear hb); (try clear hb2); (try clear hk); (try clear hi); (try clear ho0)
      refine hK.out _ _ ⟨(blk_cell BK310.out 0).trans rfl, (blk_cell BK310.out 1).trans rfl, (blk_cell BK310.out 2).trans rfl, (blk_cell BK310.out 3).trans rfl, (blk_cell BK310.out 4).trans rfl, (blk_cell BK310.out 5).trans rfl⟩ (fun hHeld => ?_)
      clear hK K
      refine norm_ (a' := ?_) ?_ ?_
      rotate_left
      ·show Act.put _ (some 28) _ = _
       simp only [Act.put, Cmp.s, Cmp.z, Cmp.c, i64_w, i32_w]; rfl
      refine one_ (i := 3) (N := some 30) (Cmp.bm 4 2) rfl rfl (by kernel_rfl) (by decide) (fun K hK => ?_)
      refine Kd.R_lit_step k86 _ 86 ?hg (N := 30) ?hd (xs := ([(⟨(l0.length : Int), a1, a2, t308, t309, t315⟩ : S86)] : List (S86))) (inner := [.int .i64 (l0.length : Int), .int .i64 a1, .int .i64 a2, .int .i64 t308, .int .i64 t309, .int .i64 t315]) (ok := fun _ => True) (okp := fun _ => True) ?hr ?hp (fun _ hk => hk) trivial (Below.refl _ _) (Nat.le_refl _) (by simp) ?_; (case hd => rfl); (case hg => rfl); (case hr => first | (go_simp; done) | (go_simp; rfl)); (case hp => exact (Reps.c6 (show Kd.M k86 _ _ _ (⟨(l0.length : Int), a1, a2, t308, t309, t315⟩ : S86) [.int .i64 (l0.length : Int), .int .i64 a1, .int .i64 a2, .int .i64 t308, .int .i64 t309, .int .i64 t315] from (k86_mkM _ _ _ (⟨(l0.length : Int), a1, a2, t308, t309, t315⟩ : S86) )) (Reps.none _ _)))
      intro v320 w89 ho90 hb hg_ hnew_
      clear hg_ hnew_
      (first | rw [← Ny319.out] at ho90 | (simp only [Int.reduceToNat] at ho90; rw [← Ny319.out] at ho90))
      have n0_ := Aside0.mk (Kd.R_below (Cmp.rr HO314.out) hb)
      have n1_ := Aside0.mk (Kd.R_elder' (Cmp.rr HO318.out) (Kd.R_base ho90) hb)
      have n2_ := Aside0.mk (Kd.R_lower (Kd.R_newB (Kd.R_new' ho90 (Kd.R_lt (Cmp.rr HO318.out))) (g := gb310) (o := .cells #[.int .i64 (l0.length : Int), .int .i64 a1, .int .i64 a2, .int .i64 t308, .int .i64 t309, .int .i64 t315] 86 (0, 0)) (Cmp.b BK310.out)) (below_size (Cmp.g HB.out)))
      have n3_ := Aside0.mk (blk_below (Cmp.b BK307.out) hb)
      have n4_ := Aside0.mk (blk_below (Cmp.b BK310.out) hb)
      have n5_ := Aside0.mk (below_step (Cmp.g HB.out) hb)
      clear HO314; clear HO318; clear BK307; clear BK310; clear HB; have HO314 := n0_; have HO318 := n1_; have HO321 := n2_; have BK307 := n3_; have BK310 := n4_; have HB := n5_; clear n0_ n1_ n2_ n3_ n4_ n5_; clear hb ho90
      refine hK.out _ _ ⟨(blk_cell BK310.out 0).trans rfl, (blk_cell BK310.out 1).trans rfl, (blk_cell BK310.out 2).trans rfl, (blk_cell BK310.out 3).trans rfl, (blk_cell BK310.out 4).trans rfl, (blk_cell BK310.out 5).trans rfl⟩ (fun hHeld => ?_)
      clear hK K
      refine norm_ (a' := ?_) ?_ ?_
      rotate_left
      ·show Act.put _ (some 30) _ = _
       simp only [Act.put, Cmp.s, Cmp.z, Cmp.c, i64_w, i32_w]; rfl
      exact norm_ (by simp only [putAll, Act.put, List.setIfInBounds_toArray, List.set_cons_zero, List.set_cons_succ]) (hCont (v317, v320) _ ⟨hHeld, (Cmp.rr HO314.out), (by (with_reducible repeat (first | apply Kd.R_alloc | apply Kd.R_drewN | apply Kd.R_drew)); exact Kd.R_mono HO318.out (fun _ hk => ⟨hk.2, hk.1.2⟩)), (by (with_reducible repeat (first | apply Kd.R_alloc | apply Kd.R_drewN | apply Kd.R_drew)); exact Kd.R_mono HO321.out (fun _ hk => ⟨hk.1.2, hk.2⟩)), (Cmp.b BK307.out), (Cmp.b BK310.out), (Cmp.g HB.out)⟩)
     ·skip
      refine Kd.R_lit_step k86 _ 86 ?hg (N := 30) ?hd (xs := ([(⟨(l0.length : Int), a1, a2, t308, t309, t315⟩ : S86)] : List (S86))) (inner := [.int .i64 (l0.length : Int), .int .i64 a1, .int .i64 a2, .int .i64 t308, .int .i64 t309, .int .i64 t315]) (ok := fun _ => True) (okp := fun _ => True) ?hr ?hp (fun _ hk => hk) trivial (Below.refl _ _) (Nat.le_refl _) (by simp) ?_; (case hd => rfl); (case hg => rfl); (case hr => first | (go_simp; done) | (go_simp; rfl)); (case hp => exact (Reps.c6 (show Kd.M k86 _ _ _ (⟨(l0.length : Int), a1, a2, t308, t309, t315⟩ : S86) [.int .i64 (l0.length : Int), .int .i64 a1, .int .i64 a2, .int .i64 t308, .int .i64 t309, .int .i64 t315] from (k86_mkM _ _ _ (⟨(l0.length : Int), a1, a2, t308, t309, t315⟩ : S86) )) (Reps.none _ _)))
      intro v320 w88 ho89 hb hg_ hnew_
      clear hg_ hnew_
      (first | rw [← Ny319.out] at ho89 | (simp only [Int.reduceToNat] at ho89; rw [← Ny319.out] at ho89))
      have n0_ := Aside0.mk (Kd.R_below (Cmp.rr HO314.out) hb)
      have n1_ := Aside0.mk (Kd.R_lower (Kd.R_newB ho89 (g := gb310) (o := .cells #[.int .i64 (l0.length : Int), .int .i64 a1, .int .i64 a2, .int .i64 t308, .int .i64 t309, .int .i64 t315] 86 (0, 0)) (Cmp.b BK310.out)) (below_size (Cmp.g HB.out)))
      have n2_ := Aside0.mk (blk_below (Cmp.b BK307.out) hb)
      have n3_ := Aside0.mk (blk_below (Cmp.b BK310.out) hb)
      have n4_ := Aside0.mk (below_step (Cmp.g HB.out) hb)
      clear HO314; clear BK307; clear BK310; clear HB; have HO314 := n0_; have HO321 := n1_; have BK307 := n2_; have BK310 := n3_; have HB := n4_; clear n0_ n1_ n2_ n3_ n4_; clear hb ho89
      refine hK.out _ _ ⟨(blk_cell BK310.out 0).trans rfl, (blk_cell BK310.out 1).trans rfl, (blk_cell BK310.out 2).trans rfl, (blk_cell BK310.out 3).trans rfl, (blk_cell BK310.out 4).trans rfl, (blk_cell BK310.out 5).trans rfl⟩ (fun hHeld => ?_)
      clear hK K
      refine norm_ (a' := ?_) ?_ ?_
      rotate_left
      ·show Act.put _ (some 30) _ = _
       simp only [Act.put, Cmp.s, Cmp.z, Cmp.c, i64_w, i32_w]; rfl
      refine one_ (i := 1) (N := some 28) (Cmp.bm 4 2) rfl rfl (by kernel_rfl) (by decide) (fun K hK => ?_)
      refine goes_ Try.func162 (by kernel_rfl) rfl #[.slice A0 l0.length c0] (by rfl) rfl rfl Cmp.q ?_
      with_reducible refine (spec_l19Copy.calls _ _ l0 t316 _ ?side1 ?side2 A9.out).mono ?_
      (case side1 => exact Cmp.rc (Kd.C_below HR0.out HB.out))
      (case side2 => exact HC0.out)
      rintro e w90 ⟨v317, rfl, ho0, hb⟩; refine ⟨_, rfl, ?_⟩
      have n0_ := Aside0.mk (Kd.R_below (Cmp.rr HO314.out) hb)
      have n1_ := Aside0.mk (Kd.R_elder' (Cmp.rr HO321.out) (Kd.R_base ho0) hb)
      have n2_ := Aside0.mk (Kd.R_lower (Kd.R_newB (Kd.R_new' ho0 (Kd.R_lt (Cmp.rr HO321.out))) (g := gb310) (o := .cells #[.int .i64 (l0.length : Int), .int .i64 a1, .int .i64 a2, .int .i64 t308, .int .i64 t309, .int .i64 t315] 86 (0, 0)) (Cmp.b BK310.out)) (below_size (Cmp.g HB.out)))
      have n3_ := Aside0.mk (blk_below (Cmp.b BK307.out) hb)
      have n4_ := Aside0.mk (blk_below (Cmp.b BK310.out) hb)
      have n5_ := Aside0.mk (below_step (Cmp.g HB.out) hb)
      clear HO314; clear HO321; clear BK307; clear BK310; clear HB; have HO314 := n0_; have HO321 := n1_; have HO318 := n2_; have BK307 := n3_; have BK310 := n4_; have HB := n5_; clear n0_ n1_ n2_ n3_ n4_ n5_; (try clear hb); (try clear hb2); (try clear hk); (try clear hi); (try clear ho0)
      refine hK.out _ _ ⟨(blk_cell BK310.out 0).trans rfl, (blk_cell BK310.out 1).trans rfl, (blk_cell BK310.out 2).trans rfl, (blk_cell BK310.out 3).trans rfl, (blk_cell BK310.out 4).trans rfl, (blk_cell BK310.out 5).trans rfl⟩ (fun hHeld => ?_)
      clear hK K
      refine norm_ (a' := ?_) ?_ ?_
      rotate_left
      ·show Act.put _ (some 28) _ = _
       simp only [Act.put, Cmp.s, Cmp.z, Cmp.c, i64_w, i32_w]; rfl
      exact norm_ (by simp only [putAll, Act.put, List.setIfInBounds_toArray, List.set_cons_zero, List.set_cons_succ]) (hCont (v317, v320) _ ⟨hHeld, (Cmp.rr HO314.out), (by (with_reducible repeat (first | apply Kd.R_alloc | apply Kd.R_drewN | apply Kd.R_drew)); exact Kd.R_mono HO318.out (fun _ hk => ⟨hk.1.2, hk.2⟩)), (by (with_reducible repeat (first | apply Kd.R_alloc | apply Kd.R_drewN | apply Kd.R_drew)); exact Kd.R_mono HO321.out (fun _ hk => ⟨hk.2, hk.1.2⟩)), (Cmp.b BK307.out), (Cmp.b BK310.out), (Cmp.g HB.out)⟩)
    rintro ⟨v317, v320⟩ w91 ⟨hS_, h0_, h1_, h2_, h3_, h4_, h5_⟩
    have n0_ : Aside0 (Kd.R (Kd.int .i64) 3 w91 w.heap.size (fun _ => True) (.slice Ao83 y312.length co83) y312) := ⟨h0_⟩
    have n1_ : Aside0 (Kd.R k86 86 w91 w.heap.size (fun k_ => some k_ ≠ (v320 : Value).ownBlock ∧ k_ ≠ gb310) v317 t316) := ⟨h1_⟩
    have n2_ : Aside0 (Kd.R k86 86 w91 w.heap.size (fun k_ => some k_ ≠ (v317 : Value).ownBlock ∧ k_ ≠ gb310) v320 y319) := ⟨h2_⟩
    have n3_ : Aside0 (w91.heap[gb307]? = some (.cells #[.int .i64 a3_0, .int .i64 a3_1, .int .i64 a3_2, .int .i64 a3_3] 84 (0, 0))) := ⟨h3_⟩
    have n4_ : Aside0 (w91.heap[gb310]? = some (.cells #[.int .i64 (l0.length : Int), .int .i64 a1, .int .i64 a2, .int .i64 t308, .int .i64 t309, .int .i64 t315] 86 (0, 0))) := ⟨h4_⟩
    have n5_ : Aside0 (Below w.heap.size w w91) := ⟨h5_⟩
    clear HO314; clear BK307; clear BK310; clear HB; clear h0_ h1_ h2_ h3_ h4_ h5_; have HO314 := n0_; have HO318 := n1_; have HO321 := n2_; have BK307 := n3_; have BK310 := n4_; have HB := n5_; clear n0_ n1_ n2_ n3_ n4_ n5_
    have hHeld : w91.cell? ⟨gb310, 0, none⟩ = some (.int .i64 (l0.length : Int)) ∧ w91.cell? ⟨gb310, 1, none⟩ = some (.int .i64 a1) ∧ w91.cell? ⟨gb310, 2, none⟩ = some (.int .i64 a2) ∧ w91.cell? ⟨gb310, 3, none⟩ = some (.int .i64 t308) ∧ w91.cell? ⟨gb310, 4, none⟩ = some (.int .i64 t309) ∧ w91.cell? ⟨gb310, 5, none⟩ = some (.int .i64 t315) := hS_
    obtain ⟨Ao93, co93, eo93⟩ := Kd.R_slice HO321.out
    (first | subst eo93 | (injection eo93 with f1_ f2_ f3_; have f4_ := f1_.symm; have f5_ := f3_.symm; clear f1_ f2_ f3_; subst f4_; subst f5_))
    refine norm_ (a' := ?_) ?_ ?_
    rotate_left
    ·simp only [putAll, Act.put, List.setIfInBounds_toArray, List.set_cons_zero, List.set_cons_succ]; rfl
    refine one_ (i := 4) (N := some 31) (Cmp.bm 5 1) rfl rfl (by kernel_rfl) (by decide) (fun K hK => ?_)
    refine Kd.R_append_rows_step k86 (w0 := w) w.heap.size (by rfl) (.tmp 28) (.tmp 30) 40 86 (.agg #[(.int .i64 0), (.int .i64 0), (.int .i64 0), (.int .i64 0), (.int .i64 0), (.int .i64 0)]) 48 rfl Try.underlying40 info86 rfl (by decide) (by omega) v317 t316 y319 _ _ _ (fun k_ => some k_ ≠ (.slice Ao93 y319.length co93 : Value).ownBlock ∧ k_ ≠ gb310) (fun _ => False) rfl rfl ?aO ?aR (fun _ _ h => h) (fun _ h => h.elim) ?aF ?aB ?aS ?aL ?_
    (case aR => repeat (first | exact (Kd.R_reads' HO321.out).2.2 | (with_reducible refine Kd.C_alloc ?_ _) | (with_reducible refine Kd.C_drewN ?_ _) | (with_reducible refine Kd.C_drew ?_)))
    (case aB => exact (Cmp.g HB.out))
    (case aF => exact (fun k_ hk => ⟨Kd.fresh' (Kd.R_lt (Cmp.rr HO321.out)) k_ hk, Kd.freshB (g := gb310) (o := .cells #[.int .i64 (l0.length : Int), .int .i64 a1, .int .i64 a2, .int .i64 t308, .int .i64 t309, .int .i64 t315] 86 (0, 0)) (Cmp.b BK310.out) k_ hk⟩))
    (case aO => exact (Cmp.rr HO318.out))
    (case aS => exact (below_size (Cmp.g HB.out)))
    (case aL => have := LMc10.out; omega)
    intro v323 w92 ho hb hg hat
    rw [← Ny322.out] at ho
    have n0_ := Aside0.mk (blk_grown (g := gb307) (o := .cells #[.int .i64 a3_0, .int .i64 a3_1, .int .i64 a3_2, .int .i64 a3_3] 84 (0, 0)) (Cmp.b BK307.out) hg (Kd.R_ne HO318.out BK307.out (by decide)))
    have n1_ := Aside0.mk (blk_grown (g := gb310) (o := .cells #[.int .i64 (l0.length : Int), .int .i64 a1, .int .i64 a2, .int .i64 t308, .int .i64 t309, .int .i64 t315] 86 (0, 0)) (Cmp.b BK310.out) hg (Kd.R_away HO318.out (fun _ hk => hk.2)))
    have n2_ := Aside0.mk (Kd.R_over' (Cmp.rr HO314.out) (Kd.R_typed (Cmp.rr HO318.out)) (by decide) hg)
    have n3_ := Aside0.mk (Kd.R_after (ok := (fun k_ => k_ ≠ gb310)) (by (with_reducible repeat (first | apply Kd.R_alloc | apply Kd.R_drewN | apply Kd.R_drew)); exact Kd.R_mono HO321.out (fun _ hk => ⟨hk.2, hk.1⟩)) hg hat)
    have n4_ := Aside0.mk (hb)
    have n5_ := Aside0.mk (ho)
    clear BK307; clear BK310; clear HO314; clear HO321; clear HB; clear HO318; have BK307 := n0_; have BK310 := n1_; have HO314 := n2_; have HO321 := n3_; have HB := n4_; have HO324 := n5_; clear n0_ n1_ n2_ n3_ n4_ n5_; clear ho hb hg hat
    refine hK.out _ _ ⟨(blk_cell BK310.out 0).trans rfl, (blk_cell BK310.out 1).trans rfl, (blk_cell BK310.out 2).trans rfl, (blk_cell BK310.out 3).trans rfl, (blk_cell BK310.out 4).trans rfl, (blk_cell BK310.out 5).trans rfl⟩ (fun hHeld => ?_)
    clear hK K
    refine norm_ (a' := ?_) ?_ ?_
    rotate_left
    ·show Act.put _ (some 31) _ = _
     simp only [Act.put, Cmp.s, Cmp.z, Cmp.c, i64_w, i32_w]; rfl
    refine pure_ (i := 5) (N := some 11) (v := ?_) (a' := ?_) (Cmp.bm 6 0) rfl rfl (by kernel_rfl) (fun _ _ _ h => h) (Or.inl ⟨by rfl, ?_⟩) ?_ ?_
    rotate_left
    ·intro w'; go_simp; with_reducible rfl
    rotate_left
    ·simp only [Act.put, Cmp.s, Cmp.z, Cmp.c, i64_w, i32_w]; rfl
    refine done_ (by kernel_rfl) ?_
    try go_wp2_with (first | (go_at_call 18; (with_reducible refine (spec_VerifyLog.calls k _ _ l0 false _ ?side1 ?side2 A12.out).mono ?_); (case side1 => exact Cmp.rc (Kd.C_below HR0.out HB.out)); (case side2 => exact HC0.out); rintro e w94 ⟨rfl, hb⟩; have n0_ := Aside0.mk (Kd.R_below (Cmp.rr HO314.out) hb); have n1_ := Aside0.mk (Kd.R_below (Cmp.rr HO321.out) hb); have n2_ := Aside0.mk (Kd.R_below (Cmp.rr HO324.out) hb); have n3_ := Aside0.mk (blk_below (Cmp.b BK307.out) hb); have n4_ := Aside0.mk (blk_below (Cmp.b BK310.out) hb); have n5_ := Aside0.mk (below_step (Cmp.g HB.out) hb); clear HO314; clear HO321; clear HO324; clear BK307; clear BK310; clear HB; have HO314 := n0_; have HO321 := n1_; have HO324 := n2_; have BK307 := n3_; have BK310 := n4_; have HB := n5_; clear n0_ n1_ n2_ n3_ n4_ n5_; (try clear hb); (try clear hb2); (try clear hk); (try clear hi)) | ((with_reducible refine gate_callee (f := 162) rfl ?_); refine goesL_ (some 46) rfl rfl Try.func162 (by kernel_rfl) rfl #[.slice A0 l0.length c0] rfl Cmp.q ?_; (with_reducible refine (spec_l19Copy.calls _ _ l0 t330 _ ?side1 ?side2 A70.out).mono ?_); (case side1 => exact Cmp.rc (Kd.C_below HR0.out HB.out)); (case side2 => exact HC0.out); rintro e w95 ⟨v331, rfl, ho0, hb⟩; refine ⟨_, rfl, ?_⟩; have n0_ := Aside0.mk (Kd.R_below (Cmp.rr HO314.out) hb); have n1_ := Aside0.mk (Kd.R_elder' (Cmp.rr HO321.out) (Kd.R_base ho0) hb); have n2_ := Aside0.mk (Kd.R_elder' (Cmp.rr HO324.out) (Kd.R_base ho0) hb); have n3_ := Aside0.mk (Kd.R_lower (Kd.R_newB (Kd.R_new' (Kd.R_new' ho0 (Kd.R_lt (Cmp.rr HO321.out))) (Kd.R_lt (Cmp.rr HO324.out))) (g := gb310) (o := .cells #[.int .i64 (l0.length : Int), .int .i64 a1, .int .i64 a2, .int .i64 t308, .int .i64 t309, .int .i64 t315] 86 (0, 0)) (Cmp.b BK310.out)) (below_size (Cmp.g HB.out))); have n4_ := Aside0.mk (blk_below (Cmp.b BK307.out) hb); have n5_ := Aside0.mk (blk_below (Cmp.b BK310.out) hb); have n6_ := Aside0.mk (below_step (Cmp.g HB.out) hb); clear HO314; clear HO321; clear HO324; clear BK307; clear BK310; clear HB; have HO314 := n0_; have HO321 := n1_; have HO324 := n2_; have HO332 := n3_; have BK307 := n4_; have BK310 := n5_; have HB := n6_; clear n0_ n1_ n2_ n3_ n4_ n5_ n6_; (try clear hb); (try clear hb2); (try clear hk); (try clear hi); (try clear ho0)))
    go_ret2
    exact ⟨_, by first | rfl | (simp [errW_none, errW_some] <;> rfl) | (simp [*, errW_none, errW_some] <;> rfl), by (with_reducible repeat (first | apply Kd.R_alloc | apply Kd.R_drewN | apply Kd.R_drew)); exact Kd.R_mono HO332.out (fun _ hk => trivial), Cmp.g HB.out⟩
  ·rw [if_neg c11] at H
   have c11b0 : decide (0 < (l0.length : Int)) = false := decide_eq_false c11
   have c11b1 : decide (0 < l0.length) = false := decide_eq_false (by omega)
   clear c11; replace H := Option.bind_eq_some_iff.mp H; obtain ⟨t333, A960, H⟩ := H; (try dsimp only at H); have A96 := Aside0.mk A960; clear A960
   by_cases c97 : t333 = true
   ·subst c97; rw [if_pos rfl] at H
    simp only [Option.some.injEq, Prod.mk.injEq] at H
    obtain ⟨rfl, rfl⟩ := H
    go_enter Try.func140, Try.ntmps140
    try go_wp2_with (first | ((with_reducible refine gate_dst (N := 7) rfl ?_); refine box_event ?hg (N := 7) ?hd (cs := #[.int .i64 a3_0, .int .i64 a3_1, .int .i64 a3_2, .int .i64 a3_3]) (t := 84) ?hr ?_; (case hd => rfl); (case hg => rfl); (case hr => first | (go_simp; done) | (go_simp; rfl)); intro gb307 hg w98 hbox hb; have n0_ := Aside0.mk (below_step (Cmp.g HB.out) hb); have n1_ := Aside0.mk (hbox); have n2_ := Aside0.mk ((by rw [hg]; exact (below_size (Cmp.g HB.out)) : w.heap.size ≤ gb307)); have n3_ := Aside0.mk ((by rw [hg]; exact (below_size (Cmp.g HB.out)) : w.heap.size ≤ gb307)); clear HB; have HB := n0_; have BK307 := n1_; have GW307 := n2_; have GE307 := n3_; clear n0_ n1_ n2_ n3_; clear hb hbox hg; have hcz99_0 : w98.cell? ⟨gb307, 0, none⟩ = some (.int .i64 a3_0) := (blk_cell BK307.out 0).trans rfl; have hcz99_1 : w98.cell? ⟨gb307, 1, none⟩ = some (.int .i64 a3_1) := (blk_cell BK307.out 1).trans rfl; have hcz99_2 : w98.cell? ⟨gb307, 2, none⟩ = some (.int .i64 a3_2) := (blk_cell BK307.out 2).trans rfl; have hcz99_3 : w98.cell? ⟨gb307, 3, none⟩ = some (.int .i64 a3_3) := (blk_cell BK307.out 3).trans rfl; have hfz99_0 := blk_frozen BK307.out 0; have hfz99_1 := blk_frozen BK307.out 1; have hfz99_2 := blk_frozen BK307.out 2; have hfz99_3 := blk_frozen BK307.out 3) | ((with_reducible refine gate_callee (f := 40) rfl ?_); refine goesL_ (some 17) rfl rfl Try.func40 (by kernel_rfl) rfl #[.agg #[.int .i64 a3_0, .int .i64 a3_1, .int .i64 a3_2, .int .i64 a3_3]] rfl Cmp.q ?_; (with_reducible refine (spec_DevicePublic.calls k a3_0 a3_1 a3_2 a3_3 t308 _ A5.out).mono ?_); rintro e w100 ⟨rfl, hb⟩; refine ⟨_, rfl, ?_⟩; have n0_ := Aside0.mk (blk_below (Cmp.b BK307.out) hb); have n1_ := Aside0.mk (below_step (Cmp.g HB.out) hb); clear BK307; clear HB; have BK307 := n0_; have HB := n1_; clear n0_ n1_; (try clear hb); (try clear hb2); (try clear hk); (try clear hi)) | ((with_reducible refine gate_callee (f := 119) rfl ?_); refine goesL_ (some 19) rfl rfl Try.func119 (by kernel_rfl) rfl #[.slice A0 l0.length c0] rfl Cmp.q ?_; (with_reducible refine (spec_LogHead.calls k _ _ l0 t309 _ ?side1 ?side2 A6.out).mono ?_); (case side1 => exact Cmp.rc (Kd.C_below HR0.out HB.out)); (case side2 => exact HC0.out); rintro e w101 ⟨rfl, hb⟩; refine ⟨_, rfl, ?_⟩; have n0_ := Aside0.mk (blk_below (Cmp.b BK307.out) hb); have n1_ := Aside0.mk (below_step (Cmp.g HB.out) hb); clear BK307; clear HB; have BK307 := n0_; have HB := n1_; clear n0_ n1_; (try clear hb); (try clear hb2); (try clear hk); (try clear hi)) | ((with_reducible refine gate_dst (N := 10) rfl ?_); refine box_event ?hg (N := 10) ?hd (cs := #[.int .i64 0, .int .i64 0, .int .i64 0, .int .i64 0, .int .i64 0, .int .i64 0]) (t := 86) ?hr ?_; (case hd => rfl); (case hg => rfl); (case hr => first | (go_simp; done) | (go_simp; rfl)); intro gb310 hg w102 hbox hb; have n0_ := Aside0.mk (blk_below (Cmp.b BK307.out) hb); have n1_ := Aside0.mk (below_step (Cmp.g HB.out) hb); have n2_ := Aside0.mk (hbox); have n3_ := Aside0.mk ((by rw [hg]; exact (below_size (Cmp.g HB.out)) : w.heap.size ≤ gb310)); have n4_ := Aside0.mk ((by rw [hg]; exact (below_size (Cmp.g HB.out)) : w.heap.size ≤ gb310)); have n5_ := Aside0.mk ((by rw [hg]; exact Nat.ne_of_lt (blk_lt (Cmp.b BK307.out)) : gb307 ≠ gb310)); have n6_ := Aside0.mk ((by rw [hg]; exact Nat.ne_of_gt (blk_lt (Cmp.b BK307.out)) : gb310 ≠ gb307)); clear BK307; clear HB; have BK307 := n0_; have HB := n1_; have BK310 := n2_; have GW310 := n3_; have GE310 := n4_; have NB307_310 := n5_; have NB310_307 := n6_; clear n0_ n1_ n2_ n3_ n4_ n5_ n6_; clear hb hbox hg; have hnb103 := NB310_307.out; have hnc103 := NB307_310.out; have hcz104_0 : w102.cell? ⟨gb310, 0, none⟩ = some (.int .i64 0) := (blk_cell BK310.out 0).trans rfl; have hcz104_1 : w102.cell? ⟨gb310, 1, none⟩ = some (.int .i64 0) := (blk_cell BK310.out 1).trans rfl; have hcz104_2 : w102.cell? ⟨gb310, 2, none⟩ = some (.int .i64 0) := (blk_cell BK310.out 2).trans rfl; have hcz104_3 : w102.cell? ⟨gb310, 3, none⟩ = some (.int .i64 0) := (blk_cell BK310.out 3).trans rfl; have hcz104_4 : w102.cell? ⟨gb310, 4, none⟩ = some (.int .i64 0) := (blk_cell BK310.out 4).trans rfl; have hcz104_5 : w102.cell? ⟨gb310, 5, none⟩ = some (.int .i64 0) := (blk_cell BK310.out 5).trans rfl; have hfz104_0 := blk_frozen BK310.out 0; have hfz104_1 := blk_frozen BK310.out 1; have hfz104_2 := blk_frozen BK310.out 2; have hfz104_3 := blk_frozen BK310.out 3; have hfz104_4 := blk_frozen BK310.out 4; have hfz104_5 := blk_frozen BK310.out 5))
    have n0_ : Aside0 (((((((w102.setCell ⟨gb310, 0, none⟩ (.int .i64 (l0.length : Int))).setCell ⟨gb310, 1, none⟩ (.int .i64 a1)).setCell ⟨gb310, 2, none⟩ (.int .i64 a2)).setCell ⟨gb310, 3, none⟩ (.int .i64 t308)).setCell ⟨gb310, 4, none⟩ (.int .i64 t309)).setCell ⟨gb310, 5, none⟩ (.int .i64 0)).heap[gb307]? = some (.cells #[.int .i64 a3_0, .int .i64 a3_1, .int .i64 a3_2, .int .i64 a3_3] 84 (0, 0))) := ⟨by (with_reducible repeat (first | refine blk_drewN ?_ _ | refine blk_drew ?_ | refine blk_alloc ?_ _)); refine blk_far ?_ NB307_310.out _; (with_reducible repeat (first | refine blk_drewN ?_ _ | refine blk_drew ?_ | refine blk_alloc ?_ _)); refine blk_far ?_ NB307_310.out _; (with_reducible repeat (first | refine blk_drewN ?_ _ | refine blk_drew ?_ | refine blk_alloc ?_ _)); refine blk_far ?_ NB307_310.out _; (with_reducible repeat (first | refine blk_drewN ?_ _ | refine blk_drew ?_ | refine blk_alloc ?_ _)); refine blk_far ?_ NB307_310.out _; (with_reducible repeat (first | refine blk_drewN ?_ _ | refine blk_drew ?_ | refine blk_alloc ?_ _)); refine blk_far ?_ NB307_310.out _; (with_reducible repeat (first | refine blk_drewN ?_ _ | refine blk_drew ?_ | refine blk_alloc ?_ _)); refine blk_far ?_ NB307_310.out _; (with_reducible repeat (first | refine blk_drewN ?_ _ | refine blk_drew ?_ | refine blk_alloc ?_ _)); exact BK307.out⟩
    have n1_ : Aside0 (((((((w102.setCell ⟨gb310, 0, none⟩ (.int .i64 (l0.length : Int))).setCell ⟨gb310, 1, none⟩ (.int .i64 a1)).setCell ⟨gb310, 2, none⟩ (.int .i64 a2)).setCell ⟨gb310, 3, none⟩ (.int .i64 t308)).setCell ⟨gb310, 4, none⟩ (.int .i64 t309)).setCell ⟨gb310, 5, none⟩ (.int .i64 0)).heap[gb310]? = some (.cells #[.int .i64 (l0.length : Int), .int .i64 a1, .int .i64 a2, .int .i64 t308, .int .i64 t309, .int .i64 0] 86 (0, 0))) := ⟨by (with_reducible repeat (first | refine blk_drewN ?_ _ | refine blk_drew ?_ | refine blk_alloc ?_ _)); refine blk_put (cs := #[.int .i64 (l0.length : Int), .int .i64 a1, .int .i64 a2, .int .i64 t308, .int .i64 t309, .int .i64 0]) ?_ 5 _ rfl; (with_reducible repeat (first | refine blk_drewN ?_ _ | refine blk_drew ?_ | refine blk_alloc ?_ _)); refine blk_put (cs := #[.int .i64 (l0.length : Int), .int .i64 a1, .int .i64 a2, .int .i64 t308, .int .i64 0, .int .i64 0]) ?_ 4 _ rfl; (with_reducible repeat (first | refine blk_drewN ?_ _ | refine blk_drew ?_ | refine blk_alloc ?_ _)); refine blk_put (cs := #[.int .i64 (l0.length : Int), .int .i64 a1, .int .i64 a2, .int .i64 0, .int .i64 0, .int .i64 0]) ?_ 3 _ rfl; (with_reducible repeat (first | refine blk_drewN ?_ _ | refine blk_drew ?_ | refine blk_alloc ?_ _)); refine blk_put (cs := #[.int .i64 (l0.length : Int), .int .i64 a1, .int .i64 0, .int .i64 0, .int .i64 0, .int .i64 0]) ?_ 2 _ rfl; (with_reducible repeat (first | refine blk_drewN ?_ _ | refine blk_drew ?_ | refine blk_alloc ?_ _)); refine blk_put (cs := #[.int .i64 (l0.length : Int), .int .i64 0, .int .i64 0, .int .i64 0, .int .i64 0, .int .i64 0]) ?_ 1 _ rfl; (with_reducible repeat (first | refine blk_drewN ?_ _ | refine blk_drew ?_ | refine blk_alloc ?_ _)); refine blk_put (cs := #[.int .i64 0, .int .i64 0, .int .i64 0, .int .i64 0, .int .i64 0, .int .i64 0]) ?_ 0 _ rfl; (with_reducible repeat (first | refine blk_drewN ?_ _ | refine blk_drew ?_ | refine blk_alloc ?_ _)); exact BK310.out⟩
    have n2_ : Aside0 (Below w.heap.size w ((((((w102.setCell ⟨gb310, 0, none⟩ (.int .i64 (l0.length : Int))).setCell ⟨gb310, 1, none⟩ (.int .i64 a1)).setCell ⟨gb310, 2, none⟩ (.int .i64 a2)).setCell ⟨gb310, 3, none⟩ (.int .i64 t308)).setCell ⟨gb310, 4, none⟩ (.int .i64 t309)).setCell ⟨gb310, 5, none⟩ (.int .i64 0))) := ⟨Cmp.g HB.out⟩
    (try clear BK307); (try clear BK310); (try clear HB)
    generalize ((((((w102.setCell ⟨gb310, 0, none⟩ (.int .i64 (l0.length : Int))).setCell ⟨gb310, 1, none⟩ (.int .i64 a1)).setCell ⟨gb310, 2, none⟩ (.int .i64 a2)).setCell ⟨gb310, 3, none⟩ (.int .i64 t308)).setCell ⟨gb310, 4, none⟩ (.int .i64 t309)).setCell ⟨gb310, 5, none⟩ (.int .i64 0)) = w105 at n0_ n1_ n2_ ⊢
    have BK307 := n0_; have BK310 := n1_; have HB := n2_; clear n0_ n1_ n2_; have n0_ := Aside0.mk (blk_drew BK307.out); have n1_ := Aside0.mk (blk_drew BK310.out); have n2_ := Aside0.mk (below_drew1 HB.out); clear BK307; clear BK310; clear HB; have BK307 := n0_; have BK310 := n1_; have HB := n2_; clear n0_ n1_ n2_
    refine start_ (n := 7) (S := fun w' => w'.cell? ⟨gb307, 0, none⟩ = some (.int .i64 a3_0) ∧ w'.cell? ⟨gb307, 1, none⟩ = some (.int .i64 a3_1) ∧ w'.cell? ⟨gb307, 2, none⟩ = some (.int .i64 a3_2) ∧ w'.cell? ⟨gb307, 3, none⟩ = some (.int .i64 a3_3) ∧ w'.cell? ⟨gb310, 0, none⟩ = some (.int .i64 (l0.length : Int)) ∧ w'.cell? ⟨gb310, 1, none⟩ = some (.int .i64 a1) ∧ w'.cell? ⟨gb310, 2, none⟩ = some (.int .i64 a2) ∧ w'.cell? ⟨gb310, 3, none⟩ = some (.int .i64 t308) ∧ w'.cell? ⟨gb310, 4, none⟩ = some (.int .i64 t309) ∧ w'.cell? ⟨gb310, 5, none⟩ = some (.int .i64 0)) (ds := [6]) (Cmp.bm 0 7) (by kernel_rfl) rfl rfl ⟨(blk_cell BK307.out 0).trans rfl, (blk_cell BK307.out 1).trans rfl, (blk_cell BK307.out 2).trans rfl, (blk_cell BK307.out 3).trans rfl, (blk_cell BK310.out 0).trans rfl, (blk_cell BK310.out 1).trans rfl, (blk_cell BK310.out 2).trans rfl, (blk_cell BK310.out 3).trans rfl, (blk_cell BK310.out 4).trans rfl, (blk_cell BK310.out 5).trans rfl⟩ (fun hHeld => ?_)
    generalize w105.drew = w106 at BK307 BK310 HB hHeld ⊢
    refine take_ (i := 0) (N := some 21) (v := ?_) (a' := ?_) (Cmp.bm 1 6) rfl rfl (by kernel_rfl) (fun _ _ _ h => h) (Or.inl ⟨by rfl, ?_⟩) hHeld ?_ ?_
    rotate_left
    ·rintro w' ⟨s0, s1, s2, s3, s4, s5, s6, s7, s8, s9⟩; go_simp; with_reducible rfl
    rotate_left
    ·simp only [Act.put, Cmp.s, Cmp.z, Cmp.c, i64_w, i32_w]; rfl
    refine take_ (i := 1) (N := some 22) (v := ?_) (a' := ?_) (Cmp.bm 2 5) rfl rfl (by kernel_rfl) (fun _ _ _ h => h) (Or.inl ⟨by rfl, ?_⟩) hHeld ?_ ?_
    rotate_left
    ·rintro w' ⟨s0, s1, s2, s3, s4, s5, s6, s7, s8, s9⟩; go_simp; with_reducible rfl
    rotate_left
    ·simp only [Act.put, Cmp.s, Cmp.z, Cmp.c, i64_w, i32_w]; rfl
    refine one_ (i := 2) (N := some 23) (Cmp.bm 3 4) rfl rfl (by kernel_rfl) (by decide) (fun K hK => ?_)
    refine goes_ Try.func121 (by kernel_rfl) rfl #[.agg #[.int .i64 (l0.length : Int), .int .i64 a1, .int .i64 a2, .int .i64 t308, .int .i64 t309, .int .i64 0]] (by rfl) rfl rfl Cmp.q ?_
    with_reducible refine (spec_EntryHash.calls k (l0.length : Int) a1 a2 t308 t309 0 t311 _ A7.out).mono ?_
    rintro e w107 ⟨rfl, hb⟩; refine ⟨_, rfl, ?_⟩
    have n0_ := Aside0.mk (blk_below (Cmp.b BK307.out) hb)
    have n1_ := Aside0.mk (blk_below (Cmp.b BK310.out) hb)
    have n2_ := Aside0.mk (below_step (Cmp.g HB.out) hb)
    clear BK307; clear BK310; clear HB; have BK307 := n0_; have BK310 := n1_; have HB := n2_; clear n0_ n1_ n2_; (try clear hb); (try clear hb2); (try clear hk); (try clear hi)
    refine hK.out _ _ ⟨(blk_cell BK307.out 0).trans rfl, (blk_cell BK307.out 1).trans rfl, (blk_cell BK307.out 2).trans rfl, (blk_cell BK307.out 3).trans rfl, (blk_cell BK310.out 0).trans rfl, (blk_cell BK310.out 1).trans rfl, (blk_cell BK310.out 2).trans rfl, (blk_cell BK310.out 3).trans rfl, (blk_cell BK310.out 4).trans rfl, (blk_cell BK310.out 5).trans rfl⟩ (fun hHeld => ?_)
    clear hK K
    refine norm_ (a' := ?_) ?_ ?_
    rotate_left
    ·show Act.put _ (some 23) _ = _
     simp only [Act.put, Cmp.s, Cmp.z, Cmp.c, i64_w, i32_w]; rfl
    refine one_ (i := 3) (N := some 24) (Cmp.bm 4 3) rfl rfl (by kernel_rfl) (by decide) (fun K hK => ?_)
    refine Kd.R_lit_step (Kd.int .i64) _ 3 ?hg (N := 24) ?hd (xs := ([t311] : List Int)) (inner := [.int .i64 t311]) (ok := fun _ => True) (okp := fun _ => True) ?hr ?hp (fun _ hk => hk) trivial (Below.refl _ _) (Nat.le_refl _) (by simp) ?_; (case hd => rfl); (case hg => rfl); (case hr => first | (go_simp; done) | (go_simp; rfl)); (case hp => exact (Reps.one (show Kd.M (Kd.int .i64) _ _ _ t311 [.int .i64 t311] from rfl) (Reps.none _ _)))
    intro v313 w108 ho109 hb hg_ hnew_
    clear hg_ hnew_
    (first | rw [← Ny312.out] at ho109 | (simp only [Int.reduceToNat] at ho109; rw [← Ny312.out] at ho109))
    have n0_ := Aside0.mk (Kd.R_lower ho109 (below_size (Cmp.g HB.out)))
    have n1_ := Aside0.mk (blk_below (Cmp.b BK307.out) hb)
    have n2_ := Aside0.mk (blk_below (Cmp.b BK310.out) hb)
    have n3_ := Aside0.mk (below_step (Cmp.g HB.out) hb)
    clear BK307; clear BK310; clear HB; have HO314 := n0_; have BK307 := n1_; have BK310 := n2_; have HB := n3_; clear n0_ n1_ n2_ n3_; clear hb ho109
    obtain ⟨Ao110, co110, eo110⟩ := Kd.R_slice HO314.out
    (first | subst eo110 | (injection eo110 with f1_ f2_ f3_; have f4_ := f1_.symm; have f5_ := f3_.symm; clear f1_ f2_ f3_; subst f4_; subst f5_))
    refine hK.out _ _ ⟨(blk_cell BK307.out 0).trans rfl, (blk_cell BK307.out 1).trans rfl, (blk_cell BK307.out 2).trans rfl, (blk_cell BK307.out 3).trans rfl, (blk_cell BK310.out 0).trans rfl, (blk_cell BK310.out 1).trans rfl, (blk_cell BK310.out 2).trans rfl, (blk_cell BK310.out 3).trans rfl, (blk_cell BK310.out 4).trans rfl, (blk_cell BK310.out 5).trans rfl⟩ (fun hHeld => ?_)
    clear hK K
    refine norm_ (a' := ?_) ?_ ?_
    rotate_left
    ·show Act.put _ (some 24) _ = _
     simp only [Act.put, Cmp.s, Cmp.z, Cmp.c, i64_w, i32_w]; rfl
    refine one_ (i := 4) (N := some 25) (Cmp.bm 5 2) rfl rfl (by kernel_rfl) (by decide) (fun K hK => ?_)
    refine goes_ Try.func161 (by kernel_rfl) rfl #[.agg #[.int .i64 a3_0, .int .i64 a3_1, .int .i64 a3_2, .int .i64 a3_3], .slice Ao110 y312.length co110] (by rfl) rfl rfl Cmp.q ?_
    with_reducible refine (spec_SignAsDevice.calls k a3_0 a3_1 a3_2 a3_3 _ _ y312 t315 _ ?side1 ?side2 A8.out).mono ?_
    (case side1 => exact Cmp.rc (Kd.R_reads' HO314.out).2.2)
    (case side2 => exact (Kd.R_reads' HO314.out).2.1)
    rintro e w111 ⟨rfl, hb⟩; refine ⟨_, rfl, ?_⟩
    have n0_ := Aside0.mk (Kd.R_below (Cmp.rr HO314.out) hb)
    have n1_ := Aside0.mk (blk_below (Cmp.b BK307.out) hb)
    have n2_ := Aside0.mk (blk_below (Cmp.b BK310.out) hb)
    have n3_ := Aside0.mk (below_step (Cmp.g HB.out) hb)
    clear HO314; clear BK307; clear BK310; clear HB; have HO314 := n0_; have BK307 := n1_; have BK310 := n2_; have HB := n3_; clear n0_ n1_ n2_ n3_; (try clear hb); (try clear hb2); (try clear hk); (try clear hi)
    refine hK.out _ _ ⟨(blk_cell BK307.out 0).trans rfl, (blk_cell BK307.out 1).trans rfl, (blk_cell BK307.out 2).trans rfl, (blk_cell BK307.out 3).trans rfl, (blk_cell BK310.out 0).trans rfl, (blk_cell BK310.out 1).trans rfl, (blk_cell BK310.out 2).trans rfl, (blk_cell BK310.out 3).trans rfl, (blk_cell BK310.out 4).trans rfl, (blk_cell BK310.out 5).trans rfl⟩ (fun hHeld => ?_)
    clear hK K
    refine norm_ (a' := ?_) ?_ ?_
    rotate_left
    ·show Act.put _ (some 25) _ = _
     simp only [Act.put, Cmp.s, Cmp.z, Cmp.c, i64_w, i32_w]; rfl
    refine pure_ (i := 5) (N := some 26) (v := ?_) (a' := ?_) (Cmp.bm 6 1) rfl rfl (by kernel_rfl) (fun _ _ _ h => h) (Or.inl ⟨by rfl, ?_⟩) ?_ ?_
    rotate_left
    ·intro w'; go_simp; with_reducible rfl
    rotate_left
    ·simp only [Act.put, Cmp.s, Cmp.z, Cmp.c, i64_w, i32_w]; rfl
    refine last_ (i := 6) (N := none) (Cmp.bm 7 0) rfl rfl (by kernel_rfl) (by decide) (fun K hK => ?_)
    have hs112 : w111.cell? ⟨gb310, 5, none⟩ = some (.int .i64 0) := (blk_cell BK310.out 5).trans rfl
    have hfs112 := blk_frozen BK310.out 5; have hns112_0 := NB307_310.out; have hms112_0 := NB310_307.out
    refine skip_ (w1 := ?_) (by rfl) rfl ?_ ?_
    rotate_left
    ·go_simp; rfl
    refine hK.out _ _ ?_
    clear hK K
    refine done_ (by kernel_rfl) ?_
    try go_wp2
    have n0_ : Aside0 (Kd.R (Kd.int .i64) 3 (w111.setCell ⟨gb310, 5, none⟩ (.int .i64 t315)) w.heap.size (fun _ => True) (.slice Ao110 y312.length co110) y312) := ⟨by (with_reducible repeat (first | apply Kd.R_alloc | apply Kd.R_drewN | apply Kd.R_drew)); exact Kd.R_mono (Kd.R_far (p := ⟨gb310, 5, none⟩) (Kd.R_types HO314.out BK310.out (by decide)) (fun _ hk => hk.2) (.int .i64 t315)) (fun _ hk => trivial)⟩
    have n1_ : Aside0 ((w111.setCell ⟨gb310, 5, none⟩ (.int .i64 t315)).heap[gb307]? = some (.cells #[.int .i64 a3_0, .int .i64 a3_1, .int .i64 a3_2, .int .i64 a3_3] 84 (0, 0))) := ⟨by (with_reducible repeat (first | refine blk_drewN ?_ _ | refine blk_drew ?_ | refine blk_alloc ?_ _)); refine blk_far ?_ NB307_310.out _; (with_reducible repeat (first | refine blk_drewN ?_ _ | refine blk_drew ?_ | refine blk_alloc ?_ _)); exact BK307.out⟩
    have n2_ : Aside0 ((w111.setCell ⟨gb310, 5, none⟩ (.int .i64 t315)).heap[gb310]? = some (.cells #[.int .i64 (l0.length : Int), .int .i64 a1, .int .i64 a2, .int .i64 t308, .int .i64 t309, .int .i64 t315] 86 (0, 0))) := ⟨by (with_reducible repeat (first | refine blk_drewN ?_ _ | refine blk_drew ?_ | refine blk_alloc ?_ _)); refine blk_put (cs := #[.int .i64 (l0.length : Int), .int .i64 a1, .int .i64 a2, .int .i64 t308, .int .i64 t309, .int .i64 0]) ?_ 5 _ rfl; (with_reducible repeat (first | refine blk_drewN ?_ _ | refine blk_drew ?_ | refine blk_alloc ?_ _)); exact BK310.out⟩
    have n3_ : Aside0 (Below w.heap.size w (w111.setCell ⟨gb310, 5, none⟩ (.int .i64 t315))) := ⟨Cmp.g HB.out⟩
    (try clear HO314); (try clear BK307); (try clear BK310); (try clear HB)
    generalize (w111.setCell ⟨gb310, 5, none⟩ (.int .i64 t315)) = w113 at n0_ n1_ n2_ n3_ ⊢
    have HO314 := n0_; have BK307 := n1_; have BK310 := n2_; have HB := n3_; clear n0_ n1_ n2_ n3_; have n0_ := Aside0.mk (Kd.R_drew HO314.out); have n1_ := Aside0.mk (blk_drew BK307.out); have n2_ := Aside0.mk (blk_drew BK310.out); have n3_ := Aside0.mk (below_drew1 HB.out); clear HO314; clear BK307; clear BK310; clear HB; have HO314 := n0_; have BK307 := n1_; have BK310 := n2_; have HB := n3_; clear n0_ n1_ n2_ n3_
    refine start_ (n := 6) (S := fun w' => w'.cell? ⟨gb310, 0, none⟩ = some (.int .i64 (l0.length : Int)) ∧ w'.cell? ⟨gb310, 1, none⟩ = some (.int .i64 a1) ∧ w'.cell? ⟨gb310, 2, none⟩ = some (.int .i64 a2) ∧ w'.cell? ⟨gb310, 3, none⟩ = some (.int .i64 t308) ∧ w'.cell? ⟨gb310, 4, none⟩ = some (.int .i64 t309) ∧ w'.cell? ⟨gb310, 5, none⟩ = some (.int .i64 t315)) (ds := []) (Cmp.bm 0 6) (by kernel_rfl) rfl rfl ⟨(blk_cell BK310.out 0).trans rfl, (blk_cell BK310.out 1).trans rfl, (blk_cell BK310.out 2).trans rfl, (blk_cell BK310.out 3).trans rfl, (blk_cell BK310.out 4).trans rfl, (blk_cell BK310.out 5).trans rfl⟩ (fun hHeld => ?_)
    generalize w113.drew = w114 at HO314 BK307 BK310 HB hHeld ⊢
    refine pure_ (i := 0) (N := some 27) (v := ?_) (a' := ?_) (Cmp.bm 1 5) rfl rfl (by kernel_rfl) (fun _ _ _ h => h) (Or.inl ⟨by rfl, ?_⟩) ?_ ?_
    rotate_left
    ·intro w'; go_simp; with_reducible rfl
    rotate_left
    ·simp only [Act.put, Cmp.s, Cmp.z, Cmp.c, i64_w, i32_w]; rfl
    refine take_ (i := 2) (N := some 29) (v := ?_) (a' := ?_) (Cmp.bb 6 5) rfl rfl (by kernel_rfl) (fun _ _ _ h => h) (Or.inl ⟨by rfl, ?_⟩) hHeld ?_ ?_
    rotate_left
    ·rintro w' ⟨s0, s1, s2, s3, s4, s5⟩; go_simp; with_reducible rfl
    rotate_left
    ·simp only [Act.put, Cmp.s, Cmp.z, Cmp.c, i64_w, i32_w]; rfl
    refine join_ (σ := Value × Value) 2 (Cmp.bm 4 2) (fun s_ => [(28, s_.1), (30, s_.2)]) (fun s_ w' => (w'.cell? ⟨gb310, 0, none⟩ = some (.int .i64 (l0.length : Int)) ∧ w'.cell? ⟨gb310, 1, none⟩ = some (.int .i64 a1) ∧ w'.cell? ⟨gb310, 2, none⟩ = some (.int .i64 a2) ∧ w'.cell? ⟨gb310, 3, none⟩ = some (.int .i64 t308) ∧ w'.cell? ⟨gb310, 4, none⟩ = some (.int .i64 t309) ∧ w'.cell? ⟨gb310, 5, none⟩ = some (.int .i64 t315)) ∧ (Kd.R (Kd.int .i64) 3 w' w.heap.size (fun _ => True) (.slice Ao110 y312.length co110) y312) ∧ (Kd.R k86 86 w' w.heap.size (fun k_ => some k_ ≠ (s_.2 : Value).ownBlock ∧ k_ ≠ gb310) s_.1 t316) ∧ (Kd.R k86 86 w' w.heap.size (fun k_ => some k_ ≠ (s_.1 : Value).ownBlock ∧ k_ ≠ gb310) s_.2 y319) ∧ (w'.heap[gb307]? = some (.cells #[.int .i64 a3_0, .int .i64 a3_1, .int .i64 a3_2, .int .i64 a3_3] 84 (0, 0))) ∧ (w'.heap[gb310]? = some (.cells #[.int .i64 (l0.length : Int), .int .i64 a1, .int .i64 a2, .int .i64 t308, .int .i64 t309, .int .i64 t315] 86 (0, 0))) ∧ (Below w.heap.size w w')) ?_ ?_
    rotate_left
    ·intro hCont
     refine two_ (i := 1) (j := 3) (Ni := some 28) (Nj := some 30) (Cmp.bm 3 3) (Cmp.bb 6 13) rfl rfl rfl rfl (by kernel_rfl) (by decide) (by decide) (fun K hK => ?_) (fun K hK => ?_)
     ·skip
      refine goes_ Try.func162 (by kernel_rfl) rfl #[.slice A0 l0.length c0] (by rfl) rfl rfl Cmp.q ?_
      with_reducible refine (spec_l19Copy.calls _ _ l0 t316 _ ?side1 ?side2 A9.out).mono ?_
      (case side1 => exact Cmp.rc (Kd.C_below HR0.out HB.out))
      (case side2 => exact HC0.out)
      rintro e w115 ⟨v317, rfl, ho0, hb⟩; refine ⟨_, rfl, ?_⟩
      have n0_ := Aside0.mk (Kd.R_below (Cmp.rr HO314.out) hb)
      have n1_ := Aside0.mk (Kd.R_lower (Kd.R_newB ho0 (g := gb310) (o := .cells #[.int .i64 (l0.length : Int), .int .i64 a1, .int .i64 a2, .int .i64 t308, .int .i64 t309, .int .i64 t315] 86 (0, 0)) (Cmp.b BK310.out)) (below_size (Cmp.g HB.out)))
      have n2_ := Aside0.mk (blk_below (Cmp.b BK307.out) hb)
      have n3_ := Aside0.mk (blk_below (Cmp.b BK310.out) hb)
      have n4_ := Aside0.mk (below_step (Cmp.g HB.out) hb)
      clear HO314; clear BK307; clear BK310; clear HB; have HO314 := n0_; have HO318 := n1_; have BK307 := n2_; have BK310 := n3_; have HB := n4_; clear n0_ n1_ n2_ n3_ n4_; (try clear hb); (try clear hb2); (try clear hk); (try clear hi); (try clear ho0)
      refine hK.out _ _ ⟨(blk_cell BK310.out 0).trans rfl, (blk_cell BK310.out 1).trans rfl, (blk_cell BK310.out 2).trans rfl, (blk_cell BK310.out 3).trans rfl, (blk_cell BK310.out 4).trans rfl, (blk_cell BK310.out 5).trans rfl⟩ (fun hHeld => ?_)
      clear hK K
      refine norm_ (a' := ?_) ?_ ?_
      rotate_left
      ·show Act.put _ (some 28) _ = _
       simp only [Act.put, Cmp.s, Cmp.z, Cmp.c, i64_w, i32_w]; rfl
      refine one_ (i := 3) (N := some 30) (Cmp.bm 4 2) rfl rfl (by kernel_rfl) (by decide) (fun K hK => ?_)
      refine Kd.R_lit_step k86 _ 86 ?hg (N := 30) ?hd (xs := ([(⟨(l0.length : Int), a1, a2, t308, t309, t315⟩ : S86)] : List (S86))) (inner := [.int .i64 (l0.length : Int), .int .i64 a1, .int .i64 a2, .int .i64 t308, .int .i64 t309, .int .i64 t315]) (ok := fun _ => True) (okp := fun _ => True) ?hr ?hp (fun _ hk => hk) trivial (Below.refl _ _) (Nat.le_refl _) (by simp) ?_; (case hd => rfl); (case hg => rfl); (case hr => first | (go_simp; done) | (go_simp; rfl)); (case hp => exact (Reps.c6 (show Kd.M k86 _ _ _ (⟨(l0.length : Int), a1, a2, t308, t309, t315⟩ : S86) [.int .i64 (l0.length : Int), .int .i64 a1, .int .i64 a2, .int .i64 t308, .int .i64 t309, .int .i64 t315] from (k86_mkM _ _ _ (⟨(l0.length : Int), a1, a2, t308, t309, t315⟩ : S86) )) (Reps.none _ _)))
      intro v320 w116 ho117 hb hg_ hnew_
      clear hg_ hnew_
      (first | rw [← Ny319.out] at ho117 | (simp only [Int.reduceToNat] at ho117; rw [← Ny319.out] at ho117))
      have n0_ := Aside0.mk (Kd.R_below (Cmp.rr HO314.out) hb)
      have n1_ := Aside0.mk (Kd.R_elder' (Cmp.rr HO318.out) (Kd.R_base ho117) hb)
      have n2_ := Aside0.mk (Kd.R_lower (Kd.R_newB (Kd.R_new' ho117 (Kd.R_lt (Cmp.rr HO318.out))) (g := gb310) (o := .cells #[.int .i64 (l0.length : Int), .int .i64 a1, .int .i64 a2, .int .i64 t308, .int .i64 t309, .int .i64 t315] 86 (0, 0)) (Cmp.b BK310.out)) (below_size (Cmp.g HB.out)))
      have n3_ := Aside0.mk (blk_below (Cmp.b BK307.out) hb)
      have n4_ := Aside0.mk (blk_below (Cmp.b BK310.out) hb)
      have n5_ := Aside0.mk (below_step (Cmp.g HB.out) hb)
      clear HO314; clear HO318; clear BK307; clear BK310; clear HB; have HO314 := n0_; have HO318 := n1_; have HO321 := n2_; have BK307 := n3_; have BK310 := n4_; have HB := n5_; clear n0_ n1_ n2_ n3_ n4_ n5_; clear hb ho117
      refine hK.out _ _ ⟨(blk_cell BK310.out 0).trans rfl, (blk_cell BK310.out 1).trans rfl, (blk_cell BK310.out 2).trans rfl, (blk_cell BK310.out 3).trans rfl, (blk_cell BK310.out 4).trans rfl, (blk_cell BK310.out 5).trans rfl⟩ (fun hHeld => ?_)
      clear hK K
      refine norm_ (a' := ?_) ?_ ?_
      rotate_left
      ·show Act.put _ (some 30) _ = _
       simp only [Act.put, Cmp.s, Cmp.z, Cmp.c, i64_w, i32_w]; rfl
      exact norm_ (by simp only [putAll, Act.put, List.setIfInBounds_toArray, List.set_cons_zero, List.set_cons_succ]) (hCont (v317, v320) _ ⟨hHeld, (Cmp.rr HO314.out), (by (with_reducible repeat (first | apply Kd.R_alloc | apply Kd.R_drewN | apply Kd.R_drew)); exact Kd.R_mono HO318.out (fun _ hk => ⟨hk.2, hk.1.2⟩)), (by (with_reducible repeat (first | apply Kd.R_alloc | apply Kd.R_drewN | apply Kd.R_drew)); exact Kd.R_mono HO321.out (fun _ hk => ⟨hk.1.2, hk.2⟩)), (Cmp.b BK307.out), (Cmp.b BK310.out), (Cmp.g HB.out)⟩)
     ·skip
      refine Kd.R_lit_step k86 _ 86 ?hg (N := 30) ?hd (xs := ([(⟨(l0.length : Int), a1, a2, t308, t309, t315⟩ : S86)] : List (S86))) (inner := [.int .i64 (l0.length : Int), .int .i64 a1, .int .i64 a2, .int .i64 t308, .int .i64 t309, .int .i64 t315]) (ok := fun _ => True) (okp := fun _ => True) ?hr ?hp (fun _ hk => hk) trivial (Below.refl _ _) (Nat.le_refl _) (by simp) ?_; (case hd => rfl); (case hg => rfl); (case hr => first | (go_simp; done) | (go_simp; rfl)); (case hp => exact (Reps.c6 (show Kd.M k86 _ _ _ (⟨(l0.length : Int), a1, a2, t308, t309, t315⟩ : S86) [.int .i64 (l0.length : Int), .int .i64 a1, .int .i64 a2, .int .i64 t308, .int .i64 t309, .int .i64 t315] from (k86_mkM _ _ _ (⟨(l0.length : Int), a1, a2, t308, t309, t315⟩ : S86) )) (Reps.none _ _)))
      intro v320 w115 ho116 hb hg_ hnew_
      clear hg_ hnew_
      (first | rw [← Ny319.out] at ho116 | (simp only [Int.reduceToNat] at ho116; rw [← Ny319.out] at ho116))
      have n0_ := Aside0.mk (Kd.R_below (Cmp.rr HO314.out) hb)
      have n1_ := Aside0.mk (Kd.R_lower (Kd.R_newB ho116 (g := gb310) (o := .cells #[.int .i64 (l0.length : Int), .int .i64 a1, .int .i64 a2, .int .i64 t308, .int .i64 t309, .int .i64 t315] 86 (0, 0)) (Cmp.b BK310.out)) (below_size (Cmp.g HB.out)))
      have n2_ := Aside0.mk (blk_below (Cmp.b BK307.out) hb)
      have n3_ := Aside0.mk (blk_below (Cmp.b BK310.out) hb)
      have n4_ := Aside0.mk (below_step (Cmp.g HB.out) hb)
      clear HO314; clear BK307; clear BK310; clear HB; have HO314 := n0_; have HO321 := n1_; have BK307 := n2_; have BK310 := n3_; have HB := n4_; clear n0_ n1_ n2_ n3_ n4_; clear hb ho116
      refine hK.out _ _ ⟨(blk_cell BK310.out 0).trans rfl, (blk_cell BK310.out 1).trans rfl, (blk_cell BK310.out 2).trans rfl, (blk_cell BK310.out 3).trans rfl, (blk_cell BK310.out 4).trans rfl, (blk_cell BK310.out 5).trans rfl⟩ (fun hHeld => ?_)
      clear hK K
      refine norm_ (a' := ?_) ?_ ?_
      rotate_left
      ·show Act.put _ (some 30) _ = _
       simp only [Act.put, Cmp.s, Cmp.z, Cmp.c, i64_w, i32_w]; rfl
      refine one_ (i := 1) (N := some 28) (Cmp.bm 4 2) rfl rfl (by kernel_rfl) (by decide) (fun K hK => ?_)
      refine goes_ Try.func162 (by kernel_rfl) rfl #[.slice A0 l0.length c0] (by rfl) rfl rfl Cmp.q ?_
      with_reducible refine (spec_l19Copy.calls _ _ l0 t316 _ ?side1 ?side2 A9.out).mono ?_
      (case side1 => exact Cmp.rc (Kd.C_below HR0.out HB.out))
      (case side2 => exact HC0.out)
      rintro e w117 ⟨v317, rfl, ho0, hb⟩; refine ⟨_, rfl, ?_⟩
      have n0_ := Aside0.mk (Kd.R_below (Cmp.rr HO314.out) hb)
      have n1_ := Aside0.mk (Kd.R_elder' (Cmp.rr HO321.out) (Kd.R_base ho0) hb)
      have n2_ := Aside0.mk (Kd.R_lower (Kd.R_newB (Kd.R_new' ho0 (Kd.R_lt (Cmp.rr HO321.out))) (g := gb310) (o := .cells #[.int .i64 (l0.length : Int), .int .i64 a1, .int .i64 a2, .int .i64 t308, .int .i64 t309, .int .i64 t315] 86 (0, 0)) (Cmp.b BK310.out)) (below_size (Cmp.g HB.out)))
      have n3_ := Aside0.mk (blk_below (Cmp.b BK307.out) hb)
      have n4_ := Aside0.mk (blk_below (Cmp.b BK310.out) hb)
      have n5_ := Aside0.mk (below_step (Cmp.g HB.out) hb)
      clear HO314; clear HO321; clear BK307; clear BK310; clear HB; have HO314 := n0_; have HO321 := n1_; have HO318 := n2_; have BK307 := n3_; have BK310 := n4_; have HB := n5_; clear n0_ n1_ n2_ n3_ n4_ n5_; (try clear hb); (try clear hb2); (try clear hk); (try clear hi); (try clear ho0)
      refine hK.out _ _ ⟨(blk_cell BK310.out 0).trans rfl, (blk_cell BK310.out 1).trans rfl, (blk_cell BK310.out 2).trans rfl, (blk_cell BK310.out 3).trans rfl, (blk_cell BK310.out 4).trans rfl, (blk_cell BK310.out 5).trans rfl⟩ (fun hHeld => ?_)
      clear hK K
      refine norm_ (a' := ?_) ?_ ?_
      rotate_left
      ·show Act.put _ (some 28) _ = _
       simp only [Act.put, Cmp.s, Cmp.z, Cmp.c, i64_w, i32_w]; rfl
      exact norm_ (by simp only [putAll, Act.put, List.setIfInBounds_toArray, List.set_cons_zero, List.set_cons_succ]) (hCont (v317, v320) _ ⟨hHeld, (Cmp.rr HO314.out), (by (with_reducible repeat (first | apply Kd.R_alloc | apply Kd.R_drewN | apply Kd.R_drew)); exact Kd.R_mono HO318.out (fun _ hk => ⟨hk.1.2, hk.2⟩)), (by (with_reducible repeat (first | apply Kd.R_alloc | apply Kd.R_drewN | apply Kd.R_drew)); exact Kd.R_mono HO321.out (fun _ hk => ⟨hk.2, hk.1.2⟩)), (Cmp.b BK307.out), (Cmp.b BK310.out), (Cmp.g HB.out)⟩)
    rintro ⟨v317, v320⟩ w118 ⟨hS_, h0_, h1_, h2_, h3_, h4_, h5_⟩
    have n0_ : Aside0 (Kd.R (Kd.int .i64) 3 w118 w.heap.size (fun _ => True) (.slice Ao110 y312.length co110) y312) := ⟨h0_⟩
    have n1_ : Aside0 (Kd.R k86 86 w118 w.heap.size (fun k_ => some k_ ≠ (v320 : Value).ownBlock ∧ k_ ≠ gb310) v317 t316) := ⟨h1_⟩
    have n2_ : Aside0 (Kd.R k86 86 w118 w.heap.size (fun k_ => some k_ ≠ (v317 : Value).ownBlock ∧ k_ ≠ gb310) v320 y319) := ⟨h2_⟩
    have n3_ : Aside0 (w118.heap[gb307]? = some (.cells #[.int .i64 a3_0, .int .i64 a3_1, .int .i64 a3_2, .int .i64 a3_3] 84 (0, 0))) := ⟨h3_⟩
    have n4_ : Aside0 (w118.heap[gb310]? = some (.cells #[.int .i64 (l0.length : Int), .int .i64 a1, .int .i64 a2, .int .i64 t308, .int .i64 t309, .int .i64 t315] 86 (0, 0))) := ⟨h4_⟩
    have n5_ : Aside0 (Below w.heap.size w w118) := ⟨h5_⟩
    clear HO314; clear BK307; clear BK310; clear HB; clear h0_ h1_ h2_ h3_ h4_ h5_; have HO314 := n0_; have HO318 := n1_; have HO321 := n2_; have BK307 := n3_; have BK310 := n4_; have HB := n5_; clear n0_ n1_ n2_ n3_ n4_ n5_
    have hHeld : w118.cell? ⟨gb310, 0, none⟩ = some (.int .i64 (l0.length : Int)) ∧ w118.cell? ⟨gb310, 1, none⟩ = some (.int .i64 a1) ∧ w118.cell? ⟨gb310, 2, none⟩ = some (.int .i64 a2) ∧ w118.cell? ⟨gb310, 3, none⟩ = some (.int .i64 t308) ∧ w118.cell? ⟨gb310, 4, none⟩ = some (.int .i64 t309) ∧ w118.cell? ⟨gb310, 5, none⟩ = some (.int .i64 t315) := hS_
    obtain ⟨Ao120, co120, eo120⟩ := Kd.R_slice HO321.out
    (first | subst eo120 | (injection eo120 with f1_ f2_ f3_; have f4_ := f1_.symm; have f5_ := f3_.symm; clear f1_ f2_ f3_; subst f4_; subst f5_))
    refine norm_ (a' := ?_) ?_ ?_
    rotate_left
    ·simp only [putAll, Act.put, List.setIfInBounds_toArray, List.set_cons_zero, List.set_cons_succ]; rfl
    refine one_ (i := 4) (N := some 31) (Cmp.bm 5 1) rfl rfl (by kernel_rfl) (by decide) (fun K hK => ?_)
    refine Kd.R_append_rows_step k86 (w0 := w) w.heap.size (by rfl) (.tmp 28) (.tmp 30) 40 86 (.agg #[(.int .i64 0), (.int .i64 0), (.int .i64 0), (.int .i64 0), (.int .i64 0), (.int .i64 0)]) 48 rfl Try.underlying40 info86 rfl (by decide) (by omega) v317 t316 y319 _ _ _ (fun k_ => some k_ ≠ (.slice Ao120 y319.length co120 : Value).ownBlock ∧ k_ ≠ gb310) (fun _ => False) rfl rfl ?aO ?aR (fun _ _ h => h) (fun _ h => h.elim) ?aF ?aB ?aS ?aL ?_
    (case aR => repeat (first | exact (Kd.R_reads' HO321.out).2.2 | (with_reducible refine Kd.C_alloc ?_ _) | (with_reducible refine Kd.C_drewN ?_ _) | (with_reducible refine Kd.C_drew ?_)))
    (case aB => exact (Cmp.g HB.out))
    (case aF => exact (fun k_ hk => ⟨Kd.fresh' (Kd.R_lt (Cmp.rr HO321.out)) k_ hk, Kd.freshB (g := gb310) (o := .cells #[.int .i64 (l0.length : Int), .int .i64 a1, .int .i64 a2, .int .i64 t308, .int .i64 t309, .int .i64 t315] 86 (0, 0)) (Cmp.b BK310.out) k_ hk⟩))
    (case aO => exact (Cmp.rr HO318.out))
    (case aS => exact (below_size (Cmp.g HB.out)))
    (case aL => have := LMc10.out; omega)
    intro v323 w119 ho hb hg hat
    rw [← Ny322.out] at ho
    have n0_ := Aside0.mk (blk_grown (g := gb307) (o := .cells #[.int .i64 a3_0, .int .i64 a3_1, .int .i64 a3_2, .int .i64 a3_3] 84 (0, 0)) (Cmp.b BK307.out) hg (Kd.R_ne HO318.out BK307.out (by decide)))
    have n1_ := Aside0.mk (blk_grown (g := gb310) (o := .cells #[.int .i64 (l0.length : Int), .int .i64 a1, .int .i64 a2, .int .i64 t308, .int .i64 t309, .int .i64 t315] 86 (0, 0)) (Cmp.b BK310.out) hg (Kd.R_away HO318.out (fun _ hk => hk.2)))
    have n2_ := Aside0.mk (Kd.R_over' (Cmp.rr HO314.out) (Kd.R_typed (Cmp.rr HO318.out)) (by decide) hg)
    have n3_ := Aside0.mk (Kd.R_after (ok := (fun k_ => k_ ≠ gb310)) (by (with_reducible repeat (first | apply Kd.R_alloc | apply Kd.R_drewN | apply Kd.R_drew)); exact Kd.R_mono HO321.out (fun _ hk => ⟨hk.2, hk.1⟩)) hg hat)
    have n4_ := Aside0.mk (hb)
    have n5_ := Aside0.mk (ho)
    clear BK307; clear BK310; clear HO314; clear HO321; clear HB; clear HO318; have BK307 := n0_; have BK310 := n1_; have HO314 := n2_; have HO321 := n3_; have HB := n4_; have HO324 := n5_; clear n0_ n1_ n2_ n3_ n4_ n5_; clear ho hb hg hat
    refine hK.out _ _ ⟨(blk_cell BK310.out 0).trans rfl, (blk_cell BK310.out 1).trans rfl, (blk_cell BK310.out 2).trans rfl, (blk_cell BK310.out 3).trans rfl, (blk_cell BK310.out 4).trans rfl, (blk_cell BK310.out 5).trans rfl⟩ (fun hHeld => ?_)
    clear hK K
    refine norm_ (a' := ?_) ?_ ?_
    rotate_left
    ·show Act.put _ (some 31) _ = _
     simp only [Act.put, Cmp.s, Cmp.z, Cmp.c, i64_w, i32_w]; rfl
    refine pure_ (i := 5) (N := some 11) (v := ?_) (a' := ?_) (Cmp.bm 6 0) rfl rfl (by kernel_rfl) (fun _ _ _ h => h) (Or.inl ⟨by rfl, ?_⟩) ?_ ?_
    rotate_left
    ·intro w'; go_simp; with_reducible rfl
    rotate_left
    ·simp only [Act.put, Cmp.s, Cmp.z, Cmp.c, i64_w, i32_w]; rfl
    refine done_ (by kernel_rfl) ?_
    obtain ⟨Ao121, co121, eo121⟩ := Kd.R_slice HO324.out
    subst eo121
    try go_wp2_with (first | (go_at_call 18; (with_reducible refine (spec_VerifyLog.calls k _ _ y322 true _ ?side1 ?side2 A96.out).mono ?_); (case side1 => exact Cmp.rc (Kd.R_reads' HO324.out).2.2); (case side2 => exact (Kd.R_reads' HO324.out).2.1); rintro e w122 ⟨rfl, hb⟩; have n0_ := Aside0.mk (Kd.R_below (Cmp.rr HO314.out) hb); have n1_ := Aside0.mk (Kd.R_below (Cmp.rr HO321.out) hb); have n2_ := Aside0.mk (Kd.R_below (Cmp.rr HO324.out) hb); have n3_ := Aside0.mk (blk_below (Cmp.b BK307.out) hb); have n4_ := Aside0.mk (blk_below (Cmp.b BK310.out) hb); have n5_ := Aside0.mk (below_step (Cmp.g HB.out) hb); clear HO314; clear HO321; clear HO324; clear BK307; clear BK310; clear HB; have HO314 := n0_; have HO321 := n1_; have HO324 := n2_; have BK307 := n3_; have BK310 := n4_; have HB := n5_; clear n0_ n1_ n2_ n3_ n4_ n5_; (try clear hb); (try clear hb2); (try clear hk); (try clear hi)))
    go_ret2
    exact ⟨_, by first | rfl | (simp [errW_none, errW_some] <;> rfl) | (simp [*, errW_none, errW_some] <;> rfl), by (with_reducible repeat (first | apply Kd.R_alloc | apply Kd.R_drewN | apply Kd.R_drew)); exact Kd.R_mono HO324.out (fun _ hk => trivial), Cmp.g HB.out⟩
   ·replace c97 := Bool.eq_false_iff.mpr c97
    subst c97
    have H1 : ((spec_l19Copy.f l0).bind fun t334 => (some (t334, false))) = some (r1, r2) := by rw [if_neg (show ¬ (false = true) by decide)] at H; exact H
    clear H; have H := H1; clear H1; replace H := Option.bind_eq_some_iff.mp H; obtain ⟨t334, A1230, H⟩ := H; (try dsimp only at H); have A123 := Aside0.mk A1230; clear A1230
    simp only [Option.some.injEq, Prod.mk.injEq] at H
    obtain ⟨rfl, rfl⟩ := H
    go_enter Try.func140, Try.ntmps140
    try go_wp2_with (first | ((with_reducible refine gate_dst (N := 7) rfl ?_); refine box_event ?hg (N := 7) ?hd (cs := #[.int .i64 a3_0, .int .i64 a3_1, .int .i64 a3_2, .int .i64 a3_3]) (t := 84) ?hr ?_; (case hd => rfl); (case hg => rfl); (case hr => first | (go_simp; done) | (go_simp; rfl)); intro gb307 hg w124 hbox hb; have n0_ := Aside0.mk (below_step (Cmp.g HB.out) hb); have n1_ := Aside0.mk (hbox); have n2_ := Aside0.mk ((by rw [hg]; exact (below_size (Cmp.g HB.out)) : w.heap.size ≤ gb307)); have n3_ := Aside0.mk ((by rw [hg]; exact (below_size (Cmp.g HB.out)) : w.heap.size ≤ gb307)); clear HB; have HB := n0_; have BK307 := n1_; have GW307 := n2_; have GE307 := n3_; clear n0_ n1_ n2_ n3_; clear hb hbox hg; have hcz125_0 : w124.cell? ⟨gb307, 0, none⟩ = some (.int .i64 a3_0) := (blk_cell BK307.out 0).trans rfl; have hcz125_1 : w124.cell? ⟨gb307, 1, none⟩ = some (.int .i64 a3_1) := (blk_cell BK307.out 1).trans rfl; have hcz125_2 : w124.cell? ⟨gb307, 2, none⟩ = some (.int .i64 a3_2) := (blk_cell BK307.out 2).trans rfl; have hcz125_3 : w124.cell? ⟨gb307, 3, none⟩ = some (.int .i64 a3_3) := (blk_cell BK307.out 3).trans rfl; have hfz125_0 := blk_frozen BK307.out 0; have hfz125_1 := blk_frozen BK307.out 1; have hfz125_2 := blk_frozen BK307.out 2; have hfz125_3 := blk_frozen BK307.out 3) | ((with_reducible refine gate_callee (f := 40) rfl ?_); refine goesL_ (some 17) rfl rfl Try.func40 (by kernel_rfl) rfl #[.agg #[.int .i64 a3_0, .int .i64 a3_1, .int .i64 a3_2, .int .i64 a3_3]] rfl Cmp.q ?_; (with_reducible refine (spec_DevicePublic.calls k a3_0 a3_1 a3_2 a3_3 t308 _ A5.out).mono ?_); rintro e w126 ⟨rfl, hb⟩; refine ⟨_, rfl, ?_⟩; have n0_ := Aside0.mk (blk_below (Cmp.b BK307.out) hb); have n1_ := Aside0.mk (below_step (Cmp.g HB.out) hb); clear BK307; clear HB; have BK307 := n0_; have HB := n1_; clear n0_ n1_; (try clear hb); (try clear hb2); (try clear hk); (try clear hi)) | ((with_reducible refine gate_callee (f := 119) rfl ?_); refine goesL_ (some 19) rfl rfl Try.func119 (by kernel_rfl) rfl #[.slice A0 l0.length c0] rfl Cmp.q ?_; (with_reducible refine (spec_LogHead.calls k _ _ l0 t309 _ ?side1 ?side2 A6.out).mono ?_); (case side1 => exact Cmp.rc (Kd.C_below HR0.out HB.out)); (case side2 => exact HC0.out); rintro e w127 ⟨rfl, hb⟩; refine ⟨_, rfl, ?_⟩; have n0_ := Aside0.mk (blk_below (Cmp.b BK307.out) hb); have n1_ := Aside0.mk (below_step (Cmp.g HB.out) hb); clear BK307; clear HB; have BK307 := n0_; have HB := n1_; clear n0_ n1_; (try clear hb); (try clear hb2); (try clear hk); (try clear hi)) | ((with_reducible refine gate_dst (N := 10) rfl ?_); refine box_event ?hg (N := 10) ?hd (cs := #[.int .i64 0, .int .i64 0, .int .i64 0, .int .i64 0, .int .i64 0, .int .i64 0]) (t := 86) ?hr ?_; (case hd => rfl); (case hg => rfl); (case hr => first | (go_simp; done) | (go_simp; rfl)); intro gb310 hg w128 hbox hb; have n0_ := Aside0.mk (blk_below (Cmp.b BK307.out) hb); have n1_ := Aside0.mk (below_step (Cmp.g HB.out) hb); have n2_ := Aside0.mk (hbox); have n3_ := Aside0.mk ((by rw [hg]; exact (below_size (Cmp.g HB.out)) : w.heap.size ≤ gb310)); have n4_ := Aside0.mk ((by rw [hg]; exact (below_size (Cmp.g HB.out)) : w.heap.size ≤ gb310)); have n5_ := Aside0.mk ((by rw [hg]; exact Nat.ne_of_lt (blk_lt (Cmp.b BK307.out)) : gb307 ≠ gb310)); have n6_ := Aside0.mk ((by rw [hg]; exact Nat.ne_of_gt (blk_lt (Cmp.b BK307.out)) : gb310 ≠ gb307)); clear BK307; clear HB; have BK307 := n0_; have HB := n1_; have BK310 := n2_; have GW310 := n3_; have GE310 := n4_; have NB307_310 := n5_; have NB310_307 := n6_; clear n0_ n1_ n2_ n3_ n4_ n5_ n6_; clear hb hbox hg; have hnb129 := NB310_307.out; have hnc129 := NB307_310.out; have hcz130_0 : w128.cell? ⟨gb310, 0, none⟩ = some (.int .i64 0) := (blk_cell BK310.out 0).trans rfl; have hcz130_1 : w128.cell? ⟨gb310, 1, none⟩ = some (.int .i64 0) := (blk_cell BK310.out 1).trans rfl; have hcz130_2 : w128.cell? ⟨gb310, 2, none⟩ = some (.int .i64 0) := (blk_cell BK310.out 2).trans rfl; have hcz130_3 : w128.cell? ⟨gb310, 3, none⟩ = some (.int .i64 0) := (blk_cell BK310.out 3).trans rfl; have hcz130_4 : w128.cell? ⟨gb310, 4, none⟩ = some (.int .i64 0) := (blk_cell BK310.out 4).trans rfl; have hcz130_5 : w128.cell? ⟨gb310, 5, none⟩ = some (.int .i64 0) := (blk_cell BK310.out 5).trans rfl; have hfz130_0 := blk_frozen BK310.out 0; have hfz130_1 := blk_frozen BK310.out 1; have hfz130_2 := blk_frozen BK310.out 2; have hfz130_3 := blk_frozen BK310.out 3; have hfz130_4 := blk_frozen BK310.out 4; have hfz130_5 := blk_frozen BK310.out 5))
    have n0_ : Aside0 (((((((w128.setCell ⟨gb310, 0, none⟩ (.int .i64 (l0.length : Int))).setCell ⟨gb310, 1, none⟩ (.int .i64 a1)).setCell ⟨gb310, 2, none⟩ (.int .i64 a2)).setCell ⟨gb310, 3, none⟩ (.int .i64 t308)).setCell ⟨gb310, 4, none⟩ (.int .i64 t309)).setCell ⟨gb310, 5, none⟩ (.int .i64 0)).heap[gb307]? = some (.cells #[.int .i64 a3_0, .int .i64 a3_1, .int .i64 a3_2, .int .i64 a3_3] 84 (0, 0))) := ⟨by (with_reducible repeat (first | refine blk_drewN ?_ _ | refine blk_drew ?_ | refine blk_alloc ?_ _)); refine blk_far ?_ NB307_310.out _; (with_reducible repeat (first | refine blk_drewN ?_ _ | refine blk_drew ?_ | refine blk_alloc ?_ _)); refine blk_far ?_ NB307_310.out _; (with_reducible repeat (first | refine blk_drewN ?_ _ | refine blk_drew ?_ | refine blk_alloc ?_ _)); refine blk_far ?_ NB307_310.out _; (with_reducible repeat (first | refine blk_drewN ?_ _ | refine blk_drew ?_ | refine blk_alloc ?_ _)); refine blk_far ?_ NB307_310.out _; (with_reducible repeat (first | refine blk_drewN ?_ _ | refine blk_drew ?_ | refine blk_alloc ?_ _)); refine blk_far ?_ NB307_310.out _; (with_reducible repeat (first | refine blk_drewN ?_ _ | refine blk_drew ?_ | refine blk_alloc ?_ _)); refine blk_far ?_ NB307_310.out _; (with_reducible repeat (first | refine blk_drewN ?_ _ | refine blk_drew ?_ | refine blk_alloc ?_ _)); exact BK307.out⟩
    have n1_ : Aside0 (((((((w128.setCell ⟨gb310, 0, none⟩ (.int .i64 (l0.length : Int))).setCell ⟨gb310, 1, none⟩ (.int .i64 a1)).setCell ⟨gb310, 2, none⟩ (.int .i64 a2)).setCell ⟨gb310, 3, none⟩ (.int .i64 t308)).setCell ⟨gb310, 4, none⟩ (.int .i64 t309)).setCell ⟨gb310, 5, none⟩ (.int .i64 0)).heap[gb310]? = some (.cells #[.int .i64 (l0.length : Int), .int .i64 a1, .int .i64 a2, .int .i64 t308, .int .i64 t309, .int .i64 0] 86 (0, 0))) := ⟨by (with_reducible repeat (first | refine blk_drewN ?_ _ | refine blk_drew ?_ | refine blk_alloc ?_ _)); refine blk_put (cs := #[.int .i64 (l0.length : Int), .int .i64 a1, .int .i64 a2, .int .i64 t308, .int .i64 t309, .int .i64 0]) ?_ 5 _ rfl; (with_reducible repeat (first | refine blk_drewN ?_ _ | refine blk_drew ?_ | refine blk_alloc ?_ _)); refine blk_put (cs := #[.int .i64 (l0.length : Int), .int .i64 a1, .int .i64 a2, .int .i64 t308, .int .i64 0, .int .i64 0]) ?_ 4 _ rfl; (with_reducible repeat (first | refine blk_drewN ?_ _ | refine blk_drew ?_ | refine blk_alloc ?_ _)); refine blk_put (cs := #[.int .i64 (l0.length : Int), .int .i64 a1, .int .i64 a2, .int .i64 0, .int .i64 0, .int .i64 0]) ?_ 3 _ rfl; (with_reducible repeat (first | refine blk_drewN ?_ _ | refine blk_drew ?_ | refine blk_alloc ?_ _)); refine blk_put (cs := #[.int .i64 (l0.length : Int), .int .i64 a1, .int .i64 0, .int .i64 0, .int .i64 0, .int .i64 0]) ?_ 2 _ rfl; (with_reducible repeat (first | refine blk_drewN ?_ _ | refine blk_drew ?_ | refine blk_alloc ?_ _)); refine blk_put (cs := #[.int .i64 (l0.length : Int), .int .i64 0, .int .i64 0, .int .i64 0, .int .i64 0, .int .i64 0]) ?_ 1 _ rfl; (with_reducible repeat (first | refine blk_drewN ?_ _ | refine blk_drew ?_ | refine blk_alloc ?_ _)); refine blk_put (cs := #[.int .i64 0, .int .i64 0, .int .i64 0, .int .i64 0, .int .i64 0, .int .i64 0]) ?_ 0 _ rfl; (with_reducible repeat (first | refine blk_drewN ?_ _ | refine blk_drew ?_ | refine blk_alloc ?_ _)); exact BK310.out⟩
    have n2_ : Aside0 (Below w.heap.size w ((((((w128.setCell ⟨gb310, 0, none⟩ (.int .i64 (l0.length : Int))).setCell ⟨gb310, 1, none⟩ (.int .i64 a1)).setCell ⟨gb310, 2, none⟩ (.int .i64 a2)).setCell ⟨gb310, 3, none⟩ (.int .i64 t308)).setCell ⟨gb310, 4, none⟩ (.int .i64 t309)).setCell ⟨gb310, 5, none⟩ (.int .i64 0))) := ⟨Cmp.g HB.out⟩
    (try clear BK307); (try clear BK310); (try clear HB)
    generalize ((((((w128.setCell ⟨gb310, 0, none⟩ (.int .i64 (l0.length : Int))).setCell ⟨gb310, 1, none⟩ (.int .i64 a1)).setCell ⟨gb310, 2, none⟩ (.int .i64 a2)).setCell ⟨gb310, 3, none⟩ (.int .i64 t308)).setCell ⟨gb310, 4, none⟩ (.int .i64 t309)).setCell ⟨gb310, 5, none⟩ (.int .i64 0)) = w131 at n0_ n1_ n2_ ⊢
    have BK307 := n0_; have BK310 := n1_; have HB := n2_; clear n0_ n1_ n2_; have n0_ := Aside0.mk (blk_drew BK307.out); have n1_ := Aside0.mk (blk_drew BK310.out); have n2_ := Aside0.mk (below_drew1 HB.out); clear BK307; clear BK310; clear HB; have BK307 := n0_; have BK310 := n1_; have HB := n2_; clear n0_ n1_ n2_
    refine start_ (n := 7) (S := fun w' => w'.cell? ⟨gb307, 0, none⟩ = some (.int .i64 a3_0) ∧ w'.cell? ⟨gb307, 1, none⟩ = some (.int .i64 a3_1) ∧ w'.cell? ⟨gb307, 2, none⟩ = some (.int .i64 a3_2) ∧ w'.cell? ⟨gb307, 3, none⟩ = some (.int .i64 a3_3) ∧ w'.cell? ⟨gb310, 0, none⟩ = some (.int .i64 (l0.length : Int)) ∧ w'.cell? ⟨gb310, 1, none⟩ = some (.int .i64 a1) ∧ w'.cell? ⟨gb310, 2, none⟩ = some (.int .i64 a2) ∧ w'.cell? ⟨gb310, 3, none⟩ = some (.int .i64 t308) ∧ w'.cell? ⟨gb310, 4, none⟩ = some (.int .i64 t309) ∧ w'.cell? ⟨gb310, 5, none⟩ = some (.int .i64 0)) (ds := [6]) (Cmp.bm 0 7) (by kernel_rfl) rfl rfl ⟨(blk_cell BK307.out 0).trans rfl, (blk_cell BK307.out 1).trans rfl, (blk_cell BK307.out 2).trans rfl, (blk_cell BK307.out 3).trans rfl, (blk_cell BK310.out 0).trans rfl, (blk_cell BK310.out 1).trans rfl, (blk_cell BK310.out 2).trans rfl, (blk_cell BK310.out 3).trans rfl, (blk_cell BK310.out 4).trans rfl, (blk_cell BK310.out 5).trans rfl⟩ (fun hHeld => ?_)
    generalize w131.drew = w132 at BK307 BK310 HB hHeld ⊢
    refine take_ (i := 0) (N := some 21) (v := ?_) (a' := ?_) (Cmp.bm 1 6) rfl rfl (by kernel_rfl) (fun _ _ _ h => h) (Or.inl ⟨by rfl, ?_⟩) hHeld ?_ ?_
    rotate_left
    ·rintro w' ⟨s0, s1, s2, s3, s4, s5, s6, s7, s8, s9⟩; go_simp; with_reducible rfl
    rotate_left
    ·simp only [Act.put, Cmp.s, Cmp.z, Cmp.c, i64_w, i32_w]; rfl
    refine take_ (i := 1) (N := some 22) (v := ?_) (a' := ?_) (Cmp.bm 2 5) rfl rfl (by kernel_rfl) (fun _ _ _ h => h) (Or.inl ⟨by rfl, ?_⟩) hHeld ?_ ?_
    rotate_left
    ·rintro w' ⟨s0, s1, s2, s3, s4, s5, s6, s7, s8, s9⟩; go_simp; with_reducible rfl
    rotate_left
    ·simp only [Act.put, Cmp.s, Cmp.z, Cmp.c, i64_w, i32_w]; rfl
    refine one_ (i := 2) (N := some 23) (Cmp.bm 3 4) rfl rfl (by kernel_rfl) (by decide) (fun K hK => ?_)
    refine goes_ Try.func121 (by kernel_rfl) rfl #[.agg #[.int .i64 (l0.length : Int), .int .i64 a1, .int .i64 a2, .int .i64 t308, .int .i64 t309, .int .i64 0]] (by rfl) rfl rfl Cmp.q ?_
    with_reducible refine (spec_EntryHash.calls k (l0.length : Int) a1 a2 t308 t309 0 t311 _ A7.out).mono ?_
    rintro e w133 ⟨rfl, hb⟩; refine ⟨_, rfl, ?_⟩
    have n0_ := Aside0.mk (blk_below (Cmp.b BK307.out) hb)
    have n1_ := Aside0.mk (blk_below (Cmp.b BK310.out) hb)
    have n2_ := Aside0.mk (below_step (Cmp.g HB.out) hb)
    clear BK307; clear BK310; clear HB; have BK307 := n0_; have BK310 := n1_; have HB := n2_; clear n0_ n1_ n2_; (try clear hb); (try clear hb2); (try clear hk); (try clear hi)
    refine hK.out _ _ ⟨(blk_cell BK307.out 0).trans rfl, (blk_cell BK307.out 1).trans rfl, (blk_cell BK307.out 2).trans rfl, (blk_cell BK307.out 3).trans rfl, (blk_cell BK310.out 0).trans rfl, (blk_cell BK310.out 1).trans rfl, (blk_cell BK310.out 2).trans rfl, (blk_cell BK310.out 3).trans rfl, (blk_cell BK310.out 4).trans rfl, (blk_cell BK310.out 5).trans rfl⟩ (fun hHeld => ?_)
    clear hK K
    refine norm_ (a' := ?_) ?_ ?_
    rotate_left
    ·show Act.put _ (some 23) _ = _
     simp only [Act.put, Cmp.s, Cmp.z, Cmp.c, i64_w, i32_w]; rfl
    refine one_ (i := 3) (N := some 24) (Cmp.bm 4 3) rfl rfl (by kernel_rfl) (by decide) (fun K hK => ?_)
    refine Kd.R_lit_step (Kd.int .i64) _ 3 ?hg (N := 24) ?hd (xs := ([t311] : List Int)) (inner := [.int .i64 t311]) (ok := fun _ => True) (okp := fun _ => True) ?hr ?hp (fun _ hk => hk) trivial (Below.refl _ _) (Nat.le_refl _) (by simp) ?_; (case hd => rfl); (case hg => rfl); (case hr => first | (go_simp; done) | (go_simp; rfl)); (case hp => exact (Reps.one (show Kd.M (Kd.int .i64) _ _ _ t311 [.int .i64 t311] from rfl) (Reps.none _ _)))
    intro v313 w134 ho135 hb hg_ hnew_
    clear hg_ hnew_
    (first | rw [← Ny312.out] at ho135 | (simp only [Int.reduceToNat] at ho135; rw [← Ny312.out] at ho135))
    have n0_ := Aside0.mk (Kd.R_lower ho135 (below_size (Cmp.g HB.out)))
    have n1_ := Aside0.mk (blk_below (Cmp.b BK307.out) hb)
    have n2_ := Aside0.mk (blk_below (Cmp.b BK310.out) hb)
    have n3_ := Aside0.mk (below_step (Cmp.g HB.out) hb)
    clear BK307; clear BK310; clear HB; have HO314 := n0_; have BK307 := n1_; have BK310 := n2_; have HB := n3_; clear n0_ n1_ n2_ n3_; clear hb ho135
    obtain ⟨Ao136, co136, eo136⟩ := Kd.R_slice HO314.out
    (first | subst eo136 | (injection eo136 with f1_ f2_ f3_; have f4_ := f1_.symm; have f5_ := f3_.symm; clear f1_ f2_ f3_; subst f4_; subst f5_))
    refine hK.out _ _ ⟨(blk_cell BK307.out 0).trans rfl, (blk_cell BK307.out 1).trans rfl, (blk_cell BK307.out 2).trans rfl, (blk_cell BK307.out 3).trans rfl, (blk_cell BK310.out 0).trans rfl, (blk_cell BK310.out 1).trans rfl, (blk_cell BK310.out 2).trans rfl, (blk_cell BK310.out 3).trans rfl, (blk_cell BK310.out 4).trans rfl, (blk_cell BK310.out 5).trans rfl⟩ (fun hHeld => ?_)
    clear hK K
    refine norm_ (a' := ?_) ?_ ?_
    rotate_left
    ·show Act.put _ (some 24) _ = _
     simp only [Act.put, Cmp.s, Cmp.z, Cmp.c, i64_w, i32_w]; rfl
    refine one_ (i := 4) (N := some 25) (Cmp.bm 5 2) rfl rfl (by kernel_rfl) (by decide) (fun K hK => ?_)
    refine goes_ Try.func161 (by kernel_rfl) rfl #[.agg #[.int .i64 a3_0, .int .i64 a3_1, .int .i64 a3_2, .int .i64 a3_3], .slice Ao136 y312.length co136] (by rfl) rfl rfl Cmp.q ?_
    with_reducible refine (spec_SignAsDevice.calls k a3_0 a3_1 a3_2 a3_3 _ _ y312 t315 _ ?side1 ?side2 A8.out).mono ?_
    (case side1 => exact Cmp.rc (Kd.R_reads' HO314.out).2.2)
    (case side2 => exact (Kd.R_reads' HO314.out).2.1)
    rintro e w137 ⟨rfl, hb⟩; refine ⟨_, rfl, ?_⟩
    have n0_ := Aside0.mk (Kd.R_below (Cmp.rr HO314.out) hb)
    have n1_ := Aside0.mk (blk_below (Cmp.b BK307.out) hb)
    have n2_ := Aside0.mk (blk_below (Cmp.b BK310.out) hb)
    have n3_ := Aside0.mk (below_step (Cmp.g HB.out) hb)
    clear HO314; clear BK307; clear BK310; clear HB; have HO314 := n0_; have BK307 := n1_; have BK310 := n2_; have HB := n3_; clear n0_ n1_ n2_ n3_; (try clear hb); (try clear hb2); (try clear hk); (try clear hi)
    refine hK.out _ _ ⟨(blk_cell BK307.out 0).trans rfl, (blk_cell BK307.out 1).trans rfl, (blk_cell BK307.out 2).trans rfl, (blk_cell BK307.out 3).trans rfl, (blk_cell BK310.out 0).trans rfl, (blk_cell BK310.out 1).trans rfl, (blk_cell BK310.out 2).trans rfl, (blk_cell BK310.out 3).trans rfl, (blk_cell BK310.out 4).trans rfl, (blk_cell BK310.out 5).trans rfl⟩ (fun hHeld => ?_)
    clear hK K
    refine norm_ (a' := ?_) ?_ ?_
    rotate_left
    ·show Act.put _ (some 25) _ = _
     simp only [Act.put, Cmp.s, Cmp.z, Cmp.c, i64_w, i32_w]; rfl
    refine pure_ (i := 5) (N := some 26) (v := ?_) (a' := ?_) (Cmp.bm 6 1) rfl rfl (by kernel_rfl) (fun _ _ _ h => h) (Or.inl ⟨by rfl, ?_⟩) ?_ ?_
    rotate_left
    ·intro w'; go_simp; with_reducible rfl
    rotate_left
    ·simp only [Act.put, Cmp.s, Cmp.z, Cmp.c, i64_w, i32_w]; rfl
    refine last_ (i := 6) (N := none) (Cmp.bm 7 0) rfl rfl (by kernel_rfl) (by decide) (fun K hK => ?_)
    have hs138 : w137.cell? ⟨gb310, 5, none⟩ = some (.int .i64 0) := (blk_cell BK310.out 5).trans rfl
    have hfs138 := blk_frozen BK310.out 5; have hns138_0 := NB307_310.out; have hms138_0 := NB310_307.out
    refine skip_ (w1 := ?_) (by rfl) rfl ?_ ?_
    rotate_left
    ·go_simp; rfl
    refine hK.out _ _ ?_
    clear hK K
    refine done_ (by kernel_rfl) ?_
    try go_wp2
    have n0_ : Aside0 (Kd.R (Kd.int .i64) 3 (w137.setCell ⟨gb310, 5, none⟩ (.int .i64 t315)) w.heap.size (fun _ => True) (.slice Ao136 y312.length co136) y312) := ⟨by (with_reducible repeat (first | apply Kd.R_alloc | apply Kd.R_drewN | apply Kd.R_drew)); exact Kd.R_mono (Kd.R_far (p := ⟨gb310, 5, none⟩) (Kd.R_types HO314.out BK310.out (by decide)) (fun _ hk => hk.2) (.int .i64 t315)) (fun _ hk => trivial)⟩
    have n1_ : Aside0 ((w137.setCell ⟨gb310, 5, none⟩ (.int .i64 t315)).heap[gb307]? = some (.cells #[.int .i64 a3_0, .int .i64 a3_1, .int .i64 a3_2, .int .i64 a3_3] 84 (0, 0))) := ⟨by (with_reducible repeat (first | refine blk_drewN ?_ _ | refine blk_drew ?_ | refine blk_alloc ?_ _)); refine blk_far ?_ NB307_310.out _; (with_reducible repeat (first | refine blk_drewN ?_ _ | refine blk_drew ?_ | refine blk_alloc ?_ _)); exact BK307.out⟩
    have n2_ : Aside0 ((w137.setCell ⟨gb310, 5, none⟩ (.int .i64 t315)).heap[gb310]? = some (.cells #[.int .i64 (l0.length : Int), .int .i64 a1, .int .i64 a2, .int .i64 t308, .int .i64 t309, .int .i64 t315] 86 (0, 0))) := ⟨by (with_reducible repeat (first | refine blk_drewN ?_ _ | refine blk_drew ?_ | refine blk_alloc ?_ _)); refine blk_put (cs := #[.int .i64 (l0.length : Int), .int .i64 a1, .int .i64 a2, .int .i64 t308, .int .i64 t309, .int .i64 0]) ?_ 5 _ rfl; (with_reducible repeat (first | refine blk_drewN ?_ _ | refine blk_drew ?_ | refine blk_alloc ?_ _)); exact BK310.out⟩
    have n3_ : Aside0 (Below w.heap.size w (w137.setCell ⟨gb310, 5, none⟩ (.int .i64 t315))) := ⟨Cmp.g HB.out⟩
    (try clear HO314); (try clear BK307); (try clear BK310); (try clear HB)
    generalize (w137.setCell ⟨gb310, 5, none⟩ (.int .i64 t315)) = w139 at n0_ n1_ n2_ n3_ ⊢
    have HO314 := n0_; have BK307 := n1_; have BK310 := n2_; have HB := n3_; clear n0_ n1_ n2_ n3_; have n0_ := Aside0.mk (Kd.R_drew HO314.out); have n1_ := Aside0.mk (blk_drew BK307.out); have n2_ := Aside0.mk (blk_drew BK310.out); have n3_ := Aside0.mk (below_drew1 HB.out); clear HO314; clear BK307; clear BK310; clear HB; have HO314 := n0_; have BK307 := n1_; have BK310 := n2_; have HB := n3_; clear n0_ n1_ n2_ n3_
    refine start_ (n := 6) (S := fun w' => w'.cell? ⟨gb310, 0, none⟩ = some (.int .i64 (l0.length : Int)) ∧ w'.cell? ⟨gb310, 1, none⟩ = some (.int .i64 a1) ∧ w'.cell? ⟨gb310, 2, none⟩ = some (.int .i64 a2) ∧ w'.cell? ⟨gb310, 3, none⟩ = some (.int .i64 t308) ∧ w'.cell? ⟨gb310, 4, none⟩ = some (.int .i64 t309) ∧ w'.cell? ⟨gb310, 5, none⟩ = some (.int .i64 t315)) (ds := []) (Cmp.bm 0 6) (by kernel_rfl) rfl rfl ⟨(blk_cell BK310.out 0).trans rfl, (blk_cell BK310.out 1).trans rfl, (blk_cell BK310.out 2).trans rfl, (blk_cell BK310.out 3).trans rfl, (blk_cell BK310.out 4).trans rfl, (blk_cell BK310.out 5).trans rfl⟩ (fun hHeld => ?_)
    generalize w139.drew = w140 at HO314 BK307 BK310 HB hHeld ⊢
    refine pure_ (i := 0) (N := some 27) (v := ?_) (a' := ?_) (Cmp.bm 1 5) rfl rfl (by kernel_rfl) (fun _ _ _ h => h) (Or.inl ⟨by rfl, ?_⟩) ?_ ?_
    rotate_left
    ·intro w'; go_simp; with_reducible rfl
    rotate_left
    ·simp only [Act.put, Cmp.s, Cmp.z, Cmp.c, i64_w, i32_w]; rfl
    refine take_ (i := 2) (N := some 29) (v := ?_) (a' := ?_) (Cmp.bb 6 5) rfl rfl (by kernel_rfl) (fun _ _ _ h => h) (Or.inl ⟨by rfl, ?_⟩) hHeld ?_ ?_
    rotate_left
    ·rintro w' ⟨s0, s1, s2, s3, s4, s5⟩; go_simp; with_reducible rfl
    rotate_left
    ·simp only [Act.put, Cmp.s, Cmp.z, Cmp.c, i64_w, i32_w]; rfl
    refine join_ (σ := Value × Value) 2 (Cmp.bm 4 2) (fun s_ => [(28, s_.1), (30, s_.2)]) (fun s_ w' => (w'.cell? ⟨gb310, 0, none⟩ = some (.int .i64 (l0.length : Int)) ∧ w'.cell? ⟨gb310, 1, none⟩ = some (.int .i64 a1) ∧ w'.cell? ⟨gb310, 2, none⟩ = some (.int .i64 a2) ∧ w'.cell? ⟨gb310, 3, none⟩ = some (.int .i64 t308) ∧ w'.cell? ⟨gb310, 4, none⟩ = some (.int .i64 t309) ∧ w'.cell? ⟨gb310, 5, none⟩ = some (.int .i64 t315)) ∧ (Kd.R (Kd.int .i64) 3 w' w.heap.size (fun _ => True) (.slice Ao136 y312.length co136) y312) ∧ (Kd.R k86 86 w' w.heap.size (fun k_ => some k_ ≠ (s_.2 : Value).ownBlock ∧ k_ ≠ gb310) s_.1 t316) ∧ (Kd.R k86 86 w' w.heap.size (fun k_ => some k_ ≠ (s_.1 : Value).ownBlock ∧ k_ ≠ gb310) s_.2 y319) ∧ (w'.heap[gb307]? = some (.cells #[.int .i64 a3_0, .int .i64 a3_1, .int .i64 a3_2, .int .i64 a3_3] 84 (0, 0))) ∧ (w'.heap[gb310]? = some (.cells #[.int .i64 (l0.length : Int), .int .i64 a1, .int .i64 a2, .int .i64 t308, .int .i64 t309, .int .i64 t315] 86 (0, 0))) ∧ (Below w.heap.size w w')) ?_ ?_
    rotate_left
    ·intro hCont
     refine two_ (i := 1) (j := 3) (Ni := some 28) (Nj := some 30) (Cmp.bm 3 3) (Cmp.bb 6 13) rfl rfl rfl rfl (by kernel_rfl) (by decide) (by decide) (fun K hK => ?_) (fun K hK => ?_)
     ·skip
      refine goes_ Try.func162 (by kernel_rfl) rfl #[.slice A0 l0.length c0] (by rfl) rfl rfl Cmp.q ?_
      with_reducible refine (spec_l19Copy.calls _ _ l0 t316 _ ?side1 ?side2 A9.out).mono ?_
      (case side1 => exact Cmp.rc (Kd.C_below HR0.out HB.out))
      (case side2 => exact HC0.out)
      rintro e w141 ⟨v317, rfl, ho0, hb⟩; refine ⟨_, rfl, ?_⟩
      have n0_ := Aside0.mk (Kd.R_below (Cmp.rr HO314.out) hb)
      have n1_ := Aside0.mk (Kd.R_lower (Kd.R_newB ho0 (g := gb310) (o := .cells #[.int .i64 (l0.length : Int), .int .i64 a1, .int .i64 a2, .int .i64 t308, .int .i64 t309, .int .i64 t315] 86 (0, 0)) (Cmp.b BK310.out)) (below_size (Cmp.g HB.out)))
      have n2_ := Aside0.mk (blk_below (Cmp.b BK307.out) hb)
      have n3_ := Aside0.mk (blk_below (Cmp.b BK310.out) hb)
      have n4_ := Aside0.mk (below_step (Cmp.g HB.out) hb)
      clear HO314; clear BK307; clear BK310; clear HB; have HO314 := n0_; have HO318 := n1_; have BK307 := n2_; have BK310 := n3_; have HB := n4_; clear n0_ n1_ n2_ n3_ n4_; (try clear hb); (try clear hb2); (try clear hk); (try clear hi); (try clear ho0)
      refine hK.out _ _ ⟨(blk_cell BK310.out 0).trans rfl, (blk_cell BK310.out 1).trans rfl, (blk_cell BK310.out 2).trans rfl, (blk_cell BK310.out 3).trans rfl, (blk_cell BK310.out 4).trans rfl, (blk_cell BK310.out 5).trans rfl⟩ (fun hHeld => ?_)
      clear hK K
      refine norm_ (a' := ?_) ?_ ?_
      rotate_left
      ·show Act.put _ (some 28) _ = _
       simp only [Act.put, Cmp.s, Cmp.z, Cmp.c, i64_w, i32_w]; rfl
      refine one_ (i := 3) (N := some 30) (Cmp.bm 4 2) rfl rfl (by kernel_rfl) (by decide) (fun K hK => ?_)
      refine Kd.R_lit_step k86 _ 86 ?hg (N := 30) ?hd (xs := ([(⟨(l0.length : Int), a1, a2, t308, t309, t315⟩ : S86)] : List (S86))) (inner := [.int .i64 (l0.length : Int), .int .i64 a1, .int .i64 a2, .int .i64 t308, .int .i64 t309, .int .i64 t315]) (ok := fun _ => True) (okp := fun _ => True) ?hr ?hp (fun _ hk => hk) trivial (Below.refl _ _) (Nat.le_refl _) (by simp) ?_; (case hd => rfl); (case hg => rfl); (case hr => first | (go_simp; done) | (go_simp; rfl)); (case hp => exact (Reps.c6 (show Kd.M k86 _ _ _ (⟨(l0.length : Int), a1, a2, t308, t309, t315⟩ : S86) [.int .i64 (l0.length : Int), .int .i64 a1, .int .i64 a2, .int .i64 t308, .int .i64 t309, .int .i64 t315] from (k86_mkM _ _ _ (⟨(l0.length : Int), a1, a2, t308, t309, t315⟩ : S86) )) (Reps.none _ _)))
      intro v320 w142 ho143 hb hg_ hnew_
      clear hg_ hnew_
      (first | rw [← Ny319.out] at ho143 | (simp only [Int.reduceToNat] at ho143; rw [← Ny319.out] at ho143))
      have n0_ := Aside0.mk (Kd.R_below (Cmp.rr HO314.out) hb)
      have n1_ := Aside0.mk (Kd.R_elder' (Cmp.rr HO318.out) (Kd.R_base ho143) hb)
      have n2_ := Aside0.mk (Kd.R_lower (Kd.R_newB (Kd.R_new' ho143 (Kd.R_lt (Cmp.rr HO318.out))) (g := gb310) (o := .cells #[.int .i64 (l0.length : Int), .int .i64 a1, .int .i64 a2, .int .i64 t308, .int .i64 t309, .int .i64 t315] 86 (0, 0)) (Cmp.b BK310.out)) (below_size (Cmp.g HB.out)))
      have n3_ := Aside0.mk (blk_below (Cmp.b BK307.out) hb)
      have n4_ := Aside0.mk (blk_below (Cmp.b BK310.out) hb)
      have n5_ := Aside0.mk (below_step (Cmp.g HB.out) hb)
      clear HO314; clear HO318; clear BK307; clear BK310; clear HB; have HO314 := n0_; have HO318 := n1_; have HO321 := n2_; have BK307 := n3_; have BK310 := n4_; have HB := n5_; clear n0_ n1_ n2_ n3_ n4_ n5_; clear hb ho143
      refine hK.out _ _ ⟨(blk_cell BK310.out 0).trans rfl, (blk_cell BK310.out 1).trans rfl, (blk_cell BK310.out 2).trans rfl, (blk_cell BK310.out 3).trans rfl, (blk_cell BK310.out 4).trans rfl, (blk_cell BK310.out 5).trans rfl⟩ (fun hHeld => ?_)
      clear hK K
      refine norm_ (a' := ?_) ?_ ?_
      rotate_left
      ·show Act.put _ (some 30) _ = _
       simp only [Act.put, Cmp.s, Cmp.z, Cmp.c, i64_w, i32_w]; rfl
      exact norm_ (by simp only [putAll, Act.put, List.setIfInBounds_toArray, List.set_cons_zero, List.set_cons_succ]) (hCont (v317, v320) _ ⟨hHeld, (Cmp.rr HO314.out), (by (with_reducible repeat (first | apply Kd.R_alloc | apply Kd.R_drewN | apply Kd.R_drew)); exact Kd.R_mono HO318.out (fun _ hk => ⟨hk.2, hk.1.2⟩)), (by (with_reducible repeat (first | apply Kd.R_alloc | apply Kd.R_drewN | apply Kd.R_drew)); exact Kd.R_mono HO321.out (fun _ hk => ⟨hk.1.2, hk.2⟩)), (Cmp.b BK307.out), (Cmp.b BK310.out), (Cmp.g HB.out)⟩)
     ·skip
      refine Kd.R_lit_step k86 _ 86 ?hg (N := 30) ?hd (xs := ([(⟨(l0.length : Int), a1, a2, t308, t309, t315⟩ : S86)] : List (S86))) (inner := [.int .i64 (l0.length : Int), .int .i64 a1, .int .i64 a2, .int .i64 t308, .int .i64 t309, .int .i64 t315]) (ok := fun _ => True) (okp := fun _ => True) ?hr ?hp (fun _ hk => hk) trivial (Below.refl _ _) (Nat.le_refl _) (by simp) ?_; (case hd => rfl); (case hg => rfl); (case hr => first | (go_simp; done) | (go_simp; rfl)); (case hp => exact (Reps.c6 (show Kd.M k86 _ _ _ (⟨(l0.length : Int), a1, a2, t308, t309, t315⟩ : S86) [.int .i64 (l0.length : Int), .int .i64 a1, .int .i64 a2, .int .i64 t308, .int .i64 t309, .int .i64 t315] from (k86_mkM _ _ _ (⟨(l0.length : Int), a1, a2, t308, t309, t315⟩ : S86) )) (Reps.none _ _)))
      intro v320 w141 ho142 hb hg_ hnew_
      clear hg_ hnew_
      (first | rw [← Ny319.out] at ho142 | (simp only [Int.reduceToNat] at ho142; rw [← Ny319.out] at ho142))
      have n0_ := Aside0.mk (Kd.R_below (Cmp.rr HO314.out) hb)
      have n1_ := Aside0.mk (Kd.R_lower (Kd.R_newB ho142 (g := gb310) (o := .cells #[.int .i64 (l0.length : Int), .int .i64 a1, .int .i64 a2, .int .i64 t308, .int .i64 t309, .int .i64 t315] 86 (0, 0)) (Cmp.b BK310.out)) (below_size (Cmp.g HB.out)))
      have n2_ := Aside0.mk (blk_below (Cmp.b BK307.out) hb)
      have n3_ := Aside0.mk (blk_below (Cmp.b BK310.out) hb)
      have n4_ := Aside0.mk (below_step (Cmp.g HB.out) hb)
      clear HO314; clear BK307; clear BK310; clear HB; have HO314 := n0_; have HO321 := n1_; have BK307 := n2_; have BK310 := n3_; have HB := n4_; clear n0_ n1_ n2_ n3_ n4_; clear hb ho142
      refine hK.out _ _ ⟨(blk_cell BK310.out 0).trans rfl, (blk_cell BK310.out 1).trans rfl, (blk_cell BK310.out 2).trans rfl, (blk_cell BK310.out 3).trans rfl, (blk_cell BK310.out 4).trans rfl, (blk_cell BK310.out 5).trans rfl⟩ (fun hHeld => ?_)
      clear hK K
      refine norm_ (a' := ?_) ?_ ?_
      rotate_left
      ·show Act.put _ (some 30) _ = _
       simp only [Act.put, Cmp.s, Cmp.z, Cmp.c, i64_w, i32_w]; rfl
      refine one_ (i := 1) (N := some 28) (Cmp.bm 4 2) rfl rfl (by kernel_rfl) (by decide) (fun K hK => ?_)
      refine goes_ Try.func162 (by kernel_rfl) rfl #[.slice A0 l0.length c0] (by rfl) rfl rfl Cmp.q ?_
      with_reducible refine (spec_l19Copy.calls _ _ l0 t316 _ ?side1 ?side2 A9.out).mono ?_
      (case side1 => exact Cmp.rc (Kd.C_below HR0.out HB.out))
      (case side2 => exact HC0.out)
      rintro e w143 ⟨v317, rfl, ho0, hb⟩; refine ⟨_, rfl, ?_⟩
      have n0_ := Aside0.mk (Kd.R_below (Cmp.rr HO314.out) hb)
      have n1_ := Aside0.mk (Kd.R_elder' (Cmp.rr HO321.out) (Kd.R_base ho0) hb)
      have n2_ := Aside0.mk (Kd.R_lower (Kd.R_newB (Kd.R_new' ho0 (Kd.R_lt (Cmp.rr HO321.out))) (g := gb310) (o := .cells #[.int .i64 (l0.length : Int), .int .i64 a1, .int .i64 a2, .int .i64 t308, .int .i64 t309, .int .i64 t315] 86 (0, 0)) (Cmp.b BK310.out)) (below_size (Cmp.g HB.out)))
      have n3_ := Aside0.mk (blk_below (Cmp.b BK307.out) hb)
      have n4_ := Aside0.mk (blk_below (Cmp.b BK310.out) hb)
      have n5_ := Aside0.mk (below_step (Cmp.g HB.out) hb)
      clear HO314; clear HO321; clear BK307; clear BK310; clear HB; have HO314 := n0_; have HO321 := n1_; have HO318 := n2_; have BK307 := n3_; have BK310 := n4_; have HB := n5_; clear n0_ n1_ n2_ n3_ n4_ n5_; (try clear hb); (try clear hb2); (try clear hk); (try clear hi); (try clear ho0)
      refine hK.out _ _ ⟨(blk_cell BK310.out 0).trans rfl, (blk_cell BK310.out 1).trans rfl, (blk_cell BK310.out 2).trans rfl, (blk_cell BK310.out 3).trans rfl, (blk_cell BK310.out 4).trans rfl, (blk_cell BK310.out 5).trans rfl⟩ (fun hHeld => ?_)
      clear hK K
      refine norm_ (a' := ?_) ?_ ?_
      rotate_left
      ·show Act.put _ (some 28) _ = _
       simp only [Act.put, Cmp.s, Cmp.z, Cmp.c, i64_w, i32_w]; rfl
      exact norm_ (by simp only [putAll, Act.put, List.setIfInBounds_toArray, List.set_cons_zero, List.set_cons_succ]) (hCont (v317, v320) _ ⟨hHeld, (Cmp.rr HO314.out), (by (with_reducible repeat (first | apply Kd.R_alloc | apply Kd.R_drewN | apply Kd.R_drew)); exact Kd.R_mono HO318.out (fun _ hk => ⟨hk.1.2, hk.2⟩)), (by (with_reducible repeat (first | apply Kd.R_alloc | apply Kd.R_drewN | apply Kd.R_drew)); exact Kd.R_mono HO321.out (fun _ hk => ⟨hk.2, hk.1.2⟩)), (Cmp.b BK307.out), (Cmp.b BK310.out), (Cmp.g HB.out)⟩)
    rintro ⟨v317, v320⟩ w144 ⟨hS_, h0_, h1_, h2_, h3_, h4_, h5_⟩
    have n0_ : Aside0 (Kd.R (Kd.int .i64) 3 w144 w.heap.size (fun _ => True) (.slice Ao136 y312.length co136) y312) := ⟨h0_⟩
    have n1_ : Aside0 (Kd.R k86 86 w144 w.heap.size (fun k_ => some k_ ≠ (v320 : Value).ownBlock ∧ k_ ≠ gb310) v317 t316) := ⟨h1_⟩
    have n2_ : Aside0 (Kd.R k86 86 w144 w.heap.size (fun k_ => some k_ ≠ (v317 : Value).ownBlock ∧ k_ ≠ gb310) v320 y319) := ⟨h2_⟩
    have n3_ : Aside0 (w144.heap[gb307]? = some (.cells #[.int .i64 a3_0, .int .i64 a3_1, .int .i64 a3_2, .int .i64 a3_3] 84 (0, 0))) := ⟨h3_⟩
    have n4_ : Aside0 (w144.heap[gb310]? = some (.cells #[.int .i64 (l0.length : Int), .int .i64 a1, .int .i64 a2, .int .i64 t308, .int .i64 t309, .int .i64 t315] 86 (0, 0))) := ⟨h4_⟩
    have n5_ : Aside0 (Below w.heap.size w w144) := ⟨h5_⟩
    clear HO314; clear BK307; clear BK310; clear HB; clear h0_ h1_ h2_ h3_ h4_ h5_; have HO314 := n0_; have HO318 := n1_; have HO321 := n2_; have BK307 := n3_; have BK310 := n4_; have HB := n5_; clear n0_ n1_ n2_ n3_ n4_ n5_
    have hHeld : w144.cell? ⟨gb310, 0, none⟩ = some (.int .i64 (l0.length : Int)) ∧ w144.cell? ⟨gb310, 1, none⟩ = some (.int .i64 a1) ∧ w144.cell? ⟨gb310, 2, none⟩ = some (.int .i64 a2) ∧ w144.cell? ⟨gb310, 3, none⟩ = some (.int .i64 t308) ∧ w144.cell? ⟨gb310, 4, none⟩ = some (.int .i64 t309) ∧ w144.cell? ⟨gb310, 5, none⟩ = some (.int .i64 t315) := hS_
    obtain ⟨Ao146, co146, eo146⟩ := Kd.R_slice HO321.out
    (first | subst eo146 | (injection eo146 with f1_ f2_ f3_; have f4_ := f1_.symm; have f5_ := f3_.symm; clear f1_ f2_ f3_; subst f4_; subst f5_))
    refine norm_ (a' := ?_) ?_ ?_
    rotate_left
    ·simp only [putAll, Act.put, List.setIfInBounds_toArray, List.set_cons_zero, List.set_cons_succ]; rfl
    refine one_ (i := 4) (N := some 31) (Cmp.bm 5 1) rfl rfl (by kernel_rfl) (by decide) (fun K hK => ?_)
    refine Kd.R_append_rows_step k86 (w0 := w) w.heap.size (by rfl) (.tmp 28) (.tmp 30) 40 86 (.agg #[(.int .i64 0), (.int .i64 0), (.int .i64 0), (.int .i64 0), (.int .i64 0), (.int .i64 0)]) 48 rfl Try.underlying40 info86 rfl (by decide) (by omega) v317 t316 y319 _ _ _ (fun k_ => some k_ ≠ (.slice Ao146 y319.length co146 : Value).ownBlock ∧ k_ ≠ gb310) (fun _ => False) rfl rfl ?aO ?aR (fun _ _ h => h) (fun _ h => h.elim) ?aF ?aB ?aS ?aL ?_
    (case aR => repeat (first | exact (Kd.R_reads' HO321.out).2.2 | (with_reducible refine Kd.C_alloc ?_ _) | (with_reducible refine Kd.C_drewN ?_ _) | (with_reducible refine Kd.C_drew ?_)))
    (case aB => exact (Cmp.g HB.out))
    (case aF => exact (fun k_ hk => ⟨Kd.fresh' (Kd.R_lt (Cmp.rr HO321.out)) k_ hk, Kd.freshB (g := gb310) (o := .cells #[.int .i64 (l0.length : Int), .int .i64 a1, .int .i64 a2, .int .i64 t308, .int .i64 t309, .int .i64 t315] 86 (0, 0)) (Cmp.b BK310.out) k_ hk⟩))
    (case aO => exact (Cmp.rr HO318.out))
    (case aS => exact (below_size (Cmp.g HB.out)))
    (case aL => have := LMc10.out; omega)
    intro v323 w145 ho hb hg hat
    rw [← Ny322.out] at ho
    have n0_ := Aside0.mk (blk_grown (g := gb307) (o := .cells #[.int .i64 a3_0, .int .i64 a3_1, .int .i64 a3_2, .int .i64 a3_3] 84 (0, 0)) (Cmp.b BK307.out) hg (Kd.R_ne HO318.out BK307.out (by decide)))
    have n1_ := Aside0.mk (blk_grown (g := gb310) (o := .cells #[.int .i64 (l0.length : Int), .int .i64 a1, .int .i64 a2, .int .i64 t308, .int .i64 t309, .int .i64 t315] 86 (0, 0)) (Cmp.b BK310.out) hg (Kd.R_away HO318.out (fun _ hk => hk.2)))
    have n2_ := Aside0.mk (Kd.R_over' (Cmp.rr HO314.out) (Kd.R_typed (Cmp.rr HO318.out)) (by decide) hg)
    have n3_ := Aside0.mk (Kd.R_after (ok := (fun k_ => k_ ≠ gb310)) (by (with_reducible repeat (first | apply Kd.R_alloc | apply Kd.R_drewN | apply Kd.R_drew)); exact Kd.R_mono HO321.out (fun _ hk => ⟨hk.2, hk.1⟩)) hg hat)
    have n4_ := Aside0.mk (hb)
    have n5_ := Aside0.mk (ho)
    clear BK307; clear BK310; clear HO314; clear HO321; clear HB; clear HO318; have BK307 := n0_; have BK310 := n1_; have HO314 := n2_; have HO321 := n3_; have HB := n4_; have HO324 := n5_; clear n0_ n1_ n2_ n3_ n4_ n5_; clear ho hb hg hat
    refine hK.out _ _ ⟨(blk_cell BK310.out 0).trans rfl, (blk_cell BK310.out 1).trans rfl, (blk_cell BK310.out 2).trans rfl, (blk_cell BK310.out 3).trans rfl, (blk_cell BK310.out 4).trans rfl, (blk_cell BK310.out 5).trans rfl⟩ (fun hHeld => ?_)
    clear hK K
    refine norm_ (a' := ?_) ?_ ?_
    rotate_left
    ·show Act.put _ (some 31) _ = _
     simp only [Act.put, Cmp.s, Cmp.z, Cmp.c, i64_w, i32_w]; rfl
    refine pure_ (i := 5) (N := some 11) (v := ?_) (a' := ?_) (Cmp.bm 6 0) rfl rfl (by kernel_rfl) (fun _ _ _ h => h) (Or.inl ⟨by rfl, ?_⟩) ?_ ?_
    rotate_left
    ·intro w'; go_simp; with_reducible rfl
    rotate_left
    ·simp only [Act.put, Cmp.s, Cmp.z, Cmp.c, i64_w, i32_w]; rfl
    refine done_ (by kernel_rfl) ?_
    obtain ⟨Ao147, co147, eo147⟩ := Kd.R_slice HO324.out
    subst eo147
    try go_wp2_with (first | (go_at_call 18; (with_reducible refine (spec_VerifyLog.calls k _ _ y322 false _ ?side1 ?side2 A96.out).mono ?_); (case side1 => exact Cmp.rc (Kd.R_reads' HO324.out).2.2); (case side2 => exact (Kd.R_reads' HO324.out).2.1); rintro e w148 ⟨rfl, hb⟩; have n0_ := Aside0.mk (Kd.R_below (Cmp.rr HO314.out) hb); have n1_ := Aside0.mk (Kd.R_below (Cmp.rr HO321.out) hb); have n2_ := Aside0.mk (Kd.R_below (Cmp.rr HO324.out) hb); have n3_ := Aside0.mk (blk_below (Cmp.b BK307.out) hb); have n4_ := Aside0.mk (blk_below (Cmp.b BK310.out) hb); have n5_ := Aside0.mk (below_step (Cmp.g HB.out) hb); clear HO314; clear HO321; clear HO324; clear BK307; clear BK310; clear HB; have HO314 := n0_; have HO321 := n1_; have HO324 := n2_; have BK307 := n3_; have BK310 := n4_; have HB := n5_; clear n0_ n1_ n2_ n3_ n4_ n5_; (try clear hb); (try clear hb2); (try clear hk); (try clear hi)) | ((with_reducible refine gate_callee (f := 162) rfl ?_); refine goesL_ (some 46) rfl rfl Try.func162 (by kernel_rfl) rfl #[.slice A0 l0.length c0] rfl Cmp.q ?_; (with_reducible refine (spec_l19Copy.calls _ _ l0 t334 _ ?side1 ?side2 A123.out).mono ?_); (case side1 => exact Cmp.rc (Kd.C_below HR0.out HB.out)); (case side2 => exact HC0.out); rintro e w149 ⟨v335, rfl, ho0, hb⟩; refine ⟨_, rfl, ?_⟩; have n0_ := Aside0.mk (Kd.R_below (Cmp.rr HO314.out) hb); have n1_ := Aside0.mk (Kd.R_elder' (Cmp.rr HO321.out) (Kd.R_base ho0) hb); have n2_ := Aside0.mk (Kd.R_elder' (Cmp.rr HO324.out) (Kd.R_base ho0) hb); have n3_ := Aside0.mk (Kd.R_lower (Kd.R_newB (Kd.R_new' (Kd.R_new' ho0 (Kd.R_lt (Cmp.rr HO321.out))) (Kd.R_lt (Cmp.rr HO324.out))) (g := gb310) (o := .cells #[.int .i64 (l0.length : Int), .int .i64 a1, .int .i64 a2, .int .i64 t308, .int .i64 t309, .int .i64 t315] 86 (0, 0)) (Cmp.b BK310.out)) (below_size (Cmp.g HB.out))); have n4_ := Aside0.mk (blk_below (Cmp.b BK307.out) hb); have n5_ := Aside0.mk (blk_below (Cmp.b BK310.out) hb); have n6_ := Aside0.mk (below_step (Cmp.g HB.out) hb); clear HO314; clear HO321; clear HO324; clear BK307; clear BK310; clear HB; have HO314 := n0_; have HO321 := n1_; have HO324 := n2_; have HO336 := n3_; have BK307 := n4_; have BK310 := n5_; have HB := n6_; clear n0_ n1_ n2_ n3_ n4_ n5_ n6_; (try clear hb); (try clear hb2); (try clear hk); (try clear hi); (try clear ho0)))
    go_ret2
    exact ⟨_, by first | rfl | (simp [errW_none, errW_some] <;> rfl) | (simp [*, errW_none, errW_some] <;> rfl), by (with_reducible repeat (first | apply Kd.R_alloc | apply Kd.R_drewN | apply Kd.R_drew)); exact Kd.R_mono HO336.out (fun _ hk => trivial), Cmp.g HB.out⟩
 ·rw [if_neg c10] at H; exact absurd H (by simp)

end Go.Proofs.Ytgcipecdaimjfaa.PFnDeviceLogs

/- Printed functions of the program, out of print.sh, told more shortly. No condition. -/
import Derived.Test.YtpgjecknkmmnhaaCmp
import Derived.Test.YtpgjecknkmmnhaaPFnRemovedx0
import Derived.Test.YtpgjecknkmmnhaaPFnRemovedx1
import Derived.Test.YtpgjecknkmmnhaaPFnRemovedx2
import Derived.Test.YtpgjecknkmmnhaaPFnRemovedx5
namespace Go.Proofs.Ytpgjecknkmmnhaa.PFnRemoved
open Go.Proofs.Ytpgjecknkmmnhaa
open Go.RowKit Go.Proofs.YtpgjecknkmmnhaaW.PrintWords Go.Proofs.YtpgjecknkmmnhaaW.PrintLast Go.Proofs.YtpgjecknkmmnhaaW.PrintMore
attribute [local go_sem] max2_int min2_int max_two min_two max_three min_three max_four min_four   -- for this text's walks alone
set_option linter.unusedVariables false
set_option linter.unusedSimpArgs false

/-! ### spec_AppendEntry: function 10 -/
def spec_AppendEntry.f (k : Nat) (l0 : List (S74)) (a1 : Int) (a2 : Int) (a3_0 : Int) (a3_1 : Int) (a3_2 : Int) (a3_3 : Int) : Option ((List (S74)) × Bool) := (spec_DevicePublic.f k a3_0 a3_1 a3_2 a3_3).bind fun t220 => ((spec_LogHead.f k l0).bind fun t221 => ((spec_EntryHash.f k (l0.length : Int) a1 a2 t220 t221 0).bind fun t223 => ((spec_SignAsDevice.f k a3_0 a3_1 a3_2 a3_3 (([t223] : List Int))).bind fun t227 => ((spec_l19Copy.f l0).bind fun t228 => ((some (([(⟨(l0.length : Int), a1, a2, t220, t221, t227⟩ : S74)] : List (S74)) : List (S74))).bind fun y231 => (if t228.length + y231.length < 2932031007402 then ((some (t228 ++ y231 : List (S74))).bind fun y234 => (if (l0.length : Int) > 0 then ((spec_VerifyLog.f k l0).bind fun t237 => (if t237 = true then ((spec_VerifyLog.f k y234).bind fun t238 => (if t238 = true then (some (y234, true)) else ((spec_l19Copy.f l0).bind fun t239 => (some (t239, false))))) else ((spec_l19Copy.f l0).bind fun t242 => (some (t242, false))))) else ((spec_VerifyLog.f k y234).bind fun t245 => (if t245 = true then (some (y234, true)) else ((spec_l19Copy.f l0).bind fun t246 => (some (t246, false))))))) else (none)))))))
theorem spec_AppendEntry.mono : ∀ a0 a1 a2 a3 a4 a5 a6 k, LeO (spec_AppendEntry.f k a0 a1 a2 a3 a4 a5 a6) (spec_AppendEntry.f (k + 1) a0 a1 a2 a3 a4 a5 a6) := by
  intro a0 a1 a2 a3 a4 a5 a6 k
  unfold spec_AppendEntry.f
  repeat' first
      | (with_reducible exact spec_DevicePublic.mono _ _ _ _ _)
      | (with_reducible exact spec_EntryHash.mono _ _ _ _ _ _ _)
      | (with_reducible exact spec_LogHead.mono _ _)
      | (with_reducible exact spec_SignAsDevice.mono _ _ _ _ _ _)
      | (with_reducible exact spec_VerifyLog.mono _ _)
      | (with_reducible exact LeO.refl _)
      | (with_reducible exact LeO.none _)
      | (with_reducible refine LeO.ite ?_ ?_)
      | (with_reducible refine LeO.bind ?_ (fun _ => ?_))
      | exact spec_DevicePublic.mono _ _ _ _ _
      | exact spec_EntryHash.mono _ _ _ _ _ _ _
      | exact spec_LogHead.mono _ _
      | exact spec_SignAsDevice.mono _ _ _ _ _ _
      | exact spec_VerifyLog.mono _ _
      | exact LeO.none _
      | refine LeO.ite ?_ ?_
      | refine LeO.bind ?_ (fun _ => ?_)
set_option maxHeartbeats 8000000 in
set_option maxRecDepth 100000 in
theorem spec_AppendEntry.calls (k : Nat) (A0 : Option Addr) (c0 : Nat) (l0 : List (S74)) (a1 : Int) (a2 : Int) (a3_0 : Int) (a3_1 : Int) (a3_2 : Int) (a3_3 : Int) (r1 : List (S74)) (r2 : Bool) (w : World) (hr0 : Kd.C k74 w A0 l0.length l0) (hc0 : l0.length ≤ c0) (h : spec_AppendEntry.f k l0 a1 a2 a3_0 a3_1 a3_2 a3_3 = some (r1, r2)) :
    Calls Try.prog 10 #[.slice A0 l0.length c0, .int .i64 a1, .int .i64 a2, .agg #[.int .i64 a3_0, .int .i64 a3_1, .int .i64 a3_2, .int .i64 a3_3]] w fun e w' => ∃ v0_ : Value, e = .returned (.tuple #[v0_, .bool r2]) ∧ Kd.R k74 74 w' w.heap.size (fun _ => True) v0_ r1 ∧ Below w.heap.size w w' := by
 have hu26 := Try.underlying26; have hu74 := Try.underlying74; have HR0 := Aside0.mk hr0; have HC0 := Aside0.mk hc0; clear hr0 hc0
 have HB := Aside0.mk (Below.refl w.heap.size w)
 have H : ((spec_DevicePublic.f k a3_0 a3_1 a3_2 a3_3).bind fun t220 => ((spec_LogHead.f k l0).bind fun t221 => ((spec_EntryHash.f k (l0.length : Int) a1 a2 t220 t221 0).bind fun t223 => ((spec_SignAsDevice.f k a3_0 a3_1 a3_2 a3_3 (([t223] : List Int))).bind fun t227 => ((spec_l19Copy.f l0).bind fun t228 => ((some (([(⟨(l0.length : Int), a1, a2, t220, t221, t227⟩ : S74)] : List (S74)) : List (S74))).bind fun y231 => (if t228.length + y231.length < 2932031007402 then ((some (t228 ++ y231 : List (S74))).bind fun y234 => (if (l0.length : Int) > 0 then ((spec_VerifyLog.f k l0).bind fun t237 => (if t237 = true then ((spec_VerifyLog.f k y234).bind fun t238 => (if t238 = true then (some (y234, true)) else ((spec_l19Copy.f l0).bind fun t239 => (some (t239, false))))) else ((spec_l19Copy.f l0).bind fun t242 => (some (t242, false))))) else ((spec_VerifyLog.f k y234).bind fun t245 => (if t245 = true then (some (y234, true)) else ((spec_l19Copy.f l0).bind fun t246 => (some (t246, false))))))) else (none)))))))) = some (r1, r2) := h
 clear h; replace H := Option.bind_eq_some_iff.mp H; obtain ⟨t220, A50, H⟩ := H; (try dsimp only at H); have A5 := Aside0.mk A50; clear A50; replace H := Option.bind_eq_some_iff.mp H; obtain ⟨t221, A60, H⟩ := H; (try dsimp only at H); have A6 := Aside0.mk A60; clear A60; replace H := Option.bind_eq_some_iff.mp H; obtain ⟨t223, A70, H⟩ := H; (try dsimp only at H); have A7 := Aside0.mk A70; clear A70
 obtain ⟨y224, hy224⟩ : ∃ y_ : List Int, y_ = (([t223] : List Int)) := ⟨_, rfl⟩
 replace H : ((spec_SignAsDevice.f k a3_0 a3_1 a3_2 a3_3 y224).bind fun t227 => ((spec_l19Copy.f l0).bind fun t228 => ((some (([(⟨(l0.length : Int), a1, a2, t220, t221, t227⟩ : S74)] : List (S74)) : List (S74))).bind fun y231 => (if t228.length + y231.length < 2932031007402 then ((some (t228 ++ y231 : List (S74))).bind fun y234 => (if (l0.length : Int) > 0 then ((spec_VerifyLog.f k l0).bind fun t237 => (if t237 = true then ((spec_VerifyLog.f k y234).bind fun t238 => (if t238 = true then (some (y234, true)) else ((spec_l19Copy.f l0).bind fun t239 => (some (t239, false))))) else ((spec_l19Copy.f l0).bind fun t242 => (some (t242, false))))) else ((spec_VerifyLog.f k y234).bind fun t245 => (if t245 = true then (some (y234, true)) else ((spec_l19Copy.f l0).bind fun t246 => (some (t246, false))))))) else (none))))) = some (r1, r2) := by first | (rw [hy224]; with_reducible exact H) | (have H2_ := (Option.bind_some _ _).symm.trans H; rw [hy224]; with_reducible exact H2_) | (have H2_ := (Option.bind_some _ _).symm.trans H; with_reducible exact H2_) | with_reducible exact H | (rw [hy224]; exact H) | exact H
 have Ny224 := Aside0.mk hy224; clear hy224; replace H := Option.bind_eq_some_iff.mp H; obtain ⟨t227, A80, H⟩ := H; (try dsimp only at H); have A8 := Aside0.mk A80; clear A80; replace H := Option.bind_eq_some_iff.mp H; obtain ⟨t228, A90, H⟩ := H; (try dsimp only at H); have A9 := Aside0.mk A90; clear A90
 obtain ⟨y231, hy231⟩ : ∃ y_ : List (S74), y_ = (([(⟨(l0.length : Int), a1, a2, t220, t221, t227⟩ : S74)] : List (S74))) := ⟨_, rfl⟩
 replace H : (if t228.length + y231.length < 2932031007402 then ((some (t228 ++ y231 : List (S74))).bind fun y234 => (if (l0.length : Int) > 0 then ((spec_VerifyLog.f k l0).bind fun t237 => (if t237 = true then ((spec_VerifyLog.f k y234).bind fun t238 => (if t238 = true then (some (y234, true)) else ((spec_l19Copy.f l0).bind fun t239 => (some (t239, false))))) else ((spec_l19Copy.f l0).bind fun t242 => (some (t242, false))))) else ((spec_VerifyLog.f k y234).bind fun t245 => (if t245 = true then (some (y234, true)) else ((spec_l19Copy.f l0).bind fun t246 => (some (t246, false))))))) else (none)) = some (r1, r2) := by first | (rw [hy231]; with_reducible exact H) | (have H2_ := (Option.bind_some _ _).symm.trans H; rw [hy231]; with_reducible exact H2_) | (have H2_ := (Option.bind_some _ _).symm.trans H; with_reducible exact H2_) | with_reducible exact H | (rw [hy231]; exact H) | exact H
 have Ny231 := Aside0.mk hy231; clear hy231
 by_cases c10 : t228.length + y231.length < 2932031007402
 ·rw [if_pos c10] at H; have LMc10 := Aside0.mk c10; clear c10
  obtain ⟨y234, hy234⟩ : ∃ y_ : List (S74), y_ = (t228 ++ y231) := ⟨_, rfl⟩
  replace H : (if (l0.length : Int) > 0 then ((spec_VerifyLog.f k l0).bind fun t237 => (if t237 = true then ((spec_VerifyLog.f k y234).bind fun t238 => (if t238 = true then (some (y234, true)) else ((spec_l19Copy.f l0).bind fun t239 => (some (t239, false))))) else ((spec_l19Copy.f l0).bind fun t242 => (some (t242, false))))) else ((spec_VerifyLog.f k y234).bind fun t245 => (if t245 = true then (some (y234, true)) else ((spec_l19Copy.f l0).bind fun t246 => (some (t246, false)))))) = some (r1, r2) := by first | (rw [hy234]; with_reducible exact H) | (have H2_ := (Option.bind_some _ _).symm.trans H; rw [hy234]; with_reducible exact H2_) | (have H2_ := (Option.bind_some _ _).symm.trans H; with_reducible exact H2_) | with_reducible exact H | (rw [hy234]; exact H) | exact H
  have Ny234 := Aside0.mk hy234; clear hy234
  by_cases c11 : (l0.length : Int) > 0
  ·rw [if_pos c11] at H
   have c11b0 : decide (0 < (l0.length : Int)) = true := decide_eq_true c11
   have c11b1 : decide (0 < l0.length) = true := decide_eq_true (by omega)
   clear c11; replace H := Option.bind_eq_some_iff.mp H; obtain ⟨t237, A120, H⟩ := H; (try dsimp only at H); have A12 := Aside0.mk A120; clear A120
   by_cases c13 : t237 = true
   ·subst c13; rw [if_pos rfl] at H; replace H := Option.bind_eq_some_iff.mp H; obtain ⟨t238, A140, H⟩ := H; (try dsimp only at H); have A14 := Aside0.mk A140; clear A140
    by_cases c15 : t238 = true
    ·subst c15; rw [if_pos rfl] at H
     simp only [Option.some.injEq, Prod.mk.injEq] at H
     obtain ⟨rfl, rfl⟩ := H
     go_enter Try.func10, Try.ntmps10
     try go_wp2_with (first | ((with_reducible refine gate_dst (N := 7) rfl ?_); refine box_event ?hg (N := 7) ?hd (cs := #[.int .i64 a3_0, .int .i64 a3_1, .int .i64 a3_2, .int .i64 a3_3]) (t := 26) ?hr ?_; (case hd => rfl); (case hg => rfl); (case hr => first | (go_simp; done) | (go_simp; rfl)); intro gb219 hg w16 hbox hb; have n0_ := Aside0.mk (below_step (Cmp.g HB.out) hb); have n1_ := Aside0.mk (hbox); have n2_ := Aside0.mk ((by rw [hg]; exact (below_size (Cmp.g HB.out)) : w.heap.size ≤ gb219)); have n3_ := Aside0.mk ((by rw [hg]; exact (below_size (Cmp.g HB.out)) : w.heap.size ≤ gb219)); clear HB; have HB := n0_; have BK219 := n1_; have GW219 := n2_; have GE219 := n3_; clear n0_ n1_ n2_ n3_; clear hb hbox hg; have hcz17_0 : w16.cell? ⟨gb219, 0, none⟩ = some (.int .i64 a3_0) := (blk_cell BK219.out 0).trans rfl; have hcz17_1 : w16.cell? ⟨gb219, 1, none⟩ = some (.int .i64 a3_1) := (blk_cell BK219.out 1).trans rfl; have hcz17_2 : w16.cell? ⟨gb219, 2, none⟩ = some (.int .i64 a3_2) := (blk_cell BK219.out 2).trans rfl; have hcz17_3 : w16.cell? ⟨gb219, 3, none⟩ = some (.int .i64 a3_3) := (blk_cell BK219.out 3).trans rfl; have hfz17_0 := blk_frozen BK219.out 0; have hfz17_1 := blk_frozen BK219.out 1; have hfz17_2 := blk_frozen BK219.out 2; have hfz17_3 := blk_frozen BK219.out 3) | ((with_reducible refine gate_callee (f := 40) rfl ?_); refine goesL_ (some 17) rfl rfl Try.func40 (by kernel_rfl) rfl #[.agg #[.int .i64 a3_0, .int .i64 a3_1, .int .i64 a3_2, .int .i64 a3_3]] rfl Cmp.q ?_; (with_reducible refine (spec_DevicePublic.calls k a3_0 a3_1 a3_2 a3_3 t220 _ A5.out).mono ?_); rintro e w18 ⟨rfl, hb⟩; refine ⟨_, rfl, ?_⟩; have n0_ := Aside0.mk (blk_below (Cmp.b BK219.out) hb); have n1_ := Aside0.mk (below_step (Cmp.g HB.out) hb); clear BK219; clear HB; have BK219 := n0_; have HB := n1_; clear n0_ n1_; (try clear hb); (try clear hb2); (try clear hk); (try clear hi)) | ((with_reducible refine gate_callee (f := 49) rfl ?_); refine goesL_ (some 19) rfl rfl Try.func49 (by kernel_rfl) rfl #[.slice A0 l0.length c0] rfl Cmp.q ?_; (with_reducible refine (spec_LogHead.calls k _ _ l0 t221 _ ?side1 ?side2 A6.out).mono ?_); (case side1 => exact Cmp.rc (Kd.C_below HR0.out HB.out)); (case side2 => exact HC0.out); rintro e w19 ⟨rfl, hb⟩; refine ⟨_, rfl, ?_⟩; have n0_ := Aside0.mk (blk_below (Cmp.b BK219.out) hb); have n1_ := Aside0.mk (below_step (Cmp.g HB.out) hb); clear BK219; clear HB; have BK219 := n0_; have HB := n1_; clear n0_ n1_; (try clear hb); (try clear hb2); (try clear hk); (try clear hi)) | ((with_reducible refine gate_dst (N := 10) rfl ?_); refine box_event ?hg (N := 10) ?hd (cs := #[.int .i64 0, .int .i64 0, .int .i64 0, .int .i64 0, .int .i64 0, .int .i64 0]) (t := 74) ?hr ?_; (case hd => rfl); (case hg => rfl); (case hr => first | (go_simp; done) | (go_simp; rfl)); intro gb222 hg w20 hbox hb; have n0_ := Aside0.mk (blk_below (Cmp.b BK219.out) hb); have n1_ := Aside0.mk (below_step (Cmp.g HB.out) hb); have n2_ := Aside0.mk (hbox); have n3_ := Aside0.mk ((by rw [hg]; exact (below_size (Cmp.g HB.out)) : w.heap.size ≤ gb222)); have n4_ := Aside0.mk ((by rw [hg]; exact (below_size (Cmp.g HB.out)) : w.heap.size ≤ gb222)); have n5_ := Aside0.mk ((by rw [hg]; exact Nat.ne_of_lt (blk_lt (Cmp.b BK219.out)) : gb219 ≠ gb222)); have n6_ := Aside0.mk ((by rw [hg]; exact Nat.ne_of_gt (blk_lt (Cmp.b BK219.out)) : gb222 ≠ gb219)); clear BK219; clear HB; have BK219 := n0_; have HB := n1_; have BK222 := n2_; have GW222 := n3_; have GE222 := n4_; have NB219_222 := n5_; have NB222_219 := n6_; clear n0_ n1_ n2_ n3_ n4_ n5_ n6_; clear hb hbox hg; have hnb21 := NB222_219.out; have hnc21 := NB219_222.out; have hcz22_0 : w20.cell? ⟨gb222, 0, none⟩ = some (.int .i64 0) := (blk_cell BK222.out 0).trans rfl; have hcz22_1 : w20.cell? ⟨gb222, 1, none⟩ = some (.int .i64 0) := (blk_cell BK222.out 1).trans rfl; have hcz22_2 : w20.cell? ⟨gb222, 2, none⟩ = some (.int .i64 0) := (blk_cell BK222.out 2).trans rfl; have hcz22_3 : w20.cell? ⟨gb222, 3, none⟩ = some (.int .i64 0) := (blk_cell BK222.out 3).trans rfl; have hcz22_4 : w20.cell? ⟨gb222, 4, none⟩ = some (.int .i64 0) := (blk_cell BK222.out 4).trans rfl; have hcz22_5 : w20.cell? ⟨gb222, 5, none⟩ = some (.int .i64 0) := (blk_cell BK222.out 5).trans rfl; have hfz22_0 := blk_frozen BK222.out 0; have hfz22_1 := blk_frozen BK222.out 1; have hfz22_2 := blk_frozen BK222.out 2; have hfz22_3 := blk_frozen BK222.out 3; have hfz22_4 := blk_frozen BK222.out 4; have hfz22_5 := blk_frozen BK222.out 5))
     have n0_ : Aside0 (((((((w20.setCell ⟨gb222, 0, none⟩ (.int .i64 (l0.length : Int))).setCell ⟨gb222, 1, none⟩ (.int .i64 a1)).setCell ⟨gb222, 2, none⟩ (.int .i64 a2)).setCell ⟨gb222, 3, none⟩ (.int .i64 t220)).setCell ⟨gb222, 4, none⟩ (.int .i64 t221)).setCell ⟨gb222, 5, none⟩ (.int .i64 0)).heap[gb219]? = some (.cells #[.int .i64 a3_0, .int .i64 a3_1, .int .i64 a3_2, .int .i64 a3_3] 26 (0, 0))) := ⟨by (with_reducible repeat (first | refine blk_drewN ?_ _ | refine blk_drew ?_ | refine blk_alloc ?_ _)); refine blk_far ?_ NB219_222.out _; (with_reducible repeat (first | refine blk_drewN ?_ _ | refine blk_drew ?_ | refine blk_alloc ?_ _)); refine blk_far ?_ NB219_222.out _; (with_reducible repeat (first | refine blk_drewN ?_ _ | refine blk_drew ?_ | refine blk_alloc ?_ _)); refine blk_far ?_ NB219_222.out _; (with_reducible repeat (first | refine blk_drewN ?_ _ | refine blk_drew ?_ | refine blk_alloc ?_ _)); refine blk_far ?_ NB219_222.out _; (with_reducible repeat (first | refine blk_drewN ?_ _ | refine blk_drew ?_ | refine blk_alloc ?_ _)); refine blk_far ?_ NB219_222.out _; (with_reducible repeat (first | refine blk_drewN ?_ _ | refine blk_drew ?_ | refine blk_alloc ?_ _)); refine blk_far ?_ NB219_222.out _; (with_reducible repeat (first | refine blk_drewN ?_ _ | refine blk_drew ?_ | refine blk_alloc ?_ _)); exact BK219.out⟩
     have n1_ : Aside0 (((((((w20.setCell ⟨gb222, 0, none⟩ (.int .i64 (l0.length : Int))).setCell ⟨gb222, 1, none⟩ (.int .i64 a1)).setCell ⟨gb222, 2, none⟩ (.int .i64 a2)).setCell ⟨gb222, 3, none⟩ (.int .i64 t220)).setCell ⟨gb222, 4, none⟩ (.int .i64 t221)).setCell ⟨gb222, 5, none⟩ (.int .i64 0)).heap[gb222]? = some (.cells #[.int .i64 (l0.length : Int), .int .i64 a1, .int .i64 a2, .int .i64 t220, .int .i64 t221, .int .i64 0] 74 (0, 0))) := ⟨by (with_reducible repeat (first | refine blk_drewN ?_ _ | refine blk_drew ?_ | refine blk_alloc ?_ _)); refine blk_put (cs := #[.int .i64 (l0.length : Int), .int .i64 a1, .int .i64 a2, .int .i64 t220, .int .i64 t221, .int .i64 0]) ?_ 5 _ rfl; (with_reducible repeat (first | refine blk_drewN ?_ _ | refine blk_drew ?_ | refine blk_alloc ?_ _)); refine blk_put (cs := #[.int .i64 (l0.length : Int), .int .i64 a1, .int .i64 a2, .int .i64 t220, .int .i64 0, .int .i64 0]) ?_ 4 _ rfl; (with_reducible repeat (first | refine blk_drewN ?_ _ | refine blk_drew ?_ | refine blk_alloc ?_ _)); refine blk_put (cs := #[.int .i64 (l0.length : Int), .int .i64 a1, .int .i64 a2, .int .i64 0, .int .i64 0, .int .i64 0]) ?_ 3 _ rfl; (with_reducible repeat (first | refine blk_drewN ?_ _ | refine blk_drew ?_ | refine blk_alloc ?_ _)); refine blk_put (cs := #[.int .i64 (l0.length : Int), .int .i64 a1, .int .i64 0, .int .i64 0, .int .i64 0, .int .i64 0]) ?_ 2 _ rfl; (with_reducible repeat (first | refine blk_drewN ?_ _ | refine blk_drew ?_ | refine blk_alloc ?_ _)); refine blk_put (cs := #[.int .i64 (l0.length : Int), .int .i64 0, .int .i64 0, .int .i64 0, .int .i64 0, .int .i64 0]) ?_ 1 _ rfl; (with_reducible repeat (first | refine blk_drewN ?_ _ | refine blk_drew ?_ | refine blk_alloc ?_ _)); refine blk_put (cs := #[.int .i64 0, .int .i64 0, .int .i64 0, .int .i64 0, .int .i64 0, .int .i64 0]) ?_ 0 _ rfl; (with_reducible repeat (first | refine blk_drewN ?_ _ | refine blk_drew ?_ | refine blk_alloc ?_ _)); exact BK222.out⟩
     have n2_ : Aside0 (Below w.heap.size w ((((((w20.setCell ⟨gb222, 0, none⟩ (.int .i64 (l0.length : Int))).setCell ⟨gb222, 1, none⟩ (.int .i64 a1)).setCell ⟨gb222, 2, none⟩ (.int .i64 a2)).setCell ⟨gb222, 3, none⟩ (.int .i64 t220)).setCell ⟨gb222, 4, none⟩ (.int .i64 t221)).setCell ⟨gb222, 5, none⟩ (.int .i64 0))) := ⟨Cmp.g HB.out⟩
     (try clear BK219); (try clear BK222); (try clear HB)
     generalize ((((((w20.setCell ⟨gb222, 0, none⟩ (.int .i64 (l0.length : Int))).setCell ⟨gb222, 1, none⟩ (.int .i64 a1)).setCell ⟨gb222, 2, none⟩ (.int .i64 a2)).setCell ⟨gb222, 3, none⟩ (.int .i64 t220)).setCell ⟨gb222, 4, none⟩ (.int .i64 t221)).setCell ⟨gb222, 5, none⟩ (.int .i64 0)) = w23 at n0_ n1_ n2_ ⊢
     have BK219 := n0_; have BK222 := n1_; have HB := n2_; clear n0_ n1_ n2_; have n0_ := Aside0.mk (blk_drew BK219.out); have n1_ := Aside0.mk (blk_drew BK222.out); have n2_ := Aside0.mk (below_drew1 HB.out); clear BK219; clear BK222; clear HB; have BK219 := n0_; have BK222 := n1_; have HB := n2_; clear n0_ n1_ n2_
     refine start_ (n := 7) (S := fun w' => w'.cell? ⟨gb219, 0, none⟩ = some (.int .i64 a3_0) ∧ w'.cell? ⟨gb219, 1, none⟩ = some (.int .i64 a3_1) ∧ w'.cell? ⟨gb219, 2, none⟩ = some (.int .i64 a3_2) ∧ w'.cell? ⟨gb219, 3, none⟩ = some (.int .i64 a3_3) ∧ w'.cell? ⟨gb222, 0, none⟩ = some (.int .i64 (l0.length : Int)) ∧ w'.cell? ⟨gb222, 1, none⟩ = some (.int .i64 a1) ∧ w'.cell? ⟨gb222, 2, none⟩ = some (.int .i64 a2) ∧ w'.cell? ⟨gb222, 3, none⟩ = some (.int .i64 t220) ∧ w'.cell? ⟨gb222, 4, none⟩ = some (.int .i64 t221) ∧ w'.cell? ⟨gb222, 5, none⟩ = some (.int .i64 0)) (ds := [6]) (Cmp.bm 0 7) (by kernel_rfl) rfl rfl ⟨(blk_cell BK219.out 0).trans rfl, (blk_cell BK219.out 1).trans rfl, (blk_cell BK219.out 2).trans rfl, (blk_cell BK219.out 3).trans rfl, (blk_cell BK222.out 0).trans rfl, (blk_cell BK222.out 1).trans rfl, (blk_cell BK222.out 2).trans rfl, (blk_cell BK222.out 3).trans rfl, (blk_cell BK222.out 4).trans rfl, (blk_cell BK222.out 5).trans rfl⟩ (fun hHeld => ?_)
     generalize w23.drew = w24 at BK219 BK222 HB hHeld ⊢
     refine take_ (i := 0) (N := some 21) (v := ?_) (a' := ?_) (Cmp.bm 1 6) rfl rfl (by kernel_rfl) (fun _ _ _ h => h) (Or.inl ⟨by rfl, ?_⟩) hHeld ?_ ?_
     rotate_left
     ·rintro w' ⟨s0, s1, s2, s3, s4, s5, s6, s7, s8, s9⟩; go_simp; with_reducible rfl
     rotate_left
     ·simp only [Act.put, Cmp.s, Cmp.z, Cmp.c, i64_w, i32_w]; rfl
     refine take_ (i := 1) (N := some 22) (v := ?_) (a' := ?_) (Cmp.bm 2 5) rfl rfl (by kernel_rfl) (fun _ _ _ h => h) (Or.inl ⟨by rfl, ?_⟩) hHeld ?_ ?_
     rotate_left
     ·rintro w' ⟨s0, s1, s2, s3, s4, s5, s6, s7, s8, s9⟩; go_simp; with_reducible rfl
     rotate_left
     ·simp only [Act.put, Cmp.s, Cmp.z, Cmp.c, i64_w, i32_w]; rfl
     refine one_ (i := 2) (N := some 23) (Cmp.bm 3 4) rfl rfl (by kernel_rfl) (by decide) (fun K hK => ?_)
     refine goes_ Try.func51 (by kernel_rfl) rfl #[.agg #[.int .i64 (l0.length : Int), .int .i64 a1, .int .i64 a2, .int .i64 t220, .int .i64 t221, .int .i64 0]] (by rfl) rfl rfl Cmp.q ?_
     with_reducible refine (spec_EntryHash.calls k (l0.length : Int) a1 a2 t220 t221 0 t223 _ A7.out).mono ?_
     rintro e w25 ⟨rfl, hb⟩; refine ⟨_, rfl, ?_⟩
     have n0_ := Aside0.mk (blk_below (Cmp.b BK219.out) hb)
     have n1_ := Aside0.mk (blk_below (Cmp.b BK222.out) hb)
     have n2_ := Aside0.mk (below_step (Cmp.g HB.out) hb)
     clear BK219; clear BK222; clear HB; have BK219 := n0_; have BK222 := n1_; have HB := n2_; clear n0_ n1_ n2_; (try clear hb); (try clear hb2); (try clear hk); (try clear hi)
     refine hK.out _ _ ⟨(blk_cell BK219.out 0).trans rfl, (blk_cell BK219.out 1).trans rfl, (blk_cell BK219.out 2).trans rfl, (blk_cell BK219.out 3).trans rfl, (blk_cell BK222.out 0).trans rfl, (blk_cell BK222.out 1).trans rfl, (blk_cell BK222.out 2).trans rfl, (blk_cell BK222.out 3).trans rfl, (blk_cell BK222.out 4).trans rfl, (blk_cell BK222.out 5).trans rfl⟩ (fun hHeld => ?_)
     clear hK K
     refine norm_ (a' := ?_) ?_ ?_
     rotate_left
     ·show Act.put _ (some 23) _ = _
      simp only [Act.put, Cmp.s, Cmp.z, Cmp.c, i64_w, i32_w]; rfl
     refine one_ (i := 3) (N := some 24) (Cmp.bm 4 3) rfl rfl (by kernel_rfl) (by decide) (fun K hK => ?_)
     refine Kd.R_lit_step (Kd.int .i64) _ 3 ?hg (N := 24) ?hd (xs := ([t223] : List Int)) (inner := [.int .i64 t223]) (ok := fun _ => True) (okp := fun _ => True) ?hr ?hp (fun _ hk => hk) trivial (Below.refl _ _) (Nat.le_refl _) (by simp) ?_; (case hd => rfl); (case hg => rfl); (case hr => first | (go_simp; done) | (go_simp; rfl)); (case hp => exact (Reps.one (show Kd.M (Kd.int .i64) _ _ _ t223 [.int .i64 t223] from rfl) (Reps.none _ _)))
     intro v225 w26 ho27 hb hg_ hnew_
     clear hg_ hnew_
     (first | rw [← Ny224.out] at ho27 | (simp only [Int.reduceToNat] at ho27; rw [← Ny224.out] at ho27))
     have n0_ := Aside0.mk (Kd.R_lower ho27 (below_size (Cmp.g HB.out)))
     have n1_ := Aside0.mk (blk_below (Cmp.b BK219.out) hb)
     have n2_ := Aside0.mk (blk_below (Cmp.b BK222.out) hb)
     have n3_ := Aside0.mk (below_step (Cmp.g HB.out) hb)
     clear BK219; clear BK222; clear HB; have HO226 := n0_; have BK219 := n1_; have BK222 := n2_; have HB := n3_; clear n0_ n1_ n2_ n3_; clear hb ho27
     obtain ⟨Ao28, co28, eo28⟩ := Kd.R_slice HO226.out
     (first | subst eo28 | (injection eo28 with f1_ f2_ f3_; have f4_ := f1_.symm; have f5_ := f3_.symm; clear f1_ f2_ f3_; subst f4_; subst f5_))
     refine hK.out _ _ ⟨(blk_cell BK219.out 0).trans rfl, (blk_cell BK219.out 1).trans rfl, (blk_cell BK219.out 2).trans rfl, (blk_cell BK219.out 3).trans rfl, (blk_cell BK222.out 0).trans rfl, (blk_cell BK222.out 1).trans rfl, (blk_cell BK222.out 2).trans rfl, (blk_cell BK222.out 3).trans rfl, (blk_cell BK222.out 4).trans rfl, (blk_cell BK222.out 5).trans rfl⟩ (fun hHeld => ?_)
     clear hK K
     refine norm_ (a' := ?_) ?_ ?_
     rotate_left
     ·show Act.put _ (some 24) _ = _
      simp only [Act.put, Cmp.s, Cmp.z, Cmp.c, i64_w, i32_w]; rfl
     refine one_ (i := 4) (N := some 25) (Cmp.bm 5 2) rfl rfl (by kernel_rfl) (by decide) (fun K hK => ?_)
     refine goes_ Try.func50 (by kernel_rfl) rfl #[.agg #[.int .i64 a3_0, .int .i64 a3_1, .int .i64 a3_2, .int .i64 a3_3], .slice Ao28 y224.length co28] (by rfl) rfl rfl Cmp.q ?_
     with_reducible refine (spec_SignAsDevice.calls k a3_0 a3_1 a3_2 a3_3 _ _ y224 t227 _ ?side1 ?side2 A8.out).mono ?_
     (case side1 => exact Cmp.rc (Kd.R_reads' HO226.out).2.2)
     (case side2 => exact (Kd.R_reads' HO226.out).2.1)
     rintro e w29 ⟨rfl, hb⟩; refine ⟨_, rfl, ?_⟩
     have n0_ := Aside0.mk (Kd.R_below (Cmp.rr HO226.out) hb)
     have n1_ := Aside0.mk (blk_below (Cmp.b BK219.out) hb)
     have n2_ := Aside0.mk (blk_below (Cmp.b BK222.out) hb)
     have n3_ := Aside0.mk (below_step (Cmp.g HB.out) hb)
     clear HO226; clear BK219; clear BK222; clear HB; have HO226 := n0_; have BK219 := n1_; have BK222 := n2_; have HB := n3_; clear n0_ n1_ n2_ n3_; (try clear hb); (try clear hb2); (try clear hk); (try clear hi)
     refine hK.out _ _ ⟨(blk_cell BK219.out 0).trans rfl, (blk_cell BK219.out 1).trans rfl, (blk_cell BK219.out 2).trans rfl, (blk_cell BK219.out 3).trans rfl, (blk_cell BK222.out 0).trans rfl, (blk_cell BK222.out 1).trans rfl, (blk_cell BK222.out 2).trans rfl, (blk_cell BK222.out 3).trans rfl, (blk_cell BK222.out 4).trans rfl, (blk_cell BK222.out 5).trans rfl⟩ (fun hHeld => ?_)
     clear hK K
     refine norm_ (a' := ?_) ?_ ?_
     rotate_left
     ·show Act.put _ (some 25) _ = _
      simp only [Act.put, Cmp.s, Cmp.z, Cmp.c, i64_w, i32_w]; rfl
     refine pure_ (i := 5) (N := some 26) (v := ?_) (a' := ?_) (Cmp.bm 6 1) rfl rfl (by kernel_rfl) (fun _ _ _ h => h) (Or.inl ⟨by rfl, ?_⟩) ?_ ?_
     rotate_left
     ·intro w'; go_simp; with_reducible rfl
     rotate_left
     ·simp only [Act.put, Cmp.s, Cmp.z, Cmp.c, i64_w, i32_w]; rfl
     refine last_ (i := 6) (N := none) (Cmp.bm 7 0) rfl rfl (by kernel_rfl) (by decide) (fun K hK => ?_)
     have hs30 : w29.cell? ⟨gb222, 5, none⟩ = some (.int .i64 0) := (blk_cell BK222.out 5).trans rfl
     have hfs30 := blk_frozen BK222.out 5; have hns30_0 := NB219_222.out; have hms30_0 := NB222_219.out
     refine skip_ (w1 := ?_) (by rfl) rfl ?_ ?_
     rotate_left
     ·go_simp; rfl
     refine hK.out _ _ ?_
     clear hK K
     refine done_ (by kernel_rfl) ?_
     try go_wp2
     have n0_ : Aside0 (Kd.R (Kd.int .i64) 3 (w29.setCell ⟨gb222, 5, none⟩ (.int .i64 t227)) w.heap.size (fun _ => True) (.slice Ao28 y224.length co28) y224) := ⟨by (with_reducible repeat (first | apply Kd.R_alloc | apply Kd.R_drewN | apply Kd.R_drew)); exact Kd.R_mono (Kd.R_far (p := ⟨gb222, 5, none⟩) (Kd.R_types HO226.out BK222.out (by decide)) (fun _ hk => hk.2) (.int .i64 t227)) (fun _ hk => trivial)⟩
     have n1_ : Aside0 ((w29.setCell ⟨gb222, 5, none⟩ (.int .i64 t227)).heap[gb219]? = some (.cells #[.int .i64 a3_0, .int .i64 a3_1, .int .i64 a3_2, .int .i64 a3_3] 26 (0, 0))) := ⟨by (with_reducible repeat (first | refine blk_drewN ?_ _ | refine blk_drew ?_ | refine blk_alloc ?_ _)); refine blk_far ?_ NB219_222.out _; (with_reducible repeat (first | refine blk_drewN ?_ _ | refine blk_drew ?_ | refine blk_alloc ?_ _)); exact BK219.out⟩
     have n2_ : Aside0 ((w29.setCell ⟨gb222, 5, none⟩ (.int .i64 t227)).heap[gb222]? = some (.cells #[.int .i64 (l0.length : Int), .int .i64 a1, .int .i64 a2, .int .i64 t220, .int .i64 t221, .int .i64 t227] 74 (0, 0))) := ⟨by (with_reducible repeat (first | refine blk_drewN ?_ _ | refine blk_drew ?_ | refine blk_alloc ?_ _)); refine blk_put (cs := #[.int .i64 (l0.length : Int), .int .i64 a1, .int .i64 a2, .int .i64 t220, .int .i64 t221, .int .i64 0]) ?_ 5 _ rfl; (with_reducible repeat (first | refine blk_drewN ?_ _ | refine blk_drew ?_ | refine blk_alloc ?_ _)); exact BK222.out⟩
     have n3_ : Aside0 (Below w.heap.size w (w29.setCell ⟨gb222, 5, none⟩ (.int .i64 t227))) := ⟨Cmp.g HB.out⟩
     (try clear HO226); (try clear BK219); (try clear BK222); (try clear HB)
     generalize (w29.setCell ⟨gb222, 5, none⟩ (.int .i64 t227)) = w31 at n0_ n1_ n2_ n3_ ⊢
     have HO226 := n0_; have BK219 := n1_; have BK222 := n2_; have HB := n3_; clear n0_ n1_ n2_ n3_; have n0_ := Aside0.mk (Kd.R_drew HO226.out); have n1_ := Aside0.mk (blk_drew BK219.out); have n2_ := Aside0.mk (blk_drew BK222.out); have n3_ := Aside0.mk (below_drew1 HB.out); clear HO226; clear BK219; clear BK222; clear HB; have HO226 := n0_; have BK219 := n1_; have BK222 := n2_; have HB := n3_; clear n0_ n1_ n2_ n3_
     refine start_ (n := 6) (S := fun w' => w'.cell? ⟨gb222, 0, none⟩ = some (.int .i64 (l0.length : Int)) ∧ w'.cell? ⟨gb222, 1, none⟩ = some (.int .i64 a1) ∧ w'.cell? ⟨gb222, 2, none⟩ = some (.int .i64 a2) ∧ w'.cell? ⟨gb222, 3, none⟩ = some (.int .i64 t220) ∧ w'.cell? ⟨gb222, 4, none⟩ = some (.int .i64 t221) ∧ w'.cell? ⟨gb222, 5, none⟩ = some (.int .i64 t227)) (ds := []) (Cmp.bm 0 6) (by kernel_rfl) rfl rfl ⟨(blk_cell BK222.out 0).trans rfl, (blk_cell BK222.out 1).trans rfl, (blk_cell BK222.out 2).trans rfl, (blk_cell BK222.out 3).trans rfl, (blk_cell BK222.out 4).trans rfl, (blk_cell BK222.out 5).trans rfl⟩ (fun hHeld => ?_)
     generalize w31.drew = w32 at HO226 BK219 BK222 HB hHeld ⊢
     refine pure_ (i := 0) (N := some 27) (v := ?_) (a' := ?_) (Cmp.bm 1 5) rfl rfl (by kernel_rfl) (fun _ _ _ h => h) (Or.inl ⟨by rfl, ?_⟩) ?_ ?_
     rotate_left
     ·intro w'; go_simp; with_reducible rfl
     rotate_left
     ·simp only [Act.put, Cmp.s, Cmp.z, Cmp.c, i64_w, i32_w]; rfl
     refine take_ (i := 2) (N := some 29) (v := ?_) (a' := ?_) (Cmp.bb 6 5) rfl rfl (by kernel_rfl) (fun _ _ _ h => h) (Or.inl ⟨by rfl, ?_⟩) hHeld ?_ ?_
     rotate_left
     ·rintro w' ⟨s0, s1, s2, s3, s4, s5⟩; go_simp; with_reducible rfl
     rotate_left
     ·simp only [Act.put, Cmp.s, Cmp.z, Cmp.c, i64_w, i32_w]; rfl
     refine join_ (σ := Value × Value) 2 (Cmp.bm 4 2) (fun s_ => [(28, s_.1), (30, s_.2)]) (fun s_ w' => (w'.cell? ⟨gb222, 0, none⟩ = some (.int .i64 (l0.length : Int)) ∧ w'.cell? ⟨gb222, 1, none⟩ = some (.int .i64 a1) ∧ w'.cell? ⟨gb222, 2, none⟩ = some (.int .i64 a2) ∧ w'.cell? ⟨gb222, 3, none⟩ = some (.int .i64 t220) ∧ w'.cell? ⟨gb222, 4, none⟩ = some (.int .i64 t221) ∧ w'.cell? ⟨gb222, 5, none⟩ = some (.int .i64 t227)) ∧ (Kd.R (Kd.int .i64) 3 w' w.heap.size (fun _ => True) (.slice Ao28 y224.length co28) y224) ∧ (Kd.R k74 74 w' w.heap.size (fun k_ => some k_ ≠ (s_.2 : Value).ownBlock ∧ k_ ≠ gb222) s_.1 t228) ∧ (Kd.R k74 74 w' w.heap.size (fun k_ => some k_ ≠ (s_.1 : Value).ownBlock ∧ k_ ≠ gb222) s_.2 y231) ∧ (w'.heap[gb219]? = some (.cells #[.int .i64 a3_0, .int .i64 a3_1, .int .i64 a3_2, .int .i64 a3_3] 26 (0, 0))) ∧ (w'.heap[gb222]? = some (.cells #[.int .i64 (l0.length : Int), .int .i64 a1, .int .i64 a2, .int .i64 t220, .int .i64 t221, .int .i64 t227] 74 (0, 0))) ∧ (Below w.heap.size w w')) ?_ ?_
     rotate_left
     ·intro hCont
      refine two_ (i := 1) (j := 3) (Ni := some 28) (Nj := some 30) (Cmp.bm 3 3) (Cmp.bb 6 13) rfl rfl rfl rfl (by kernel_rfl) (by decide) (by decide) (fun K hK => ?_) (fun K hK => ?_)
      ·skip
       refine goes_ Try.func52 (by kernel_rfl) rfl #[.slice A0 l0.length c0] (by rfl) rfl rfl Cmp.q ?_
       with_reducible refine (spec_l19Copy.calls _ _ l0 t228 _ ?side1 ?side2 A9.out).mono ?_
       (case side1 => exact Cmp.rc (Kd.C_below HR0.out HB.out))
       (case side2 => exact HC0.out)
       rintro e w33 ⟨v229, rfl, ho0, hb⟩; refine ⟨_, rfl, ?_⟩
       have n0_ := Aside0.mk (Kd.R_below (Cmp.rr HO226.out) hb)
       have n1_ := Aside0.mk (Kd.R_lower (Kd.R_newB ho0 (g := gb222) (o := .cells #[.int .i64 (l0.length : Int), .int .i64 a1, .int .i64 a2, .int .i64 t220, .int .i64 t221, .int .i64 t227] 74 (0, 0)) (Cmp.b BK222.out)) (below_size (Cmp.g HB.out)))
       have n2_ := Aside0.mk (blk_below (Cmp.b BK219.out) hb)
       have n3_ := Aside0.mk (blk_below (Cmp.b BK222.out) hb)
       have n4_ := Aside0.mk (below_step (Cmp.g HB.out) hb)
       clear HO226; clear BK219; clear BK222; clear HB; have HO226 := n0_; have HO230 := n1_; have BK219 := n2_; have BK222 := n3_; have HB := n4_; clear n0_ n1_ n2_ n3_ n4_; (try clear hb); (try clear hb2); (try clear hk); (try clear hi); (try clear ho0)
       refine hK.out _ _ ⟨(blk_cell BK222.out 0).trans rfl, (blk_cell BK222.out 1).trans rfl, (blk_cell BK222.out 2).trans rfl, (blk_cell BK222.out 3).trans rfl, (blk_cell BK222.out 4).trans rfl, (blk_cell BK222.out 5).trans rfl⟩ (fun hHeld => ?_)
       clear hK K
       refine norm_ (a' := ?_) ?_ ?_
       rotate_left
       ·show Act.put _ (some 28) _ = _
        simp only [Act.put, Cmp.s, Cmp.z, Cmp.c, i64_w, i32_w]; rfl
       refine one_ (i := 3) (N := some 30) (Cmp.bm 4 2) rfl rfl (by kernel_rfl) (by decide) (fun K hK => ?_)
       refine Kd.R_lit_step k74 _ 74 ?hg (N := 30) ?hd (xs := ([(⟨(l0.length : Int), a1, a2, t220, t221, t227⟩ : S74)] : List (S74))) (inner := [.int .i64 (l0.length : Int), .int .i64 a1, .int .i64 a2, .int .i64 t220, .int .i64 t221, .int .i64 t227]) (ok := fun _ => True) (okp := fun _ => True) ?hr ?hp (fun _ hk => hk) trivial (Below.refl _ _) (Nat.le_refl _) (by simp) ?_; (case hd => rfl); (case hg => rfl); (case hr => first | (go_simp; done) | (go_simp; rfl)); (case hp => exact (Reps.c6 (show Kd.M k74 _ _ _ (⟨(l0.length : Int), a1, a2, t220, t221, t227⟩ : S74) [.int .i64 (l0.length : Int), .int .i64 a1, .int .i64 a2, .int .i64 t220, .int .i64 t221, .int .i64 t227] from (k74_mkM _ _ _ (⟨(l0.length : Int), a1, a2, t220, t221, t227⟩ : S74) )) (Reps.none _ _)))
       intro v232 w34 ho35 hb hg_ hnew_
       clear hg_ hnew_
       (first | rw [← Ny231.out] at ho35 | (simp only [Int.reduceToNat] at ho35; rw [← Ny231.out] at ho35))
       have n0_ := Aside0.mk (Kd.R_below (Cmp.rr HO226.out) hb)
       have n1_ := Aside0.mk (Kd.R_elder' (Cmp.rr HO230.out) (Kd.R_base ho35) hb)
       have n2_ := Aside0.mk (Kd.R_lower (Kd.R_newB (Kd.R_new' ho35 (Kd.R_lt (Cmp.rr HO230.out))) (g := gb222) (o := .cells #[.int .i64 (l0.length : Int), .int .i64 a1, .int .i64 a2, .int .i64 t220, .int .i64 t221, .int .i64 t227] 74 (0, 0)) (Cmp.b BK222.out)) (below_size (Cmp.g HB.out)))
       have n3_ := Aside0.mk (blk_below (Cmp.b BK219.out) hb)
       have n4_ := Aside0.mk (blk_below (Cmp.b BK222.out) hb)
       have n5_ := Aside0.mk (below_step (Cmp.g HB.out) hb)
       clear HO226; clear HO230; clear BK219; clear BK222; clear HB; have HO226 := n0_; have HO230 := n1_; have HO233 := n2_; have BK219 := n3_; have BK222 := n4_; have HB := n5_; clear n0_ n1_ n2_ n3_ n4_ n5_; clear hb ho35
       refine hK.out _ _ ⟨(blk_cell BK222.out 0).trans rfl, (blk_cell BK222.out 1).trans rfl, (blk_cell BK222.out 2).trans rfl, (blk_cell BK222.out 3).trans rfl, (blk_cell BK222.out 4).trans rfl, (blk_cell BK222.out 5).trans rfl⟩ (fun hHeld => ?_)
       clear hK K
       refine norm_ (a' := ?_) ?_ ?_
       rotate_left
       ·show Act.put _ (some 30) _ = _
        simp only [Act.put, Cmp.s, Cmp.z, Cmp.c, i64_w, i32_w]; rfl
       exact norm_ (by simp only [putAll, Act.put, List.setIfInBounds_toArray, List.set_cons_zero, List.set_cons_succ]) (hCont (v229, v232) _ ⟨hHeld, (Cmp.rr HO226.out), (by (with_reducible repeat (first | apply Kd.R_alloc | apply Kd.R_drewN | apply Kd.R_drew)); exact Kd.R_mono HO230.out (fun _ hk => ⟨hk.2, hk.1.2⟩)), (by (with_reducible repeat (first | apply Kd.R_alloc | apply Kd.R_drewN | apply Kd.R_drew)); exact Kd.R_mono HO233.out (fun _ hk => ⟨hk.1.2, hk.2⟩)), (Cmp.b BK219.out), (Cmp.b BK222.out), (Cmp.g HB.out)⟩)
      ·skip
       refine Kd.R_lit_step k74 _ 74 ?hg (N := 30) ?hd (xs := ([(⟨(l0.length : Int), a1, a2, t220, t221, t227⟩ : S74)] : List (S74))) (inner := [.int .i64 (l0.length : Int), .int .i64 a1, .int .i64 a2, .int .i64 t220, .int .i64 t221, .int .i64 t227]) (ok := fun _ => True) (okp := fun _ => True) ?hr ?hp (fun _ hk => hk) trivial (Below.refl _ _) (Nat.le_refl _) (by simp) ?_; (case hd => rfl); (case hg => rfl); (case hr => first | (go_simp; done) | (go_simp; rfl)); (case hp => exact (Reps.c6 (show Kd.M k74 _ _ _ (⟨(l0.length : Int), a1, a2, t220, t221, t227⟩ : S74) [.int .i64 (l0.length : Int), .int .i64 a1, .int .i64 a2, .int .i64 t220, .int .i64 t221, .int .i64 t227] from (k74_mkM _ _ _ (⟨(l0.length : Int), a1, a2, t220, t221, t227⟩ : S74) )) (Reps.none _ _)))
       intro v232 w33 ho34 hb hg_ hnew_
       clear hg_ hnew_
       (first | rw [← Ny231.out] at ho34 | (simp only [Int.reduceToNat] at ho34; rw [← Ny231.out] at ho34))
       have n0_ := Aside0.mk (Kd.R_below (Cmp.rr HO226.out) hb)
       have n1_ := Aside0.mk (Kd.R_lower (Kd.R_newB ho34 (g := gb222) (o := .cells #[.int .i64 (l0.length : Int), .int .i64 a1, .int .i64 a2, .int .i64 t220, .int .i64 t221, .int .i64 t227] 74 (0, 0)) (Cmp.b BK222.out)) (below_size (Cmp.g HB.out)))
       have n2_ := Aside0.mk (blk_below (Cmp.b BK219.out) hb)
       have n3_ := Aside0.mk (blk_below (Cmp.b BK222.out) hb)
       have n4_ := Aside0.mk (below_step (Cmp.g HB.out) hb)
       clear HO226; clear BK219; clear BK222; clear HB; have HO226 := n0_; have HO233 := n1_; have BK219 := n2_; have BK222 := n3_; have HB := n4_; clear n0_ n1_ n2_ n3_ n4_; clear hb ho34
       refine hK.out _ _ ⟨(blk_cell BK222.out 0).trans rfl, (blk_cell BK222.out 1).trans rfl, (blk_cell BK222.out 2).trans rfl, (blk_cell BK222.out 3).trans rfl, (blk_cell BK222.out 4).trans rfl, (blk_cell BK222.out 5).trans rfl⟩ (fun hHeld => ?_)
       clear hK K
       refine norm_ (a' := ?_) ?_ ?_
       rotate_left
       ·show Act.put _ (some 30) _ = _
        simp only [Act.put, Cmp.s, Cmp.z, Cmp.c, i64_w, i32_w]; rfl
       refine one_ (i := 1) (N := some 28) (Cmp.bm 4 2) rfl rfl (by kernel_rfl) (by decide) (fun K hK => ?_)
       refine goes_ Try.func52 (by kernel_rfl) rfl #[.slice A0 l0.length c0] (by rfl) rfl rfl Cmp.q ?_
       with_reducible refine (spec_l19Copy.calls _ _ l0 t228 _ ?side1 ?side2 A9.out).mono ?_
       (case side1 => exact Cmp.rc (Kd.C_below HR0.out HB.out))
       (case side2 => exact HC0.out)
       rintro e w35 ⟨v229, rfl, ho0, hb⟩; refine ⟨_, rfl, ?_⟩
       have n0_ := Aside0.mk (Kd.R_below (Cmp.rr HO226.out) hb)
       have n1_ := Aside0.mk (Kd.R_elder' (Cmp.rr HO233.out) (Kd.R_base ho0) hb)
       have n2_ := Aside0.mk (Kd.R_lower (Kd.R_newB (Kd.R_new' ho0 (Kd.R_lt (Cmp.rr HO233.out))) (g := gb222) (o := .cells #[.int .i64 (l0.length : Int), .int .i64 a1, .int .i64 a2, .int .i64 t220, .int .i64 t221, .int .i64 t227] 74 (0, 0)) (Cmp.b BK222.out)) (below_size (Cmp.g HB.out)))
       have n3_ := Aside0.mk (blk_below (Cmp.b BK219.out) hb)
       have n4_ := Aside0.mk (blk_below (Cmp.b BK222.out) hb)
       have n5_ := Aside0.mk (below_step (Cmp.g HB.out) hb)
       clear HO226; clear HO233; clear BK219; clear BK222; clear HB; have HO226 := n0_; have HO233 := n1_; have HO230 := n2_; have BK219 := n3_; have BK222 := n4_; have HB := n5_; clear n0_ n1_ n2_ n3_ n4_ n5_; (try clear hb); (try clear hb2); (try clear hk); (try clear hi); (try clear ho0)
       refine hK.out _ _ ⟨(blk_cell BK222.out 0).trans rfl, (blk_cell BK222.out 1).trans rfl, (blk_cell BK222.out 2).trans rfl, (blk_cell BK222.out 3).trans rfl, (blk_cell BK222.out 4).trans rfl, (blk_cell BK222.out 5).trans rfl⟩ (fun hHeld => ?_)
       clear hK K
       refine norm_ (a' := ?_) ?_ ?_
       rotate_left
       ·show Act.put _ (some 28) _ = _
        simp only [Act.put, Cmp.s, Cmp.z, Cmp.c, i64_w, i32_w]; rfl
       exact norm_ (by simp only [putAll, Act.put, List.setIfInBounds_toArray, List.set_cons_zero, List.set_cons_succ]) (hCont (v229, v232) _ ⟨hHeld, (Cmp.rr HO226.out), (by (with_reducible repeat (first | apply Kd.R_alloc | apply Kd.R_drewN | apply Kd.R_drew)); exact Kd.R_mono HO230.out (fun _ hk => ⟨hk.1.2, hk.2⟩)), (by (with_reducible repeat (first | apply Kd.R_alloc | apply Kd.R_drewN | apply Kd.R_drew)); exact Kd.R_mono HO233.out (fun _ hk => ⟨hk.2, hk.1.2⟩)), (Cmp.b BK219.out), (Cmp.b BK222.out), (Cmp.g HB.out)⟩)
     rintro ⟨v229, v232⟩ w36 ⟨hS_, h0_, h1_, h2_, h3_, h4_, h5_⟩
     have n0_ : Aside0 (Kd.R (Kd.int .i64) 3 w36 w.heap.size (fun _ => True) (.slice Ao28 y224.length co28) y224) := ⟨h0_⟩
     have n1_ : Aside0 (Kd.R k74 74 w36 w.heap.size (fun k_ => some k_ ≠ (v232 : Value).ownBlock ∧ k_ ≠ gb222) v229 t228) := ⟨h1_⟩
     have n2_ : Aside0 (Kd.R k74 74 w36 w.heap.size (fun k_ => some k_ ≠ (v229 : Value).ownBlock ∧ k_ ≠ gb222) v232 y231) := ⟨h2_⟩
     have n3_ : Aside0 (w36.heap[gb219]? = some (.cells #[.int .i64 a3_0, .int .i64 a3_1, .int .i64 a3_2, .int .i64 a3_3] 26 (0, 0))) := ⟨h3_⟩
     have n4_ : Aside0 (w36.heap[gb222]? = some (.cells #[.int .i64 (l0.length : Int), .int .i64 a1, .int .i64 a2, .int .i64 t220, .int .i64 t221, .int .i64 t227] 74 (0, 0))) := ⟨h4_⟩
     have n5_ : Aside0 (Below w.heap.size w w36) := ⟨h5_⟩
     clear HO226; clear BK219; clear BK222; clear HB; clear h0_ h1_ h2_ h3_ h4_ h5_; have HO226 := n0_; have HO230 := n1_; have HO233 := n2_; have BK219 := n3_; have BK222 := n4_; have HB := n5_; clear n0_ n1_ n2_ n3_ n4_ n5_
     have hHeld : w36.cell? ⟨gb222, 0, none⟩ = some (.int .i64 (l0.length : Int)) ∧ w36.cell? ⟨gb222, 1, none⟩ = some (.int .i64 a1) ∧ w36.cell? ⟨gb222, 2, none⟩ = some (.int .i64 a2) ∧ w36.cell? ⟨gb222, 3, none⟩ = some (.int .i64 t220) ∧ w36.cell? ⟨gb222, 4, none⟩ = some (.int .i64 t221) ∧ w36.cell? ⟨gb222, 5, none⟩ = some (.int .i64 t227) := hS_
     obtain ⟨Ao38, co38, eo38⟩ := Kd.R_slice HO233.out
     (first | subst eo38 | (injection eo38 with f1_ f2_ f3_; have f4_ := f1_.symm; have f5_ := f3_.symm; clear f1_ f2_ f3_; subst f4_; subst f5_))
     refine norm_ (a' := ?_) ?_ ?_
     rotate_left
     ·simp only [putAll, Act.put, List.setIfInBounds_toArray, List.set_cons_zero, List.set_cons_succ]; rfl
     refine one_ (i := 4) (N := some 31) (Cmp.bm 5 1) rfl rfl (by kernel_rfl) (by decide) (fun K hK => ?_)
     refine Kd.R_append_rows_step k74 (w0 := w) w.heap.size (by rfl) (.tmp 28) (.tmp 30) 24 74 (.agg #[(.int .i64 0), (.int .i64 0), (.int .i64 0), (.int .i64 0), (.int .i64 0), (.int .i64 0)]) 48 rfl Try.underlying24 info74 rfl (by decide) (by omega) v229 t228 y231 _ _ _ (fun k_ => some k_ ≠ (.slice Ao38 y231.length co38 : Value).ownBlock ∧ k_ ≠ gb222) (fun _ => False) rfl rfl ?aO ?aR (fun _ _ h => h) (fun _ h => h.elim) ?aF ?aB ?aS ?aL ?_
     (case aR => repeat (first | exact (Kd.R_reads' HO233.out).2.2 | (with_reducible refine Kd.C_alloc ?_ _) | (with_reducible refine Kd.C_drewN ?_ _) | (with_reducible refine Kd.C_drew ?_)))
     (case aB => exact (Cmp.g HB.out))
     (case aF => exact (fun k_ hk => ⟨Kd.fresh' (Kd.R_lt (Cmp.rr HO233.out)) k_ hk, Kd.freshB (g := gb222) (o := .cells #[.int .i64 (l0.length : Int), .int .i64 a1, .int .i64 a2, .int .i64 t220, .int .i64 t221, .int .i64 t227] 74 (0, 0)) (Cmp.b BK222.out) k_ hk⟩))
     (case aO => exact (Cmp.rr HO230.out))
     (case aS => exact (below_size (Cmp.g HB.out)))
     (case aL => have := LMc10.out; omega)
     intro v235 w37 ho hb hg hat
     rw [← Ny234.out] at ho
     have n0_ := Aside0.mk (blk_grown (g := gb219) (o := .cells #[.int .i64 a3_0, .int .i64 a3_1, .int .i64 a3_2, .int .i64 a3_3] 26 (0, 0)) (Cmp.b BK219.out) hg (Kd.R_ne HO230.out BK219.out (by decide)))
     have n1_ := Aside0.mk (blk_grown (g := gb222) (o := .cells #[.int .i64 (l0.length : Int), .int .i64 a1, .int .i64 a2, .int .i64 t220, .int .i64 t221, .int .i64 t227] 74 (0, 0)) (Cmp.b BK222.out) hg (Kd.R_away HO230.out (fun _ hk => hk.2)))
     have n2_ := Aside0.mk (Kd.R_over' (Cmp.rr HO226.out) (Kd.R_typed (Cmp.rr HO230.out)) (by decide) hg)
     have n3_ := Aside0.mk (Kd.R_after (ok := (fun k_ => k_ ≠ gb222)) (by (with_reducible repeat (first | apply Kd.R_alloc | apply Kd.R_drewN | apply Kd.R_drew)); exact Kd.R_mono HO233.out (fun _ hk => ⟨hk.2, hk.1⟩)) hg hat)
     have n4_ := Aside0.mk (hb)
     have n5_ := Aside0.mk (ho)
     clear BK219; clear BK222; clear HO226; clear HO233; clear HB; clear HO230; have BK219 := n0_; have BK222 := n1_; have HO226 := n2_; have HO233 := n3_; have HB := n4_; have HO236 := n5_; clear n0_ n1_ n2_ n3_ n4_ n5_; clear ho hb hg hat
     refine hK.out _ _ ⟨(blk_cell BK222.out 0).trans rfl, (blk_cell BK222.out 1).trans rfl, (blk_cell BK222.out 2).trans rfl, (blk_cell BK222.out 3).trans rfl, (blk_cell BK222.out 4).trans rfl, (blk_cell BK222.out 5).trans rfl⟩ (fun hHeld => ?_)
     clear hK K
     refine norm_ (a' := ?_) ?_ ?_
     rotate_left
     ·show Act.put _ (some 31) _ = _
      simp only [Act.put, Cmp.s, Cmp.z, Cmp.c, i64_w, i32_w]; rfl
     refine pure_ (i := 5) (N := some 11) (v := ?_) (a' := ?_) (Cmp.bm 6 0) rfl rfl (by kernel_rfl) (fun _ _ _ h => h) (Or.inl ⟨by rfl, ?_⟩) ?_ ?_
     rotate_left
     ·intro w'; go_simp; with_reducible rfl
     rotate_left
     ·simp only [Act.put, Cmp.s, Cmp.z, Cmp.c, i64_w, i32_w]; rfl
     refine done_ (by kernel_rfl) ?_
     try go_wp2_with (first | (go_at_call 53; (with_reducible refine (spec_VerifyLog.calls k _ _ l0 true _ ?side1 ?side2 A12.out).mono ?_); (case side1 => exact Cmp.rc (Kd.C_below HR0.out HB.out)); (case side2 => exact HC0.out); rintro e w39 ⟨rfl, hb⟩; have n0_ := Aside0.mk (Kd.R_below (Cmp.rr HO226.out) hb); have n1_ := Aside0.mk (Kd.R_below (Cmp.rr HO233.out) hb); have n2_ := Aside0.mk (Kd.R_below (Cmp.rr HO236.out) hb); have n3_ := Aside0.mk (blk_below (Cmp.b BK219.out) hb); have n4_ := Aside0.mk (blk_below (Cmp.b BK222.out) hb); have n5_ := Aside0.mk (below_step (Cmp.g HB.out) hb); clear HO226; clear HO233; clear HO236; clear BK219; clear BK222; clear HB; have HO226 := n0_; have HO233 := n1_; have HO236 := n2_; have BK219 := n3_; have BK222 := n4_; have HB := n5_; clear n0_ n1_ n2_ n3_ n4_ n5_; (try clear hb); (try clear hb2); (try clear hk); (try clear hi); obtain ⟨Ao40, co40, eo40⟩ := Kd.R_slice HO236.out; subst eo40) | (go_at_call 53; (with_reducible refine (spec_VerifyLog.calls k _ _ y234 true _ ?side1 ?side2 A14.out).mono ?_); (case side1 => exact Cmp.rc (Kd.R_reads' HO236.out).2.2); (case side2 => exact (Kd.R_reads' HO236.out).2.1); rintro e w41 ⟨rfl, hb⟩; have n0_ := Aside0.mk (Kd.R_below (Cmp.rr HO226.out) hb); have n1_ := Aside0.mk (Kd.R_below (Cmp.rr HO233.out) hb); have n2_ := Aside0.mk (Kd.R_below (Cmp.rr HO236.out) hb); have n3_ := Aside0.mk (blk_below (Cmp.b BK219.out) hb); have n4_ := Aside0.mk (blk_below (Cmp.b BK222.out) hb); have n5_ := Aside0.mk (below_step (Cmp.g HB.out) hb); clear HO226; clear HO233; clear HO236; clear BK219; clear BK222; clear HB; have HO226 := n0_; have HO233 := n1_; have HO236 := n2_; have BK219 := n3_; have BK222 := n4_; have HB := n5_; clear n0_ n1_ n2_ n3_ n4_ n5_; (try clear hb); (try clear hb2); (try clear hk); (try clear hi)))
     go_ret2
     exact ⟨_, by first | rfl | (simp [errW_none, errW_some] <;> rfl) | (simp [*, errW_none, errW_some] <;> rfl), by (with_reducible repeat (first | apply Kd.R_alloc | apply Kd.R_drewN | apply Kd.R_drew)); exact Kd.R_mono HO236.out (fun _ hk => trivial), Cmp.g HB.out⟩
    ·replace c15 := Bool.eq_false_iff.mpr c15
     subst c15
     have H1 : ((spec_l19Copy.f l0).bind fun t239 => (some (t239, false))) = some (r1, r2) := by rw [if_neg (show ¬ (false = true) by decide)] at H; exact H
     clear H; have H := H1; clear H1; replace H := Option.bind_eq_some_iff.mp H; obtain ⟨t239, A420, H⟩ := H; (try dsimp only at H); have A42 := Aside0.mk A420; clear A420
     simp only [Option.some.injEq, Prod.mk.injEq] at H
     obtain ⟨rfl, rfl⟩ := H
     go_enter Try.func10, Try.ntmps10
     try go_wp2_with (first | ((with_reducible refine gate_dst (N := 7) rfl ?_); refine box_event ?hg (N := 7) ?hd (cs := #[.int .i64 a3_0, .int .i64 a3_1, .int .i64 a3_2, .int .i64 a3_3]) (t := 26) ?hr ?_; (case hd => rfl); (case hg => rfl); (case hr => first | (go_simp; done) | (go_simp; rfl)); intro gb219 hg w43 hbox hb; have n0_ := Aside0.mk (below_step (Cmp.g HB.out) hb); have n1_ := Aside0.mk (hbox); have n2_ := Aside0.mk ((by rw [hg]; exact (below_size (Cmp.g HB.out)) : w.heap.size ≤ gb219)); have n3_ := Aside0.mk ((by rw [hg]; exact (below_size (Cmp.g HB.out)) : w.heap.size ≤ gb219)); clear HB; have HB := n0_; have BK219 := n1_; have GW219 := n2_; have GE219 := n3_; clear n0_ n1_ n2_ n3_; clear hb hbox hg; have hcz44_0 : w43.cell? ⟨gb219, 0, none⟩ = some (.int .i64 a3_0) := (blk_cell BK219.out 0).trans rfl; have hcz44_1 : w43.cell? ⟨gb219, 1, none⟩ = some (.int .i64 a3_1) := (blk_cell BK219.out 1).trans rfl; have hcz44_2 : w43.cell? ⟨gb219, 2, none⟩ = some (.int .i64 a3_2) := (blk_cell BK219.out 2).trans rfl; have hcz44_3 : w43.cell? ⟨gb219, 3, none⟩ = some (.int .i64 a3_3) := (blk_cell BK219.out 3).trans rfl; have hfz44_0 := blk_frozen BK219.out 0; have hfz44_1 := blk_frozen BK219.out 1; have hfz44_2 := blk_frozen BK219.out 2; have hfz44_3 := blk_frozen BK219.out 3) | ((with_reducible refine gate_callee (f := 40) rfl ?_); refine goesL_ (some 17) rfl rfl Try.func40 (by kernel_rfl) rfl #[.agg #[.int .i64 a3_0, .int .i64 a3_1, .int .i64 a3_2, .int .i64 a3_3]] rfl Cmp.q ?_; (with_reducible refine (spec_DevicePublic.calls k a3_0 a3_1 a3_2 a3_3 t220 _ A5.out).mono ?_); rintro e w45 ⟨rfl, hb⟩; refine ⟨_, rfl, ?_⟩; have n0_ := Aside0.mk (blk_below (Cmp.b BK219.out) hb); have n1_ := Aside0.mk (below_step (Cmp.g HB.out) hb); clear BK219; clear HB; have BK219 := n0_; have HB := n1_; clear n0_ n1_; (try clear hb); (try clear hb2); (try clear hk); (try clear hi)) | ((with_reducible refine gate_callee (f := 49) rfl ?_); refine goesL_ (some 19) rfl rfl Try.func49 (by kernel_rfl) rfl #[.slice A0 l0.length c0] rfl Cmp.q ?_; (with_reducible refine (spec_LogHead.calls k _ _ l0 t221 _ ?side1 ?side2 A6.out).mono ?_); (case side1 => exact Cmp.rc (Kd.C_below HR0.out HB.out)); (case side2 => exact HC0.out); rintro e w46 ⟨rfl, hb⟩; refine ⟨_, rfl, ?_⟩; have n0_ := Aside0.mk (blk_below (Cmp.b BK219.out) hb); have n1_ := Aside0.mk (below_step (Cmp.g HB.out) hb); clear BK219; clear HB; have BK219 := n0_; have HB := n1_; clear n0_ n1_; (try clear hb); (try clear hb2); (try clear hk); (try clear hi)) | ((with_reducible refine gate_dst (N := 10) rfl ?_); refine box_event ?hg (N := 10) ?hd (cs := #[.int .i64 0, .int .i64 0, .int .i64 0, .int .i64 0, .int .i64 0, .int .i64 0]) (t := 74) ?hr ?_; (case hd => rfl); (case hg => rfl); (case hr => first | (go_simp; done) | (go_simp; rfl)); intro gb222 hg w47 hbox hb; have n0_ := Aside0.mk (blk_below (Cmp.b BK219.out) hb); have n1_ := Aside0.mk (below_step (Cmp.g HB.out) hb); have n2_ := Aside0.mk (hbox); have n3_ := Aside0.mk ((by rw [hg]; exact (below_size (Cmp.g HB.out)) : w.heap.size ≤ gb222)); have n4_ := Aside0.mk ((by rw [hg]; exact (below_size (Cmp.g HB.out)) : w.heap.size ≤ gb222)); have n5_ := Aside0.mk ((by rw [hg]; exact Nat.ne_of_lt (blk_lt (Cmp.b BK219.out)) : gb219 ≠ gb222)); have n6_ := Aside0.mk ((by rw [hg]; exact Nat.ne_of_gt (blk_lt (Cmp.b BK219.out)) : gb222 ≠ gb219)); clear BK219; clear HB; have BK219 := n0_; have HB := n1_; have BK222 := n2_; have GW222 := n3_; have GE222 := n4_; have NB219_222 := n5_; have NB222_219 := n6_; clear n0_ n1_ n2_ n3_ n4_ n5_ n6_; clear hb hbox hg; have hnb48 := NB222_219.out; have hnc48 := NB219_222.out; have hcz49_0 : w47.cell? ⟨gb222, 0, none⟩ = some (.int .i64 0) := (blk_cell BK222.out 0).trans rfl; have hcz49_1 : w47.cell? ⟨gb222, 1, none⟩ = some (.int .i64 0) := (blk_cell BK222.out 1).trans rfl; have hcz49_2 : w47.cell? ⟨gb222, 2, none⟩ = some (.int .i64 0) := (blk_cell BK222.out 2).trans rfl; have hcz49_3 : w47.cell? ⟨gb222, 3, none⟩ = some (.int .i64 0) := (blk_cell BK222.out 3).trans rfl; have hcz49_4 : w47.cell? ⟨gb222, 4, none⟩ = some (.int .i64 0) := (blk_cell BK222.out 4).trans rfl; have hcz49_5 : w47.cell? ⟨gb222, 5, none⟩ = some (.int .i64 0) := (blk_cell BK222.out 5).trans rfl; have hfz49_0 := blk_frozen BK222.out 0; have hfz49_1 := blk_frozen BK222.out 1; have hfz49_2 := blk_frozen BK222.out 2; have hfz49_3 := blk_frozen BK222.out 3; have hfz49_4 := blk_frozen BK222.out 4; have hfz49_5 := blk_frozen BK222.out 5))
     have n0_ : Aside0 (((((((w47.setCell ⟨gb222, 0, none⟩ (.int .i64 (l0.length : Int))).setCell ⟨gb222, 1, none⟩ (.int .i64 a1)).setCell ⟨gb222, 2, none⟩ (.int .i64 a2)).setCell ⟨gb222, 3, none⟩ (.int .i64 t220)).setCell ⟨gb222, 4, none⟩ (.int .i64 t221)).setCell ⟨gb222, 5, none⟩ (.int .i64 0)).heap[gb219]? = some (.cells #[.int .i64 a3_0, .int .i64 a3_1, .int .i64 a3_2, .int .i64 a3_3] 26 (0, 0))) := ⟨by (with_reducible repeat (first | refine blk_drewN ?_ _ | refine blk_drew ?_ | refine blk_alloc ?_ _)); refine blk_far ?_ NB219_222.out _; (with_reducible repeat (first | refine blk_drewN ?_ _ | refine blk_drew ?_ | refine blk_alloc ?_ _)); refine blk_far ?_ NB219_222.out _; (with_reducible repeat (first | refine blk_drewN ?_ _ | refine blk_drew ?_ | refine blk_alloc ?_ _)); refine blk_far ?_ NB219_222.out _; (with_reducible repeat (first | refine blk_drewN ?_ _ | refine blk_drew ?_ | refine blk_alloc ?_ _)); refine blk_far ?_ NB219_222.out _; (with_reducible repeat (first | refine blk_drewN ?_ _ | refine blk_drew ?_ | refine blk_alloc ?_ _)); refine blk_far ?_ NB219_222.out _; (with_reducible repeat (first | refine blk_drewN ?_ _ | refine blk_drew ?_ | refine blk_alloc ?_ _)); refine blk_far ?_ NB219_222.out _; (with_reducible repeat (first | refine blk_drewN ?_ _ | refine blk_drew ?_ | refine blk_alloc ?_ _)); exact BK219.out⟩
     have n1_ : Aside0 (((((((w47.setCell ⟨gb222, 0, none⟩ (.int .i64 (l0.length : Int))).setCell ⟨gb222, 1, none⟩ (.int .i64 a1)).setCell ⟨gb222, 2, none⟩ (.int .i64 a2)).setCell ⟨gb222, 3, none⟩ (.int .i64 t220)).setCell ⟨gb222, 4, none⟩ (.int .i64 t221)).setCell ⟨gb222, 5, none⟩ (.int .i64 0)).heap[gb222]? = some (.cells #[.int .i64 (l0.length : Int), .int .i64 a1, .int .i64 a2, .int .i64 t220, .int .i64 t221, .int .i64 0] 74 (0, 0))) := ⟨by (with_reducible repeat (first | refine blk_drewN ?_ _ | refine blk_drew ?_ | refine blk_alloc ?_ _)); refine blk_put (cs := #[.int .i64 (l0.length : Int), .int .i64 a1, .int .i64 a2, .int .i64 t220, .int .i64 t221, .int .i64 0]) ?_ 5 _ rfl; (with_reducible repeat (first | refine blk_drewN ?_ _ | refine blk_drew ?_ | refine blk_alloc ?_ _)); refine blk_put (cs := #[.int .i64 (l0.length : Int), .int .i64 a1, .int .i64 a2, .int .i64 t220, .int .i64 0, .int .i64 0]) ?_ 4 _ rfl; (with_reducible repeat (first | refine blk_drewN ?_ _ | refine blk_drew ?_ | refine blk_alloc ?_ _)); refine blk_put (cs := #[.int .i64 (l0.length : Int), .int .i64 a1, .int .i64 a2, .int .i64 0, .int .i64 0, .int .i64 0]) ?_ 3 _ rfl; (with_reducible repeat (first | refine blk_drewN ?_ _ | refine blk_drew ?_ | refine blk_alloc ?_ _)); refine blk_put (cs := #[.int .i64 (l0.length : Int), .int .i64 a1, .int .i64 0, .int .i64 0, .int .i64 0, .int .i64 0]) ?_ 2 _ rfl; (with_reducible repeat (first | refine blk_drewN ?_ _ | refine blk_drew ?_ | refine blk_alloc ?_ _)); refine blk_put (cs := #[.int .i64 (l0.length : Int), .int .i64 0, .int .i64 0, .int .i64 0, .int .i64 0, .int .i64 0]) ?_ 1 _ rfl; (with_reducible repeat (first | refine blk_drewN ?_ _ | refine blk_drew ?_ | refine blk_alloc ?_ _)); refine blk_put (cs := #[.int .i64 0, .int .i64 0, .int .i64 0, .int .i64 0, .int .i64 0, .int .i64 0]) ?_ 0 _ rfl; (with_reducible repeat (first | refine blk_drewN ?_ _ | refine blk_drew ?_ | refine blk_alloc ?_ _)); exact BK222.out⟩
     have n2_ : Aside0 (Below w.heap.size w ((((((w47.setCell ⟨gb222, 0, none⟩ (.int .i64 (l0.length : Int))).setCell ⟨gb222, 1, none⟩ (.int .i64 a1)).setCell ⟨gb222, 2, none⟩ (.int .i64 a2)).setCell ⟨gb222, 3, none⟩ (.int .i64 t220)).setCell ⟨gb222, 4, none⟩ (.int .i64 t221)).setCell ⟨gb222, 5, none⟩ (.int .i64 0))) := ⟨Cmp.g HB.out⟩
     (try clear BK219); (try clear BK222); (try clear HB)
     generalize ((((((w47.setCell ⟨gb222, 0, none⟩ (.int .i64 (l0.length : Int))).setCell ⟨gb222, 1, none⟩ (.int .i64 a1)).setCell ⟨gb222, 2, none⟩ (.int .i64 a2)).setCell ⟨gb222, 3, none⟩ (.int .i64 t220)).setCell ⟨gb222, 4, none⟩ (.int .i64 t221)).setCell ⟨gb222, 5, none⟩ (.int .i64 0)) = w50 at n0_ n1_ n2_ ⊢
     have BK219 := n0_; have BK222 := n1_; have HB := n2_; clear n0_ n1_ n2_; have n0_ := Aside0.mk (blk_drew BK219.out); have n1_ := Aside0.mk (blk_drew BK222.out); have n2_ := Aside0.mk (below_drew1 HB.out); clear BK219; clear BK222; clear HB; have BK219 := n0_; have BK222 := n1_; have HB := n2_; clear n0_ n1_ n2_
     refine start_ (n := 7) (S := fun w' => w'.cell? ⟨gb219, 0, none⟩ = some (.int .i64 a3_0) ∧ w'.cell? ⟨gb219, 1, none⟩ = some (.int .i64 a3_1) ∧ w'.cell? ⟨gb219, 2, none⟩ = some (.int .i64 a3_2) ∧ w'.cell? ⟨gb219, 3, none⟩ = some (.int .i64 a3_3) ∧ w'.cell? ⟨gb222, 0, none⟩ = some (.int .i64 (l0.length : Int)) ∧ w'.cell? ⟨gb222, 1, none⟩ = some (.int .i64 a1) ∧ w'.cell? ⟨gb222, 2, none⟩ = some (.int .i64 a2) ∧ w'.cell? ⟨gb222, 3, none⟩ = some (.int .i64 t220) ∧ w'.cell? ⟨gb222, 4, none⟩ = some (.int .i64 t221) ∧ w'.cell? ⟨gb222, 5, none⟩ = some (.int .i64 0)) (ds := [6]) (Cmp.bm 0 7) (by kernel_rfl) rfl rfl ⟨(blk_cell BK219.out 0).trans rfl, (blk_cell BK219.out 1).trans rfl, (blk_cell BK219.out 2).trans rfl, (blk_cell BK219.out 3).trans rfl, (blk_cell BK222.out 0).trans rfl, (blk_cell BK222.out 1).trans rfl, (blk_cell BK222.out 2).trans rfl, (blk_cell BK222.out 3).trans rfl, (blk_cell BK222.out 4).trans rfl, (blk_cell BK222.out 5).trans rfl⟩ (fun hHeld => ?_)
     generalize w50.drew = w51 at BK219 BK222 HB hHeld ⊢
     refine take_ (i := 0) (N := some 21) (v := ?_) (a' := ?_) (Cmp.bm 1 6) rfl rfl (by kernel_rfl) (fun _ _ _ h => h) (Or.inl ⟨by rfl, ?_⟩) hHeld ?_ ?_
     rotate_left
     ·rintro w' ⟨s0, s1, s2, s3, s4, s5, s6, s7, s8, s9⟩; go_simp; with_reducible rfl
     rotate_left
     ·simp only [Act.put, Cmp.s, Cmp.z, Cmp.c, i64_w, i32_w]; rfl
     refine take_ (i := 1) (N := some 22) (v := ?_) (a' := ?_) (Cmp.bm 2 5) rfl rfl (by kernel_rfl) (fun _ _ _ h => h) (Or.inl ⟨by rfl, ?_⟩) hHeld ?_ ?_
     rotate_left
     ·rintro w' ⟨s0, s1, s2, s3, s4, s5, s6, s7, s8, s9⟩; go_simp; with_reducible rfl
     rotate_left
     ·simp only [Act.put, Cmp.s, Cmp.z, Cmp.c, i64_w, i32_w]; rfl
     refine one_ (i := 2) (N := some 23) (Cmp.bm 3 4) rfl rfl (by kernel_rfl) (by decide) (fun K hK => ?_)
     refine goes_ Try.func51 (by kernel_rfl) rfl #[.agg #[.int .i64 (l0.length : Int), .int .i64 a1, .int .i64 a2, .int .i64 t220, .int .i64 t221, .int .i64 0]] (by rfl) rfl rfl Cmp.q ?_
     with_reducible refine (spec_EntryHash.calls k (l0.length : Int) a1 a2 t220 t221 0 t223 _ A7.out).mono ?_
     rintro e w52 ⟨rfl, hb⟩; refine ⟨_, rfl, ?_⟩
     have n0_ := Aside0.mk (blk_below (Cmp.b BK219.out) hb)
     have n1_ := Aside0.mk (blk_below (Cmp.b BK222.out) hb)
     have n2_ := Aside0.mk (below_step (Cmp.g HB.out) hb)
     clear BK219; clear BK222; clear HB; have BK219 := n0_; have BK222 := n1_; have HB := n2_; clear n0_ n1_ n2_; (try clear hb); (try clear hb2); (try clear hk); (try clear hi)
     refine hK.out _ _ ⟨(blk_cell BK219.out 0).trans rfl, (blk_cell BK219.out 1).trans rfl, (blk_cell BK219.out 2).trans rfl, (blk_cell BK219.out 3).trans rfl, (blk_cell BK222.out 0).trans rfl, (blk_cell BK222.out 1).trans rfl, (blk_cell BK222.out 2).trans rfl, (blk_cell BK222.out 3).trans rfl, (blk_cell BK222.out 4).trans rfl, (blk_cell BK222.out 5).trans rfl⟩ (fun hHeld => ?_)
     clear hK K
     refine norm_ (a' := ?_) ?_ ?_
     rotate_left
     ·show Act.put _ (some 23) _ = _
      simp only [Act.put, Cmp.s, Cmp.z, Cmp.c, i64_w, i32_w]; rfl
     refine one_ (i := 3) (N := some 24) (Cmp.bm 4 3) rfl rfl (by kernel_rfl) (by decide) (fun K hK => ?_)
     refine Kd.R_lit_step (Kd.int .i64) _ 3 ?hg (N := 24) ?hd (xs := ([t223] : List Int)) (inner := [.int .i64 t223]) (ok := fun _ => True) (okp := fun _ => True) ?hr ?hp (fun _ hk => hk) trivial (Below.refl _ _) (Nat.le_refl _) (by simp) ?_; (case hd => rfl); (case hg => rfl); (case hr => first | (go_simp; done) | (go_simp; rfl)); (case hp => exact (Reps.one (show Kd.M (Kd.int .i64) _ _ _ t223 [.int .i64 t223] from rfl) (Reps.none _ _)))
     intro v225 w53 ho54 hb hg_ hnew_
     clear hg_ hnew_
     (first | rw [← Ny224.out] at ho54 | (simp only [Int.reduceToNat] at ho54; rw [← Ny224.out] at ho54))
     have n0_ := Aside0.mk (Kd.R_lower ho54 (below_size (Cmp.g HB.out)))
     have n1_ := Aside0.mk (blk_below (Cmp.b BK219.out) hb)
     have n2_ := Aside0.mk (blk_below (Cmp.b BK222.out) hb)
     have n3_ := Aside0.mk (below_step (Cmp.g HB.out) hb)
     clear BK219; clear BK222; clear HB; have HO226 := n0_; have BK219 := n1_; have BK222 := n2_; have HB := n3_; clear n0_ n1_ n2_ n3_; clear hb ho54
     obtain ⟨Ao55, co55, eo55⟩ := Kd.R_slice HO226.out
     (first | subst eo55 | (injection eo55 with f1_ f2_ f3_; have f4_ := f1_.symm; have f5_ := f3_.symm; clear f1_ f2_ f3_; subst f4_; subst f5_))
     refine hK.out _ _ ⟨(blk_cell BK219.out 0).trans rfl, (blk_cell BK219.out 1).trans rfl, (blk_cell BK219.out 2).trans rfl, (blk_cell BK219.out 3).trans rfl, (blk_cell BK222.out 0).trans rfl, (blk_cell BK222.out 1).trans rfl, (blk_cell BK222.out 2).trans rfl, (blk_cell BK222.out 3).trans rfl, (blk_cell BK222.out 4).trans rfl, (blk_cell BK222.out 5).trans rfl⟩ (fun hHeld => ?_)
     clear hK K
     refine norm_ (a' := ?_) ?_ ?_
     rotate_left
     ·show Act.put _ (some 24) _ = _
      simp only [Act.put, Cmp.s, Cmp.z, Cmp.c, i64_w, i32_w]; rfl
     refine one_ (i := 4) (N := some 25) (Cmp.bm 5 2) rfl rfl (by kernel_rfl) (by decide) (fun K hK => ?_)
     refine goes_ Try.func50 (by kernel_rfl) rfl #[.agg #[.int .i64 a3_0, .int .i64 a3_1, .int .i64 a3_2, .int .i64 a3_3], .slice Ao55 y224.length co55] (by rfl) rfl rfl Cmp.q ?_
     with_reducible refine (spec_SignAsDevice.calls k a3_0 a3_1 a3_2 a3_3 _ _ y224 t227 _ ?side1 ?side2 A8.out).mono ?_
     (case side1 => exact Cmp.rc (Kd.R_reads' HO226.out).2.2)
     (case side2 => exact (Kd.R_reads' HO226.out).2.1)
     rintro e w56 ⟨rfl, hb⟩; refine ⟨_, rfl, ?_⟩
     have n0_ := Aside0.mk (Kd.R_below (Cmp.rr HO226.out) hb)
     have n1_ := Aside0.mk (blk_below (Cmp.b BK219.out) hb)
     have n2_ := Aside0.mk (blk_below (Cmp.b BK222.out) hb)
     have n3_ := Aside0.mk (below_step (Cmp.g HB.out) hb)
     clear HO226; clear BK219; clear BK222; clear HB; have HO226 := n0_; have BK219 := n1_; have BK222 := n2_; have HB := n3_; clear n0_ n1_ n2_ n3_; (try clear hb); (try clear hb2); (try clear hk); (try clear hi)
     refine hK.out _ _ ⟨(blk_cell BK219.out 0).trans rfl, (blk_cell BK219.out 1).trans rfl, (blk_cell BK219.out 2).trans rfl, (blk_cell BK219.out 3).trans rfl, (blk_cell BK222.out 0).trans rfl, (blk_cell BK222.out 1).trans rfl, (blk_cell BK222.out 2).trans rfl, (blk_cell BK222.out 3).trans rfl, (blk_cell BK222.out 4).trans rfl, (blk_cell BK222.out 5).trans rfl⟩ (fun hHeld => ?_)
     clear hK K
     refine norm_ (a' := ?_) ?_ ?_
     rotate_left
     ·show Act.put _ (some 25) _ = _
      simp only [Act.put, Cmp.s, Cmp.z, Cmp.c, i64_w, i32_w]; rfl
     refine pure_ (i := 5) (N := some 26) (v := ?_) (a' := ?_) (Cmp.bm 6 1) rfl rfl (by kernel_rfl) (fun _ _ _ h => h) (Or.inl ⟨by rfl, ?_⟩) ?_ ?_
     rotate_left
     ·intro w'; go_simp; with_reducible rfl
     rotate_left
     ·simp only [Act.put, Cmp.s, Cmp.z, Cmp.c, i64_w, i32_w]; rfl
     refine last_ (i := 6) (N := none) (Cmp.bm 7 0) rfl rfl (by kernel_rfl) (by decide) (fun K hK => ?_)
     have hs57 : w56.cell? ⟨gb222, 5, none⟩ = some (.int .i64 0) := (blk_cell BK222.out 5).trans rfl
     have hfs57 := blk_frozen BK222.out 5; have hns57_0 := NB219_222.out; have hms57_0 := NB222_219.out
     refine skip_ (w1 := ?_) (by rfl) rfl ?_ ?_
     rotate_left
     ·go_simp; rfl
     refine hK.out _ _ ?_
     clear hK K
     refine done_ (by kernel_rfl) ?_
     try go_wp2
     have n0_ : Aside0 (Kd.R (Kd.int .i64) 3 (w56.setCell ⟨gb222, 5, none⟩ (.int .i64 t227)) w.heap.size (fun _ => True) (.slice Ao55 y224.length co55) y224) := ⟨by (with_reducible repeat (first | apply Kd.R_alloc | apply Kd.R_drewN | apply Kd.R_drew)); exact Kd.R_mono (Kd.R_far (p := ⟨gb222, 5, none⟩) (Kd.R_types HO226.out BK222.out (by decide)) (fun _ hk => hk.2) (.int .i64 t227)) (fun _ hk => trivial)⟩
     have n1_ : Aside0 ((w56.setCell ⟨gb222, 5, none⟩ (.int .i64 t227)).heap[gb219]? = some (.cells #[.int .i64 a3_0, .int .i64 a3_1, .int .i64 a3_2, .int .i64 a3_3] 26 (0, 0))) := ⟨by (with_reducible repeat (first | refine blk_drewN ?_ _ | refine blk_drew ?_ | refine blk_alloc ?_ _)); refine blk_far ?_ NB219_222.out _; (with_reducible repeat (first | refine blk_drewN ?_ _ | refine blk_drew ?_ | refine blk_alloc ?_ _)); exact BK219.out⟩
     have n2_ : Aside0 ((w56.setCell ⟨gb222, 5, none⟩ (.int .i64 t227)).heap[gb222]? = some (.cells #[.int .i64 (l0.length : Int), .int .i64 a1, .int .i64 a2, .int .i64 t220, .int .i64 t221, .int .i64 t227] 74 (0, 0))) := ⟨by (with_reducible repeat (first | refine blk_drewN ?_ _ | refine blk_drew ?_ | refine blk_alloc ?_ _)); refine blk_put (cs := #[.int .i64 (l0.length : Int), .int .i64 a1, .int .i64 a2, .int .i64 t220, .int .i64 t221, .int .i64 0]) ?_ 5 _ rfl; (with_reducible repeat (first | refine blk_drewN ?_ _ | refine blk_drew ?_ | refine blk_alloc ?_ _)); exact BK222.out⟩
     have n3_ : Aside0 (Below w.heap.size w (w56.setCell ⟨gb222, 5, none⟩ (.int .i64 t227))) := ⟨Cmp.g HB.out⟩
     (try clear HO226); (try clear BK219); (try clear BK222); (try clear HB)
     generalize (w56.setCell ⟨gb222, 5, none⟩ (.int .i64 t227)) = w58 at n0_ n1_ n2_ n3_ ⊢
     have HO226 := n0_; have BK219 := n1_; have BK222 := n2_; have HB := n3_; clear n0_ n1_ n2_ n3_; have n0_ := Aside0.mk (Kd.R_drew HO226.out); have n1_ := Aside0.mk (blk_drew BK219.out); have n2_ := Aside0.mk (blk_drew BK222.out); have n3_ := Aside0.mk (below_drew1 HB.out); clear HO226; clear BK219; clear BK222; clear HB; have HO226 := n0_; have BK219 := n1_; have BK222 := n2_; have HB := n3_; clear n0_ n1_ n2_ n3_
     refine start_ (n := 6) (S := fun w' => w'.cell? ⟨gb222, 0, none⟩ = some (.int .i64 (l0.length : Int)) ∧ w'.cell? ⟨gb222, 1, none⟩ = some (.int .i64 a1) ∧ w'.cell? ⟨gb222, 2, none⟩ = some (.int .i64 a2) ∧ w'.cell? ⟨gb222, 3, none⟩ = some (.int .i64 t220) ∧ w'.cell? ⟨gb222, 4, none⟩ = some (.int .i64 t221) ∧ w'.cell? ⟨gb222, 5, none⟩ = some (.int .i64 t227)) (ds := []) (Cmp.bm 0 6) (by kernel_rfl) rfl rfl ⟨(blk_cell BK222.out 0).trans rfl, (blk_cell BK222.out 1).trans rfl, (blk_cell BK222.out 2).trans rfl, (blk_cell BK222.out 3).trans rfl, (blk_cell BK222.out 4).trans rfl, (blk_cell BK222.out 5).trans rfl⟩ (fun hHeld => ?_)
     generalize w58.drew = w59 at HO226 BK219 BK222 HB hHeld ⊢
     refine pure_ (i := 0) (N := some 27) (v := ?_) (a' := ?_) (Cmp.bm 1 5) rfl rfl (by kernel_rfl) (fun _ _ _ h => h) (Or.inl ⟨by rfl, ?_⟩) ?_ ?_
     rotate_left
     ·intro w'; go_simp; with_reducible rfl
     rotate_left
     ·simp only [Act.put, Cmp.s, Cmp.z, Cmp.c, i64_w, i32_w]; rfl
     refine take_ (i := 2) (N := some 29) (v := ?_) (a' := ?_) (Cmp.bb 6 5) rfl rfl (by kernel_rfl) (fun _ _ _ h => h) (Or.inl ⟨by rfl, ?_⟩) hHeld ?_ ?_
     rotate_left
     ·rintro w' ⟨s0, s1, s2, s3, s4, s5⟩; go_simp; with_reducible rfl
     rotate_left
     ·simp only [Act.put, Cmp.s, Cmp.z, Cmp.c, i64_w, i32_w]; rfl
     refine join_ (σ := Value × Value) 2 (Cmp.bm 4 2) (fun s_ => [(28, s_.1), (30, s_.2)]) (fun s_ w' => (w'.cell? ⟨gb222, 0, none⟩ = some (.int .i64 (l0.length : Int)) ∧ w'.cell? ⟨gb222, 1, none⟩ = some (.int .i64 a1) ∧ w'.cell? ⟨gb222, 2, none⟩ = some (.int .i64 a2) ∧ w'.cell? ⟨gb222, 3, none⟩ = some (.int .i64 t220) ∧ w'.cell? ⟨gb222, 4, none⟩ = some (.int .i64 t221) ∧ w'.cell? ⟨gb222, 5, none⟩ = some (.int .i64 t227)) ∧ (Kd.R (Kd.int .i64) 3 w' w.heap.size (fun _ => True) (.slice Ao55 y224.length co55) y224) ∧ (Kd.R k74 74 w' w.heap.size (fun k_ => some k_ ≠ (s_.2 : Value).ownBlock ∧ k_ ≠ gb222) s_.1 t228) ∧ (Kd.R k74 74 w' w.heap.size (fun k_ => some k_ ≠ (s_.1 : Value).ownBlock ∧ k_ ≠ gb222) s_.2 y231) ∧ (w'.heap[gb219]? = some (.cells #[.int .i64 a3_0, .int .i64 a3_1, .int .i64 a3_2, .int .i64 a3_3] 26 (0, 0))) ∧ (w'.heap[gb222]? = some (.cells #[.int .i64 (l0.length : Int), .int .i64 a1, .int .i64 a2, .int .i64 t220, .int .i64 t221, .int .i64 t227] 74 (0, 0))) ∧ (Below w.heap.size w w')) ?_ ?_
     rotate_left
     ·intro hCont
      refine two_ (i := 1) (j := 3) (Ni := some 28) (Nj := some 30) (Cmp.bm 3 3) (Cmp.bb 6 13) rfl rfl rfl rfl (by kernel_rfl) (by decide) (by decide) (fun K hK => ?_) (fun K hK => ?_)
      ·skip
       refine goes_ Try.func52 (by kernel_rfl) rfl #[.slice A0 l0.length c0] (by rfl) rfl rfl Cmp.q ?_
       with_reducible refine (spec_l19Copy.calls _ _ l0 t228 _ ?side1 ?side2 A9.out).mono ?_
       (case side1 => exact Cmp.rc (Kd.C_below HR0.out HB.out))
       (case side2 => exact HC0.out)
       rintro e w60 ⟨v229, rfl, ho0, hb⟩; refine ⟨_, rfl, ?_⟩
       have n0_ := Aside0.mk (Kd.R_below (Cmp.rr HO226.out) hb)
       have n1_ := Aside0.mk (Kd.R_lower (Kd.R_newB ho0 (g := gb222) (o := .cells #[.int .i64 (l0.length : Int), .int .i64 a1, .int .i64 a2, .int .i64 t220, .int .i64 t221, .int .i64 t227] 74 (0, 0)) (Cmp.b BK222.out)) (below_size (Cmp.g HB.out)))
       have n2_ := Aside0.mk (blk_below (Cmp.b BK219.out) hb)
       have n3_ := Aside0.mk (blk_below (Cmp.b BK222.out) hb)
       have n4_ := Aside0.mk (below_step (Cmp.g HB.out) hb)
       clear HO226; clear BK219; clear BK222; clear HB; have HO226 := n0_; have HO230 := n1_; have BK219 := n2_; have BK222 := n3_; have HB := n4_; clear n0_ n1_ n2_ n3_ n4_; (try clear hb); (try clear hb2); (try clear hk); (try clear hi); (try clear ho0)
       refine hK.out _ _ ⟨(blk_cell BK222.out 0).trans rfl, (blk_cell BK222.out 1).trans rfl, (blk_cell BK222.out 2).trans rfl, (blk_cell BK222.out 3).trans rfl, (blk_cell BK222.out 4).trans rfl, (blk_cell BK222.out 5).trans rfl⟩ (fun hHeld => ?_)
       clear hK K
       refine norm_ (a' := ?_) ?_ ?_
       rotate_left
       ·show Act.put _ (some 28) _ = _
        simp only [Act.put, Cmp.s, Cmp.z, Cmp.c, i64_w, i32_w]; rfl
       refine one_ (i := 3) (N := some 30) (Cmp.bm 4 2) rfl rfl (by kernel_rfl) (by decide) (fun K hK => ?_)
       refine Kd.R_lit_step k74 _ 74 ?hg (N := 30) ?hd (xs := ([(⟨(l0.length : Int), a1, a2, t220, t221, t227⟩ : S74)] : List (S74))) (inner := [.int .i64 (l0.length : Int), .int .i64 a1, .int .i64 a2, .int .i64 t220, .int .i64 t221, .int .i64 t227]) (ok := fun _ => True) (okp := fun _ => True) ?hr ?hp (fun _ hk => hk) trivial (Below.refl _ _) (Nat.le_refl _) (by simp) ?_; (case hd => rfl); (case hg => rfl); (case hr => first | (go_simp; done) | (go_simp; rfl)); (case hp => exact (Reps.c6 (show Kd.M k74 _ _ _ (⟨(l0.length : Int), a1, a2, t220, t221, t227⟩ : S74) [.int .i64 (l0.length : Int), .int .i64 a1, .int .i64 a2, .int .i64 t220, .int .i64 t221, .int .i64 t227] from (k74_mkM _ _ _ (⟨(l0.length : Int), a1, a2, t220, t221, t227⟩ : S74) )) (Reps.none _ _)))
       intro v232 w61 ho62 hb hg_ hnew_
       clear hg_ hnew_
       (first | rw [← Ny231.out] at ho62 | (simp only [Int.reduceToNat] at ho62; rw [← Ny231.out] at ho62))
       have n0_ := Aside0.mk (Kd.R_below (Cmp.rr HO226.out) hb)
       have n1_ := Aside0.mk (Kd.R_elder' (Cmp.rr HO230.out) (Kd.R_base ho62) hb)
       have n2_ := Aside0.mk (Kd.R_lower (Kd.R_newB (Kd.R_new' ho62 (Kd.R_lt (Cmp.rr HO230.out))) (g := gb222) (o := .cells #[.int .i64 (l0.length : Int), .int .i64 a1, .int .i64 a2, .int .i64 t220, .int .i64 t221, .int .i64 t227] 74 (0, 0)) (Cmp.b BK222.out)) (below_size (Cmp.g HB.out)))
       have n3_ := Aside0.mk (blk_below (Cmp.b BK219.out) hb)
       have n4_ := Aside0.mk (blk_below (Cmp.b BK222.out) hb)
       have n5_ := Aside0.mk (below_step (Cmp.g HB.out) hb)
       clear HO226; clear HO230; clear BK219; clear BK222; clear HB; have HO226 := n0_; have HO230 := n1_; have HO233 := n2_; have BK219 := n3_; have BK222 := n4_; have HB := n5_; clear n0_ n1_ n2_ n3_ n4_ n5_; clear hb ho62
       refine hK.out _ _ ⟨(blk_cell BK222.out 0).trans rfl, (blk_cell BK222.out 1).trans rfl, (blk_cell BK222.out 2).trans rfl, (blk_cell BK222.out 3).trans rfl, (blk_cell BK222.out 4).trans rfl, (blk_cell BK222.out 5).trans rfl⟩ (fun hHeld => ?_)
       clear hK K
       refine norm_ (a' := ?_) ?_ ?_
       rotate_left
       ·show Act.put _ (some 30) _ = _
        simp only [Act.put, Cmp.s, Cmp.z, Cmp.c, i64_w, i32_w]; rfl
       exact norm_ (by simp only [putAll, Act.put, List.setIfInBounds_toArray, List.set_cons_zero, List.set_cons_succ]) (hCont (v229, v232) _ ⟨hHeld, (Cmp.rr HO226.out), (by (with_reducible repeat (first | apply Kd.R_alloc | apply Kd.R_drewN | apply Kd.R_drew)); exact Kd.R_mono HO230.out (fun _ hk => ⟨hk.2, hk.1.2⟩)), (by (with_reducible repeat (first | apply Kd.R_alloc | apply Kd.R_drewN | apply Kd.R_drew)); exact Kd.R_mono HO233.out (fun _ hk => ⟨hk.1.2, hk.2⟩)), (Cmp.b BK219.out), (Cmp.b BK222.out), (Cmp.g HB.out)⟩)
      ·skip
       refine Kd.R_lit_step k74 _ 74 ?hg (N := 30) ?hd (xs := ([(⟨(l0.length : Int), a1, a2, t220, t221, t227⟩ : S74)] : List (S74))) (inner := [.int .i64 (l0.length : Int), .int .i64 a1, .int .i64 a2, .int .i64 t220, .int .i64 t221, .int .i64 t227]) (ok := fun _ => True) (okp := fun _ => True) ?hr ?hp (fun _ hk => hk) trivial (Below.refl _ _) (Nat.le_refl _) (by simp) ?_; (case hd => rfl); (case hg => rfl); (case hr => first | (go_simp; done) | (go_simp; rfl)); (case hp => exact (Reps.c6 (show Kd.M k74 _ _ _ (⟨(l0.length : Int), a1, a2, t220, t221, t227⟩ : S74) [.int .i64 (l0.length : Int), .int .i64 a1, .int .i64 a2, .int .i64 t220, .int .i64 t221, .int .i64 t227] from (k74_mkM _ _ _ (⟨(l0.length : Int), a1, a2, t220, t221, t227⟩ : S74) )) (Reps.none _ _)))
       intro v232 w60 ho61 hb hg_ hnew_
       clear hg_ hnew_
       (first | rw [← Ny231.out] at ho61 | (simp only [Int.reduceToNat] at ho61; rw [← Ny231.out] at ho61))
       have n0_ := Aside0.mk (Kd.R_below (Cmp.rr HO226.out) hb)
       have n1_ := Aside0.mk (Kd.R_lower (Kd.R_newB ho61 (g := gb222) (o := .cells #[.int .i64 (l0.length : Int), .int .i64 a1, .int .i64 a2, .int .i64 t220, .int .i64 t221, .int .i64 t227] 74 (0, 0)) (Cmp.b BK222.out)) (below_size (Cmp.g HB.out)))
       have n2_ := Aside0.mk (blk_below (Cmp.b BK219.out) hb)
       have n3_ := Aside0.mk (blk_below (Cmp.b BK222.out) hb)
       have n4_ := Aside0.mk (below_step (Cmp.g HB.out) hb)
       clear HO226; clear BK219; clear BK222; clear HB; have HO226 := n0_; have HO233 := n1_; have BK219 := n2_; have BK222 := n3_; have HB := n4_; clear n0_ n1_ n2_ n3_ n4_; clear hb ho61
       refine hK.out _ _ ⟨(blk_cell BK222.out 0).trans rfl, (blk_cell BK222.out 1).trans rfl, (blk_cell BK222.out 2).trans rfl, (blk_cell BK222.out 3).trans rfl, (blk_cell BK222.out 4).trans rfl, (blk_cell BK222.out 5).trans rfl⟩ (fun hHeld => ?_)
       clear hK K
       refine norm_ (a' := ?_) ?_ ?_
       rotate_left
       ·show Act.put _ (some 30) _ = _
        simp only [Act.put, Cmp.s, Cmp.z, Cmp.c, i64_w, i32_w]; rfl
       refine one_ (i := 1) (N := some 28) (Cmp.bm 4 2) rfl rfl (by kernel_rfl) (by decide) (fun K hK => ?_)
       refine goes_ Try.func52 (by kernel_rfl) rfl #[.slice A0 l0.length c0] (by rfl) rfl rfl Cmp.q ?_
       with_reducible refine (spec_l19Copy.calls _ _ l0 t228 _ ?side1 ?side2 A9.out).mono ?_
       (case side1 => exact Cmp.rc (Kd.C_below HR0.out HB.out))
       (case side2 => exact HC0.out)
       rintro e w62 ⟨v229, rfl, ho0, hb⟩; refine ⟨_, rfl, ?_⟩
       have n0_ := Aside0.mk (Kd.R_below (Cmp.rr HO226.out) hb)
       have n1_ := Aside0.mk (Kd.R_elder' (Cmp.rr HO233.out) (Kd.R_base ho0) hb)
       have n2_ := Aside0.mk (Kd.R_lower (Kd.R_newB (Kd.R_new' ho0 (Kd.R_lt (Cmp.rr HO233.out))) (g := gb222) (o := .cells #[.int .i64 (l0.length : Int), .int .i64 a1, .int .i64 a2, .int .i64 t220, .int .i64 t221, .int .i64 t227] 74 (0, 0)) (Cmp.b BK222.out)) (below_size (Cmp.g HB.out)))
       have n3_ := Aside0.mk (blk_below (Cmp.b BK219.out) hb)
       have n4_ := Aside0.mk (blk_below (Cmp.b BK222.out) hb)
       have n5_ := Aside0.mk (below_step (Cmp.g HB.out) hb)
       clear HO226; clear HO233; clear BK219; clear BK222; clear HB; have HO226 := n0_; have HO233 := n1_; have HO230 := n2_; have BK219 := n3_; have BK222 := n4_; have HB := n5_; clear n0_ n1_ n2_ n3_ n4_ n5_; (try clear hb); (try clear hb2); (try clear hk); (try clear hi); (try clear ho0)
       refine hK.out _ _ ⟨(blk_cell BK222.out 0).trans rfl, (blk_cell BK222.out 1).trans rfl, (blk_cell BK222.out 2).trans rfl, (blk_cell BK222.out 3).trans rfl, (blk_cell BK222.out 4).trans rfl, (blk_cell BK222.out 5).trans rfl⟩ (fun hHeld => ?_)
       clear hK K
       refine norm_ (a' := ?_) ?_ ?_
       rotate_left
       ·show Act.put _ (some 28) _ = _
        simp only [Act.put, Cmp.s, Cmp.z, Cmp.c, i64_w, i32_w]; rfl
       exact norm_ (by simp only [putAll, Act.put, List.setIfInBounds_toArray, List.set_cons_zero, List.set_cons_succ]) (hCont (v229, v232) _ ⟨hHeld, (Cmp.rr HO226.out), (by (with_reducible repeat (first | apply Kd.R_alloc | apply Kd.R_drewN | apply Kd.R_drew)); exact Kd.R_mono HO230.out (fun _ hk => ⟨hk.1.2, hk.2⟩)), (by (with_reducible repeat (first | apply Kd.R_alloc | apply Kd.R_drewN | apply Kd.R_drew)); exact Kd.R_mono HO233.out (fun _ hk => ⟨hk.2, hk.1.2⟩)), (Cmp.b BK219.out), (Cmp.b BK222.out), (Cmp.g HB.out)⟩)
     rintro ⟨v229, v232⟩ w63 ⟨hS_, h0_, h1_, h2_, h3_, h4_, h5_⟩
     have n0_ : Aside0 (Kd.R (Kd.int .i64) 3 w63 w.heap.size (fun _ => True) (.slice Ao55 y224.length co55) y224) := ⟨h0_⟩
     have n1_ : Aside0 (Kd.R k74 74 w63 w.heap.size (fun k_ => some k_ ≠ (v232 : Value).ownBlock ∧ k_ ≠ gb222) v229 t228) := ⟨h1_⟩
     have n2_ : Aside0 (Kd.R k74 74 w63 w.heap.size (fun k_ => some k_ ≠ (v229 : Value).ownBlock ∧ k_ ≠ gb222) v232 y231) := ⟨h2_⟩
     have n3_ : Aside0 (w63.heap[gb219]? = some (.cells #[.int .i64 a3_0, .int .i64 a3_1, .int .i64 a3_2, .int .i64 a3_3] 26 (0, 0))) := ⟨h3_⟩
     have n4_ : Aside0 (w63.heap[gb222]? = some (.cells #[.int .i64 (l0.length : Int), .int .i64 a1, .int .i64 a2, .int .i64 t220, .int .i64 t221, .int .i64 t227] 74 (0, 0))) := ⟨h4_⟩
     have n5_ : Aside0 (Below w.heap.size w w63) := ⟨h5_⟩
     clear HO226; clear BK219; clear BK222; clear HB; clear h0_ h1_ h2_ h3_ h4_ h5_; have HO226 := n0_; have HO230 := n1_; have HO233 := n2_; have BK219 := n3_; have BK222 := n4_; have HB := n5_; clear n0_ n1_ n2_ n3_ n4_ n5_
     have hHeld : w63.cell? ⟨gb222, 0, none⟩ = some (.int .i64 (l0.length : Int)) ∧ w63.cell? ⟨gb222, 1, none⟩ = some (.int .i64 a1) ∧ w63.cell? ⟨gb222, 2, none⟩ = some (.int .i64 a2) ∧ w63.cell? ⟨gb222, 3, none⟩ = some (.int .i64 t220) ∧ w63.cell? ⟨gb222, 4, none⟩ = some (.int .i64 t221) ∧ w63.cell? ⟨gb222, 5, none⟩ = some (.int .i64 t227) := hS_
     obtain ⟨Ao65, co65, eo65⟩ := Kd.R_slice HO233.out
     (first | subst eo65 | (injection eo65 with f1_ f2_ f3_; have f4_ := f1_.symm; have f5_ := f3_.symm; clear f1_ f2_ f3_; subst f4_; subst f5_))
     refine norm_ (a' := ?_) ?_ ?_
     rotate_left
     ·simp only [putAll, Act.put, List.setIfInBounds_toArray, List.set_cons_zero, List.set_cons_succ]; rfl
     refine one_ (i := 4) (N := some 31) (Cmp.bm 5 1) rfl rfl (by kernel_rfl) (by decide) (fun K hK => ?_)
     refine Kd.R_append_rows_step k74 (w0 := w) w.heap.size (by rfl) (.tmp 28) (.tmp 30) 24 74 (.agg #[(.int .i64 0), (.int .i64 0), (.int .i64 0), (.int .i64 0), (.int .i64 0), (.int .i64 0)]) 48 rfl Try.underlying24 info74 rfl (by decide) (by omega) v229 t228 y231 _ _ _ (fun k_ => some k_ ≠ (.slice Ao65 y231.length co65 : Value).ownBlock ∧ k_ ≠ gb222) (fun _ => False) rfl rfl ?aO ?aR (fun _ _ h => h) (fun _ h => h.elim) ?aF ?aB ?aS ?aL ?_
     (case aR => repeat (first | exact (Kd.R_reads' HO233.out).2.2 | (with_reducible refine Kd.C_alloc ?_ _) | (with_reducible refine Kd.C_drewN ?_ _) | (with_reducible refine Kd.C_drew ?_)))
     (case aB => exact (Cmp.g HB.out))
     (case aF => exact (fun k_ hk => ⟨Kd.fresh' (Kd.R_lt (Cmp.rr HO233.out)) k_ hk, Kd.freshB (g := gb222) (o := .cells #[.int .i64 (l0.length : Int), .int .i64 a1, .int .i64 a2, .int .i64 t220, .int .i64 t221, .int .i64 t227] 74 (0, 0)) (Cmp.b BK222.out) k_ hk⟩))
     (case aO => exact (Cmp.rr HO230.out))
     (case aS => exact (below_size (Cmp.g HB.out)))
     (case aL => have := LMc10.out; omega)
     intro v235 w64 ho hb hg hat
     rw [← Ny234.out] at ho
     have n0_ := Aside0.mk (blk_grown (g := gb219) (o := .cells #[.int .i64 a3_0, .int .i64 a3_1, .int .i64 a3_2, .int .i64 a3_3] 26 (0, 0)) (Cmp.b BK219.out) hg (Kd.R_ne HO230.out BK219.out (by decide)))
     have n1_ := Aside0.mk (blk_grown (g := gb222) (o := .cells #[.int .i64 (l0.length : Int), .int .i64 a1, .int .i64 a2, .int .i64 t220, .int .i64 t221, .int .i64 t227] 74 (0, 0)) (Cmp.b BK222.out) hg (Kd.R_away HO230.out (fun _ hk => hk.2)))
     have n2_ := Aside0.mk (Kd.R_over' (Cmp.rr HO226.out) (Kd.R_typed (Cmp.rr HO230.out)) (by decide) hg)
     have n3_ := Aside0.mk (Kd.R_after (ok := (fun k_ => k_ ≠ gb222)) (by (with_reducible repeat (first | apply Kd.R_alloc | apply Kd.R_drewN | apply Kd.R_drew)); exact Kd.R_mono HO233.out (fun _ hk => ⟨hk.2, hk.1⟩)) hg hat)
     have n4_ := Aside0.mk (hb)
     have n5_ := Aside0.mk (ho)
     clear BK219; clear BK222; clear HO226; clear HO233; clear HB; clear HO230; have BK219 := n0_; have BK222 := n1_; have HO226 := n2_; have HO233 := n3_; have HB := n4_; have HO236 := n5_; clear n0_ n1_ n2_ n3_ n4_ n5_; clear ho hb hg hat
     refine hK.out _ _ ⟨(blk_cell BK222.out 0).trans rfl, (blk_cell BK222.out 1).trans rfl, (blk_cell BK222.out 2).trans rfl, (blk_cell BK222.out 3).trans rfl, (blk_cell BK222.out 4).trans rfl, (blk_cell BK222.out 5).trans rfl⟩ (fun hHeld => ?_)
     clear hK K
     refine norm_ (a' := ?_) ?_ ?_
     rotate_left
     ·show Act.put _ (some 31) _ = _
      simp only [Act.put, Cmp.s, Cmp.z, Cmp.c, i64_w, i32_w]; rfl
     refine pure_ (i := 5) (N := some 11) (v := ?_) (a' := ?_) (Cmp.bm 6 0) rfl rfl (by kernel_rfl) (fun _ _ _ h => h) (Or.inl ⟨by rfl, ?_⟩) ?_ ?_
     rotate_left
     ·intro w'; go_simp; with_reducible rfl
     rotate_left
     ·simp only [Act.put, Cmp.s, Cmp.z, Cmp.c, i64_w, i32_w]; rfl
     refine done_ (by kernel_rfl) ?_
     try go_wp2_with (first | (go_at_call 53; (with_reducible refine (spec_VerifyLog.calls k _ _ l0 true _ ?side1 ?side2 A12.out).mono ?_); (case side1 => exact Cmp.rc (Kd.C_below HR0.out HB.out)); (case side2 => exact HC0.out); rintro e w66 ⟨rfl, hb⟩; have n0_ := Aside0.mk (Kd.R_below (Cmp.rr HO226.out) hb); have n1_ := Aside0.mk (Kd.R_below (Cmp.rr HO233.out) hb); have n2_ := Aside0.mk (Kd.R_below (Cmp.rr HO236.out) hb); have n3_ := Aside0.mk (blk_below (Cmp.b BK219.out) hb); have n4_ := Aside0.mk (blk_below (Cmp.b BK222.out) hb); have n5_ := Aside0.mk (below_step (Cmp.g HB.out) hb); clear HO226; clear HO233; clear HO236; clear BK219; clear BK222; clear HB; have HO226 := n0_; have HO233 := n1_; have HO236 := n2_; have BK219 := n3_; have BK222 := n4_; have HB := n5_; clear n0_ n1_ n2_ n3_ n4_ n5_; (try clear hb); (try clear hb2); (try clear hk); (try clear hi); obtain ⟨Ao67, co67, eo67⟩ := Kd.R_slice HO236.out; subst eo67) | (go_at_call 53; (with_reducible refine (spec_VerifyLog.calls k _ _ y234 false _ ?side1 ?side2 A14.out).mono ?_); (case side1 => exact Cmp.rc (Kd.R_reads' HO236.out).2.2); (case side2 => exact (Kd.R_reads' HO236.out).2.1); rintro e w68 ⟨rfl, hb⟩; have n0_ := Aside0.mk (Kd.R_below (Cmp.rr HO226.out) hb); have n1_ := Aside0.mk (Kd.R_below (Cmp.rr HO233.out) hb); have n2_ := Aside0.mk (Kd.R_below (Cmp.rr HO236.out) hb); have n3_ := Aside0.mk (blk_below (Cmp.b BK219.out) hb); have n4_ := Aside0.mk (blk_below (Cmp.b BK222.out) hb); have n5_ := Aside0.mk (below_step (Cmp.g HB.out) hb); clear HO226; clear HO233; clear HO236; clear BK219; clear BK222; clear HB; have HO226 := n0_; have HO233 := n1_; have HO236 := n2_; have BK219 := n3_; have BK222 := n4_; have HB := n5_; clear n0_ n1_ n2_ n3_ n4_ n5_; (try clear hb); (try clear hb2); (try clear hk); (try clear hi)) | ((with_reducible refine gate_callee (f := 52) rfl ?_); refine goesL_ (some 46) rfl rfl Try.func52 (by kernel_rfl) rfl #[.slice A0 l0.length c0] rfl Cmp.q ?_; (with_reducible refine (spec_l19Copy.calls _ _ l0 t239 _ ?side1 ?side2 A42.out).mono ?_); (case side1 => exact Cmp.rc (Kd.C_below HR0.out HB.out)); (case side2 => exact HC0.out); rintro e w69 ⟨v240, rfl, ho0, hb⟩; refine ⟨_, rfl, ?_⟩; have n0_ := Aside0.mk (Kd.R_below (Cmp.rr HO226.out) hb); have n1_ := Aside0.mk (Kd.R_elder' (Cmp.rr HO233.out) (Kd.R_base ho0) hb); have n2_ := Aside0.mk (Kd.R_elder' (Cmp.rr HO236.out) (Kd.R_base ho0) hb); have n3_ := Aside0.mk (Kd.R_lower (Kd.R_newB (Kd.R_new' (Kd.R_new' ho0 (Kd.R_lt (Cmp.rr HO233.out))) (Kd.R_lt (Cmp.rr HO236.out))) (g := gb222) (o := .cells #[.int .i64 (l0.length : Int), .int .i64 a1, .int .i64 a2, .int .i64 t220, .int .i64 t221, .int .i64 t227] 74 (0, 0)) (Cmp.b BK222.out)) (below_size (Cmp.g HB.out))); have n4_ := Aside0.mk (blk_below (Cmp.b BK219.out) hb); have n5_ := Aside0.mk (blk_below (Cmp.b BK222.out) hb); have n6_ := Aside0.mk (below_step (Cmp.g HB.out) hb); clear HO226; clear HO233; clear HO236; clear BK219; clear BK222; clear HB; have HO226 := n0_; have HO233 := n1_; have HO236 := n2_; have HO241 := n3_; have BK219 := n4_; have BK222 := n5_; have HB := n6_; clear n0_ n1_ n2_ n3_ n4_ n5_ n6_; (try clear hb); (try clear hb2); (try clear hk); (try clear hi); (try clear ho0)))
     go_ret2
     exact ⟨_, by first | rfl | (simp [errW_none, errW_some] <;> rfl) | (simp [*, errW_none, errW_some] <;> rfl), by (with_reducible repeat (first | apply Kd.R_alloc | apply Kd.R_drewN | apply Kd.R_drew)); exact Kd.R_mono HO241.out (fun _ hk => trivial), Cmp.g HB.out⟩
   ·replace c13 := Bool.eq_false_iff.mpr c13
    subst c13
    have H1 : ((spec_l19Copy.f l0).bind fun t242 => (some (t242, false))) = some (r1, r2) := by rw [if_neg (show ¬ (false = true) by decide)] at H; exact H
    clear H; have H := H1; clear H1; replace H := Option.bind_eq_some_iff.mp H; obtain ⟨t242, A700, H⟩ := H; (try dsimp only at H); have A70 := Aside0.mk A700; clear A700
    simp only [Option.some.injEq, Prod.mk.injEq] at H
    obtain ⟨rfl, rfl⟩ := H
    go_enter Try.func10, Try.ntmps10
    try go_wp2_with (first | ((with_reducible refine gate_dst (N := 7) rfl ?_); refine box_event ?hg (N := 7) ?hd (cs := #[.int .i64 a3_0, .int .i64 a3_1, .int .i64 a3_2, .int .i64 a3_3]) (t := 26) ?hr ?_; (case hd => rfl); (case hg => rfl); (case hr => first | (go_simp; done) | (go_simp; rfl)); intro gb219 hg w71 hbox hb; have n0_ := Aside0.mk (below_step (Cmp.g HB.out) hb); have n1_ := Aside0.mk (hbox); have n2_ := Aside0.mk ((by rw [hg]; exact (below_size (Cmp.g HB.out)) : w.heap.size ≤ gb219)); have n3_ := Aside0.mk ((by rw [hg]; exact (below_size (Cmp.g HB.out)) : w.heap.size ≤ gb219)); clear HB; have HB := n0_; have BK219 := n1_; have GW219 := n2_; have GE219 := n3_; clear n0_ n1_ n2_ n3_; clear hb hbox hg; have hcz72_0 : w71.cell? ⟨gb219, 0, none⟩ = some (.int .i64 a3_0) := (blk_cell BK219.out 0).trans rfl; have hcz72_1 : w71.cell? ⟨gb219, 1, none⟩ = some (.int .i64 a3_1) := (blk_cell BK219.out 1).trans rfl; have hcz72_2 : w71.cell? ⟨gb219, 2, none⟩ = some (.int .i64 a3_2) := (blk_cell BK219.out 2).trans rfl; have hcz72_3 : w71.cell? ⟨gb219, 3, none⟩ = some (.int .i64 a3_3) := (blk_cell BK219.out 3).trans rfl; have hfz72_0 := blk_frozen BK219.out 0; have hfz72_1 := blk_frozen BK219.out 1; have hfz72_2 := blk_frozen BK219.out 2; have hfz72_3 := blk_frozen BK219.out 3) | ((with_reducible refine gate_callee (f := 40) rfl ?_); refine goesL_ (some 17) rfl rfl Try.func40 (by kernel_rfl) rfl #[.agg #[.int .i64 a3_0, .int .i64 a3_1, .int .i64 a3_2, .int .i64 a3_3]] rfl Cmp.q ?_; (with_reducible refine (spec_DevicePublic.calls k a3_0 a3_1 a3_2 a3_3 t220 _ A5.out).mono ?_); rintro e w73 ⟨rfl, hb⟩; refine ⟨_, rfl, ?_⟩; have n0_ := Aside0.mk (blk_below (Cmp.b BK219.out) hb); have n1_ := Aside0.mk (below_step (Cmp.g HB.out) hb); clear BK219; clear HB; have BK219 := n0_; have HB := n1_; clear n0_ n1_; (try clear hb); (try clear hb2); (try clear hk); (try clear hi)) | ((with_reducible refine gate_callee (f := 49) rfl ?_); refine goesL_ (some 19) rfl rfl Try.func49 (by kernel_rfl) rfl #[.slice A0 l0.length c0] rfl Cmp.q ?_; (with_reducible refine (spec_LogHead.calls k _ _ l0 t221 _ ?side1 ?side2 A6.out).mono ?_); (case side1 => exact Cmp.rc (Kd.C_below HR0.out HB.out)); (case side2 => exact HC0.out); rintro e w74 ⟨rfl, hb⟩; refine ⟨_, rfl, ?_⟩; have n0_ := Aside0.mk (blk_below (Cmp.b BK219.out) hb); have n1_ := Aside0.mk (below_step (Cmp.g HB.out) hb); clear BK219; clear HB; have BK219 := n0_; have HB := n1_; clear n0_ n1_; (try clear hb); (try clear hb2); (try clear hk); (try clear hi)) | ((with_reducible refine gate_dst (N := 10) rfl ?_); refine box_event ?hg (N := 10) ?hd (cs := #[.int .i64 0, .int .i64 0, .int .i64 0, .int .i64 0, .int .i64 0, .int .i64 0]) (t := 74) ?hr ?_; (case hd => rfl); (case hg => rfl); (case hr => first | (go_simp; done) | (go_simp; rfl)); intro gb222 hg w75 hbox hb; have n0_ := Aside0.mk (blk_below (Cmp.b BK219.out) hb); have n1_ := Aside0.mk (below_step (Cmp.g HB.out) hb); have n2_ := Aside0.mk (hbox); have n3_ := Aside0.mk ((by rw [hg]; exact (below_size (Cmp.g HB.out)) : w.heap.size ≤ gb222)); have n4_ := Aside0.mk ((by rw [hg]; exact (below_size (Cmp.g HB.out)) : w.heap.size ≤ gb222)); have n5_ := Aside0.mk ((by rw [hg]; exact Nat.ne_of_lt (blk_lt (Cmp.b BK219.out)) : gb219 ≠ gb222)); have n6_ := Aside0.mk ((by rw [hg]; exact Nat.ne_of_gt (blk_lt (Cmp.b BK219.out)) : gb222 ≠ gb219)); clear BK219; clear HB; have BK219 := n0_; have HB := n1_; have BK222 := n2_; have GW222 := n3_; have GE222 := n4_; have NB219_222 := n5_; have NB222_219 := n6_; clear n0_ n1_ n2_ n3_ n4_ n5_ n6_; clear hb hbox hg; have hnb76 := NB222_219.out; have hnc76 := NB219_222.out; have hcz77_0 : w75.cell? ⟨gb222, 0, none⟩ = some (.int .i64 0) := (blk_cell BK222.out 0).trans rfl; have hcz77_1 : w75.cell? ⟨gb222, 1, none⟩ = some (.int .i64 0) := (blk_cell BK222.out 1).trans rfl; have hcz77_2 : w75.cell? ⟨gb222, 2, none⟩ = some (.int .i64 0) := (blk_cell BK222.out 2).trans rfl; have hcz77_3 : w75.cell? ⟨gb222, 3, none⟩ = some (.int .i64 0) := (blk_cell BK222.out 3).trans rfl; have hcz77_4 : w75.cell? ⟨gb222, 4, none⟩ = some (.int .i64 0) := (blk_cell BK222.out 4).trans rfl; have hcz77_5 : w75.cell? ⟨gb222, 5, none⟩ = some (.int .i64 0) := (blk_cell BK222.out 5).trans rfl; have hfz77_0 := blk_frozen BK222.out 0; have hfz77_1 := blk_frozen BK222.out 1; have hfz77_2 := blk_frozen BK222.out 2; have hfz77_3 := blk_frozen BK222.out 3; have hfz77_4 := blk_frozen BK222.out 4; have hfz77_5 := blk_frozen BK222.out 5))
    have n0_ : Aside0 (((((((w75.setCell ⟨gb222, 0, none⟩ (.int .i64 (l0.length : Int))).setCell ⟨gb222, 1, none⟩ (.int .i64 a1)).setCell ⟨gb222, 2, none⟩ (.int .i64 a2)).setCell ⟨gb222, 3, none⟩ (.int .i64 t220)).setCell ⟨gb222, 4, none⟩ (.int .i64 t221)).setCell ⟨gb222, 5, none⟩ (.int .i64 0)).heap[gb219]? = some (.cells #[.int .i64 a3_0, .int .i64 a3_1, .int .i64 a3_2, .int .i64 a3_3] 26 (0, 0))) := ⟨by (with_reducible repeat (first | refine blk_drewN ?_ _ | refine blk_drew ?_ | refine blk_alloc ?_ _)); refine blk_far ?_ NB219_222.out _; (with_reducible repeat (first | refine blk_drewN ?_ _ | refine blk_drew ?_ | refine blk_alloc ?_ _)); refine blk_far ?_ NB219_222.out _; (with_reducible repeat (first | refine blk_drewN ?_ _ | refine blk_drew ?_ | refine blk_alloc ?_ _)); refine blk_far ?_ NB219_222.out _; (with_reducible repeat (first | refine blk_drewN ?_ _ | refine blk_drew ?_ | refine blk_alloc ?_ _)); refine blk_far ?_ NB219_222.out _; (with_reducible repeat (first | refine blk_drewN ?_ _ | refine blk_drew ?_ | refine blk_alloc ?_ _)); refine blk_far ?_ NB219_222.out _; (with_reducible repeat (first | refine blk_drewN ?_ _ | refine blk_drew ?_ | refine blk_alloc ?_ _)); refine blk_far ?_ NB219_222.out _; (with_reducible repeat (first | refine blk_drewN ?_ _ | refine blk_drew ?_ | refine blk_alloc ?_ _)); exact BK219.out⟩
    have n1_ : Aside0 (((((((w75.setCell ⟨gb222, 0, none⟩ (.int .i64 (l0.length : Int))).setCell ⟨gb222, 1, none⟩ (.int .i64 a1)).setCell ⟨gb222, 2, none⟩ (.int .i64 a2)).setCell ⟨gb222, 3, none⟩ (.int .i64 t220)).setCell ⟨gb222, 4, none⟩ (.int .i64 t221)).setCell ⟨gb222, 5, none⟩ (.int .i64 0)).heap[gb222]? = some (.cells #[.int .i64 (l0.length : Int), .int .i64 a1, .int .i64 a2, .int .i64 t220, .int .i64 t221, .int .i64 0] 74 (0, 0))) := ⟨by (with_reducible repeat (first | refine blk_drewN ?_ _ | refine blk_drew ?_ | refine blk_alloc ?_ _)); refine blk_put (cs := #[.int .i64 (l0.length : Int), .int .i64 a1, .int .i64 a2, .int .i64 t220, .int .i64 t221, .int .i64 0]) ?_ 5 _ rfl; (with_reducible repeat (first | refine blk_drewN ?_ _ | refine blk_drew ?_ | refine blk_alloc ?_ _)); refine blk_put (cs := #[.int .i64 (l0.length : Int), .int .i64 a1, .int .i64 a2, .int .i64 t220, .int .i64 0, .int .i64 0]) ?_ 4 _ rfl; (with_reducible repeat (first | refine blk_drewN ?_ _ | refine blk_drew ?_ | refine blk_alloc ?_ _)); refine blk_put (cs := #[.int .i64 (l0.length : Int), .int .i64 a1, .int .i64 a2, .int .i64 0, .int .i64 0, .int .i64 0]) ?_ 3 _ rfl; (with_reducible repeat (first | refine blk_drewN ?_ _ | refine blk_drew ?_ | refine blk_alloc ?_ _)); refine blk_put (cs := #[.int .i64 (l0.length : Int), .int .i64 a1, .int .i64 0, .int .i64 0, .int .i64 0, .int .i64 0]) ?_ 2 _ rfl; (with_reducible repeat (first | refine blk_drewN ?_ _ | refine blk_drew ?_ | refine blk_alloc ?_ _)); refine blk_put (cs := #[.int .i64 (l0.length : Int), .int .i64 0, .int .i64 0, .int .i64 0, .int .i64 0, .int .i64 0]) ?_ 1 _ rfl; (with_reducible repeat (first | refine blk_drewN ?_ _ | refine blk_drew ?_ | refine blk_alloc ?_ _)); refine blk_put (cs := #[.int .i64 0, .int .i64 0, .int .i64 0, .int .i64 0, .int .i64 0, .int .i64 0]) ?_ 0 _ rfl; (with_reducible repeat (first | refine blk_drewN ?_ _ | refine blk_drew ?_ | refine blk_alloc ?_ _)); exact BK222.out⟩
    have n2_ : Aside0 (Below w.heap.size w ((((((w75.setCell ⟨gb222, 0, none⟩ (.int .i64 (l0.length : Int))).setCell ⟨gb222, 1, none⟩ (.int .i64 a1)).setCell ⟨gb222, 2, none⟩ (.int .i64 a2)).setCell ⟨gb222, 3, none⟩ (.int .i64 t220)).setCell ⟨gb222, 4, none⟩ (.int .i64 t221)).setCell ⟨gb222, 5, none⟩ (.int .i64 0))) := ⟨Cmp.g HB.out⟩
    (try clear BK219); (try clear BK222); (try clear HB)
    generalize ((((((w75.setCell ⟨gb222, 0, none⟩ (.int .i64 (l0.length : Int))).setCell ⟨gb222, 1, none⟩ (.int .i64 a1)).setCell ⟨gb222, 2, none⟩ (.int .i64 a2)).setCell ⟨gb222, 3, none⟩ (.int .i64 t220)).setCell ⟨gb222, 4, none⟩ (.int .i64 t221)).setCell ⟨gb222, 5, none⟩ (.int .i64 0)) = w78 at n0_ n1_ n2_ ⊢
    have BK219 := n0_; have BK222 := n1_; have HB := n2_; clear n0_ n1_ n2_; have n0_ := Aside0.mk (blk_drew BK219.out); have n1_ := Aside0.mk (blk_drew BK222.out); have n2_ := Aside0.mk (below_drew1 HB.out); clear BK219; clear BK222; clear HB; have BK219 := n0_; have BK222 := n1_; have HB := n2_; clear n0_ n1_ n2_
    refine start_ (n := 7) (S := fun w' => w'.cell? ⟨gb219, 0, none⟩ = some (.int .i64 a3_0) ∧ w'.cell? ⟨gb219, 1, none⟩ = some (.int .i64 a3_1) ∧ w'.cell? ⟨gb219, 2, none⟩ = some (.int .i64 a3_2) ∧ w'.cell? ⟨gb219, 3, none⟩ = some (.int .i64 a3_3) ∧ w'.cell? ⟨gb222, 0, none⟩ = some (.int .i64 (l0.length : Int)) ∧ w'.cell? ⟨gb222, 1, none⟩ = some (.int .i64 a1) ∧ w'.cell? ⟨gb222, 2, none⟩ = some (.int .i64 a2) ∧ w'.cell? ⟨gb222, 3, none⟩ = some (.int .i64 t220) ∧ w'.cell? ⟨gb222, 4, none⟩ = some (.int .i64 t221) ∧ w'.cell? ⟨gb222, 5, none⟩ = some (.int .i64 0)) (ds := [6]) (Cmp.bm 0 7) (by kernel_rfl) rfl rfl ⟨(blk_cell BK219.out 0).trans rfl, (blk_cell BK219.out 1).trans rfl, (blk_cell BK219.out 2).trans rfl, (blk_cell BK219.out 3).trans rfl, (blk_cell BK222.out 0).trans rfl, (blk_cell BK222.out 1).trans rfl, (blk_cell BK222.out 2).trans rfl, (blk_cell BK222.out 3).trans rfl, (blk_cell BK222.out 4).trans rfl, (blk_cell BK222.out 5).trans rfl⟩ (fun hHeld => ?_)
    generalize w78.drew = w79 at BK219 BK222 HB hHeld ⊢
    refine take_ (i := 0) (N := some 21) (v := ?_) (a' := ?_) (Cmp.bm 1 6) rfl rfl (by kernel_rfl) (fun _ _ _ h => h) (Or.inl ⟨by rfl, ?_⟩) hHeld ?_ ?_
    rotate_left
    ·rintro w' ⟨s0, s1, s2, s3, s4, s5, s6, s7, s8, s9⟩; go_simp; with_reducible rfl
    rotate_left
    ·simp only [Act.put, Cmp.s, Cmp.z, Cmp.c, i64_w, i32_w]; rfl
    refine take_ (i := 1) (N := some 22) (v := ?_) (a' := ?_) (Cmp.bm 2 5) rfl rfl (by kernel_rfl) (fun _ _ _ h => h) (Or.inl ⟨by rfl, ?_⟩) hHeld ?_ ?_
    rotate_left
    ·rintro w' ⟨s0, s1, s2, s3, s4, s5, s6, s7, s8, s9⟩; go_simp; with_reducible rfl
    rotate_left
    ·simp only [Act.put, Cmp.s, Cmp.z, Cmp.c, i64_w, i32_w]; rfl
    refine one_ (i := 2) (N := some 23) (Cmp.bm 3 4) rfl rfl (by kernel_rfl) (by decide) (fun K hK => ?_)
    refine goes_ Try.func51 (by kernel_rfl) rfl #[.agg #[.int .i64 (l0.length : Int), .int .i64 a1, .int .i64 a2, .int .i64 t220, .int .i64 t221, .int .i64 0]] (by rfl) rfl rfl Cmp.q ?_
    with_reducible refine (spec_EntryHash.calls k (l0.length : Int) a1 a2 t220 t221 0 t223 _ A7.out).mono ?_
    rintro e w80 ⟨rfl, hb⟩; refine ⟨_, rfl, ?_⟩
    have n0_ := Aside0.mk (blk_below (Cmp.b BK219.out) hb)
    have n1_ := Aside0.mk (blk_below (Cmp.b BK222.out) hb)
    have n2_ := Aside0.mk (below_step (Cmp.g HB.out) hb)
    clear BK219; clear BK222; clear HB; have BK219 := n0_; have BK222 := n1_; have HB := n2_; clear n0_ n1_ n2_; (try clear hb); (try clear hb2); (try clear hk); (try clear hi)
    refine hK.out _ _ ⟨(blk_cell BK219.out 0).trans rfl, (blk_cell BK219.out 1).trans rfl, (blk_cell BK219.out 2).trans rfl, (blk_cell BK219.out 3).trans rfl, (blk_cell BK222.out 0).trans rfl, (blk_cell BK222.out 1).trans rfl, (blk_cell BK222.out 2).trans rfl, (blk_cell BK222.out 3).trans rfl, (blk_cell BK222.out 4).trans rfl, (blk_cell BK222.out 5).trans rfl⟩ (fun hHeld => ?_)
    clear hK K
    refine norm_ (a' := ?_) ?_ ?_
    rotate_left
    ·show Act.put _ (some 23) _ = _
     simp only [Act.put, Cmp.s, Cmp.z, Cmp.c, i64_w, i32_w]; rfl
    refine one_ (i := 3) (N := some 24) (Cmp.bm 4 3) rfl rfl (by kernel_rfl) (by decide) (fun K hK => ?_)
    refine Kd.R_lit_step (Kd.int .i64) _ 3 ?hg (N := 24) ?hd (xs := ([t223] : List Int)) (inner := [.int .i64 t223]) (ok := fun _ => True) (okp := fun _ => True) ?hr ?hp (fun _ hk => hk) trivial (Below.refl _ _) (Nat.le_refl _) (by simp) ?_; (case hd => rfl); (case hg => rfl); (case hr => first | (go_simp; done) | (go_simp; rfl)); (case hp => exact (Reps.one (show Kd.M (Kd.int .i64) _ _ _ t223 [.int .i64 t223] from rfl) (Reps.none _ _)))
    intro v225 w81 ho82 hb hg_ hnew_
    clear hg_ hnew_
    (first | rw [← Ny224.out] at ho82 | (simp only [Int.reduceToNat] at ho82; rw [← Ny224.out] at ho82))
    have n0_ := Aside0.mk (Kd.R_lower ho82 (below_size (Cmp.g HB.out)))
    have n1_ := Aside0.mk (blk_below (Cmp.b BK219.out) hb)
    have n2_ := Aside0.mk (blk_below (Cmp.b BK222.out) hb)
    have n3_ := Aside0.mk (below_step (Cmp.g HB.out) hb)
    clear BK219; clear BK222; clear HB; have HO226 := n0_; have BK219 := n1_; have BK222 := n2_; have HB := n3_; clear n0_ n1_ n2_ n3_; clear hb ho82
    obtain ⟨Ao83, co83, eo83⟩ := Kd.R_slice HO226.out
    (first | subst eo83 | (injection eo83 with f1_ f2_ f3_; have f4_ := f1_.symm; have f5_ := f3_.symm; clear f1_ f2_ f3_; subst f4_; subst f5_))
    refine hK.out _ _ ⟨(blk_cell BK219.out 0).trans rfl, (blk_cell BK219.out 1).trans rfl, (blk_cell BK219.out 2).trans rfl, (blk_cell BK219.out 3).trans rfl, (blk_cell BK222.out 0).trans rfl, (blk_cell BK222.out 1).trans rfl, (blk_cell BK222.out 2).trans rfl, (blk_cell BK222.out 3).trans rfl, (blk_cell BK222.out 4).trans rfl, (blk_cell BK222.out 5).trans rfl⟩ (fun hHeld => ?_)
    clear hK K
    refine norm_ (a' := ?_) ?_ ?_
    rotate_left
    ·show Act.put _ (some 24) _ = _
     simp only [Act.put, Cmp.s, Cmp.z, Cmp.c, i64_w, i32_w]; rfl
    refine one_ (i := 4) (N := some 25) (Cmp.bm 5 2) rfl rfl (by kernel_rfl) (by decide) (fun K hK => ?_)
    refine goes_ Try.func50 (by kernel_rfl) rfl #[.agg #[.int .i64 a3_0, .int .i64 a3_1, .int .i64 a3_2, .int .i64 a3_3], .slice Ao83 y224.length co83] (by rfl) rfl rfl Cmp.q ?_
    with_reducible refine (spec_SignAsDevice.calls k a3_0 a3_1 a3_2 a3_3 _ _ y224 t227 _ ?side1 ?side2 A8.out).mono ?_
    (case side1 => exact Cmp.rc (Kd.R_reads' HO226.out).2.2)
    (case side2 => exact (Kd.R_reads' HO226.out).2.1)
    rintro e w84 ⟨rfl, hb⟩; refine ⟨_, rfl, ?_⟩
    have n0_ := Aside0.mk (Kd.R_below (Cmp.rr HO226.out) hb)
    have n1_ := Aside0.mk (blk_below (Cmp.b BK219.out) hb)
    have n2_ := Aside0.mk (blk_below (Cmp.b BK222.out) hb)
    have n3_ := Aside0.mk (below_step (Cmp.g HB.out) hb)
    clear HO226; clear BK219; clear BK222; clear HB; have HO226 := n0_; have BK219 := n1_; have BK222 := n2_; have HB := n3_; clear n0_ n1_ n2_ n3_; (try clear hb); (try clear hb2); (try clear hk); (try clear hi)
    refine hK.out _ _ ⟨(blk_cell BK219.out 0).trans rfl, (blk_cell BK219.out 1).trans rfl, (blk_cell BK219.out 2).trans rfl, (blk_cell BK219.out 3).trans rfl, (blk_cell BK222.out 0).trans rfl, (blk_cell BK222.out 1).trans rfl, (blk_cell BK222.out 2).trans rfl, (blk_cell BK222.out 3).trans rfl, (blk_cell BK222.out 4).trans rfl, (blk_cell BK222.out 5).trans rfl⟩ (fun hHeld => ?_)
    clear hK K
    refine norm_ (a' := ?_) ?_ ?_
    rotate_left
    ·show Act.put _ (some 25) _ = _
     simp only [Act.put, Cmp.s, Cmp.z, Cmp.c, i64_w, i32_w]; rfl
    refine pure_ (i := 5) (N := some 26) (v := ?_) (a' := ?_) (Cmp.bm 6 1) rfl rfl (by kernel_rfl) (fun _ _ _ h => h) (Or.inl ⟨by rfl, ?_⟩) ?_ ?_
    rotate_left
    ·intro w'; go_simp; with_reducible rfl
    rotate_left
    ·simp only [Act.put, Cmp.s, Cmp.z, Cmp.c, i64_w, i32_w]; rfl
    refine last_ (i := 6) (N := none) (Cmp.bm 7 0) rfl rfl (by kernel_rfl) (by decide) (fun K hK => ?_)
    have hs85 : w84.cell? ⟨gb222, 5, none⟩ = some (.int .i64 0) := (blk_cell BK222.out 5).trans rfl
    have hfs85 := blk_frozen BK222.out 5; have hns85_0 := NB219_222.out; have hms85_0 := NB222_219.out
    refine skip_ (w1 := ?_) (by rfl) rfl ?_ ?_
    rotate_left
    ·go_simp; rfl
    refine hK.out _ _ ?_
    clear hK K
    refine done_ (by kernel_rfl) ?_
    try go_wp2
    have n0_ : Aside0 (Kd.R (Kd.int .i64) 3 (w84.setCell ⟨gb222, 5, none⟩ (.int .i64 t227)) w.heap.size (fun _ => True) (.slice Ao83 y224.length co83) y224) := ⟨by (with_reducible repeat (first | apply Kd.R_alloc | apply Kd.R_drewN | apply Kd.R_drew)); exact Kd.R_mono (Kd.R_far (p := ⟨gb222, 5, none⟩) (Kd.R_types HO226.out BK222.out (by decide)) (fun _ hk => hk.2) (.int .i64 t227)) (fun _ hk => trivial)⟩
    have n1_ : Aside0 ((w84.setCell ⟨gb222, 5, none⟩ (.int .i64 t227)).heap[gb219]? = some (.cells #[.int .i64 a3_0, .int .i64 a3_1, .int .i64 a3_2, .int .i64 a3_3] 26 (0, 0))) := ⟨by (with_reducible repeat (first | refine blk_drewN ?_ _ | refine blk_drew ?_ | refine blk_alloc ?_ _)); refine blk_far ?_ NB219_222.out _; (with_reducible repeat (first | refine blk_drewN ?_ _ | refine blk_drew ?_ | refine blk_alloc ?_ _)); exact BK219.out⟩
    have n2_ : Aside0 ((w84.setCell ⟨gb222, 5, none⟩ (.int .i64 t227)).heap[gb222]? = some (.cells #[.int .i64 (l0.length : Int), .int .i64 a1, .int .i64 a2, .int .i64 t220, .int .i64 t221, .int .i64 t227] 74 (0, 0))) := ⟨by (with_reducible repeat (first | refine blk_drewN ?_ _ | refine blk_drew ?_ | refine blk_alloc ?_ _)); refine blk_put (cs := #[.int .i64 (l0.length : Int), .int .i64 a1, .int .i64 a2, .int .i64 t220, .int .i64 t221, .int .i64 0]) ?_ 5 _ rfl; (with_reducible repeat (first | refine blk_drewN ?_ _ | refine blk_drew ?_ | refine blk_alloc ?_ _)); exact BK222.out⟩
    have n3_ : Aside0 (Below w.heap.size w (w84.setCell ⟨gb222, 5, none⟩ (.int .i64 t227))) := ⟨Cmp.g HB.out⟩
    (try clear HO226); (try clear BK219); (try clear BK222); (try clear HB)
    generalize (w84.setCell ⟨gb222, 5, none⟩ (.int .i64 t227)) = w86 at n0_ n1_ n2_ n3_ ⊢
    have HO226 := n0_; have BK219 := n1_; have BK222 := n2_; have HB := n3_; clear n0_ n1_ n2_ n3_; have n0_ := Aside0.mk (Kd.R_drew HO226.out); have n1_ := Aside0.mk (blk_drew BK219.out); have n2_ := Aside0.mk (blk_drew BK222.out); have n3_ := Aside0.mk (below_drew1 HB.out); clear HO226; clear BK219; clear BK222; clear HB; have HO226 := n0_; have BK219 := n1_; have BK222 := n2_; have HB := n3_; clear n0_ n1_ n2_ n3_
    refine start_ (n := 6) (S := fun w' => w'.cell? ⟨gb222, 0, none⟩ = some (.int .i64 (l0.length : Int)) ∧ w'.cell? ⟨gb222, 1, none⟩ = some (.int .i64 a1) ∧ w'.cell? ⟨gb222, 2, none⟩ = some (.int .i64 a2) ∧ w'.cell? ⟨gb222, 3, none⟩ = some (.int .i64 t220) ∧ w'.cell? ⟨gb222, 4, none⟩ = some (.int .i64 t221) ∧ w'.cell? ⟨gb222, 5, none⟩ = some (.int .i64 t227)) (ds := []) (Cmp.bm 0 6) (by kernel_rfl) rfl rfl ⟨(blk_cell BK222.out 0).trans rfl, (blk_cell BK222.out 1).trans rfl, (blk_cell BK222.out 2).trans rfl, (blk_cell BK222.out 3).trans rfl, (blk_cell BK222.out 4).trans rfl, (blk_cell BK222.out 5).trans rfl⟩ (fun hHeld => ?_)
    generalize w86.drew = w87 at HO226 BK219 BK222 HB hHeld ⊢
    refine pure_ (i := 0) (N := some 27) (v := ?_) (a' := ?_) (Cmp.bm 1 5) rfl rfl (by kernel_rfl) (fun _ _ _ h => h) (Or.inl ⟨by rfl, ?_⟩) ?_ ?_
    rotate_left
    ·intro w'; go_simp; with_reducible rfl
    rotate_left
    ·simp only [Act.put, Cmp.s, Cmp.z, Cmp.c, i64_w, i32_w]; rfl
    refine take_ (i := 2) (N := some 29) (v := ?_) (a' := ?_) (Cmp.bb 6 5) rfl rfl (by kernel_rfl) (fun _ _ _ h => h) (Or.inl ⟨by rfl, ?_⟩) hHeld ?_ ?_
    rotate_left
    ·rintro w' ⟨s0, s1, s2, s3, s4, s5⟩; go_simp; with_reducible rfl
    rotate_left
    ·simp only [Act.put, Cmp.s, Cmp.z, Cmp.c, i64_w, i32_w]; rfl
    refine join_ (σ := Value × Value) 2 (Cmp.bm 4 2) (fun s_ => [(28, s_.1), (30, s_.2)]) (fun s_ w' => (w'.cell? ⟨gb222, 0, none⟩ = some (.int .i64 (l0.length : Int)) ∧ w'.cell? ⟨gb222, 1, none⟩ = some (.int .i64 a1) ∧ w'.cell? ⟨gb222, 2, none⟩ = some (.int .i64 a2) ∧ w'.cell? ⟨gb222, 3, none⟩ = some (.int .i64 t220) ∧ w'.cell? ⟨gb222, 4, none⟩ = some (.int .i64 t221) ∧ w'.cell? ⟨gb222, 5, none⟩ = some (.int .i64 t227)) ∧ (Kd.R (Kd.int .i64) 3 w' w.heap.size (fun _ => True) (.slice Ao83 y224.length co83) y224) ∧ (Kd.R k74 74 w' w.heap.size (fun k_ => some k_ ≠ (s_.2 : Value).ownBlock ∧ k_ ≠ gb222) s_.1 t228) ∧ (Kd.R k74 74 w' w.heap.size (fun k_ => some k_ ≠ (s_.1 : Value).ownBlock ∧ k_ ≠ gb222) s_.2 y231) ∧ (w'.heap[gb219]? = some (.cells #[.int .i64 a3_0, .int .i64 a3_1, .int .i64 a3_2, .int .i64 a3_3] 26 (0, 0))) ∧ (w'.heap[gb222]? = some (.cells #[.int .i64 (l0.length : Int), .int .i64 a1, .int .i64 a2, .int .i64 t220, .int .i64 t221, .int .i64 t227] 74 (0, 0))) ∧ (Below w.heap.size w w')) ?_ ?_
    rotate_left
    ·intro hCont
     refine two_ (i := 1) (j := 3) (Ni := some 28) (Nj := some 30) (Cmp.bm 3 3) (Cmp.bb 6 13) rfl rfl rfl rfl (by kernel_rfl) (by decide) (by decide) (fun K hK => ?_) (fun K hK => ?_)
     ·skip
      refine goes_ Try.func52 (by kernel_rfl) rfl #[.slice A0 l0.length c0] (by rfl) rfl rfl Cmp.q ?_
      with_reducible refine (spec_l19Copy.calls _ _ l0 t228 _ ?side1 ?side2 A9.out).mono ?_
      (case side1 => exact Cmp.rc (Kd.C_below HR0.out HB.out))
      (case side2 => exact HC0.out)
      rintro e w88 ⟨v229, rfl, ho0, hb⟩; refine ⟨_, rfl, ?_⟩
      have n0_ := Aside0.mk (Kd.R_below (Cmp.rr HO226.out) hb)
      have n1_ := Aside0.mk (Kd.R_lower (Kd.R_newB ho0 (g := gb222) (o := .cells #[.int .i64 (l0.length : Int), .int .i64 a1, .int .i64 a2, .int .i64 t220, .int .i64 t221, .int .i64 t227] 74 (0, 0)) (Cmp.b BK222.out)) (below_size (Cmp.g HB.out)))
      have n2_ := Aside0.mk (blk_below (Cmp.b BK219.out) hb)
      have n3_ := Aside0.mk (blk_below (Cmp.b BK222.out) hb)
      have n4_ := Aside0.mk (below_step (Cmp.g HB.out) hb)
      clear HO226; clear BK219; clear BK222; clear HB; have HO226 := n0_; have HO230 := n1_; have BK219 := n2_; have BK222 := n3_; have HB := n4_; clear n0_ n1_ n2_ n3_ n4_; (try clear hb); (try clear hb2); (try clear hk); (try clear hi); (try clear ho0)
      refine hK.out _ _ ⟨(blk_cell BK222.out 0).trans rfl, (blk_cell BK222.out 1).trans rfl, (blk_cell BK222.out 2).trans rfl, (blk_cell BK222.out 3).trans rfl, (blk_cell BK222.out 4).trans rfl, (blk_cell BK222.out 5).trans rfl⟩ (fun hHeld => ?_)
      clear hK K
      refine norm_ (a' := ?_) ?_ ?_
      rotate_left
      ·show Act.put _ (some 28) _ = _
       simp only [Act.put, Cmp.s, Cmp.z, Cmp.c, i64_w, i32_w]; rfl
      refine one_ (i := 3) (N := some 30) (Cmp.bm 4 2) rfl rfl (by kernel_rfl) (by decide) (fun K hK => ?_)
      refine Kd.R_lit_step k74 _ 74 ?hg (N := 30) ?hd (xs := ([(⟨(l0.length : Int), a1, a2, t220, t221, t227⟩ : S74)] : List (S74))) (inner := [.int .i64 (l0.length : Int), .int .i64 a1, .int .i64 a2, .int .i64 t220, .int .i64 t221, .int .i64 t227]) (ok := fun _ => True) (okp := fun _ => True) ?hr ?hp (fun _ hk => hk) trivial (Below.refl _ _) (Nat.le_refl _) (by simp) ?_; (case hd => rfl); (case hg => rfl); (case hr => first | (go_simp; done) | (go_simp; rfl)); (case hp => exact (Reps.c6 (show Kd.M k74 _ _ _ (⟨(l0.length : Int), a1, a2, t220, t221, t227⟩ : S74) [.int .i64 (l0.length : Int), .int .i64 a1, .int .i64 a2, .int .i64 t220, .int .i64 t221, .int .i64 t227] from (k74_mkM _ _ _ (⟨(l0.length : Int), a1, a2, t220, t221, t227⟩ : S74) )) (Reps.none _ _)))
      intro v232 w89 ho90 hb hg_ hnew_
      clear hg_ hnew_
      (first | rw [← Ny231.out] at ho90 | (simp only [Int.reduceToNat] at ho90; rw [← Ny231.out] at ho90))
      have n0_ := Aside0.mk (Kd.R_below (Cmp.rr HO226.out) hb)
      have n1_ := Aside0.mk (Kd.R_elder' (Cmp.rr HO230.out) (Kd.R_base ho90) hb)
      have n2_ := Aside0.mk (Kd.R_lower (Kd.R_newB (Kd.R_new' ho90 (Kd.R_lt (Cmp.rr HO230.out))) (g := gb222) (o := .cells #[.int .i64 (l0.length : Int), .int .i64 a1, .int .i64 a2, .int .i64 t220, .int .i64 t221, .int .i64 t227] 74 (0, 0)) (Cmp.b BK222.out)) (below_size (Cmp.g HB.out)))
      have n3_ := Aside0.mk (blk_below (Cmp.b BK219.out) hb)
      have n4_ := Aside0.mk (blk_below (Cmp.b BK222.out) hb)
      have n5_ := Aside0.mk (below_step (Cmp.g HB.out) hb)
      clear HO226; clear HO230; clear BK219; clear BK222; clear HB; have HO226 := n0_; have HO230 := n1_; have HO233 := n2_; have BK219 := n3_; have BK222 := n4_; have HB := n5_; clear n0_ n1_ n2_ n3_ n4_ n5_; clear hb ho90
      refine hK.out _ _ ⟨(blk_cell BK222.out 0).trans rfl, (blk_cell BK222.out 1).trans rfl, (blk_cell BK222.out 2).trans rfl, (blk_cell BK222.out 3).trans rfl, (blk_cell BK222.out 4).trans rfl, (blk_cell BK222.out 5).trans rfl⟩ (fun hHeld => ?_)
      clear hK K
      refine norm_ (a' := ?_) ?_ ?_
      rotate_left
      ·show Act.put _ (some 30) _ = _
       simp only [Act.put, Cmp.s, Cmp.z, Cmp.c, i64_w, i32_w]; rfl
      exact norm_ (by simp only [putAll, Act.put, List.setIfInBounds_toArray, List.set_cons_zero, List.set_cons_succ]) (hCont (v229, v232) _ ⟨hHeld, (Cmp.rr HO226.out), (by (with_reducible repeat (first | apply Kd.R_alloc | apply Kd.R_drewN | apply Kd.R_drew)); exact Kd.R_mono HO230.out (fun _ hk => ⟨hk.2, hk.1.2⟩)), (by (with_reducible repeat (first | apply Kd.R_alloc | apply Kd.R_drewN | apply Kd.R_drew)); exact Kd.R_mono HO233.out (fun _ hk => ⟨hk.1.2, hk.2⟩)), (Cmp.b BK219.out), (Cmp.b BK222.out), (Cmp.g HB.out)⟩)
     ·skip
      refine Kd.R_lit_step k74 _ 74 ?hg (N := 30) ?hd (xs := ([(⟨(l0.length : Int), a1, a2, t220, t221, t227⟩ : S74)] : List (S74))) (inner := [.int .i64 (l0.length : Int), .int .i64 a1, .int .i64 a2, .int .i64 t220, .int .i64 t221, .int .i64 t227]) (ok := fun _ => True) (okp := fun _ => True) ?hr ?hp (fun _ hk => hk) trivial (Below.refl _ _) (Nat.le_refl _) (by simp) ?_; (case hd => rfl); (case hg => rfl); (case hr => first | (go_simp; done) | (go_simp; rfl)); (case hp => exact (Reps.c6 (show Kd.M k74 _ _ _ (⟨(l0.length : Int), a1, a2, t220, t221, t227⟩ : S74) [.int .i64 (l0.length : Int), .int .i64 a1, .int .i64 a2, .int .i64 t220, .int .i64 t221, .int .i64 t227] from (k74_mkM _ _ _ (⟨(l0.length : Int), a1, a2, t220, t221, t227⟩ : S74) )) (Reps.none _ _)))
      intro v232 w88 ho89 hb hg_ hnew_
      clear hg_ hnew_
      (first | rw [← Ny231.out] at ho89 | (simp only [Int.reduceToNat] at ho89; rw [← Ny231.out] at ho89))
      have n0_ := Aside0.mk (Kd.R_below (Cmp.rr HO226.out) hb)
      have n1_ := Aside0.mk (Kd.R_lower (Kd.R_newB ho89 (g := gb222) (o := .cells #[.int .i64 (l0.length : Int), .int .i64 a1, .int .i64 a2, .int .i64 t220, .int .i64 t221, .int .i64 t227] 74 (0, 0)) (Cmp.b BK222.out)) (below_size (Cmp.g HB.out)))
      have n2_ := Aside0.mk (blk_below (Cmp.b BK219.out) hb)
      have n3_ := Aside0.mk (blk_below (Cmp.b BK222.out) hb)
      have n4_ := Aside0.mk (below_step (Cmp.g HB.out) hb)
      clear HO226; clear BK219; clear BK222; clear HB; have HO226 := n0_; have HO233 := n1_; have BK219 := n2_; have BK222 := n3_; have HB := n4_; clear n0_ n1_ n2_ n3_ n4_; clear hb ho89
      refine hK.out _ _ ⟨(blk_cell BK222.out 0).trans rfl, (blk_cell BK222.out 1).trans rfl, (blk_cell BK222.out 2).trans rfl, (blk_cell BK222.out 3).trans rfl, (blk_cell BK222.out 4).trans rfl, (blk_cell BK222.out 5).trans rfl⟩ (fun hHeld => ?_)
      clear hK K
      refine norm_ (a' := ?_) ?_ ?_
      rotate_left
      ·show Act.put _ (some 30) _ = _
       simp only [Act.put, Cmp.s, Cmp.z, Cmp.c, i64_w, i32_w]; rfl
      refine one_ (i := 1) (N := some 28) (Cmp.bm 4 2) rfl rfl (by kernel_rfl) (by decide) (fun K hK => ?_)
      refine goes_ Try.func52 (by kernel_rfl) rfl #[.slice A0 l0.length c0] (by rfl) rfl rfl Cmp.q ?_
      with_reducible refine (spec_l19Copy.calls _ _ l0 t228 _ ?side1 ?side2 A9.out).mono ?_
      (case side1 => exact Cmp.rc (Kd.C_below HR0.out HB.out))
      (case side2 => exact HC0.out)
      rintro e w90 ⟨v229, rfl, ho0, hb⟩; refine ⟨_, rfl, ?_⟩
      have n0_ := Aside0.mk (Kd.R_below (Cmp.rr HO226.out) hb)
      have n1_ := Aside0.mk (Kd.R_elder' (Cmp.rr HO233.out) (Kd.R_base ho0) hb)
      have n2_ := Aside0.mk (Kd.R_lower (Kd.R_newB (Kd.R_new' ho0 (Kd.R_lt (Cmp.rr HO233.out))) (g := gb222) (o := .cells #[.int .i64 (l0.length : Int), .int .i64 a1, .int .i64 a2, .int .i64 t220, .int .i64 t221, .int .i64 t227] 74 (0, 0)) (Cmp.b BK222.out)) (below_size (Cmp.g HB.out)))
      have n3_ := Aside0.mk (blk_below (Cmp.b BK219.out) hb)
      have n4_ := Aside0.mk (blk_below (Cmp.b BK222.out) hb)
      have n5_ := Aside0.mk (below_step (Cmp.g HB.out) hb)
      clear HO226; clear HO233; clear BK219; clear BK222; clear HB; have HO226 := n0_; have HO233 := n1_; have HO230 := n2_; have BK219 := n3_; have BK222 := n4_; have HB := n5_; clear n0_ n1_ n2_ n3_ n4_ n5_; (try clear hb); (try clear hb2); (try clear hk); (try clear hi); (try clear ho0)
      refine hK.out _ _ ⟨(blk_cell BK222.out 0).trans rfl, (blk_cell BK222.out 1).trans rfl, (blk_cell BK222.out 2).trans rfl, (blk_cell BK222.out 3).trans rfl, (blk_cell BK222.out 4).trans rfl, (blk_cell BK222.out 5).trans rfl⟩ (fun hHeld => ?_)
      clear hK K
      refine norm_ (a' := ?_) ?_ ?_
      rotate_left
      ·show Act.put _ (some 28) _ = _
       simp only [Act.put, Cmp.s, Cmp.z, Cmp.c, i64_w, i32_w]; rfl
      exact norm_ (by simp only [putAll, Act.put, List.setIfInBounds_toArray, List.set_cons_zero, List.set_cons_succ]) (hCont (v229, v232) _ ⟨hHeld, (Cmp.rr HO226.out), (by (with_reducible repeat (first | apply Kd.R_alloc | apply Kd.R_drewN | apply Kd.R_drew)); exact Kd.R_mono HO230.out (fun _ hk => ⟨hk.1.2, hk.2⟩)), (by (with_reducible repeat (first | apply Kd.R_alloc | apply Kd.R_drewN | apply Kd.R_drew)); exact Kd.R_mono HO233.out (fun _ hk => ⟨hk.2, hk.1.2⟩)), (Cmp.b BK219.out), (Cmp.b BK222.out), (Cmp.g HB.out)⟩)
    rintro ⟨v229, v232⟩ w91 ⟨hS_, h0_, h1_, h2_, h3_, h4_, h5_⟩
    have n0_ : Aside0 (Kd.R (Kd.int .i64) 3 w91 w.heap.size (fun _ => True) (.slice Ao83 y224.length co83) y224) := ⟨h0_⟩
    have n1_ : Aside0 (Kd.R k74 74 w91 w.heap.size (fun k_ => some k_ ≠ (v232 : Value).ownBlock ∧ k_ ≠ gb222) v229 t228) := ⟨h1_⟩
    have n2_ : Aside0 (Kd.R k74 74 w91 w.heap.size (fun k_ => some k_ ≠ (v229 : Value).ownBlock ∧ k_ ≠ gb222) v232 y231) := ⟨h2_⟩
    have n3_ : Aside0 (w91.heap[gb219]? = some (.cells #[.int .i64 a3_0, .int .i64 a3_1, .int .i64 a3_2, .int .i64 a3_3] 26 (0, 0))) := ⟨h3_⟩
    have n4_ : Aside0 (w91.heap[gb222]? = some (.cells #[.int .i64 (l0.length : Int), .int .i64 a1, .int .i64 a2, .int .i64 t220, .int .i64 t221, .int .i64 t227] 74 (0, 0))) := ⟨h4_⟩
    have n5_ : Aside0 (Below w.heap.size w w91) := ⟨h5_⟩
    clear HO226; clear BK219; clear BK222; clear HB; clear h0_ h1_ h2_ h3_ h4_ h5_; have HO226 := n0_; have HO230 := n1_; have HO233 := n2_; have BK219 := n3_; have BK222 := n4_; have HB := n5_; clear n0_ n1_ n2_ n3_ n4_ n5_
    have hHeld : w91.cell? ⟨gb222, 0, none⟩ = some (.int .i64 (l0.length : Int)) ∧ w91.cell? ⟨gb222, 1, none⟩ = some (.int .i64 a1) ∧ w91.cell? ⟨gb222, 2, none⟩ = some (.int .i64 a2) ∧ w91.cell? ⟨gb222, 3, none⟩ = some (.int .i64 t220) ∧ w91.cell? ⟨gb222, 4, none⟩ = some (.int .i64 t221) ∧ w91.cell? ⟨gb222, 5, none⟩ = some (.int .i64 t227) := hS_
    obtain ⟨Ao93, co93, eo93⟩ := Kd.R_slice HO233.out
    (first | subst eo93 | (injection eo93 with f1_ f2_ f3_; have f4_ := f1_.symm; have f5_ := f3_.symm; clear f1_ f2_ f3_; subst f4_; subst f5_))
    refine norm_ (a' := ?_) ?_ ?_
    rotate_left
    ·simp only [putAll, Act.put, List.setIfInBounds_toArray, List.set_cons_zero, List.set_cons_succ]; rfl
    refine one_ (i := 4) (N := some 31) (Cmp.bm 5 1) rfl rfl (by kernel_rfl) (by decide) (fun K hK => ?_)
    refine Kd.R_append_rows_step k74 (w0 := w) w.heap.size (by rfl) (.tmp 28) (.tmp 30) 24 74 (.agg #[(.int .i64 0), (.int .i64 0), (.int .i64 0), (.int .i64 0), (.int .i64 0), (.int .i64 0)]) 48 rfl Try.underlying24 info74 rfl (by decide) (by omega) v229 t228 y231 _ _ _ (fun k_ => some k_ ≠ (.slice Ao93 y231.length co93 : Value).ownBlock ∧ k_ ≠ gb222) (fun _ => False) rfl rfl ?aO ?aR (fun _ _ h => h) (fun _ h => h.elim) ?aF ?aB ?aS ?aL ?_
    (case aR => repeat (first | exact (Kd.R_reads' HO233.out).2.2 | (with_reducible refine Kd.C_alloc ?_ _) | (with_reducible refine Kd.C_drewN ?_ _) | (with_reducible refine Kd.C_drew ?_)))
    (case aB => exact (Cmp.g HB.out))
    (case aF => exact (fun k_ hk => ⟨Kd.fresh' (Kd.R_lt (Cmp.rr HO233.out)) k_ hk, Kd.freshB (g := gb222) (o := .cells #[.int .i64 (l0.length : Int), .int .i64 a1, .int .i64 a2, .int .i64 t220, .int .i64 t221, .int .i64 t227] 74 (0, 0)) (Cmp.b BK222.out) k_ hk⟩))
    (case aO => exact (Cmp.rr HO230.out))
    (case aS => exact (below_size (Cmp.g HB.out)))
    (case aL => have := LMc10.out; omega)
    intro v235 w92 ho hb hg hat
    rw [← Ny234.out] at ho
    have n0_ := Aside0.mk (blk_grown (g := gb219) (o := .cells #[.int .i64 a3_0, .int .i64 a3_1, .int .i64 a3_2, .int .i64 a3_3] 26 (0, 0)) (Cmp.b BK219.out) hg (Kd.R_ne HO230.out BK219.out (by decide)))
    have n1_ := Aside0.mk (blk_grown (g := gb222) (o := .cells #[.int .i64 (l0.length : Int), .int .i64 a1, .int .i64 a2, .int .i64 t220, .int .i64 t221, .int .i64 t227] 74 (0, 0)) (Cmp.b BK222.out) hg (Kd.R_away HO230.out (fun _ hk => hk.2)))
    have n2_ := Aside0.mk (Kd.R_over' (Cmp.rr HO226.out) (Kd.R_typed (Cmp.rr HO230.out)) (by decide) hg)
    have n3_ := Aside0.mk (Kd.R_after (ok := (fun k_ => k_ ≠ gb222)) (by (with_reducible repeat (first | apply Kd.R_alloc | apply Kd.R_drewN | apply Kd.R_drew)); exact Kd.R_mono HO233.out (fun _ hk => ⟨hk.2, hk.1⟩)) hg hat)
    have n4_ := Aside0.mk (hb)
    have n5_ := Aside0.mk (ho)
    clear BK219; clear BK222; clear HO226; clear HO233; clear HB; clear HO230; have BK219 := n0_; have BK222 := n1_; have HO226 := n2_; have HO233 := n3_; have HB := n4_; have HO236 := n5_; clear n0_ n1_ n2_ n3_ n4_ n5_; clear ho hb hg hat
    refine hK.out _ _ ⟨(blk_cell BK222.out 0).trans rfl, (blk_cell BK222.out 1).trans rfl, (blk_cell BK222.out 2).trans rfl, (blk_cell BK222.out 3).trans rfl, (blk_cell BK222.out 4).trans rfl, (blk_cell BK222.out 5).trans rfl⟩ (fun hHeld => ?_)
    clear hK K
    refine norm_ (a' := ?_) ?_ ?_
    rotate_left
    ·show Act.put _ (some 31) _ = _
     simp only [Act.put, Cmp.s, Cmp.z, Cmp.c, i64_w, i32_w]; rfl
    refine pure_ (i := 5) (N := some 11) (v := ?_) (a' := ?_) (Cmp.bm 6 0) rfl rfl (by kernel_rfl) (fun _ _ _ h => h) (Or.inl ⟨by rfl, ?_⟩) ?_ ?_
    rotate_left
    ·intro w'; go_simp; with_reducible rfl
    rotate_left
    ·simp only [Act.put, Cmp.s, Cmp.z, Cmp.c, i64_w, i32_w]; rfl
    refine done_ (by kernel_rfl) ?_
    try go_wp2_with (first | (go_at_call 53; (with_reducible refine (spec_VerifyLog.calls k _ _ l0 false _ ?side1 ?side2 A12.out).mono ?_); (case side1 => exact Cmp.rc (Kd.C_below HR0.out HB.out)); (case side2 => exact HC0.out); rintro e w94 ⟨rfl, hb⟩; have n0_ := Aside0.mk (Kd.R_below (Cmp.rr HO226.out) hb); have n1_ := Aside0.mk (Kd.R_below (Cmp.rr HO233.out) hb); have n2_ := Aside0.mk (Kd.R_below (Cmp.rr HO236.out) hb); have n3_ := Aside0.mk (blk_below (Cmp.b BK219.out) hb); have n4_ := Aside0.mk (blk_below (Cmp.b BK222.out) hb); have n5_ := Aside0.mk (below_step (Cmp.g HB.out) hb); clear HO226; clear HO233; clear HO236; clear BK219; clear BK222; clear HB; have HO226 := n0_; have HO233 := n1_; have HO236 := n2_; have BK219 := n3_; have BK222 := n4_; have HB := n5_; clear n0_ n1_ n2_ n3_ n4_ n5_; (try clear hb); (try clear hb2); (try clear hk); (try clear hi)) | ((with_reducible refine gate_callee (f := 52) rfl ?_); refine goesL_ (some 46) rfl rfl Try.func52 (by kernel_rfl) rfl #[.slice A0 l0.length c0] rfl Cmp.q ?_; (with_reducible refine (spec_l19Copy.calls _ _ l0 t242 _ ?side1 ?side2 A70.out).mono ?_); (case side1 => exact Cmp.rc (Kd.C_below HR0.out HB.out)); (case side2 => exact HC0.out); rintro e w95 ⟨v243, rfl, ho0, hb⟩; refine ⟨_, rfl, ?_⟩; have n0_ := Aside0.mk (Kd.R_below (Cmp.rr HO226.out) hb); have n1_ := Aside0.mk (Kd.R_elder' (Cmp.rr HO233.out) (Kd.R_base ho0) hb); have n2_ := Aside0.mk (Kd.R_elder' (Cmp.rr HO236.out) (Kd.R_base ho0) hb); have n3_ := Aside0.mk (Kd.R_lower (Kd.R_newB (Kd.R_new' (Kd.R_new' ho0 (Kd.R_lt (Cmp.rr HO233.out))) (Kd.R_lt (Cmp.rr HO236.out))) (g := gb222) (o := .cells #[.int .i64 (l0.length : Int), .int .i64 a1, .int .i64 a2, .int .i64 t220, .int .i64 t221, .int .i64 t227] 74 (0, 0)) (Cmp.b BK222.out)) (below_size (Cmp.g HB.out))); have n4_ := Aside0.mk (blk_below (Cmp.b BK219.out) hb); have n5_ := Aside0.mk (blk_below (Cmp.b BK222.out) hb); have n6_ := Aside0.mk (below_step (Cmp.g HB.out) hb); clear HO226; clear HO233; clear HO236; clear BK219; clear BK222; clear HB; have HO226 := n0_; have HO233 := n1_; have HO236 := n2_; have HO244 := n3_; have BK219 := n4_; have BK222 := n5_; have HB := n6_; clear n0_ n1_ n2_ n3_ n4_ n5_ n6_; (try clear hb); (try clear hb2); (try clear hk); (try clear hi); (try clear ho0)))
    go_ret2
    exact ⟨_, by first | rfl | (simp [errW_none, errW_some] <;> rfl) | (simp [*, errW_none, errW_some] <;> rfl), by (with_reducible repeat (first | apply Kd.R_alloc | apply Kd.R_drewN | apply Kd.R_drew)); exact Kd.R_mono HO244.out (fun _ hk => trivial), Cmp.g HB.out⟩
  ·rw [if_neg c11] at H
   have c11b0 : decide (0 < (l0.length : Int)) = false := decide_eq_false c11
   have c11b1 : decide (0 < l0.length) = false := decide_eq_false (by omega)
   clear c11; replace H := Option.bind_eq_some_iff.mp H; obtain ⟨t245, A960, H⟩ := H; (try dsimp only at H); have A96 := Aside0.mk A960; clear A960
   by_cases c97 : t245 = true
   ·subst c97; rw [if_pos rfl] at H
    simp only [Option.some.injEq, Prod.mk.injEq] at H
    obtain ⟨rfl, rfl⟩ := H
    go_enter Try.func10, Try.ntmps10
    try go_wp2_with (first | ((with_reducible refine gate_dst (N := 7) rfl ?_); refine box_event ?hg (N := 7) ?hd (cs := #[.int .i64 a3_0, .int .i64 a3_1, .int .i64 a3_2, .int .i64 a3_3]) (t := 26) ?hr ?_; (case hd => rfl); (case hg => rfl); (case hr => first | (go_simp; done) | (go_simp; rfl)); intro gb219 hg w98 hbox hb; have n0_ := Aside0.mk (below_step (Cmp.g HB.out) hb); have n1_ := Aside0.mk (hbox); have n2_ := Aside0.mk ((by rw [hg]; exact (below_size (Cmp.g HB.out)) : w.heap.size ≤ gb219)); have n3_ := Aside0.mk ((by rw [hg]; exact (below_size (Cmp.g HB.out)) : w.heap.size ≤ gb219)); clear HB; have HB := n0_; have BK219 := n1_; have GW219 := n2_; have GE219 := n3_; clear n0_ n1_ n2_ n3_; clear hb hbox hg; have hcz99_0 : w98.cell? ⟨gb219, 0, none⟩ = some (.int .i64 a3_0) := (blk_cell BK219.out 0).trans rfl; have hcz99_1 : w98.cell? ⟨gb219, 1, none⟩ = some (.int .i64 a3_1) := (blk_cell BK219.out 1).trans rfl; have hcz99_2 : w98.cell? ⟨gb219, 2, none⟩ = some (.int .i64 a3_2) := (blk_cell BK219.out 2).trans rfl; have hcz99_3 : w98.cell? ⟨gb219, 3, none⟩ = some (.int .i64 a3_3) := (blk_cell BK219.out 3).trans rfl; have hfz99_0 := blk_frozen BK219.out 0; have hfz99_1 := blk_frozen BK219.out 1; have hfz99_2 := blk_frozen BK219.out 2; have hfz99_3 := blk_frozen BK219.out 3) | ((with_reducible refine gate_callee (f := 40) rfl ?_); refine goesL_ (some 17) rfl rfl Try.func40 (by kernel_rfl) rfl #[.agg #[.int .i64 a3_0, .int .i64 a3_1, .int .i64 a3_2, .int .i64 a3_3]] rfl Cmp.q ?_; (with_reducible refine (spec_DevicePublic.calls k a3_0 a3_1 a3_2 a3_3 t220 _ A5.out).mono ?_); rintro e w100 ⟨rfl, hb⟩; refine ⟨_, rfl, ?_⟩; have n0_ := Aside0.mk (blk_below (Cmp.b BK219.out) hb); have n1_ := Aside0.mk (below_step (Cmp.g HB.out) hb); clear BK219; clear HB; have BK219 := n0_; have HB := n1_; clear n0_ n1_; (try clear hb); (try clear hb2); (try clear hk); (try clear hi)) | ((with_reducible refine gate_callee (f := 49) rfl ?_); refine goesL_ (some 19) rfl rfl Try.func49 (by kernel_rfl) rfl #[.slice A0 l0.length c0] rfl Cmp.q ?_; (with_reducible refine (spec_LogHead.calls k _ _ l0 t221 _ ?side1 ?side2 A6.out).mono ?_); (case side1 => exact Cmp.rc (Kd.C_below HR0.out HB.out)); (case side2 => exact HC0.out); rintro e w101 ⟨rfl, hb⟩; refine ⟨_, rfl, ?_⟩; have n0_ := Aside0.mk (blk_below (Cmp.b BK219.out) hb); have n1_ := Aside0.mk (below_step (Cmp.g HB.out) hb); clear BK219; clear HB; have BK219 := n0_; have HB := n1_; clear n0_ n1_; (try clear hb); (try clear hb2); (try clear hk); (try clear hi)) | ((with_reducible refine gate_dst (N := 10) rfl ?_); refine box_event ?hg (N := 10) ?hd (cs := #[.int .i64 0, .int .i64 0, .int .i64 0, .int .i64 0, .int .i64 0, .int .i64 0]) (t := 74) ?hr ?_; (case hd => rfl); (case hg => rfl); (case hr => first | (go_simp; done) | (go_simp; rfl)); intro gb222 hg w102 hbox hb; have n0_ := Aside0.mk (blk_below (Cmp.b BK219.out) hb); have n1_ := Aside0.mk (below_step (Cmp.g HB.out) hb); have n2_ := Aside0.mk (hbox); have n3_ := Aside0.mk ((by rw [hg]; exact (below_size (Cmp.g HB.out)) : w.heap.size ≤ gb222)); have n4_ := Aside0.mk ((by rw [hg]; exact (below_size (Cmp.g HB.out)) : w.heap.size ≤ gb222)); have n5_ := Aside0.mk ((by rw [hg]; exact Nat.ne_of_lt (blk_lt (Cmp.b BK219.out)) : gb219 ≠ gb222)); have n6_ := Aside0.mk ((by rw [hg]; exact Nat.ne_of_gt (blk_lt (Cmp.b BK219.out)) : gb222 ≠ gb219)); clear BK219; clear HB; have BK219 := n0_; have HB := n1_; have BK222 := n2_; have GW222 := n3_; have GE222 := n4_; have NB219_222 := n5_; have NB222_219 := n6_; clear n0_ n1_ n2_ n3_ n4_ n5_ n6_; clear hb hbox hg; have hnb103 := NB222_219.out; have hnc103 := NB219_222.out; have hcz104_0 : w102.cell? ⟨gb222, 0, none⟩ = some (.int .i64 0) := (blk_cell BK222.out 0).trans rfl; have hcz104_1 : w102.cell? ⟨gb222, 1, none⟩ = some (.int .i64 0) := (blk_cell BK222.out 1).trans rfl; have hcz104_2 : w102.cell? ⟨gb222, 2, none⟩ = some (.int .i64 0) := (blk_cell BK222.out 2).trans rfl; have hcz104_3 : w102.cell? ⟨gb222, 3, none⟩ = some (.int .i64 0) := (blk_cell BK222.out 3).trans rfl; have hcz104_4 : w102.cell? ⟨gb222, 4, none⟩ = some (.int .i64 0) := (blk_cell BK222.out 4).trans rfl; have hcz104_5 : w102.cell? ⟨gb222, 5, none⟩ = some (.int .i64 0) := (blk_cell BK222.out 5).trans rfl; have hfz104_0 := blk_frozen BK222.out 0; have hfz104_1 := blk_frozen BK222.out 1; have hfz104_2 := blk_frozen BK222.out 2; have hfz104_3 := blk_frozen BK222.out 3; have hfz104_4 := blk_frozen BK222.out 4; have hfz104_5 := blk_frozen BK222.out 5))
    have n0_ : Aside0 (((((((w102.setCell ⟨gb222, 0, none⟩ (.int .i64 (l0.length : Int))).setCell ⟨gb222, 1, none⟩ (.int .i64 a1)).setCell ⟨gb222, 2, none⟩ (.int .i64 a2)).setCell ⟨gb222, 3, none⟩ (.int .i64 t220)).setCell ⟨gb222, 4, none⟩ (.int .i64 t221)).setCell ⟨gb222, 5, none⟩ (.int .i64 0)).heap[gb219]? = some (.cells #[.int .i64 a3_0, .int .i64 a3_1, .int .i64 a3_2, .int .i64 a3_3] 26 (0, 0))) := ⟨by (with_reducible repeat (first | refine blk_drewN ?_ _ | refine blk_drew ?_ | refine blk_alloc ?_ _)); refine blk_far ?_ NB219_222.out _; (with_reducible repeat (first | refine blk_drewN ?_ _ | refine blk_drew ?_ | refine blk_alloc ?_ _)); refine blk_far ?_ NB219_222.out _; (with_reducible repeat (first | refine blk_drewN ?_ _ | refine blk_drew ?_ | refine blk_alloc ?_ _)); refine blk_far ?_ NB219_222.out _; (with_reducible repeat (first | refine blk_drewN ?_ _ | refine blk_drew ?_ | refine blk_alloc ?_ _)); refine blk_far ?_ NB219_222.out _; (with_reducible repeat (first | refine blk_drewN ?_ _ | refine blk_drew ?_ | refine blk_alloc ?_ _)); refine blk_far ?_ NB219_222.out _; (with_reducible repeat (first | refine blk_drewN ?_ _ | refine blk_drew ?_ | refine blk_alloc ?_ _)); refine blk_far ?_ NB219_222.out _; (with_reducible repeat (first | refine blk_drewN ?_ _ | refine blk_drew ?_ | refine blk_alloc ?_ _)); exact BK219.out⟩
    have n1_ : Aside0 (((((((w102.setCell ⟨gb222, 0, none⟩ (.int .i64 (l0.length : Int))).setCell ⟨gb222, 1, none⟩ (.int .i64 a1)).setCell ⟨gb222, 2, none⟩ (.int .i64 a2)).setCell ⟨gb222, 3, none⟩ (.int .i64 t220)).setCell ⟨gb222, 4, none⟩ (.int .i64 t221)).setCell ⟨gb222, 5, none⟩ (.int .i64 0)).heap[gb222]? = some (.cells #[.int .i64 (l0.length : Int), .int .i64 a1, .int .i64 a2, .int .i64 t220, .int .i64 t221, .int .i64 0] 74 (0, 0))) := ⟨by (with_reducible repeat (first | refine blk_drewN ?_ _ | refine blk_drew ?_ | refine blk_alloc ?_ _)); refine blk_put (cs := #[.int .i64 (l0.length : Int), .int .i64 a1, .int .i64 a2, .int .i64 t220, .int .i64 t221, .int .i64 0]) ?_ 5 _ rfl; (with_reducible repeat (first | refine blk_drewN ?_ _ | refine blk_drew ?_ | refine blk_alloc ?_ _)); refine blk_put (cs := #[.int .i64 (l0.length : Int), .int .i64 a1, .int .i64 a2, .int .i64 t220, .int .i64 0, .int .i64 0]) ?_ 4 _ rfl; (with_reducible repeat (first | refine blk_drewN ?_ _ | refine blk_drew ?_ | refine blk_alloc ?_ _)); refine blk_put (cs := #[.int .i64 (l0.length : Int), .int .i64 a1, .int .i64 a2, .int .i64 0, .int .i64 0, .int .i64 0]) ?_ 3 _ rfl; (with_reducible repeat (first | refine blk_drewN ?_ _ | refine blk_drew ?_ | refine blk_alloc ?_ _)); refine blk_put (cs := #[.int .i64 (l0.length : Int), .int .i64 a1, .int .i64 0, .int .i64 0, .int .i64 0, .int .i64 0]) ?_ 2 _ rfl; (with_reducible repeat (first | refine blk_drewN ?_ _ | refine blk_drew ?_ | refine blk_alloc ?_ _)); refine blk_put (cs := #[.int .i64 (l0.length : Int), .int .i64 0, .int .i64 0, .int .i64 0, .int .i64 0, .int .i64 0]) ?_ 1 _ rfl; (with_reducible repeat (first | refine blk_drewN ?_ _ | refine blk_drew ?_ | refine blk_alloc ?_ _)); refine blk_put (cs := #[.int .i64 0, .int .i64 0, .int .i64 0, .int .i64 0, .int .i64 0, .int .i64 0]) ?_ 0 _ rfl; (with_reducible repeat (first | refine blk_drewN ?_ _ | refine blk_drew ?_ | refine blk_alloc ?_ _)); exact BK222.out⟩
    have n2_ : Aside0 (Below w.heap.size w ((((((w102.setCell ⟨gb222, 0, none⟩ (.int .i64 (l0.length : Int))).setCell ⟨gb222, 1, none⟩ (.int .i64 a1)).setCell ⟨gb222, 2, none⟩ (.int .i64 a2)).setCell ⟨gb222, 3, none⟩ (.int .i64 t220)).setCell ⟨gb222, 4, none⟩ (.int .i64 t221)).setCell ⟨gb222, 5, none⟩ (.int .i64 0))) := ⟨Cmp.g HB.out⟩
    (try clear BK219); (try clear BK222); (try clear HB)
    generalize ((((((w102.setCell ⟨gb222, 0, none⟩ (.int .i64 (l0.length : Int))).setCell ⟨gb222, 1, none⟩ (.int .i64 a1)).setCell ⟨gb222, 2, none⟩ (.int .i64 a2)).setCell ⟨gb222, 3, none⟩ (.int .i64 t220)).setCell ⟨gb222, 4, none⟩ (.int .i64 t221)).setCell ⟨gb222, 5, none⟩ (.int .i64 0)) = w105 at n0_ n1_ n2_ ⊢
    have BK219 := n0_; have BK222 := n1_; have HB := n2_; clear n0_ n1_ n2_; have n0_ := Aside0.mk (blk_drew BK219.out); have n1_ := Aside0.mk (blk_drew BK222.out); have n2_ := Aside0.mk (below_drew1 HB.out); clear BK219; clear BK222; clear HB; have BK219 := n0_; have BK222 := n1_; have HB := n2_; clear n0_ n1_ n2_
    refine start_ (n := 7) (S := fun w' => w'.cell? ⟨gb219, 0, none⟩ = some (.int .i64 a3_0) ∧ w'.cell? ⟨gb219, 1, none⟩ = some (.int .i64 a3_1) ∧ w'.cell? ⟨gb219, 2, none⟩ = some (.int .i64 a3_2) ∧ w'.cell? ⟨gb219, 3, none⟩ = some (.int .i64 a3_3) ∧ w'.cell? ⟨gb222, 0, none⟩ = some (.int .i64 (l0.length : Int)) ∧ w'.cell? ⟨gb222, 1, none⟩ = some (.int .i64 a1) ∧ w'.cell? ⟨gb222, 2, none⟩ = some (.int .i64 a2) ∧ w'.cell? ⟨gb222, 3, none⟩ = some (.int .i64 t220) ∧ w'.cell? ⟨gb222, 4, none⟩ = some (.int .i64 t221) ∧ w'.cell? ⟨gb222, 5, none⟩ = some (.int .i64 0)) (ds := [6]) (Cmp.bm 0 7) (by kernel_rfl) rfl rfl ⟨(blk_cell BK219.out 0).trans rfl, (blk_cell BK219.out 1).trans rfl, (blk_cell BK219.out 2).trans rfl, (blk_cell BK219.out 3).trans rfl, (blk_cell BK222.out 0).trans rfl, (blk_cell BK222.out 1).trans rfl, (blk_cell BK222.out 2).trans rfl, (blk_cell BK222.out 3).trans rfl, (blk_cell BK222.out 4).trans rfl, (blk_cell BK222.out 5).trans rfl⟩ (fun hHeld => ?_)
    generalize w105.drew = w106 at BK219 BK222 HB hHeld ⊢
    refine take_ (i := 0) (N := some 21) (v := ?_) (a' := ?_) (Cmp.bm 1 6) rfl rfl (by kernel_rfl) (fun _ _ _ h => h) (Or.inl ⟨by rfl, ?_⟩) hHeld ?_ ?_
    rotate_left
    ·rintro w' ⟨s0, s1, s2, s3, s4, s5, s6, s7, s8, s9⟩; go_simp; with_reducible rfl
    rotate_left
    ·simp only [Act.put, Cmp.s, Cmp.z, Cmp.c, i64_w, i32_w]; rfl
    refine take_ (i := 1) (N := some 22) (v := ?_) (a' := ?_) (Cmp.bm 2 5) rfl rfl (by kernel_rfl) (fun _ _ _ h => h) (Or.inl ⟨by rfl, ?_⟩) hHeld ?_ ?_
    rotate_left
    ·rintro w' ⟨s0, s1, s2, s3, s4, s5, s6, s7, s8, s9⟩; go_simp; with_reducible rfl
    rotate_left
    ·simp only [Act.put, Cmp.s, Cmp.z, Cmp.c, i64_w, i32_w]; rfl
    refine one_ (i := 2) (N := some 23) (Cmp.bm 3 4) rfl rfl (by kernel_rfl) (by decide) (fun K hK => ?_)
    refine goes_ Try.func51 (by kernel_rfl) rfl #[.agg #[.int .i64 (l0.length : Int), .int .i64 a1, .int .i64 a2, .int .i64 t220, .int .i64 t221, .int .i64 0]] (by rfl) rfl rfl Cmp.q ?_
    with_reducible refine (spec_EntryHash.calls k (l0.length : Int) a1 a2 t220 t221 0 t223 _ A7.out).mono ?_
    rintro e w107 ⟨rfl, hb⟩; refine ⟨_, rfl, ?_⟩
    have n0_ := Aside0.mk (blk_below (Cmp.b BK219.out) hb)
    have n1_ := Aside0.mk (blk_below (Cmp.b BK222.out) hb)
    have n2_ := Aside0.mk (below_step (Cmp.g HB.out) hb)
    clear BK219; clear BK222; clear HB; have BK219 := n0_; have BK222 := n1_; have HB := n2_; clear n0_ n1_ n2_; (try clear hb); (try clear hb2); (try clear hk); (try clear hi)
    refine hK.out _ _ ⟨(blk_cell BK219.out 0).trans rfl, (blk_cell BK219.out 1).trans rfl, (blk_cell BK219.out 2).trans rfl, (blk_cell BK219.out 3).trans rfl, (blk_cell BK222.out 0).trans rfl, (blk_cell BK222.out 1).trans rfl, (blk_cell BK222.out 2).trans rfl, (blk_cell BK222.out 3).trans rfl, (blk_cell BK222.out 4).trans rfl, (blk_cell BK222.out 5).trans rfl⟩ (fun hHeld => ?_)
    clear hK K
    refine norm_ (a' := ?_) ?_ ?_
    rotate_left
    ·show Act.put _ (some 23) _ = _
     simp only [Act.put, Cmp.s, Cmp.z, Cmp.c, i64_w, i32_w]; rfl
    refine one_ (i := 3) (N := some 24) (Cmp.bm 4 3) rfl rfl (by kernel_rfl) (by decide) (fun K hK => ?_)
    refine Kd.R_lit_step (Kd.int .i64) _ 3 ?hg (N := 24) ?hd (xs := ([t223] : List Int)) (inner := [.int .i64 t223]) (ok := fun _ => True) (okp := fun _ => True) ?hr ?hp (fun _ hk => hk) trivial (Below.refl _ _) (Nat.le_refl _) (by simp) ?_; (case hd => rfl); (case hg => rfl); (case hr => first | (go_simp; done) | (go_simp; rfl)); (case hp => exact (Reps.one (show Kd.M (Kd.int .i64) _ _ _ t223 [.int .i64 t223] from rfl) (Reps.none _ _)))
    intro v225 w108 ho109 hb hg_ hnew_
    clear hg_ hnew_
    (first | rw [← Ny224.out] at ho109 | (simp only [Int.reduceToNat] at ho109; rw [← Ny224.out] at ho109))
    have n0_ := Aside0.mk (Kd.R_lower ho109 (below_size (Cmp.g HB.out)))
    have n1_ := Aside0.mk (blk_below (Cmp.b BK219.out) hb)
    have n2_ := Aside0.mk (blk_below (Cmp.b BK222.out) hb)
    have n3_ := Aside0.mk (below_step (Cmp.g HB.out) hb)
    clear BK219; clear BK222; clear HB; have HO226 := n0_; have BK219 := n1_; have BK222 := n2_; have HB := n3_; clear n0_ n1_ n2_ n3_; clear hb ho109
    obtain ⟨Ao110, co110, eo110⟩ := Kd.R_slice HO226.out
    (first | subst eo110 | (injection eo110 with f1_ f2_ f3_; have f4_ := f1_.symm; have f5_ := f3_.symm; clear f1_ f2_ f3_; subst f4_; subst f5_))
    refine hK.out _ _ ⟨(blk_cell BK219.out 0).trans rfl, (blk_cell BK219.out 1).trans rfl, (blk_cell BK219.out 2).trans rfl, (blk_cell BK219.out 3).trans rfl, (blk_cell BK222.out 0).trans rfl, (blk_cell BK222.out 1).trans rfl, (blk_cell BK222.out 2).trans rfl, (blk_cell BK222.out 3).trans rfl, (blk_cell BK222.out 4).trans rfl, (blk_cell BK222.out 5).trans rfl⟩ (fun hHeld => ?_)
    clear hK K
    refine norm_ (a' := ?_) ?_ ?_
    rotate_left
    ·show Act.put _ (some 24) _ = _
     simp only [Act.put, Cmp.s, Cmp.z, Cmp.c, i64_w, i32_w]; rfl
    refine one_ (i := 4) (N := some 25) (Cmp.bm 5 2) rfl rfl (by kernel_rfl) (by decide) (fun K hK => ?_)
    refine goes_ Try.func50 (by kernel_rfl) rfl #[.agg #[.int .i64 a3_0, .int .i64 a3_1, .int .i64 a3_2, .int .i64 a3_3], .slice Ao110 y224.length co110] (by rfl) rfl rfl Cmp.q ?_
    with_reducible refine (spec_SignAsDevice.calls k a3_0 a3_1 a3_2 a3_3 _ _ y224 t227 _ ?side1 ?side2 A8.out).mono ?_
    (case side1 => exact Cmp.rc (Kd.R_reads' HO226.out).2.2)
    (case side2 => exact (Kd.R_reads' HO226.out).2.1)
    rintro e w111 ⟨rfl, hb⟩; refine ⟨_, rfl, ?_⟩
    have n0_ := Aside0.mk (Kd.R_below (Cmp.rr HO226.out) hb)
    have n1_ := Aside0.mk (blk_below (Cmp.b BK219.out) hb)
    have n2_ := Aside0.mk (blk_below (Cmp.b BK222.out) hb)
    have n3_ := Aside0.mk (below_step (Cmp.g HB.out) hb)
    clear HO226; clear BK219; clear BK222; clear HB; have HO226 := n0_; have BK219 := n1_; have BK222 := n2_; have HB := n3_; clear n0_ n1_ n2_ n3_; (try clear hb); (try clear hb2); (try clear hk); (try clear hi)
    refine hK.out _ _ ⟨(blk_cell BK219.out 0).trans rfl, (blk_cell BK219.out 1).trans rfl, (blk_cell BK219.out 2).trans rfl, (blk_cell BK219.out 3).trans rfl, (blk_cell BK222.out 0).trans rfl, (blk_cell BK222.out 1).trans rfl, (blk_cell BK222.out 2).trans rfl, (blk_cell BK222.out 3).trans rfl, (blk_cell BK222.out 4).trans rfl, (blk_cell BK222.out 5).trans rfl⟩ (fun hHeld => ?_)
    clear hK K
    refine norm_ (a' := ?_) ?_ ?_
    rotate_left
    ·show Act.put _ (some 25) _ = _
     simp only [Act.put, Cmp.s, Cmp.z, Cmp.c, i64_w, i32_w]; rfl
    refine pure_ (i := 5) (N := some 26) (v := ?_) (a' := ?_) (Cmp.bm 6 1) rfl rfl (by kernel_rfl) (fun _ _ _ h => h) (Or.inl ⟨by rfl, ?_⟩) ?_ ?_
    rotate_left
    ·intro w'; go_simp; with_reducible rfl
    rotate_left
    ·simp only [Act.put, Cmp.s, Cmp.z, Cmp.c, i64_w, i32_w]; rfl
    refine last_ (i := 6) (N := none) (Cmp.bm 7 0) rfl rfl (by kernel_rfl) (by decide) (fun K hK => ?_)
    have hs112 : w111.cell? ⟨gb222, 5, none⟩ = some (.int .i64 0) := (blk_cell BK222.out 5).trans rfl
    have hfs112 := blk_frozen BK222.out 5; have hns112_0 := NB219_222.out; have hms112_0 := NB222_219.out
    refine skip_ (w1 := ?_) (by rfl) rfl ?_ ?_
    rotate_left
    ·go_simp; rfl
    refine hK.out _ _ ?_
    clear hK K
    refine done_ (by kernel_rfl) ?_
    try go_wp2
    have n0_ : Aside0 (Kd.R (Kd.int .i64) 3 (w111.setCell ⟨gb222, 5, none⟩ (.int .i64 t227)) w.heap.size (fun _ => True) (.slice Ao110 y224.length co110) y224) := ⟨by (with_reducible repeat (first | apply Kd.R_alloc | apply Kd.R_drewN | apply Kd.R_drew)); exact Kd.R_mono (Kd.R_far (p := ⟨gb222, 5, none⟩) (Kd.R_types HO226.out BK222.out (by decide)) (fun _ hk => hk.2) (.int .i64 t227)) (fun _ hk => trivial)⟩
    have n1_ : Aside0 ((w111.setCell ⟨gb222, 5, none⟩ (.int .i64 t227)).heap[gb219]? = some (.cells #[.int .i64 a3_0, .int .i64 a3_1, .int .i64 a3_2, .int .i64 a3_3] 26 (0, 0))) := ⟨by (with_reducible repeat (first | refine blk_drewN ?_ _ | refine blk_drew ?_ | refine blk_alloc ?_ _)); refine blk_far ?_ NB219_222.out _; (with_reducible repeat (first | refine blk_drewN ?_ _ | refine blk_drew ?_ | refine blk_alloc ?_ _)); exact BK219.out⟩
    have n2_ : Aside0 ((w111.setCell ⟨gb222, 5, none⟩ (.int .i64 t227)).heap[gb222]? = some (.cells #[.int .i64 (l0.length : Int), .int .i64 a1, .int .i64 a2, .int .i64 t220, .int .i64 t221, .int .i64 t227] 74 (0, 0))) := ⟨by (with_reducible repeat (first | refine blk_drewN ?_ _ | refine blk_drew ?_ | refine blk_alloc ?_ _)); refine blk_put (cs := #[.int .i64 (l0.length : Int), .int .i64 a1, .int .i64 a2, .int .i64 t220, .int .i64 t221, .int .i64 0]) ?_ 5 _ rfl; (with_reducible repeat (first | refine blk_drewN ?_ _ | refine blk_drew ?_ | refine blk_alloc ?_ _)); exact BK222.out⟩
    have n3_ : Aside0 (Below w.heap.size w (w111.setCell ⟨gb222, 5, none⟩ (.int .i64 t227))) := ⟨Cmp.g HB.out⟩
    (try clear HO226); (try clear BK219); (try clear BK222); (try clear HB)
    generalize (w111.setCell ⟨gb222, 5, none⟩ (.int .i64 t227)) = w113 at n0_ n1_ n2_ n3_ ⊢
    have HO226 := n0_; have BK219 := n1_; have BK222 := n2_; have HB := n3_; clear n0_ n1_ n2_ n3_; have n0_ := Aside0.mk (Kd.R_drew HO226.out); have n1_ := Aside0.mk (blk_drew BK219.out); have n2_ := Aside0.mk (blk_drew BK222.out); have n3_ := Aside0.mk (below_drew1 HB.out); clear HO226; clear BK219; clear BK222; clear HB; have HO226 := n0_; have BK219 := n1_; have BK222 := n2_; have HB := n3_; clear n0_ n1_ n2_ n3_
    refine start_ (n := 6) (S := fun w' => w'.cell? ⟨gb222, 0, none⟩ = some (.int .i64 (l0.length : Int)) ∧ w'.cell? ⟨gb222, 1, none⟩ = some (.int .i64 a1) ∧ w'.cell? ⟨gb222, 2, none⟩ = some (.int .i64 a2) ∧ w'.cell? ⟨gb222, 3, none⟩ = some (.int .i64 t220) ∧ w'.cell? ⟨gb222, 4, none⟩ = some (.int .i64 t221) ∧ w'.cell? ⟨gb222, 5, none⟩ = some (.int .i64 t227)) (ds := []) (Cmp.bm 0 6) (by kernel_rfl) rfl rfl ⟨(blk_cell BK222.out 0).trans rfl, (blk_cell BK222.out 1).trans rfl, (blk_cell BK222.out 2).trans rfl, (blk_cell BK222.out 3).trans rfl, (blk_cell BK222.out 4).trans rfl, (blk_cell BK222.out 5).trans rfl⟩ (fun hHeld => ?_)
    generalize w113.drew = w114 at HO226 BK219 BK222 HB hHeld ⊢
    refine pure_ (i := 0) (N := some 27) (v := ?_) (a' := ?_) (Cmp.bm 1 5) rfl rfl (by kernel_rfl) (fun _ _ _ h => h) (Or.inl ⟨by rfl, ?_⟩) ?_ ?_
    rotate_left
    ·intro w'; go_simp; with_reducible rfl
    rotate_left
    ·simp only [Act.put, Cmp.s, Cmp.z, Cmp.c, i64_w, i32_w]; rfl
    refine take_ (i := 2) (N := some 29) (v := ?_) (a' := ?_) (Cmp.bb 6 5) rfl rfl (by kernel_rfl) (fun _ _ _ h => h) (Or.inl ⟨by rfl, ?_⟩) hHeld ?_ ?_
    rotate_left
    ·rintro w' ⟨s0, s1, s2, s3, s4, s5⟩; go_simp; with_reducible rfl
    rotate_left
    ·simp only [Act.put, Cmp.s, Cmp.z, Cmp.c, i64_w, i32_w]; rfl
    refine join_ (σ := Value × Value) 2 (Cmp.bm 4 2) (fun s_ => [(28, s_.1), (30, s_.2)]) (fun s_ w' => (w'.cell? ⟨gb222, 0, none⟩ = some (.int .i64 (l0.length : Int)) ∧ w'.cell? ⟨gb222, 1, none⟩ = some (.int .i64 a1) ∧ w'.cell? ⟨gb222, 2, none⟩ = some (.int .i64 a2) ∧ w'.cell? ⟨gb222, 3, none⟩ = some (.int .i64 t220) ∧ w'.cell? ⟨gb222, 4, none⟩ = some (.int .i64 t221) ∧ w'.cell? ⟨gb222, 5, none⟩ = some (.int .i64 t227)) ∧ (Kd.R (Kd.int .i64) 3 w' w.heap.size (fun _ => True) (.slice Ao110 y224.length co110) y224) ∧ (Kd.R k74 74 w' w.heap.size (fun k_ => some k_ ≠ (s_.2 : Value).ownBlock ∧ k_ ≠ gb222) s_.1 t228) ∧ (Kd.R k74 74 w' w.heap.size (fun k_ => some k_ ≠ (s_.1 : Value).ownBlock ∧ k_ ≠ gb222) s_.2 y231) ∧ (w'.heap[gb219]? = some (.cells #[.int .i64 a3_0, .int .i64 a3_1, .int .i64 a3_2, .int .i64 a3_3] 26 (0, 0))) ∧ (w'.heap[gb222]? = some (.cells #[.int .i64 (l0.length : Int), .int .i64 a1, .int .i64 a2, .int .i64 t220, .int .i64 t221, .int .i64 t227] 74 (0, 0))) ∧ (Below w.heap.size w w')) ?_ ?_
    rotate_left
    ·intro hCont
     refine two_ (i := 1) (j := 3) (Ni := some 28) (Nj := some 30) (Cmp.bm 3 3) (Cmp.bb 6 13) rfl rfl rfl rfl (by kernel_rfl) (by decide) (by decide) (fun K hK => ?_) (fun K hK => ?_)
     ·skip
      refine goes_ Try.func52 (by kernel_rfl) rfl #[.slice A0 l0.length c0] (by rfl) rfl rfl Cmp.q ?_
      with_reducible refine (spec_l19Copy.calls _ _ l0 t228 _ ?side1 ?side2 A9.out).mono ?_
      (case side1 => exact Cmp.rc (Kd.C_below HR0.out HB.out))
      (case side2 => exact HC0.out)
      rintro e w115 ⟨v229, rfl, ho0, hb⟩; refine ⟨_, rfl, ?_⟩
      have n0_ := Aside0.mk (Kd.R_below (Cmp.rr HO226.out) hb)
      have n1_ := Aside0.mk (Kd.R_lower (Kd.R_newB ho0 (g := gb222) (o := .cells #[.int .i64 (l0.length : Int), .int .i64 a1, .int .i64 a2, .int .i64 t220, .int .i64 t221, .int .i64 t227] 74 (0, 0)) (Cmp.b BK222.out)) (below_size (Cmp.g HB.out)))
      have n2_ := Aside0.mk (blk_below (Cmp.b BK219.out) hb)
      have n3_ := Aside0.mk (blk_below (Cmp.b BK222.out) hb)
      have n4_ := Aside0.mk (below_step (Cmp.g HB.out) hb)
      clear HO226; clear BK219; clear BK222; clear HB; have HO226 := n0_; have HO230 := n1_; have BK219 := n2_; have BK222 := n3_; have HB := n4_; clear n0_ n1_ n2_ n3_ n4_; (try clear hb); (try clear hb2); (try clear hk); (try clear hi); (try clear ho0)
      refine hK.out _ _ ⟨(blk_cell BK222.out 0).trans rfl, (blk_cell BK222.out 1).trans rfl, (blk_cell BK222.out 2).trans rfl, (blk_cell BK222.out 3).trans rfl, (blk_cell BK222.out 4).trans rfl, (blk_cell BK222.out 5).trans rfl⟩ (fun hHeld => ?_)
      clear hK K
      refine norm_ (a' := ?_) ?_ ?_
      rotate_left
      ·show Act.put _ (some 28) _ = _
       simp only [Act.put, Cmp.s, Cmp.z, Cmp.c, i64_w, i32_w]; rfl
      refine one_ (i := 3) (N := some 30) (Cmp.bm 4 2) rfl rfl (by kernel_rfl) (by decide) (fun K hK => ?_)
      refine Kd.R_lit_step k74 _ 74 ?hg (N := 30) ?hd (xs := ([(⟨(l0.length : Int), a1, a2, t220, t221, t227⟩ : S74)] : List (S74))) (inner := [.int .i64 (l0.length : Int), .int .i64 a1, .int .i64 a2, .int .i64 t220, .int .i64 t221, .int .i64 t227]) (ok := fun _ => True) (okp := fun _ => True) ?hr ?hp (fun _ hk => hk) trivial (Below.refl _ _) (Nat.le_refl _) (by simp) ?_; (case hd => rfl); (case hg => rfl); (case hr => first | (go_simp; done) | (go_simp; rfl)); (case hp => exact (Reps.c6 (show Kd.M k74 _ _ _ (⟨(l0.length : Int), a1, a2, t220, t221, t227⟩ : S74) [.int .i64 (l0.length : Int), .int .i64 a1, .int .i64 a2, .int .i64 t220, .int .i64 t221, .int .i64 t227] from (k74_mkM _ _ _ (⟨(l0.length : Int), a1, a2, t220, t221, t227⟩ : S74) )) (Reps.none _ _)))
      intro v232 w116 ho117 hb hg_ hnew_
      clear hg_ hnew_
      (first | rw [← Ny231.out] at ho117 | (simp only [Int.reduceToNat] at ho117; rw [← Ny231.out] at ho117))
      have n0_ := Aside0.mk (Kd.R_below (Cmp.rr HO226.out) hb)
      have n1_ := Aside0.mk (Kd.R_elder' (Cmp.rr HO230.out) (Kd.R_base ho117) hb)
      have n2_ := Aside0.mk (Kd.R_lower (Kd.R_newB (Kd.R_new' ho117 (Kd.R_lt (Cmp.rr HO230.out))) (g := gb222) (o := .cells #[.int .i64 (l0.length : Int), .int .i64 a1, .int .i64 a2, .int .i64 t220, .int .i64 t221, .int .i64 t227] 74 (0, 0)) (Cmp.b BK222.out)) (below_size (Cmp.g HB.out)))
      have n3_ := Aside0.mk (blk_below (Cmp.b BK219.out) hb)
      have n4_ := Aside0.mk (blk_below (Cmp.b BK222.out) hb)
      have n5_ := Aside0.mk (below_step (Cmp.g HB.out) hb)
      clear HO226; clear HO230; clear BK219; clear BK222; clear HB; have HO226 := n0_; have HO230 := n1_; have HO233 := n2_; have BK219 := n3_; have BK222 := n4_; have HB := n5_; clear n0_ n1_ n2_ n3_ n4_ n5_; clear hb ho117
      refine hK.out _ _ ⟨(blk_cell BK222.out 0).trans rfl, (blk_cell BK222.out 1).trans rfl, (blk_cell BK222.out 2).trans rfl, (blk_cell BK222.out 3).trans rfl, (blk_cell BK222.out 4).trans rfl, (blk_cell BK222.out 5).trans rfl⟩ (fun hHeld => ?_)
      clear hK K
      refine norm_ (a' := ?_) ?_ ?_
      rotate_left
      ·show Act.put _ (some 30) _ = _
       simp only [Act.put, Cmp.s, Cmp.z, Cmp.c, i64_w, i32_w]; rfl
      exact norm_ (by simp only [putAll, Act.put, List.setIfInBounds_toArray, List.set_cons_zero, List.set_cons_succ]) (hCont (v229, v232) _ ⟨hHeld, (Cmp.rr HO226.out), (by (with_reducible repeat (first | apply Kd.R_alloc | apply Kd.R_drewN | apply Kd.R_drew)); exact Kd.R_mono HO230.out (fun _ hk => ⟨hk.2, hk.1.2⟩)), (by (with_reducible repeat (first | apply Kd.R_alloc | apply Kd.R_drewN | apply Kd.R_drew)); exact Kd.R_mono HO233.out (fun _ hk => ⟨hk.1.2, hk.2⟩)), (Cmp.b BK219.out), (Cmp.b BK222.out), (Cmp.g HB.out)⟩)
     ·skip
      refine Kd.R_lit_step k74 _ 74 ?hg (N := 30) ?hd (xs := ([(⟨(l0.length : Int), a1, a2, t220, t221, t227⟩ : S74)] : List (S74))) (inner := [.int .i64 (l0.length : Int), .int .i64 a1, .int .i64 a2, .int .i64 t220, .int .i64 t221, .int .i64 t227]) (ok := fun _ => True) (okp := fun _ => True) ?hr ?hp (fun _ hk => hk) trivial (Below.refl _ _) (Nat.le_refl _) (by simp) ?_; (case hd => rfl); (case hg => rfl); (case hr => first | (go_simp; done) | (go_simp; rfl)); (case hp => exact (Reps.c6 (show Kd.M k74 _ _ _ (⟨(l0.length : Int), a1, a2, t220, t221, t227⟩ : S74) [.int .i64 (l0.length : Int), .int .i64 a1, .int .i64 a2, .int .i64 t220, .int .i64 t221, .int .i64 t227] from (k74_mkM _ _ _ (⟨(l0.length : Int), a1, a2, t220, t221, t227⟩ : S74) )) (Reps.none _ _)))
      intro v232 w115 ho116 hb hg_ hnew_
      clear hg_ hnew_
      (first | rw [← Ny231.out] at ho116 | (simp only [Int.reduceToNat] at ho116; rw [← Ny231.out] at ho116))
      have n0_ := Aside0.mk (Kd.R_below (Cmp.rr HO226.out) hb)
      have n1_ := Aside0.mk (Kd.R_lower (Kd.R_newB ho116 (g := gb222) (o := .cells #[.int .i64 (l0.length : Int), .int .i64 a1, .int .i64 a2, .int .i64 t220, .int .i64 t221, .int .i64 t227] 74 (0, 0)) (Cmp.b BK222.out)) (below_size (Cmp.g HB.out)))
      have n2_ := Aside0.mk (blk_below (Cmp.b BK219.out) hb)
      have n3_ := Aside0.mk (blk_below (Cmp.b BK222.out) hb)
      have n4_ := Aside0.mk (below_step (Cmp.g HB.out) hb)
      clear HO226; clear BK219; clear BK222; clear HB; have HO226 := n0_; have HO233 := n1_; have BK219 := n2_; have BK222 := n3_; have HB := n4_; clear n0_ n1_ n2_ n3_ n4_; clear hb ho116
      refine hK.out _ _ ⟨(blk_cell BK222.out 0).trans rfl, (blk_cell BK222.out 1).trans rfl, (blk_cell BK222.out 2).trans rfl, (blk_cell BK222.out 3).trans rfl, (blk_cell BK222.out 4).trans rfl, (blk_cell BK222.out 5).trans rfl⟩ (fun hHeld => ?_)
      clear hK K
      refine norm_ (a' := ?_) ?_ ?_
      rotate_left
      ·show Act.put _ (some 30) _ = _
       simp only [Act.put, Cmp.s, Cmp.z, Cmp.c, i64_w, i32_w]; rfl
      refine one_ (i := 1) (N := some 28) (Cmp.bm 4 2) rfl rfl (by kernel_rfl) (by decide) (fun K hK => ?_)
      refine goes_ Try.func52 (by kernel_rfl) rfl #[.slice A0 l0.length c0] (by rfl) rfl rfl Cmp.q ?_
      with_reducible refine (spec_l19Copy.calls _ _ l0 t228 _ ?side1 ?side2 A9.out).mono ?_
      (case side1 => exact Cmp.rc (Kd.C_below HR0.out HB.out))
      (case side2 => exact HC0.out)
      rintro e w117 ⟨v229, rfl, ho0, hb⟩; refine ⟨_, rfl, ?_⟩
      have n0_ := Aside0.mk (Kd.R_below (Cmp.rr HO226.out) hb)
      have n1_ := Aside0.mk (Kd.R_elder' (Cmp.rr HO233.out) (Kd.R_base ho0) hb)
      have n2_ := Aside0.mk (Kd.R_lower (Kd.R_newB (Kd.R_new' ho0 (Kd.R_lt (Cmp.rr HO233.out))) (g := gb222) (o := .cells #[.int .i64 (l0.length : Int), .int .i64 a1, .int .i64 a2, .int .i64 t220, .int .i64 t221, .int .i64 t227] 74 (0, 0)) (Cmp.b BK222.out)) (below_size (Cmp.g HB.out)))
      have n3_ := Aside0.mk (blk_below (Cmp.b BK219.out) hb)
      have n4_ := Aside0.mk (blk_below (Cmp.b BK222.out) hb)
      have n5_ := Aside0.mk (below_step (Cmp.g HB.out) hb)
      clear HO226; clear HO233; clear BK219; clear BK222; clear HB; have HO226 := n0_; have HO233 := n1_; have HO230 := n2_; have BK219 := n3_; have BK222 := n4_; have HB := n5_; clear n0_ n1_ n2_ n3_ n4_ n5_; (try clear hb); (try clear hb2); (try clear hk); (try clear hi); (try clear ho0)
      refine hK.out _ _ ⟨(blk_cell BK222.out 0).trans rfl, (blk_cell BK222.out 1).trans rfl, (blk_cell BK222.out 2).trans rfl, (blk_cell BK222.out 3).trans rfl, (blk_cell BK222.out 4).trans rfl, (blk_cell BK222.out 5).trans rfl⟩ (fun hHeld => ?_)
      clear hK K
      refine norm_ (a' := ?_) ?_ ?_
      rotate_left
      ·show Act.put _ (some 28) _ = _
       simp only [Act.put, Cmp.s, Cmp.z, Cmp.c, i64_w, i32_w]; rfl
      exact norm_ (by simp only [putAll, Act.put, List.setIfInBounds_toArray, List.set_cons_zero, List.set_cons_succ]) (hCont (v229, v232) _ ⟨hHeld, (Cmp.rr HO226.out), (by (with_reducible repeat (first | apply Kd.R_alloc | apply Kd.R_drewN | apply Kd.R_drew)); exact Kd.R_mono HO230.out (fun _ hk => ⟨hk.1.2, hk.2⟩)), (by (with_reducible repeat (first | apply Kd.R_alloc | apply Kd.R_drewN | apply Kd.R_drew)); exact Kd.R_mono HO233.out (fun _ hk => ⟨hk.2, hk.1.2⟩)), (Cmp.b BK219.out), (Cmp.b BK222.out), (Cmp.g HB.out)⟩)
    rintro ⟨v229, v232⟩ w118 ⟨hS_, h0_, h1_, h2_, h3_, h4_, h5_⟩
    have n0_ : Aside0 (Kd.R (Kd.int .i64) 3 w118 w.heap.size (fun _ => True) (.slice Ao110 y224.length co110) y224) := ⟨h0_⟩
    have n1_ : Aside0 (Kd.R k74 74 w118 w.heap.size (fun k_ => some k_ ≠ (v232 : Value).ownBlock ∧ k_ ≠ gb222) v229 t228) := ⟨h1_⟩
    have n2_ : Aside0 (Kd.R k74 74 w118 w.heap.size (fun k_ => some k_ ≠ (v229 : Value).ownBlock ∧ k_ ≠ gb222) v232 y231) := ⟨h2_⟩
    have n3_ : Aside0 (w118.heap[gb219]? = some (.cells #[.int .i64 a3_0, .int .i64 a3_1, .int .i64 a3_2, .int .i64 a3_3] 26 (0, 0))) := ⟨h3_⟩
    have n4_ : Aside0 (w118.heap[gb222]? = some (.cells #[.int .i64 (l0.length : Int), .int .i64 a1, .int .i64 a2, .int .i64 t220, .int .i64 t221, .int .i64 t227] 74 (0, 0))) := ⟨h4_⟩
    have n5_ : Aside0 (Below w.heap.size w w118) := ⟨h5_⟩
    clear HO226; clear BK219; clear BK222; clear HB; clear h0_ h1_ h2_ h3_ h4_ h5_; have HO226 := n0_; have HO230 := n1_; have HO233 := n2_; have BK219 := n3_; have BK222 := n4_; have HB := n5_; clear n0_ n1_ n2_ n3_ n4_ n5_
    have hHeld : w118.cell? ⟨gb222, 0, none⟩ = some (.int .i64 (l0.length : Int)) ∧ w118.cell? ⟨gb222, 1, none⟩ = some (.int .i64 a1) ∧ w118.cell? ⟨gb222, 2, none⟩ = some (.int .i64 a2) ∧ w118.cell? ⟨gb222, 3, none⟩ = some (.int .i64 t220) ∧ w118.cell? ⟨gb222, 4, none⟩ = some (.int .i64 t221) ∧ w118.cell? ⟨gb222, 5, none⟩ = some (.int .i64 t227) := hS_
    obtain ⟨Ao120, co120, eo120⟩ := Kd.R_slice HO233.out
    (first | subst eo120 | (injection eo120 with f1_ f2_ f3_; have f4_ := f1_.symm; have f5_ := f3_.symm; clear f1_ f2_ f3_; subst f4_; subst f5_))
    refine norm_ (a' := ?_) ?_ ?_
    rotate_left
    ·simp only [putAll, Act.put, List.setIfInBounds_toArray, List.set_cons_zero, List.set_cons_succ]; rfl
    refine one_ (i := 4) (N := some 31) (Cmp.bm 5 1) rfl rfl (by kernel_rfl) (by decide) (fun K hK => ?_)
    refine Kd.R_append_rows_step k74 (w0 := w) w.heap.size (by rfl) (.tmp 28) (.tmp 30) 24 74 (.agg #[(.int .i64 0), (.int .i64 0), (.int .i64 0), (.int .i64 0), (.int .i64 0), (.int .i64 0)]) 48 rfl Try.underlying24 info74 rfl (by decide) (by omega) v229 t228 y231 _ _ _ (fun k_ => some k_ ≠ (.slice Ao120 y231.length co120 : Value).ownBlock ∧ k_ ≠ gb222) (fun _ => False) rfl rfl ?aO ?aR (fun _ _ h => h) (fun _ h => h.elim) ?aF ?aB ?aS ?aL ?_
    (case aR => repeat (first | exact (Kd.R_reads' HO233.out).2.2 | (with_reducible refine Kd.C_alloc ?_ _) | (with_reducible refine Kd.C_drewN ?_ _) | (with_reducible refine Kd.C_drew ?_)))
    (case aB => exact (Cmp.g HB.out))
    (case aF => exact (fun k_ hk => ⟨Kd.fresh' (Kd.R_lt (Cmp.rr HO233.out)) k_ hk, Kd.freshB (g := gb222) (o := .cells #[.int .i64 (l0.length : Int), .int .i64 a1, .int .i64 a2, .int .i64 t220, .int .i64 t221, .int .i64 t227] 74 (0, 0)) (Cmp.b BK222.out) k_ hk⟩))
    (case aO => exact (Cmp.rr HO230.out))
    (case aS => exact (below_size (Cmp.g HB.out)))
    (case aL => have := LMc10.out; omega)
    intro v235 w119 ho hb hg hat
    rw [← Ny234.out] at ho
    have n0_ := Aside0.mk (blk_grown (g := gb219) (o := .cells #[.int .i64 a3_0, .int .i64 a3_1, .int .i64 a3_2, .int .i64 a3_3] 26 (0, 0)) (Cmp.b BK219.out) hg (Kd.R_ne HO230.out BK219.out (by decide)))
    have n1_ := Aside0.mk (blk_grown (g := gb222) (o := .cells #[.int .i64 (l0.length : Int), .int .i64 a1, .int .i64 a2, .int .i64 t220, .int .i64 t221, .int .i64 t227] 74 (0, 0)) (Cmp.b BK222.out) hg (Kd.R_away HO230.out (fun _ hk => hk.2)))
    have n2_ := Aside0.mk (Kd.R_over' (Cmp.rr HO226.out) (Kd.R_typed (Cmp.rr HO230.out)) (by decide) hg)
    have n3_ := Aside0.mk (Kd.R_after (ok := (fun k_ => k_ ≠ gb222)) (by (with_reducible repeat (first | apply Kd.R_alloc | apply Kd.R_drewN | apply Kd.R_drew)); exact Kd.R_mono HO233.out (fun _ hk => ⟨hk.2, hk.1⟩)) hg hat)
    have n4_ := Aside0.mk (hb)
    have n5_ := Aside0.mk (ho)
    clear BK219; clear BK222; clear HO226; clear HO233; clear HB; clear HO230; have BK219 := n0_; have BK222 := n1_; have HO226 := n2_; have HO233 := n3_; have HB := n4_; have HO236 := n5_; clear n0_ n1_ n2_ n3_ n4_ n5_; clear ho hb hg hat
    refine hK.out _ _ ⟨(blk_cell BK222.out 0).trans rfl, (blk_cell BK222.out 1).trans rfl, (blk_cell BK222.out 2).trans rfl, (blk_cell BK222.out 3).trans rfl, (blk_cell BK222.out 4).trans rfl, (blk_cell BK222.out 5).trans rfl⟩ (fun hHeld => ?_)
    clear hK K
    refine norm_ (a' := ?_) ?_ ?_
    rotate_left
    ·show Act.put _ (some 31) _ = _
     simp only [Act.put, Cmp.s, Cmp.z, Cmp.c, i64_w, i32_w]; rfl
    refine pure_ (i := 5) (N := some 11) (v := ?_) (a' := ?_) (Cmp.bm 6 0) rfl rfl (by kernel_rfl) (fun _ _ _ h => h) (Or.inl ⟨by rfl, ?_⟩) ?_ ?_
    rotate_left
    ·intro w'; go_simp; with_reducible rfl
    rotate_left
    ·simp only [Act.put, Cmp.s, Cmp.z, Cmp.c, i64_w, i32_w]; rfl
    refine done_ (by kernel_rfl) ?_
    obtain ⟨Ao121, co121, eo121⟩ := Kd.R_slice HO236.out
    subst eo121
    try go_wp2_with (first | (go_at_call 53; (with_reducible refine (spec_VerifyLog.calls k _ _ y234 true _ ?side1 ?side2 A96.out).mono ?_); (case side1 => exact Cmp.rc (Kd.R_reads' HO236.out).2.2); (case side2 => exact (Kd.R_reads' HO236.out).2.1); rintro e w122 ⟨rfl, hb⟩; have n0_ := Aside0.mk (Kd.R_below (Cmp.rr HO226.out) hb); have n1_ := Aside0.mk (Kd.R_below (Cmp.rr HO233.out) hb); have n2_ := Aside0.mk (Kd.R_below (Cmp.rr HO236.out) hb); have n3_ := Aside0.mk (blk_below (Cmp.b BK219.out) hb); have n4_ := Aside0.mk (blk_below (Cmp.b BK222.out) hb); have n5_ := Aside0.mk (below_step (Cmp.g HB.out) hb); clear HO226; clear HO233; clear HO236; clear BK219; clear BK222; clear HB; have HO226 := n0_; have HO233 := n1_; have HO236 := n2_; have BK219 := n3_; have BK222 := n4_; have HB := n5_; clear n0_ n1_ n2_ n3_ n4_ n5_; (try clear hb); (try clear hb2); (try clear hk); (try clear hi)))
    go_ret2
    exact ⟨_, by first | rfl | (simp [errW_none, errW_some] <;> rfl) | (simp [*, errW_none, errW_some] <;> rfl), by (with_reducible repeat (first | apply Kd.R_alloc | apply Kd.R_drewN | apply Kd.R_drew)); exact Kd.R_mono HO236.out (fun _ hk => trivial), Cmp.g HB.out⟩
   ·replace c97 := Bool.eq_false_iff.mpr c97
    subst c97
    have H1 : ((spec_l19Copy.f l0).bind fun t246 => (some (t246, false))) = some (r1, r2) := by rw [if_neg (show ¬ (false = true) by decide)] at H; exact H
    clear H; have H := H1; clear H1; replace H := Option.bind_eq_some_iff.mp H; obtain ⟨t246, A1230, H⟩ := H; (try dsimp only at H); have A123 := Aside0.mk A1230; clear A1230
    simp only [Option.some.injEq, Prod.mk.injEq] at H
    obtain ⟨rfl, rfl⟩ := H
    go_enter Try.func10, Try.ntmps10
    try go_wp2_with (first | ((with_reducible refine gate_dst (N := 7) rfl ?_); refine box_event ?hg (N := 7) ?hd (cs := #[.int .i64 a3_0, .int .i64 a3_1, .int .i64 a3_2, .int .i64 a3_3]) (t := 26) ?hr ?_; (case hd => rfl); (case hg => rfl); (case hr => first | (go_simp; done) | (go_simp; rfl)); intro gb219 hg w124 hbox hb; have n0_ := Aside0.mk (below_step (Cmp.g HB.out) hb); have n1_ := Aside0.mk (hbox); have n2_ := Aside0.mk ((by rw [hg]; exact (below_size (Cmp.g HB.out)) : w.heap.size ≤ gb219)); have n3_ := Aside0.mk ((by rw [hg]; exact (below_size (Cmp.g HB.out)) : w.heap.size ≤ gb219)); clear HB; have HB := n0_; have BK219 := n1_; have GW219 := n2_; have GE219 := n3_; clear n0_ n1_ n2_ n3_; clear hb hbox hg; have hcz125_0 : w124.cell? ⟨gb219, 0, none⟩ = some (.int .i64 a3_0) := (blk_cell BK219.out 0).trans rfl; have hcz125_1 : w124.cell? ⟨gb219, 1, none⟩ = some (.int .i64 a3_1) := (blk_cell BK219.out 1).trans rfl; have hcz125_2 : w124.cell? ⟨gb219, 2, none⟩ = some (.int .i64 a3_2) := (blk_cell BK219.out 2).trans rfl; have hcz125_3 : w124.cell? ⟨gb219, 3, none⟩ = some (.int .i64 a3_3) := (blk_cell BK219.out 3).trans rfl; have hfz125_0 := blk_frozen BK219.out 0; have hfz125_1 := blk_frozen BK219.out 1; have hfz125_2 := blk_frozen BK219.out 2; have hfz125_3 := blk_frozen BK219.out 3) | ((with_reducible refine gate_callee (f := 40) rfl ?_); refine goesL_ (some 17) rfl rfl Try.func40 (by kernel_rfl) rfl #[.agg #[.int .i64 a3_0, .int .i64 a3_1, .int .i64 a3_2, .int .i64 a3_3]] rfl Cmp.q ?_; (with_reducible refine (spec_DevicePublic.calls k a3_0 a3_1 a3_2 a3_3 t220 _ A5.out).mono ?_); rintro e w126 ⟨rfl, hb⟩; refine ⟨_, rfl, ?_⟩; have n0_ := Aside0.mk (blk_below (Cmp.b BK219.out) hb); have n1_ := Aside0.mk (below_step (Cmp.g HB.out) hb); clear BK219; clear HB; have BK219 := n0_; have HB := n1_; clear n0_ n1_; (try clear hb); (try clear hb2); (try clear hk); (try clear hi)) | ((with_reducible refine gate_callee (f := 49) rfl ?_); refine goesL_ (some 19) rfl rfl Try.func49 (by kernel_rfl) rfl #[.slice A0 l0.length c0] rfl Cmp.q ?_; (with_reducible refine (spec_LogHead.calls k _ _ l0 t221 _ ?side1 ?side2 A6.out).mono ?_); (case side1 => exact Cmp.rc (Kd.C_below HR0.out HB.out)); (case side2 => exact HC0.out); rintro e w127 ⟨rfl, hb⟩; refine ⟨_, rfl, ?_⟩; have n0_ := Aside0.mk (blk_below (Cmp.b BK219.out) hb); have n1_ := Aside0.mk (below_step (Cmp.g HB.out) hb); clear BK219; clear HB; have BK219 := n0_; have HB := n1_; clear n0_ n1_; (try clear hb); (try clear hb2); (try clear hk); (try clear hi)) | ((with_reducible refine gate_dst (N := 10) rfl ?_); refine box_event ?hg (N := 10) ?hd (cs := #[.int .i64 0, .int .i64 0, .int .i64 0, .int .i64 0, .int .i64 0, .int .i64 0]) (t := 74) ?hr ?_; (case hd => rfl); (case hg => rfl); (case hr => first | (go_simp; done) | (go_simp; rfl)); intro gb222 hg w128 hbox hb; have n0_ := Aside0.mk (blk_below (Cmp.b BK219.out) hb); have n1_ := Aside0.mk (below_step (Cmp.g HB.out) hb); have n2_ := Aside0.mk (hbox); have n3_ := Aside0.mk ((by rw [hg]; exact (below_size (Cmp.g HB.out)) : w.heap.size ≤ gb222)); have n4_ := Aside0.mk ((by rw [hg]; exact (below_size (Cmp.g HB.out)) : w.heap.size ≤ gb222)); have n5_ := Aside0.mk ((by rw [hg]; exact Nat.ne_of_lt (blk_lt (Cmp.b BK219.out)) : gb219 ≠ gb222)); have n6_ := Aside0.mk ((by rw [hg]; exact Nat.ne_of_gt (blk_lt (Cmp.b BK219.out)) : gb222 ≠ gb219)); clear BK219; clear HB; have BK219 := n0_; have HB := n1_; have BK222 := n2_; have GW222 := n3_; have GE222 := n4_; have NB219_222 := n5_; have NB222_219 := n6_; clear n0_ n1_ n2_ n3_ n4_ n5_ n6_; clear hb hbox hg; have hnb129 := NB222_219.out; have hnc129 := NB219_222.out; have hcz130_0 : w128.cell? ⟨gb222, 0, none⟩ = some (.int .i64 0) := (blk_cell BK222.out 0).trans rfl; have hcz130_1 : w128.cell? ⟨gb222, 1, none⟩ = some (.int .i64 0) := (blk_cell BK222.out 1).trans rfl; have hcz130_2 : w128.cell? ⟨gb222, 2, none⟩ = some (.int .i64 0) := (blk_cell BK222.out 2).trans rfl; have hcz130_3 : w128.cell? ⟨gb222, 3, none⟩ = some (.int .i64 0) := (blk_cell BK222.out 3).trans rfl; have hcz130_4 : w128.cell? ⟨gb222, 4, none⟩ = some (.int .i64 0) := (blk_cell BK222.out 4).trans rfl; have hcz130_5 : w128.cell? ⟨gb222, 5, none⟩ = some (.int .i64 0) := (blk_cell BK222.out 5).trans rfl; have hfz130_0 := blk_frozen BK222.out 0; have hfz130_1 := blk_frozen BK222.out 1; have hfz130_2 := blk_frozen BK222.out 2; have hfz130_3 := blk_frozen BK222.out 3; have hfz130_4 := blk_frozen BK222.out 4; have hfz130_5 := blk_frozen BK222.out 5))
    have n0_ : Aside0 (((((((w128.setCell ⟨gb222, 0, none⟩ (.int .i64 (l0.length : Int))).setCell ⟨gb222, 1, none⟩ (.int .i64 a1)).setCell ⟨gb222, 2, none⟩ (.int .i64 a2)).setCell ⟨gb222, 3, none⟩ (.int .i64 t220)).setCell ⟨gb222, 4, none⟩ (.int .i64 t221)).setCell ⟨gb222, 5, none⟩ (.int .i64 0)).heap[gb219]? = some (.cells #[.int .i64 a3_0, .int .i64 a3_1, .int .i64 a3_2, .int .i64 a3_3] 26 (0, 0))) := ⟨by (with_reducible repeat (first | refine blk_drewN ?_ _ | refine blk_drew ?_ | refine blk_alloc ?_ _)); refine blk_far ?_ NB219_222.out _; (with_reducible repeat (first | refine blk_drewN ?_ _ | refine blk_drew ?_ | refine blk_alloc ?_ _)); refine blk_far ?_ NB219_222.out _; (with_reducible repeat (first | refine blk_drewN ?_ _ | refine blk_drew ?_ | refine blk_alloc ?_ _)); refine blk_far ?_ NB219_222.out _; (with_reducible repeat (first | refine blk_drewN ?_ _ | refine blk_drew ?_ | refine blk_alloc ?_ _)); refine blk_far ?_ NB219_222.out _; (with_reducible repeat (first | refine blk_drewN ?_ _ | refine blk_drew ?_ | refine blk_alloc ?_ _)); refine blk_far ?_ NB219_222.out _; (with_reducible repeat (first | refine blk_drewN ?_ _ | refine blk_drew ?_ | refine blk_alloc ?_ _)); refine blk_far ?_ NB219_222.out _; (with_reducible repeat (first | refine blk_drewN ?_ _ | refine blk_drew ?_ | refine blk_alloc ?_ _)); exact BK219.out⟩
    have n1_ : Aside0 (((((((w128.setCell ⟨gb222, 0, none⟩ (.int .i64 (l0.length : Int))).setCell ⟨gb222, 1, none⟩ (.int .i64 a1)).setCell ⟨gb222, 2, none⟩ (.int .i64 a2)).setCell ⟨gb222, 3, none⟩ (.int .i64 t220)).setCell ⟨gb222, 4, none⟩ (.int .i64 t221)).setCell ⟨gb222, 5, none⟩ (.int .i64 0)).heap[gb222]? = some (.cells #[.int .i64 (l0.length : Int), .int .i64 a1, .int .i64 a2, .int .i64 t220, .int .i64 t221, .int .i64 0] 74 (0, 0))) := ⟨by (with_reducible repeat (first | refine blk_drewN ?_ _ | refine blk_drew ?_ | refine blk_alloc ?_ _)); refine blk_put (cs := #[.int .i64 (l0.length : Int), .int .i64 a1, .int .i64 a2, .int .i64 t220, .int .i64 t221, .int .i64 0]) ?_ 5 _ rfl; (with_reducible repeat (first | refine blk_drewN ?_ _ | refine blk_drew ?_ | refine blk_alloc ?_ _)); refine blk_put (cs := #[.int .i64 (l0.length : Int), .int .i64 a1, .int .i64 a2, .int .i64 t220, .int .i64 0, .int .i64 0]) ?_ 4 _ rfl; (with_reducible repeat (first | refine blk_drewN ?_ _ | refine blk_drew ?_ | refine blk_alloc ?_ _)); refine blk_put (cs := #[.int .i64 (l0.length : Int), .int .i64 a1, .int .i64 a2, .int .i64 0, .int .i64 0, .int .i64 0]) ?_ 3 _ rfl; (with_reducible repeat (first | refine blk_drewN ?_ _ | refine blk_drew ?_ | refine blk_alloc ?_ _)); refine blk_put (cs := #[.int .i64 (l0.length : Int), .int .i64 a1, .int .i64 0, .int .i64 0, .int .i64 0, .int .i64 0]) ?_ 2 _ rfl; (with_reducible repeat (first | refine blk_drewN ?_ _ | refine blk_drew ?_ | refine blk_alloc ?_ _)); refine blk_put (cs := #[.int .i64 (l0.length : Int), .int .i64 0, .int .i64 0, .int .i64 0, .int .i64 0, .int .i64 0]) ?_ 1 _ rfl; (with_reducible repeat (first | refine blk_drewN ?_ _ | refine blk_drew ?_ | refine blk_alloc ?_ _)); refine blk_put (cs := #[.int .i64 0, .int .i64 0, .int .i64 0, .int .i64 0, .int .i64 0, .int .i64 0]) ?_ 0 _ rfl; (with_reducible repeat (first | refine blk_drewN ?_ _ | refine blk_drew ?_ | refine blk_alloc ?_ _)); exact BK222.out⟩
    have n2_ : Aside0 (Below w.heap.size w ((((((w128.setCell ⟨gb222, 0, none⟩ (.int .i64 (l0.length : Int))).setCell ⟨gb222, 1, none⟩ (.int .i64 a1)).setCell ⟨gb222, 2, none⟩ (.int .i64 a2)).setCell ⟨gb222, 3, none⟩ (.int .i64 t220)).setCell ⟨gb222, 4, none⟩ (.int .i64 t221)).setCell ⟨gb222, 5, none⟩ (.int .i64 0))) := ⟨Cmp.g HB.out⟩
    (try clear BK219); (try clear BK222); (try clear HB)
    generalize ((((((w128.setCell ⟨gb222, 0, none⟩ (.int .i64 (l0.length : Int))).setCell ⟨gb222, 1, none⟩ (.int .i64 a1)).setCell ⟨gb222, 2, none⟩ (.int .i64 a2)).setCell ⟨gb222, 3, none⟩ (.int .i64 t220)).setCell ⟨gb222, 4, none⟩ (.int .i64 t221)).setCell ⟨gb222, 5, none⟩ (.int .i64 0)) = w131 at n0_ n1_ n2_ ⊢
    have BK219 := n0_; have BK222 := n1_; have HB := n2_; clear n0_ n1_ n2_; have n0_ := Aside0.mk (blk_drew BK219.out); have n1_ := Aside0.mk (blk_drew BK222.out); have n2_ := Aside0.mk (below_drew1 HB.out); clear BK219; clear BK222; clear HB; have BK219 := n0_; have BK222 := n1_; have HB := n2_; clear n0_ n1_ n2_
    refine start_ (n := 7) (S := fun w' => w'.cell? ⟨gb219, 0, none⟩ = some (.int .i64 a3_0) ∧ w'.cell? ⟨gb219, 1, none⟩ = some (.int .i64 a3_1) ∧ w'.cell? ⟨gb219, 2, none⟩ = some (.int .i64 a3_2) ∧ w'.cell? ⟨gb219, 3, none⟩ = some (.int .i64 a3_3) ∧ w'.cell? ⟨gb222, 0, none⟩ = some (.int .i64 (l0.length : Int)) ∧ w'.cell? ⟨gb222, 1, none⟩ = some (.int .i64 a1) ∧ w'.cell? ⟨gb222, 2, none⟩ = some (.int .i64 a2) ∧ w'.cell? ⟨gb222, 3, none⟩ = some (.int .i64 t220) ∧ w'.cell? ⟨gb222, 4, none⟩ = some (.int .i64 t221) ∧ w'.cell? ⟨gb222, 5, none⟩ = some (.int .i64 0)) (ds := [6]) (Cmp.bm 0 7) (by kernel_rfl) rfl rfl ⟨(blk_cell BK219.out 0).trans rfl, (blk_cell BK219.out 1).trans rfl, (blk_cell BK219.out 2).trans rfl, (blk_cell BK219.out 3).trans rfl, (blk_cell BK222.out 0).trans rfl, (blk_cell BK222.out 1).trans rfl, (blk_cell BK222.out 2).trans rfl, (blk_cell BK222.out 3).trans rfl, (blk_cell BK222.out 4).trans rfl, (blk_cell BK222.out 5).trans rfl⟩ (fun hHeld => ?_)
    generalize w131.drew = w132 at BK219 BK222 HB hHeld ⊢
    refine take_ (i := 0) (N := some 21) (v := ?_) (a' := ?_) (Cmp.bm 1 6) rfl rfl (by kernel_rfl) (fun _ _ _ h => h) (Or.inl ⟨by rfl, ?_⟩) hHeld ?_ ?_
    rotate_left
    ·rintro w' ⟨s0, s1, s2, s3, s4, s5, s6, s7, s8, s9⟩; go_simp; with_reducible rfl
    rotate_left
    ·simp only [Act.put, Cmp.s, Cmp.z, Cmp.c, i64_w, i32_w]; rfl
    refine take_ (i := 1) (N := some 22) (v := ?_) (a' := ?_) (Cmp.bm 2 5) rfl rfl (by kernel_rfl) (fun _ _ _ h => h) (Or.inl ⟨by rfl, ?_⟩) hHeld ?_ ?_
    rotate_left
    ·rintro w' ⟨s0, s1, s2, s3, s4, s5, s6, s7, s8, s9⟩; go_simp; with_reducible rfl
    rotate_left
    ·simp only [Act.put, Cmp.s, Cmp.z, Cmp.c, i64_w, i32_w]; rfl
    refine one_ (i := 2) (N := some 23) (Cmp.bm 3 4) rfl rfl (by kernel_rfl) (by decide) (fun K hK => ?_)
    refine goes_ Try.func51 (by kernel_rfl) rfl #[.agg #[.int .i64 (l0.length : Int), .int .i64 a1, .int .i64 a2, .int .i64 t220, .int .i64 t221, .int .i64 0]] (by rfl) rfl rfl Cmp.q ?_
    with_reducible refine (spec_EntryHash.calls k (l0.length : Int) a1 a2 t220 t221 0 t223 _ A7.out).mono ?_
    rintro e w133 ⟨rfl, hb⟩; refine ⟨_, rfl, ?_⟩
    have n0_ := Aside0.mk (blk_below (Cmp.b BK219.out) hb)
    have n1_ := Aside0.mk (blk_below (Cmp.b BK222.out) hb)
    have n2_ := Aside0.mk (below_step (Cmp.g HB.out) hb)
    clear BK219; clear BK222; clear HB; have BK219 := n0_; have BK222 := n1_; have HB := n2_; clear n0_ n1_ n2_; (try clear hb); (try clear hb2); (try clear hk); (try clear hi)
    refine hK.out _ _ ⟨(blk_cell BK219.out 0).trans rfl, (blk_cell BK219.out 1).trans rfl, (blk_cell BK219.out 2).trans rfl, (blk_cell BK219.out 3).trans rfl, (blk_cell BK222.out 0).trans rfl, (blk_cell BK222.out 1).trans rfl, (blk_cell BK222.out 2).trans rfl, (blk_cell BK222.out 3).trans rfl, (blk_cell BK222.out 4).trans rfl, (blk_cell BK222.out 5).trans rfl⟩ (fun hHeld => ?_)
    clear hK K
    refine norm_ (a' := ?_) ?_ ?_
    rotate_left
    ·show Act.put _ (some 23) _ = _
     simp only [Act.put, Cmp.s, Cmp.z, Cmp.c, i64_w, i32_w]; rfl
    refine one_ (i := 3) (N := some 24) (Cmp.bm 4 3) rfl rfl (by kernel_rfl) (by decide) (fun K hK => ?_)
    refine Kd.R_lit_step (Kd.int .i64) _ 3 ?hg (N := 24) ?hd (xs := ([t223] : List Int)) (inner := [.int .i64 t223]) (ok := fun _ => True) (okp := fun _ => True) ?hr ?hp (fun _ hk => hk) trivial (Below.refl _ _) (Nat.le_refl _) (by simp) ?_; (case hd => rfl); (case hg => rfl); (case hr => first | (go_simp; done) | (go_simp; rfl)); (case hp => exact (Reps.one (show Kd.M (Kd.int .i64) _ _ _ t223 [.int .i64 t223] from rfl) (Reps.none _ _)))
    intro v225 w134 ho135 hb hg_ hnew_
    clear hg_ hnew_
    (first | rw [← Ny224.out] at ho135 | (simp only [Int.reduceToNat] at ho135; rw [← Ny224.out] at ho135))
    have n0_ := Aside0.mk (Kd.R_lower ho135 (below_size (Cmp.g HB.out)))
    have n1_ := Aside0.mk (blk_below (Cmp.b BK219.out) hb)
    have n2_ := Aside0.mk (blk_below (Cmp.b BK222.out) hb)
    have n3_ := Aside0.mk (below_step (Cmp.g HB.out) hb)
    clear BK219; clear BK222; clear HB; have HO226 := n0_; have BK219 := n1_; have BK222 := n2_; have HB := n3_; clear n0_ n1_ n2_ n3_; clear hb ho135
    obtain ⟨Ao136, co136, eo136⟩ := Kd.R_slice HO226.out
    (first | subst eo136 | (injection eo136 with f1_ f2_ f3_; have f4_ := f1_.symm; have f5_ := f3_.symm; clear f1_ f2_ f3_; subst f4_; subst f5_))
    refine hK.out _ _ ⟨(blk_cell BK219.out 0).trans rfl, (blk_cell BK219.out 1).trans rfl, (blk_cell BK219.out 2).trans rfl, (blk_cell BK219.out 3).trans rfl, (blk_cell BK222.out 0).trans rfl, (blk_cell BK222.out 1).trans rfl, (blk_cell BK222.out 2).trans rfl, (blk_cell BK222.out 3).trans rfl, (blk_cell BK222.out 4).trans rfl, (blk_cell BK222.out 5).trans rfl⟩ (fun hHeld => ?_)
    clear hK K
    refine norm_ (a' := ?_) ?_ ?_
    rotate_left
    ·show Act.put _ (some 24) _ = _
     simp only [Act.put, Cmp.s, Cmp.z, Cmp.c, i64_w, i32_w]; rfl
    refine one_ (i := 4) (N := some 25) (Cmp.bm 5 2) rfl rfl (by kernel_rfl) (by decide) (fun K hK => ?_)
    refine goes_ Try.func50 (by kernel_rfl) rfl #[.agg #[.int .i64 a3_0, .int .i64 a3_1, .int .i64 a3_2, .int .i64 a3_3], .slice Ao136 y224.length co136] (by rfl) rfl rfl Cmp.q ?_
    with_reducible refine (spec_SignAsDevice.calls k a3_0 a3_1 a3_2 a3_3 _ _ y224 t227 _ ?side1 ?side2 A8.out).mono ?_
    (case side1 => exact Cmp.rc (Kd.R_reads' HO226.out).2.2)
    (case side2 => exact (Kd.R_reads' HO226.out).2.1)
    rintro e w137 ⟨rfl, hb⟩; refine ⟨_, rfl, ?_⟩
    have n0_ := Aside0.mk (Kd.R_below (Cmp.rr HO226.out) hb)
    have n1_ := Aside0.mk (blk_below (Cmp.b BK219.out) hb)
    have n2_ := Aside0.mk (blk_below (Cmp.b BK222.out) hb)
    have n3_ := Aside0.mk (below_step (Cmp.g HB.out) hb)
    clear HO226; clear BK219; clear BK222; clear HB; have HO226 := n0_; have BK219 := n1_; have BK222 := n2_; have HB := n3_; clear n0_ n1_ n2_ n3_; (try clear hb); (try clear hb2); (try clear hk); (try clear hi)
    refine hK.out _ _ ⟨(blk_cell BK219.out 0).trans rfl, (blk_cell BK219.out 1).trans rfl, (blk_cell BK219.out 2).trans rfl, (blk_cell BK219.out 3).trans rfl, (blk_cell BK222.out 0).trans rfl, (blk_cell BK222.out 1).trans rfl, (blk_cell BK222.out 2).trans rfl, (blk_cell BK222.out 3).trans rfl, (blk_cell BK222.out 4).trans rfl, (blk_cell BK222.out 5).trans rfl⟩ (fun hHeld => ?_)
    clear hK K
    refine norm_ (a' := ?_) ?_ ?_
    rotate_left
    ·show Act.put _ (some 25) _ = _
     simp only [Act.put, Cmp.s, Cmp.z, Cmp.c, i64_w, i32_w]; rfl
    refine pure_ (i := 5) (N := some 26) (v := ?_) (a' := ?_) (Cmp.bm 6 1) rfl rfl (by kernel_rfl) (fun _ _ _ h => h) (Or.inl ⟨by rfl, ?_⟩) ?_ ?_
    rotate_left
    ·intro w'; go_simp; with_reducible rfl
    rotate_left
    ·simp only [Act.put, Cmp.s, Cmp.z, Cmp.c, i64_w, i32_w]; rfl
    refine last_ (i := 6) (N := none) (Cmp.bm 7 0) rfl rfl (by kernel_rfl) (by decide) (fun K hK => ?_)
    have hs138 : w137.cell? ⟨gb222, 5, none⟩ = some (.int .i64 0) := (blk_cell BK222.out 5).trans rfl
    have hfs138 := blk_frozen BK222.out 5; have hns138_0 := NB219_222.out; have hms138_0 := NB222_219.out
    refine skip_ (w1 := ?_) (by rfl) rfl ?_ ?_
    rotate_left
    ·go_simp; rfl
    refine hK.out _ _ ?_
    clear hK K
    refine done_ (by kernel_rfl) ?_
    try go_wp2
    have n0_ : Aside0 (Kd.R (Kd.int .i64) 3 (w137.setCell ⟨gb222, 5, none⟩ (.int .i64 t227)) w.heap.size (fun _ => True) (.slice Ao136 y224.length co136) y224) := ⟨by (with_reducible repeat (first | apply Kd.R_alloc | apply Kd.R_drewN | apply Kd.R_drew)); exact Kd.R_mono (Kd.R_far (p := ⟨gb222, 5, none⟩) (Kd.R_types HO226.out BK222.out (by decide)) (fun _ hk => hk.2) (.int .i64 t227)) (fun _ hk => trivial)⟩
    have n1_ : Aside0 ((w137.setCell ⟨gb222, 5, none⟩ (.int .i64 t227)).heap[gb219]? = some (.cells #[.int .i64 a3_0, .int .i64 a3_1, .int .i64 a3_2, .int .i64 a3_3] 26 (0, 0))) := ⟨by (with_reducible repeat (first | refine blk_drewN ?_ _ | refine blk_drew ?_ | refine blk_alloc ?_ _)); refine blk_far ?_ NB219_222.out _; (with_reducible repeat (first | refine blk_drewN ?_ _ | refine blk_drew ?_ | refine blk_alloc ?_ _)); exact BK219.out⟩
    have n2_ : Aside0 ((w137.setCell ⟨gb222, 5, none⟩ (.int .i64 t227)).heap[gb222]? = some (.cells #[.int .i64 (l0.length : Int), .int .i64 a1, .int .i64 a2, .int .i64 t220, .int .i64 t221, .int .i64 t227] 74 (0, 0))) := ⟨by (with_reducible repeat (first | refine blk_drewN ?_ _ | refine blk_drew ?_ | refine blk_alloc ?_ _)); refine blk_put (cs := #[.int .i64 (l0.length : Int), .int .i64 a1, .int .i64 a2, .int .i64 t220, .int .i64 t221, .int .i64 0]) ?_ 5 _ rfl; (with_reducible repeat (first | refine blk_drewN ?_ _ | refine blk_drew ?_ | refine blk_alloc ?_ _)); exact BK222.out⟩
    have n3_ : Aside0 (Below w.heap.size w (w137.setCell ⟨gb222, 5, none⟩ (.int .i64 t227))) := ⟨Cmp.g HB.out⟩
    (try clear HO226); (try clear BK219); (try clear BK222); (try clear HB)
    generalize (w137.setCell ⟨gb222, 5, none⟩ (.int .i64 t227)) = w139 at n0_ n1_ n2_ n3_ ⊢
    have HO226 := n0_; have BK219 := n1_; have BK222 := n2_; have HB := n3_; clear n0_ n1_ n2_ n3_; have n0_ := Aside0.mk (Kd.R_drew HO226.out); have n1_ := Aside0.mk (blk_drew BK219.out); have n2_ := Aside0.mk (blk_drew BK222.out); have n3_ := Aside0.mk (below_drew1 HB.out); clear HO226; clear BK219; clear BK222; clear HB; have HO226 := n0_; have BK219 := n1_; have BK222 := n2_; have HB := n3_; clear n0_ n1_ n2_ n3_
    refine start_ (n := 6) (S := fun w' => w'.cell? ⟨gb222, 0, none⟩ = some (.int .i64 (l0.length : Int)) ∧ w'.cell? ⟨gb222, 1, none⟩ = some (.int .i64 a1) ∧ w'.cell? ⟨gb222, 2, none⟩ = some (.int .i64 a2) ∧ w'.cell? ⟨gb222, 3, none⟩ = some (.int .i64 t220) ∧ w'.cell? ⟨gb222, 4, none⟩ = some (.int .i64 t221) ∧ w'.cell? ⟨gb222, 5, none⟩ = some (.int .i64 t227)) (ds := []) (Cmp.bm 0 6) (by kernel_rfl) rfl rfl ⟨(blk_cell BK222.out 0).trans rfl, (blk_cell BK222.out 1).trans rfl, (blk_cell BK222.out 2).trans rfl, (blk_cell BK222.out 3).trans rfl, (blk_cell BK222.out 4).trans rfl, (blk_cell BK222.out 5).trans rfl⟩ (fun hHeld => ?_)
    generalize w139.drew = w140 at HO226 BK219 BK222 HB hHeld ⊢
    refine pure_ (i := 0) (N := some 27) (v := ?_) (a' := ?_) (Cmp.bm 1 5) rfl rfl (by kernel_rfl) (fun _ _ _ h => h) (Or.inl ⟨by rfl, ?_⟩) ?_ ?_
    rotate_left
    ·intro w'; go_simp; with_reducible rfl
    rotate_left
    ·simp only [Act.put, Cmp.s, Cmp.z, Cmp.c, i64_w, i32_w]; rfl
    refine take_ (i := 2) (N := some 29) (v := ?_) (a' := ?_) (Cmp.bb 6 5) rfl rfl (by kernel_rfl) (fun _ _ _ h => h) (Or.inl ⟨by rfl, ?_⟩) hHeld ?_ ?_
    rotate_left
    ·rintro w' ⟨s0, s1, s2, s3, s4, s5⟩; go_simp; with_reducible rfl
    rotate_left
    ·simp only [Act.put, Cmp.s, Cmp.z, Cmp.c, i64_w, i32_w]; rfl
    refine join_ (σ := Value × Value) 2 (Cmp.bm 4 2) (fun s_ => [(28, s_.1), (30, s_.2)]) (fun s_ w' => (w'.cell? ⟨gb222, 0, none⟩ = some (.int .i64 (l0.length : Int)) ∧ w'.cell? ⟨gb222, 1, none⟩ = some (.int .i64 a1) ∧ w'.cell? ⟨gb222, 2, none⟩ = some (.int .i64 a2) ∧ w'.cell? ⟨gb222, 3, none⟩ = some (.int .i64 t220) ∧ w'.cell? ⟨gb222, 4, none⟩ = some (.int .i64 t221) ∧ w'.cell? ⟨gb222, 5, none⟩ = some (.int .i64 t227)) ∧ (Kd.R (Kd.int .i64) 3 w' w.heap.size (fun _ => True) (.slice Ao136 y224.length co136) y224) ∧ (Kd.R k74 74 w' w.heap.size (fun k_ => some k_ ≠ (s_.2 : Value).ownBlock ∧ k_ ≠ gb222) s_.1 t228) ∧ (Kd.R k74 74 w' w.heap.size (fun k_ => some k_ ≠ (s_.1 : Value).ownBlock ∧ k_ ≠ gb222) s_.2 y231) ∧ (w'.heap[gb219]? = some (.cells #[.int .i64 a3_0, .int .i64 a3_1, .int .i64 a3_2, .int .i64 a3_3] 26 (0, 0))) ∧ (w'.heap[gb222]? = some (.cells #[.int .i64 (l0.length : Int), .int .i64 a1, .int .i64 a2, .int .i64 t220, .int .i64 t221, .int .i64 t227] 74 (0, 0))) ∧ (Below w.heap.size w w')) ?_ ?_
    rotate_left
    ·intro hCont
     refine two_ (i := 1) (j := 3) (Ni := some 28) (Nj := some 30) (Cmp.bm 3 3) (Cmp.bb 6 13) rfl rfl rfl rfl (by kernel_rfl) (by decide) (by decide) (fun K hK => ?_) (fun K hK => ?_)
     ·skip
      refine goes_ Try.func52 (by kernel_rfl) rfl #[.slice A0 l0.length c0] (by rfl) rfl rfl Cmp.q ?_
      with_reducible refine (spec_l19Copy.calls _ _ l0 t228 _ ?side1 ?side2 A9.out).mono ?_
      (case side1 => exact Cmp.rc (Kd.C_below HR0.out HB.out))
      (case side2 => exact HC0.out)
      rintro e w141 ⟨v229, rfl, ho0, hb⟩; refine ⟨_, rfl, ?_⟩
      have n0_ := Aside0.mk (Kd.R_below (Cmp.rr HO226.out) hb)
      have n1_ := Aside0.mk (Kd.R_lower (Kd.R_newB ho0 (g := gb222) (o := .cells #[.int .i64 (l0.length : Int), .int .i64 a1, .int .i64 a2, .int .i64 t220, .int .i64 t221, .int .i64 t227] 74 (0, 0)) (Cmp.b BK222.out)) (below_size (Cmp.g HB.out)))
      have n2_ := Aside0.mk (blk_below (Cmp.b BK219.out) hb)
      have n3_ := Aside0.mk (blk_below (Cmp.b BK222.out) hb)
      have n4_ := Aside0.mk (below_step (Cmp.g HB.out) hb)
      clear HO226; clear BK219; clear BK222; clear HB; have HO226 := n0_; have HO230 := n1_; have BK219 := n2_; have BK222 := n3_; have HB := n4_; clear n0_ n1_ n2_ n3_ n4_; (try clear hb); (try clear hb2); (try clear hk); (try clear hi); (try clear ho0)
      refine hK.out _ _ ⟨(blk_cell BK222.out 0).trans rfl, (blk_cell BK222.out 1).trans rfl, (blk_cell BK222.out 2).trans rfl, (blk_cell BK222.out 3).trans rfl, (blk_cell BK222.out 4).trans rfl, (blk_cell BK222.out 5).trans rfl⟩ (fun hHeld => ?_)
      clear hK K
      refine norm_ (a' := ?_) ?_ ?_
      rotate_left
      ·show Act.put _ (some 28) _ = _
       simp only [Act.put, Cmp.s, Cmp.z, Cmp.c, i64_w, i32_w]; rfl
      refine one_ (i := 3) (N := some 30) (Cmp.bm 4 2) rfl rfl (by kernel_rfl) (by decide) (fun K hK => ?_)
      refine Kd.R_lit_step k74 _ 74 ?hg (N := 30) ?hd (xs := ([(⟨(l0.length : Int), a1, a2, t220, t221, t227⟩ : S74)] : List (S74))) (inner := [.int .i64 (l0.length : Int), .int .i64 a1, .int .i64 a2, .int .i64 t220, .int .i64 t221, .int .i64 t227]) (ok := fun _ => True) (okp := fun _ => True) ?hr ?hp (fun _ hk => hk) trivial (Below.refl _ _) (Nat.le_refl _) (by simp) ?_; (case hd => rfl); (case hg => rfl); (case hr => first | (go_simp; done) | (go_simp; rfl)); (case hp => exact (Reps.c6 (show Kd.M k74 _ _ _ (⟨(l0.length : Int), a1, a2, t220, t221, t227⟩ : S74) [.int .i64 (l0.length : Int), .int .i64 a1, .int .i64 a2, .int .i64 t220, .int .i64 t221, .int .i64 t227] from (k74_mkM _ _ _ (⟨(l0.length : Int), a1, a2, t220, t221, t227⟩ : S74) )) (Reps.none _ _)))
      intro v232 w142 ho143 hb hg_ hnew_
      clear hg_ hnew_
      (first | rw [← Ny231.out] at ho143 | (simp only [Int.reduceToNat] at ho143; rw [← Ny231.out] at ho143))
      have n0_ := Aside0.mk (Kd.R_below (Cmp.rr HO226.out) hb)
      have n1_ := Aside0.mk (Kd.R_elder' (Cmp.rr HO230.out) (Kd.R_base ho143) hb)
      have n2_ := Aside0.mk (Kd.R_lower (Kd.R_newB (Kd.R_new' ho143 (Kd.R_lt (Cmp.rr HO230.out))) (g := gb222) (o := .cells #[.int .i64 (l0.length : Int), .int .i64 a1, .int .i64 a2, .int .i64 t220, .int .i64 t221, .int .i64 t227] 74 (0, 0)) (Cmp.b BK222.out)) (below_size (Cmp.g HB.out)))
      have n3_ := Aside0.mk (blk_below (Cmp.b BK219.out) hb)
      have n4_ := Aside0.mk (blk_below (Cmp.b BK222.out) hb)
      have n5_ := Aside0.mk (below_step (Cmp.g HB.out) hb)
      clear HO226; clear HO230; clear BK219; clear BK222; clear HB; have HO226 := n0_; have HO230 := n1_; have HO233 := n2_; have BK219 := n3_; have BK222 := n4_; have HB := n5_; clear n0_ n1_ n2_ n3_ n4_ n5_; clear hb ho143
      refine hK.out _ _ ⟨(blk_cell BK222.out 0).trans rfl, (blk_cell BK222.out 1).trans rfl, (blk_cell BK222.out 2).trans rfl, (blk_cell BK222.out 3).trans rfl, (blk_cell BK222.out 4).trans rfl, (blk_cell BK222.out 5).trans rfl⟩ (fun hHeld => ?_)
      clear hK K
      refine norm_ (a' := ?_) ?_ ?_
      rotate_left
      ·show Act.put _ (some 30) _ = _
       simp only [Act.put, Cmp.s, Cmp.z, Cmp.c, i64_w, i32_w]; rfl
      exact norm_ (by simp only [putAll, Act.put, List.setIfInBounds_toArray, List.set_cons_zero, List.set_cons_succ]) (hCont (v229, v232) _ ⟨hHeld, (Cmp.rr HO226.out), (by (with_reducible repeat (first | apply Kd.R_alloc | apply Kd.R_drewN | apply Kd.R_drew)); exact Kd.R_mono HO230.out (fun _ hk => ⟨hk.2, hk.1.2⟩)), (by (with_reducible repeat (first | apply Kd.R_alloc | apply Kd.R_drewN | apply Kd.R_drew)); exact Kd.R_mono HO233.out (fun _ hk => ⟨hk.1.2, hk.2⟩)), (Cmp.b BK219.out), (Cmp.b BK222.out), (Cmp.g HB.out)⟩)
     ·skip
      refine Kd.R_lit_step k74 _ 74 ?hg (N := 30) ?hd (xs := ([(⟨(l0.length : Int), a1, a2, t220, t221, t227⟩ : S74)] : List (S74))) (inner := [.int .i64 (l0.length : Int), .int .i64 a1, .int .i64 a2, .int .i64 t220, .int .i64 t221, .int .i64 t227]) (ok := fun _ => True) (okp := fun _ => True) ?hr ?hp (fun _ hk => hk) trivial (Below.refl _ _) (Nat.le_refl _) (by simp) ?_; (case hd => rfl); (case hg => rfl); (case hr => first | (go_simp; done) | (go_simp; rfl)); (case hp => exact (Reps.c6 (show Kd.M k74 _ _ _ (⟨(l0.length : Int), a1, a2, t220, t221, t227⟩ : S74) [.int .i64 (l0.length : Int), .int .i64 a1, .int .i64 a2, .int .i64 t220, .int .i64 t221, .int .i64 t227] from (k74_mkM _ _ _ (⟨(l0.length : Int), a1, a2, t220, t221, t227⟩ : S74) )) (Reps.none _ _)))
      intro v232 w141 ho142 hb hg_ hnew_
      clear hg_ hnew_
      (first | rw [← Ny231.out] at ho142 | (simp only [Int.reduceToNat] at ho142; rw [← Ny231.out] at ho142))
      have n0_ := Aside0.mk (Kd.R_below (Cmp.rr HO226.out) hb)
      have n1_ := Aside0.mk (Kd.R_lower (Kd.R_newB ho142 (g := gb222) (o := .cells #[.int .i64 (l0.length : Int), .int .i64 a1, .int .i64 a2, .int .i64 t220, .int .i64 t221, .int .i64 t227] 74 (0, 0)) (Cmp.b BK222.out)) (below_size (Cmp.g HB.out)))
      have n2_ := Aside0.mk (blk_below (Cmp.b BK219.out) hb)
      have n3_ := Aside0.mk (blk_below (Cmp.b BK222.out) hb)
      have n4_ := Aside0.mk (below_step (Cmp.g HB.out) hb)
      clear HO226; clear BK219; clear BK222; clear HB; have HO226 := n0_; have HO233 := n1_; have BK219 := n2_; have BK222 := n3_; have HB := n4_; clear n0_ n1_ n2_ n3_ n4_; clear hb ho142
      refine hK.out _ _ ⟨(blk_cell BK222.out 0).trans rfl, (blk_cell BK222.out 1).trans rfl, (blk_cell BK222.out 2).trans rfl, (blk_cell BK222.out 3).trans rfl, (blk_cell BK222.out 4).trans rfl, (blk_cell BK222.out 5).trans rfl⟩ (fun hHeld => ?_)
      clear hK K
      refine norm_ (a' := ?_) ?_ ?_
      rotate_left
      ·show Act.put _ (some 30) _ = _
       simp only [Act.put, Cmp.s, Cmp.z, Cmp.c, i64_w, i32_w]; rfl
      refine one_ (i := 1) (N := some 28) (Cmp.bm 4 2) rfl rfl (by kernel_rfl) (by decide) (fun K hK => ?_)
      refine goes_ Try.func52 (by kernel_rfl) rfl #[.slice A0 l0.length c0] (by rfl) rfl rfl Cmp.q ?_
      with_reducible refine (spec_l19Copy.calls _ _ l0 t228 _ ?side1 ?side2 A9.out).mono ?_
      (case side1 => exact Cmp.rc (Kd.C_below HR0.out HB.out))
      (case side2 => exact HC0.out)
      rintro e w143 ⟨v229, rfl, ho0, hb⟩; refine ⟨_, rfl, ?_⟩
      have n0_ := Aside0.mk (Kd.R_below (Cmp.rr HO226.out) hb)
      have n1_ := Aside0.mk (Kd.R_elder' (Cmp.rr HO233.out) (Kd.R_base ho0) hb)
      have n2_ := Aside0.mk (Kd.R_lower (Kd.R_newB (Kd.R_new' ho0 (Kd.R_lt (Cmp.rr HO233.out))) (g := gb222) (o := .cells #[.int .i64 (l0.length : Int), .int .i64 a1, .int .i64 a2, .int .i64 t220, .int .i64 t221, .int .i64 t227] 74 (0, 0)) (Cmp.b BK222.out)) (below_size (Cmp.g HB.out)))
      have n3_ := Aside0.mk (blk_below (Cmp.b BK219.out) hb)
      have n4_ := Aside0.mk (blk_below (Cmp.b BK222.out) hb)
      have n5_ := Aside0.mk (below_step (Cmp.g HB.out) hb)
      clear HO226; clear HO233; clear BK219; clear BK222; clear HB; have HO226 := n0_; have HO233 := n1_; have HO230 := n2_; have BK219 := n3_; have BK222 := n4_; have HB := n5_; clear n0_ n1_ n2_ n3_ n4_ n5_; (try clear hb); (try clear hb2); (try clear hk); (try clear hi); (try clear ho0)
      refine hK.out _ _ ⟨(blk_cell BK222.out 0).trans rfl, (blk_cell BK222.out 1).trans rfl, (blk_cell BK222.out 2).trans rfl, (blk_cell BK222.out 3).trans rfl, (blk_cell BK222.out 4).trans rfl, (blk_cell BK222.out 5).trans rfl⟩ (fun hHeld => ?_)
      clear hK K
      refine norm_ (a' := ?_) ?_ ?_
      rotate_left
      ·show Act.put _ (some 28) _ = _
       simp only [Act.put, Cmp.s, Cmp.z, Cmp.c, i64_w, i32_w]; rfl
      exact norm_ (by simp only [putAll, Act.put, List.setIfInBounds_toArray, List.set_cons_zero, List.set_cons_succ]) (hCont (v229, v232) _ ⟨hHeld, (Cmp.rr HO226.out), (by (with_reducible repeat (first | apply Kd.R_alloc | apply Kd.R_drewN | apply Kd.R_drew)); exact Kd.R_mono HO230.out (fun _ hk => ⟨hk.1.2, hk.2⟩)), (by (with_reducible repeat (first | apply Kd.R_alloc | apply Kd.R_drewN | apply Kd.R_drew)); exact Kd.R_mono HO233.out (fun _ hk => ⟨hk.2, hk.1.2⟩)), (Cmp.b BK219.out), (Cmp.b BK222.out), (Cmp.g HB.out)⟩)
    rintro ⟨v229, v232⟩ w144 ⟨hS_, h0_, h1_, h2_, h3_, h4_, h5_⟩
    have n0_ : Aside0 (Kd.R (Kd.int .i64) 3 w144 w.heap.size (fun _ => True) (.slice Ao136 y224.length co136) y224) := ⟨h0_⟩
    have n1_ : Aside0 (Kd.R k74 74 w144 w.heap.size (fun k_ => some k_ ≠ (v232 : Value).ownBlock ∧ k_ ≠ gb222) v229 t228) := ⟨h1_⟩
    have n2_ : Aside0 (Kd.R k74 74 w144 w.heap.size (fun k_ => some k_ ≠ (v229 : Value).ownBlock ∧ k_ ≠ gb222) v232 y231) := ⟨h2_⟩
    have n3_ : Aside0 (w144.heap[gb219]? = some (.cells #[.int .i64 a3_0, .int .i64 a3_1, .int .i64 a3_2, .int .i64 a3_3] 26 (0, 0))) := ⟨h3_⟩
    have n4_ : Aside0 (w144.heap[gb222]? = some (.cells #[.int .i64 (l0.length : Int), .int .i64 a1, .int .i64 a2, .int .i64 t220, .int .i64 t221, .int .i64 t227] 74 (0, 0))) := ⟨h4_⟩
    have n5_ : Aside0 (Below w.heap.size w w144) := ⟨h5_⟩
    clear HO226; clear BK219; clear BK222; clear HB; clear h0_ h1_ h2_ h3_ h4_ h5_; have HO226 := n0_; have HO230 := n1_; have HO233 := n2_; have BK219 := n3_; have BK222 := n4_; have HB := n5_; clear n0_ n1_ n2_ n3_ n4_ n5_
    have hHeld : w144.cell? ⟨gb222, 0, none⟩ = some (.int .i64 (l0.length : Int)) ∧ w144.cell? ⟨gb222, 1, none⟩ = some (.int .i64 a1) ∧ w144.cell? ⟨gb222, 2, none⟩ = some (.int .i64 a2) ∧ w144.cell? ⟨gb222, 3, none⟩ = some (.int .i64 t220) ∧ w144.cell? ⟨gb222, 4, none⟩ = some (.int .i64 t221) ∧ w144.cell? ⟨gb222, 5, none⟩ = some (.int .i64 t227) := hS_
    obtain ⟨Ao146, co146, eo146⟩ := Kd.R_slice HO233.out
    (first | subst eo146 | (injection eo146 with f1_ f2_ f3_; have f4_ := f1_.symm; have f5_ := f3_.symm; clear f1_ f2_ f3_; subst f4_; subst f5_))
    refine norm_ (a' := ?_) ?_ ?_
    rotate_left
    ·simp only [putAll, Act.put, List.setIfInBounds_toArray, List.set_cons_zero, List.set_cons_succ]; rfl
    refine one_ (i := 4) (N := some 31) (Cmp.bm 5 1) rfl rfl (by kernel_rfl) (by decide) (fun K hK => ?_)
    refine Kd.R_append_rows_step k74 (w0 := w) w.heap.size (by rfl) (.tmp 28) (.tmp 30) 24 74 (.agg #[(.int .i64 0), (.int .i64 0), (.int .i64 0), (.int .i64 0), (.int .i64 0), (.int .i64 0)]) 48 rfl Try.underlying24 info74 rfl (by decide) (by omega) v229 t228 y231 _ _ _ (fun k_ => some k_ ≠ (.slice Ao146 y231.length co146 : Value).ownBlock ∧ k_ ≠ gb222) (fun _ => False) rfl rfl ?aO ?aR (fun _ _ h => h) (fun _ h => h.elim) ?aF ?aB ?aS ?aL ?_
    (case aR => repeat (first | exact (Kd.R_reads' HO233.out).2.2 | (with_reducible refine Kd.C_alloc ?_ _) | (with_reducible refine Kd.C_drewN ?_ _) | (with_reducible refine Kd.C_drew ?_)))
    (case aB => exact (Cmp.g HB.out))
    (case aF => exact (fun k_ hk => ⟨Kd.fresh' (Kd.R_lt (Cmp.rr HO233.out)) k_ hk, Kd.freshB (g := gb222) (o := .cells #[.int .i64 (l0.length : Int), .int .i64 a1, .int .i64 a2, .int .i64 t220, .int .i64 t221, .int .i64 t227] 74 (0, 0)) (Cmp.b BK222.out) k_ hk⟩))
    (case aO => exact (Cmp.rr HO230.out))
    (case aS => exact (below_size (Cmp.g HB.out)))
    (case aL => have := LMc10.out; omega)
    intro v235 w145 ho hb hg hat
    rw [← Ny234.out] at ho
    have n0_ := Aside0.mk (blk_grown (g := gb219) (o := .cells #[.int .i64 a3_0, .int .i64 a3_1, .int .i64 a3_2, .int .i64 a3_3] 26 (0, 0)) (Cmp.b BK219.out) hg (Kd.R_ne HO230.out BK219.out (by decide)))
    have n1_ := Aside0.mk (blk_grown (g := gb222) (o := .cells #[.int .i64 (l0.length : Int), .int .i64 a1, .int .i64 a2, .int .i64 t220, .int .i64 t221, .int .i64 t227] 74 (0, 0)) (Cmp.b BK222.out) hg (Kd.R_away HO230.out (fun _ hk => hk.2)))
    have n2_ := Aside0.mk (Kd.R_over' (Cmp.rr HO226.out) (Kd.R_typed (Cmp.rr HO230.out)) (by decide) hg)
    have n3_ := Aside0.mk (Kd.R_after (ok := (fun k_ => k_ ≠ gb222)) (by (with_reducible repeat (first | apply Kd.R_alloc | apply Kd.R_drewN | apply Kd.R_drew)); exact Kd.R_mono HO233.out (fun _ hk => ⟨hk.2, hk.1⟩)) hg hat)
    have n4_ := Aside0.mk (hb)
    have n5_ := Aside0.mk (ho)
    clear BK219; clear BK222; clear HO226; clear HO233; clear HB; clear HO230; have BK219 := n0_; have BK222 := n1_; have HO226 := n2_; have HO233 := n3_; have HB := n4_; have HO236 := n5_; clear n0_ n1_ n2_ n3_ n4_ n5_; clear ho hb hg hat
    refine hK.out _ _ ⟨(blk_cell BK222.out 0).trans rfl, (blk_cell BK222.out 1).trans rfl, (blk_cell BK222.out 2).trans rfl, (blk_cell BK222.out 3).trans rfl, (blk_cell BK222.out 4).trans rfl, (blk_cell BK222.out 5).trans rfl⟩ (fun hHeld => ?_)
    clear hK K
    refine norm_ (a' := ?_) ?_ ?_
    rotate_left
    ·show Act.put _ (some 31) _ = _
     simp only [Act.put, Cmp.s, Cmp.z, Cmp.c, i64_w, i32_w]; rfl
    refine pure_ (i := 5) (N := some 11) (v := ?_) (a' := ?_) (Cmp.bm 6 0) rfl rfl (by kernel_rfl) (fun _ _ _ h => h) (Or.inl ⟨by rfl, ?_⟩) ?_ ?_
    rotate_left
    ·intro w'; go_simp; with_reducible rfl
    rotate_left
    ·simp only [Act.put, Cmp.s, Cmp.z, Cmp.c, i64_w, i32_w]; rfl
    refine done_ (by kernel_rfl) ?_
    obtain ⟨Ao147, co147, eo147⟩ := Kd.R_slice HO236.out
    subst eo147
    try go_wp2_with (first | (go_at_call 53; (with_reducible refine (spec_VerifyLog.calls k _ _ y234 false _ ?side1 ?side2 A96.out).mono ?_); (case side1 => exact Cmp.rc (Kd.R_reads' HO236.out).2.2); (case side2 => exact (Kd.R_reads' HO236.out).2.1); rintro e w148 ⟨rfl, hb⟩; have n0_ := Aside0.mk (Kd.R_below (Cmp.rr HO226.out) hb); have n1_ := Aside0.mk (Kd.R_below (Cmp.rr HO233.out) hb); have n2_ := Aside0.mk (Kd.R_below (Cmp.rr HO236.out) hb); have n3_ := Aside0.mk (blk_below (Cmp.b BK219.out) hb); have n4_ := Aside0.mk (blk_below (Cmp.b BK222.out) hb); have n5_ := Aside0.mk (below_step (Cmp.g HB.out) hb); clear HO226; clear HO233; clear HO236; clear BK219; clear BK222; clear HB; have HO226 := n0_; have HO233 := n1_; have HO236 := n2_; have BK219 := n3_; have BK222 := n4_; have HB := n5_; clear n0_ n1_ n2_ n3_ n4_ n5_; (try clear hb); (try clear hb2); (try clear hk); (try clear hi)) | ((with_reducible refine gate_callee (f := 52) rfl ?_); refine goesL_ (some 46) rfl rfl Try.func52 (by kernel_rfl) rfl #[.slice A0 l0.length c0] rfl Cmp.q ?_; (with_reducible refine (spec_l19Copy.calls _ _ l0 t246 _ ?side1 ?side2 A123.out).mono ?_); (case side1 => exact Cmp.rc (Kd.C_below HR0.out HB.out)); (case side2 => exact HC0.out); rintro e w149 ⟨v247, rfl, ho0, hb⟩; refine ⟨_, rfl, ?_⟩; have n0_ := Aside0.mk (Kd.R_below (Cmp.rr HO226.out) hb); have n1_ := Aside0.mk (Kd.R_elder' (Cmp.rr HO233.out) (Kd.R_base ho0) hb); have n2_ := Aside0.mk (Kd.R_elder' (Cmp.rr HO236.out) (Kd.R_base ho0) hb); have n3_ := Aside0.mk (Kd.R_lower (Kd.R_newB (Kd.R_new' (Kd.R_new' ho0 (Kd.R_lt (Cmp.rr HO233.out))) (Kd.R_lt (Cmp.rr HO236.out))) (g := gb222) (o := .cells #[.int .i64 (l0.length : Int), .int .i64 a1, .int .i64 a2, .int .i64 t220, .int .i64 t221, .int .i64 t227] 74 (0, 0)) (Cmp.b BK222.out)) (below_size (Cmp.g HB.out))); have n4_ := Aside0.mk (blk_below (Cmp.b BK219.out) hb); have n5_ := Aside0.mk (blk_below (Cmp.b BK222.out) hb); have n6_ := Aside0.mk (below_step (Cmp.g HB.out) hb); clear HO226; clear HO233; clear HO236; clear BK219; clear BK222; clear HB; have HO226 := n0_; have HO233 := n1_; have HO236 := n2_; have HO248 := n3_; have BK219 := n4_; have BK222 := n5_; have HB := n6_; clear n0_ n1_ n2_ n3_ n4_ n5_ n6_; (try clear hb); (try clear hb2); (try clear hk); (try clear hi); (try clear ho0)))
    go_ret2
    exact ⟨_, by first | rfl | (simp [errW_none, errW_some] <;> rfl) | (simp [*, errW_none, errW_some] <;> rfl), by (with_reducible repeat (first | apply Kd.R_alloc | apply Kd.R_drewN | apply Kd.R_drew)); exact Kd.R_mono HO248.out (fun _ hk => trivial), Cmp.g HB.out⟩
 ·rw [if_neg c10] at H; exact absurd H (by simp)

end Go.Proofs.Ytpgjecknkmmnhaa.PFnRemoved

/- Printed functions of the program, out of print.sh, told more shortly. No condition. -/
import Derived.Test.YtgcipecdaimjfaaCmp
import Derived.Test.YtgcipecdaimjfaaPFnDeviceLogsx0
import Derived.Test.YtgcipecdaimjfaaPFnDeviceLogsx5
import Derived.Test.YtgcipecdaimjfaaPFnDeviceLogsx6
namespace Go.Proofs.Ytgcipecdaimjfaa.PFnDeviceLogs
open Go.Proofs.Ytgcipecdaimjfaa
open Go.RowKit Go.Proofs.YtgcipecdaimjfaaW.PrintWords Go.Proofs.YtgcipecdaimjfaaW.PrintLast Go.Proofs.YtgcipecdaimjfaaW.PrintMore
attribute [local go_sem] max2_int min2_int max_two min_two max_three min_three max_four min_four   -- for this text's walks alone
set_option linter.unusedVariables false
set_option linter.unusedSimpArgs false

/-! ### spec_l19Step: function 61 -/
mutual
def spec_l19Step.j0 : Nat → List (S86) → List Int → Bool → Int → Int → Int → Int → Int → Int → Option (Bool)
  | 0, _, _, _, _, _, _, _, _, _ => none
  | k + 1, x0, x5, x6, x277000, x277001, x277002, x277003, x277004, x277005 => if x277000 = (x0.length : Int) then ((spec_LogHead.f k x0).bind fun t281 => (if x277004 = t281 then (if x6 = true then ((spec_EntryHash.f k x277000 x277001 x277002 x277003 x277004 x277005).bind fun t282 => ((spec_VerifySignature.f k x277003 (([t282] : List Int)) x277005).bind fun t286 => (spec_l19Step.j1 k x0 x5 (!t286) x277000 x277001 x277002 x277003 x277004 x277005))) else (spec_l19Step.j1 k x0 x5 true x277000 x277001 x277002 x277003 x277004 x277005)) else (spec_l19Step.j1 k x0 x5 true x277000 x277001 x277002 x277003 x277004 x277005))) else (spec_l19Step.j1 k x0 x5 true x277000 x277001 x277002 x277003 x277004 x277005)
def spec_l19Step.j1 : Nat → List (S86) → List Int → Bool → Int → Int → Int → Int → Int → Int → Option (Bool)
  | 0, _, _, _, _, _, _, _, _, _ => none
  | k + 1, x0, x5, x52, x277000, x277001, x277002, x277003, x277004, x277005 => if x52 = true then (some false) else (if x277001 = 2 then ((spec_l19Has.f k x5 x277002).bind fun t287 => (if t287 = true then (some (decide ((x5.length : Int) > 1))) else (some false))) else (spec_l19Step.l0 k x0 x5 0 x277000 x277001 x277002 x277003 x277004 x277005))
def spec_l19Step.l0 : Nat → List (S86) → List Int → Int → Int → Int → Int → Int → Int → Int → Option (Bool)
  | 0, _, _, _, _, _, _, _, _, _ => none
  | k + 1, x0, x5, x7, x277000, x277001, x277002, x277003, x277004, x277005 => if x7 < (x0.length : Int) then (if 0 ≤ x7 then (if ((rd_T86 x0 x7).f1) = 2 then (if ((rd_T86 x0 x7).f2) = x277002 then (some false) else (spec_l19Step.l0 k x0 x5 (wrap64 (x7 + 1)) x277000 x277001 x277002 x277003 x277004 x277005)) else (spec_l19Step.l0 k x0 x5 (wrap64 (x7 + 1)) x277000 x277001 x277002 x277003 x277004 x277005)) else (none)) else (if x277001 = 1 then ((spec_l19Has.f k x5 x277002).bind fun t290 => (if t290 = true then (some false) else (some (decide ((x5.length : Int) < 6))))) else (some false))
end
def spec_l19Step.f (k : Nat) (l0 : List (S86)) (a1_0 : Int) (a1_1 : Int) (a1_2 : Int) (a1_3 : Int) (a1_4 : Int) (a1_5 : Int) : Option (Bool) := (spec_DevicesOf.f k l0).bind fun t277 => ((spec_l19Has.f k t277 a1_3).bind fun t280 => (if t280 = true then (spec_l19Step.j0 k l0 t277 true a1_0 a1_1 a1_2 a1_3 a1_4 a1_5) else (if (l0.length : Int) = 0 then (spec_l19Step.j0 k l0 t277 (a1_3 == a1_2) a1_0 a1_1 a1_2 a1_3 a1_4 a1_5) else (spec_l19Step.j0 k l0 t277 false a1_0 a1_1 a1_2 a1_3 a1_4 a1_5))))
theorem spec_l19Step.mono_l : ∀ k, (∀ y0 y1 y2 y3 y4 y5 y6 y7 y8, LeO (spec_l19Step.j0 k y0 y1 y2 y3 y4 y5 y6 y7 y8) (spec_l19Step.j0 (k + 1) y0 y1 y2 y3 y4 y5 y6 y7 y8)) ∧ (∀ y0 y1 y2 y3 y4 y5 y6 y7 y8, LeO (spec_l19Step.j1 k y0 y1 y2 y3 y4 y5 y6 y7 y8) (spec_l19Step.j1 (k + 1) y0 y1 y2 y3 y4 y5 y6 y7 y8)) ∧ (∀ y0 y1 y2 y3 y4 y5 y6 y7 y8, LeO (spec_l19Step.l0 k y0 y1 y2 y3 y4 y5 y6 y7 y8) (spec_l19Step.l0 (k + 1) y0 y1 y2 y3 y4 y5 y6 y7 y8))
  | 0 => ⟨fun _ _ _ _ _ _ _ _ _ r h => by simp [spec_l19Step.j0] at h, fun _ _ _ _ _ _ _ _ _ r h => by simp [spec_l19Step.j1] at h, fun _ _ _ _ _ _ _ _ _ r h => by simp [spec_l19Step.l0] at h⟩
  | k + 1 => by
    obtain ⟨ih0, ih1, ih2⟩ := spec_l19Step.mono_l k
    refine ⟨?_, ?_, ?_⟩
    · intro y0 y1 y2 y3 y4 y5 y6 y7 y8
      unfold spec_l19Step.j0
      repeat' first
      | (with_reducible exact ih0 _ _ _ _ _ _ _ _ _)
      | (with_reducible exact ih1 _ _ _ _ _ _ _ _ _)
      | (with_reducible exact ih2 _ _ _ _ _ _ _ _ _)
      | (with_reducible exact spec_DevicesOf.mono _ _)
      | (with_reducible exact spec_EntryHash.mono _ _ _ _ _ _ _)
      | (with_reducible exact spec_LogHead.mono _ _)
      | (with_reducible exact spec_VerifySignature.mono _ _ _ _)
      | (with_reducible exact spec_l19Has.mono _ _ _)
      | (with_reducible exact LeO.refl _)
      | (with_reducible exact LeO.none _)
      | (with_reducible refine LeO.ite ?_ ?_)
      | (with_reducible refine LeO.bind ?_ (fun _ => ?_))
      | exact ih0 _ _ _ _ _ _ _ _ _
      | exact ih1 _ _ _ _ _ _ _ _ _
      | exact ih2 _ _ _ _ _ _ _ _ _
      | exact spec_DevicesOf.mono _ _
      | exact spec_EntryHash.mono _ _ _ _ _ _ _
      | exact spec_LogHead.mono _ _
      | exact spec_VerifySignature.mono _ _ _ _
      | exact spec_l19Has.mono _ _ _
      | exact LeO.none _
      | refine LeO.ite ?_ ?_
      | refine LeO.bind ?_ (fun _ => ?_)
    · intro y0 y1 y2 y3 y4 y5 y6 y7 y8
      unfold spec_l19Step.j1
      repeat' first
      | (with_reducible exact ih0 _ _ _ _ _ _ _ _ _)
      | (with_reducible exact ih1 _ _ _ _ _ _ _ _ _)
      | (with_reducible exact ih2 _ _ _ _ _ _ _ _ _)
      | (with_reducible exact spec_DevicesOf.mono _ _)
      | (with_reducible exact spec_EntryHash.mono _ _ _ _ _ _ _)
      | (with_reducible exact spec_LogHead.mono _ _)
      | (with_reducible exact spec_VerifySignature.mono _ _ _ _)
      | (with_reducible exact spec_l19Has.mono _ _ _)
      | (with_reducible exact LeO.refl _)
      | (with_reducible exact LeO.none _)
      | (with_reducible refine LeO.ite ?_ ?_)
      | (with_reducible refine LeO.bind ?_ (fun _ => ?_))
      | exact ih0 _ _ _ _ _ _ _ _ _
      | exact ih1 _ _ _ _ _ _ _ _ _
      | exact ih2 _ _ _ _ _ _ _ _ _
      | exact spec_DevicesOf.mono _ _
      | exact spec_EntryHash.mono _ _ _ _ _ _ _
      | exact spec_LogHead.mono _ _
      | exact spec_VerifySignature.mono _ _ _ _
      | exact spec_l19Has.mono _ _ _
      | exact LeO.none _
      | refine LeO.ite ?_ ?_
      | refine LeO.bind ?_ (fun _ => ?_)
    · intro y0 y1 y2 y3 y4 y5 y6 y7 y8
      unfold spec_l19Step.l0
      repeat' first
      | (with_reducible exact ih0 _ _ _ _ _ _ _ _ _)
      | (with_reducible exact ih1 _ _ _ _ _ _ _ _ _)
      | (with_reducible exact ih2 _ _ _ _ _ _ _ _ _)
      | (with_reducible exact spec_DevicesOf.mono _ _)
      | (with_reducible exact spec_EntryHash.mono _ _ _ _ _ _ _)
      | (with_reducible exact spec_LogHead.mono _ _)
      | (with_reducible exact spec_VerifySignature.mono _ _ _ _)
      | (with_reducible exact spec_l19Has.mono _ _ _)
      | (with_reducible exact LeO.refl _)
      | (with_reducible exact LeO.none _)
      | (with_reducible refine LeO.ite ?_ ?_)
      | (with_reducible refine LeO.bind ?_ (fun _ => ?_))
      | exact ih0 _ _ _ _ _ _ _ _ _
      | exact ih1 _ _ _ _ _ _ _ _ _
      | exact ih2 _ _ _ _ _ _ _ _ _
      | exact spec_DevicesOf.mono _ _
      | exact spec_EntryHash.mono _ _ _ _ _ _ _
      | exact spec_LogHead.mono _ _
      | exact spec_VerifySignature.mono _ _ _ _
      | exact spec_l19Has.mono _ _ _
      | exact LeO.none _
      | refine LeO.ite ?_ ?_
      | refine LeO.bind ?_ (fun _ => ?_)
theorem spec_l19Step.mono : ∀ a0 a1 a2 a3 a4 a5 a6 k, LeO (spec_l19Step.f k a0 a1 a2 a3 a4 a5 a6) (spec_l19Step.f (k + 1) a0 a1 a2 a3 a4 a5 a6) := by
  intro a0 a1 a2 a3 a4 a5 a6 k
  obtain ⟨ih0, ih1, ih2⟩ := spec_l19Step.mono_l k
  unfold spec_l19Step.f
  repeat' first
      | (with_reducible exact ih0 _ _ _ _ _ _ _ _ _)
      | (with_reducible exact ih1 _ _ _ _ _ _ _ _ _)
      | (with_reducible exact ih2 _ _ _ _ _ _ _ _ _)
      | (with_reducible exact spec_DevicesOf.mono _ _)
      | (with_reducible exact spec_EntryHash.mono _ _ _ _ _ _ _)
      | (with_reducible exact spec_LogHead.mono _ _)
      | (with_reducible exact spec_VerifySignature.mono _ _ _ _)
      | (with_reducible exact spec_l19Has.mono _ _ _)
      | (with_reducible exact LeO.refl _)
      | (with_reducible exact LeO.none _)
      | (with_reducible refine LeO.ite ?_ ?_)
      | (with_reducible refine LeO.bind ?_ (fun _ => ?_))
      | exact ih0 _ _ _ _ _ _ _ _ _
      | exact ih1 _ _ _ _ _ _ _ _ _
      | exact ih2 _ _ _ _ _ _ _ _ _
      | exact spec_DevicesOf.mono _ _
      | exact spec_EntryHash.mono _ _ _ _ _ _ _
      | exact spec_LogHead.mono _ _
      | exact spec_VerifySignature.mono _ _ _ _
      | exact spec_l19Has.mono _ _ _
      | exact LeO.none _
      | refine LeO.ite ?_ ?_
      | refine LeO.bind ?_ (fun _ => ?_)
def spec_l19Step.T3 : Bool × List (List Nat × List Nat) := (true, [([], []), ([0], [0]), ([], []), ([2], [2]), ([1, 3], [1, 3]), ([4], [4]), ([5], [5]), ([6, 5], [5, 6]), ([5], [5]), ([8, 5, 5], [5, 8]), ([7, 9, 5], [5, 7, 9]), ([5, 10], [5, 10]), ([11, 9], [11]), ([12], [12]), ([13, 12], [12, 13]), ([12, 14], [12, 14]), ([15, 12], [15]), ([16], [16]), ([17, 16], [16, 17]), ([16], [16]), ([19, 16, 16], [16, 19]), ([20, 16], [16, 20]), ([16], [16]), ([22, 16], [16, 22]), ([18, 21, 23, 20, 16], [16, 18, 21, 23]), ([24, 16], [16, 24]), ([16, 25], [16, 25])])
def spec_l19Step.B3 : List Nat := [0, 1, 0, 4, 15, 31, 63, 127, 63, 319, 1023, 2047, 4095, 8191, 16383, 32767, 65535, 131071, 262143, 131071, 655359, 1703935, 131071, 4325375, 16777215, 33554431, 67108863]
theorem spec_l19Step.tab3 : rtab .any (opsOf Try.f61 3) = spec_l19Step.T3 := by kernel_rfl
theorem spec_l19Step.bits3 : waitsOk spec_l19Step.T3.2 spec_l19Step.B3 = true := by kernel_rfl
def spec_l19Step.T10 : Bool × List (List Nat × List Nat) := (true, [([], []), ([], []), ([0, 1], [0, 1]), ([2], [2]), ([3], [3]), ([4], [4]), ([5], [5]), ([6], [6]), ([6], [6]), ([7, 8, 6], [6, 7, 8]), ([9, 6], [6, 9]), ([10, 6], [6, 10]), ([6], [6]), ([12, 6], [6, 12]), ([11, 13, 6], [6, 11, 13]), ([6, 14], [6, 14])])
def spec_l19Step.B10 : List Nat := [0, 0, 3, 7, 15, 31, 63, 127, 127, 511, 1023, 2047, 127, 4223, 16383, 32767]
theorem spec_l19Step.tab10 : rtab .any (opsOf Try.f61 10) = spec_l19Step.T10 := by kernel_rfl
theorem spec_l19Step.bits10 : waitsOk spec_l19Step.T10.2 spec_l19Step.B10 = true := by kernel_rfl
set_option maxHeartbeats 8000000 in
set_option maxRecDepth 100000 in
theorem spec_l19Step.calls (k : Nat) (A0 : Option Addr) (c0 : Nat) (l0 : List (S86)) (a1_0 : Int) (a1_1 : Int) (a1_2 : Int) (a1_3 : Int) (a1_4 : Int) (a1_5 : Int) (r : Bool) (w : World) (hr0 : Kd.C k86 w A0 l0.length l0) (hc0 : l0.length ≤ c0) (h : spec_l19Step.f k l0 a1_0 a1_1 a1_2 a1_3 a1_4 a1_5 = some r) :
    Calls Try.prog 61 #[.slice A0 l0.length c0, .agg #[.int .i64 a1_0, .int .i64 a1_1, .int .i64 a1_2, .int .i64 a1_3, .int .i64 a1_4, .int .i64 a1_5]] w fun e w' => e = .returned (.bool r) ∧ Below w.heap.size w w' := by
 have hu86 := Try.underlying86; have HR0 := Aside0.mk hr0; have HC0 := Aside0.mk hc0; clear hr0 hc0
 have HB := Aside0.mk (Below.refl w.heap.size w)
 have H : ((spec_DevicesOf.f k l0).bind fun t277 => ((spec_l19Has.f k t277 a1_3).bind fun t280 => (if t280 = true then (spec_l19Step.j0 k l0 t277 true a1_0 a1_1 a1_2 a1_3 a1_4 a1_5) else (if (l0.length : Int) = 0 then (spec_l19Step.j0 k l0 t277 (a1_3 == a1_2) a1_0 a1_1 a1_2 a1_3 a1_4 a1_5) else (spec_l19Step.j0 k l0 t277 false a1_0 a1_1 a1_2 a1_3 a1_4 a1_5))))) = some r := h
 clear h; replace H := Option.bind_eq_some_iff.mp H; obtain ⟨t277, A30, H⟩ := H; (try dsimp only at H); have A3 := Aside0.mk A30; clear A30; have HC4 := Aside0.mk H; clear H
 go_enter Try.func61, Try.ntmps61
 go_upto_region 2 with (first | ((with_reducible refine gate_dst (N := 3) rfl ?_); (try (refine gate_guard (by rfl) ?_; dsimp only)); refine box_event ?hg (N := 3) ?hd (cs := #[.int .i64 a1_0, .int .i64 a1_1, .int .i64 a1_2, .int .i64 a1_3, .int .i64 a1_4, .int .i64 a1_5]) (t := 86) ?hr ?_; (case hd => rfl); (case hg => rfl); (case hr => first | (go_simp; done) | (go_simp; rfl)); intro gb276 hg w5 hbox hb; have n0_ := Aside0.mk (below_step (Cmp.g HB.out) hb); have n1_ := Aside0.mk (hbox); have n2_ := Aside0.mk ((by rw [hg]; exact (below_size (Cmp.g HB.out)) : w.heap.size ≤ gb276)); have n3_ := Aside0.mk ((by rw [hg]; exact (below_size (Cmp.g HB.out)) : w.heap.size ≤ gb276)); clear HB; have HB := n0_; have BK276 := n1_; have GW276 := n2_; have GE276 := n3_; clear n0_ n1_ n2_ n3_; clear hb hbox hg) | ((with_reducible refine gate_callee (f := 117) rfl ?_); refine goesL_ (some 9) rfl rfl Try.func117 (by kernel_rfl) rfl #[.slice A0 l0.length c0] rfl Cmp.q ?_; (with_reducible refine (spec_DevicesOf.calls k _ _ l0 t277 _ ?side1 ?side2 A3.out).mono ?_); (case side1 => exact Cmp.rc (Kd.C_below HR0.out HB.out)); (case side2 => exact HC0.out); rintro e w6 ⟨v278, rfl, ho0, hb⟩; refine ⟨_, rfl, ?_⟩; have n0_ := Aside0.mk (Kd.R_lower ho0 (below_size (Cmp.g HB.out))); have n1_ := Aside0.mk (blk_below (Cmp.b BK276.out) hb); have n2_ := Aside0.mk (below_step (Cmp.g HB.out) hb); clear BK276; clear HB; have HO279 := n0_; have BK276 := n1_; have HB := n2_; clear n0_ n1_ n2_; (try clear hb); (try clear hb2); (try clear hk); (try clear hi); (try clear ho0)))
 (try simp only [Act.put, List.setIfInBounds_toArray, List.set_cons_zero, List.set_cons_succ])
 go_cut [6] (fun v6 wc => ∃ (kq : Nat) (x6_3 : Bool), v6 = .bool x6_3 ∧ Aside0 (spec_l19Step.j0 kq l0 t277 x6_3 a1_0 a1_1 a1_2 a1_3 a1_4 a1_5 = some r) ∧ Aside0 (kq ≤ k) ∧ Aside0 (Kd.R (Kd.int .i64) 3 wc w.heap.size (fun _ => True) v278 t277) ∧ Aside0 (wc.heap[gb276]? = some (.cells #[.int .i64 a1_0, .int .i64 a1_1, .int .i64 a1_2, .int .i64 a1_3, .int .i64 a1_4, .int .i64 a1_5] 86 (0, 0))) ∧ Aside0 (Below w.heap.size w wc))
 case first =>
  have H := HC4.out; clear HC4; replace H := Option.bind_eq_some_iff.mp H; obtain ⟨t280, A70, H⟩ := H; (try dsimp only at H); have A7 := Aside0.mk A70; clear A70
  by_cases c8 : t280 = true
  ·subst c8; rw [if_pos rfl] at H
   have H' := Aside0.mk H
   clear H
   have hcz9_0 : w6.cell? ⟨gb276, 0, none⟩ = some (.int .i64 a1_0) := (blk_cell BK276.out 0).trans rfl
   have hcz9_1 : w6.cell? ⟨gb276, 1, none⟩ = some (.int .i64 a1_1) := (blk_cell BK276.out 1).trans rfl
   have hcz9_2 : w6.cell? ⟨gb276, 2, none⟩ = some (.int .i64 a1_2) := (blk_cell BK276.out 2).trans rfl
   have hcz9_3 : w6.cell? ⟨gb276, 3, none⟩ = some (.int .i64 a1_3) := (blk_cell BK276.out 3).trans rfl
   have hcz9_4 : w6.cell? ⟨gb276, 4, none⟩ = some (.int .i64 a1_4) := (blk_cell BK276.out 4).trans rfl
   have hcz9_5 : w6.cell? ⟨gb276, 5, none⟩ = some (.int .i64 a1_5) := (blk_cell BK276.out 5).trans rfl
   have hfz9_0 := blk_frozen BK276.out 0; have hfz9_1 := blk_frozen BK276.out 1; have hfz9_2 := blk_frozen BK276.out 2; have hfz9_3 := blk_frozen BK276.out 3; have hfz9_4 := blk_frozen BK276.out 4; have hfz9_5 := blk_frozen BK276.out 5
   obtain ⟨Ao10, co10, eo10⟩ := Kd.R_slice HO279.out
   subst eo10
   go_wp2_with (first | ((with_reducible refine gate_callee (f := 118) rfl ?_); refine goesL_ (some 13) rfl rfl Try.func118 (by kernel_rfl) rfl #[.slice Ao10 t277.length co10, .int .i64 a1_3] rfl Cmp.q ?_; (with_reducible refine (spec_l19Has.calls k _ _ t277 a1_3 true _ ?side1 ?side2 A7.out).mono ?_); (case side1 => exact Cmp.rc (Kd.R_reads' HO279.out).2.2); (case side2 => exact (Kd.R_reads' HO279.out).2.1); rintro e w' ⟨rfl, ⟨nd, rfl⟩⟩; refine ⟨_, rfl, ?_⟩))
   go_meet
   case rel => exact ⟨_, (true), (by first | rfl | simp | simp [*]), H', ⟨by first | omega | exact Nat.le_refl _⟩, ⟨by (with_reducible repeat (first | apply Kd.R_alloc | apply Kd.R_drewN | apply Kd.R_drew)); exact HO279.out⟩, ⟨by (with_reducible repeat (first | refine blk_drewN ?_ _ | refine blk_drew ?_ | refine blk_alloc ?_ _)); exact BK276.out⟩, ⟨Cmp.g HB.out⟩⟩
  ·replace c8 := Bool.eq_false_iff.mpr c8
   subst c8
   have H1 : (if (l0.length : Int) = 0 then (spec_l19Step.j0 k l0 t277 (a1_3 == a1_2) a1_0 a1_1 a1_2 a1_3 a1_4 a1_5) else (spec_l19Step.j0 k l0 t277 false a1_0 a1_1 a1_2 a1_3 a1_4 a1_5)) = some r := by rw [if_neg (show ¬ (false = true) by decide)] at H; exact H
   clear H; have H := H1; clear H1
   by_cases c11 : (l0.length : Int) = 0
   ·rw [if_pos c11] at H
    have c11b0 : ((l0.length : Int) == 0) = true := beq_iff_eq.mpr c11
    have c11b1 : ((l0.length : Int) != 0) = false := bne_eq_false_iff_eq.mpr c11
    clear c11
    (first | rw [c11b0] | (simp only [i64_w, i32_w]; rw [c11b0]) | skip)
    have H' := Aside0.mk H
    clear H
    have hcz12_0 : w6.cell? ⟨gb276, 0, none⟩ = some (.int .i64 a1_0) := (blk_cell BK276.out 0).trans rfl
    have hcz12_1 : w6.cell? ⟨gb276, 1, none⟩ = some (.int .i64 a1_1) := (blk_cell BK276.out 1).trans rfl
    have hcz12_2 : w6.cell? ⟨gb276, 2, none⟩ = some (.int .i64 a1_2) := (blk_cell BK276.out 2).trans rfl
    have hcz12_3 : w6.cell? ⟨gb276, 3, none⟩ = some (.int .i64 a1_3) := (blk_cell BK276.out 3).trans rfl
    have hcz12_4 : w6.cell? ⟨gb276, 4, none⟩ = some (.int .i64 a1_4) := (blk_cell BK276.out 4).trans rfl
    have hcz12_5 : w6.cell? ⟨gb276, 5, none⟩ = some (.int .i64 a1_5) := (blk_cell BK276.out 5).trans rfl
    have hfz12_0 := blk_frozen BK276.out 0; have hfz12_1 := blk_frozen BK276.out 1; have hfz12_2 := blk_frozen BK276.out 2; have hfz12_3 := blk_frozen BK276.out 3; have hfz12_4 := blk_frozen BK276.out 4; have hfz12_5 := blk_frozen BK276.out 5
    obtain ⟨Ao13, co13, eo13⟩ := Kd.R_slice HO279.out
    subst eo13
    go_wp2_with (first | ((with_reducible refine gate_callee (f := 118) rfl ?_); refine goesL_ (some 13) rfl rfl Try.func118 (by kernel_rfl) rfl #[.slice Ao13 t277.length co13, .int .i64 a1_3] rfl Cmp.q ?_; (with_reducible refine (spec_l19Has.calls k _ _ t277 a1_3 false _ ?side1 ?side2 A7.out).mono ?_); (case side1 => exact Cmp.rc (Kd.R_reads' HO279.out).2.2); (case side2 => exact (Kd.R_reads' HO279.out).2.1); rintro e w' ⟨rfl, ⟨nd, rfl⟩⟩; refine ⟨_, rfl, ?_⟩))
    go_meet
    case rel => exact ⟨_, ((a1_3 == a1_2)), (by first | rfl | simp | simp [*]), H', ⟨by first | omega | exact Nat.le_refl _⟩, ⟨by (with_reducible repeat (first | apply Kd.R_alloc | apply Kd.R_drewN | apply Kd.R_drew)); exact HO279.out⟩, ⟨by (with_reducible repeat (first | refine blk_drewN ?_ _ | refine blk_drew ?_ | refine blk_alloc ?_ _)); exact BK276.out⟩, ⟨Cmp.g HB.out⟩⟩
   ·rw [if_neg c11] at H
    have c11b0 : ((l0.length : Int) == 0) = false := beq_eq_false_iff_ne.mpr c11
    have c11b1 : ((l0.length : Int) != 0) = true := bne_iff_ne.mpr c11
    have c11b2 : ¬ (l0 = []) := fun h_ => c11 (by rw [h_]; rfl)
    (first | rw [c11b0] | (simp only [i64_w, i32_w]; rw [c11b0]) | skip)
    have H' := Aside0.mk H
    clear H
    have hcz14_0 : w6.cell? ⟨gb276, 0, none⟩ = some (.int .i64 a1_0) := (blk_cell BK276.out 0).trans rfl
    have hcz14_1 : w6.cell? ⟨gb276, 1, none⟩ = some (.int .i64 a1_1) := (blk_cell BK276.out 1).trans rfl
    have hcz14_2 : w6.cell? ⟨gb276, 2, none⟩ = some (.int .i64 a1_2) := (blk_cell BK276.out 2).trans rfl
    have hcz14_3 : w6.cell? ⟨gb276, 3, none⟩ = some (.int .i64 a1_3) := (blk_cell BK276.out 3).trans rfl
    have hcz14_4 : w6.cell? ⟨gb276, 4, none⟩ = some (.int .i64 a1_4) := (blk_cell BK276.out 4).trans rfl
    have hcz14_5 : w6.cell? ⟨gb276, 5, none⟩ = some (.int .i64 a1_5) := (blk_cell BK276.out 5).trans rfl
    have hfz14_0 := blk_frozen BK276.out 0; have hfz14_1 := blk_frozen BK276.out 1; have hfz14_2 := blk_frozen BK276.out 2; have hfz14_3 := blk_frozen BK276.out 3; have hfz14_4 := blk_frozen BK276.out 4; have hfz14_5 := blk_frozen BK276.out 5
    obtain ⟨Ao15, co15, eo15⟩ := Kd.R_slice HO279.out
    subst eo15
    go_wp2_with (first | ((with_reducible refine gate_callee (f := 118) rfl ?_); refine goesL_ (some 13) rfl rfl Try.func118 (by kernel_rfl) rfl #[.slice Ao15 t277.length co15, .int .i64 a1_3] rfl Cmp.q ?_; (with_reducible refine (spec_l19Has.calls k _ _ t277 a1_3 false _ ?side1 ?side2 A7.out).mono ?_); (case side1 => exact Cmp.rc (Kd.R_reads' HO279.out).2.2); (case side2 => exact (Kd.R_reads' HO279.out).2.1); rintro e w' ⟨rfl, ⟨nd, rfl⟩⟩; refine ⟨_, rfl, ?_⟩))
    go_meet
    case rel => exact ⟨_, (false), (by first | rfl | simp | simp [*]), H', ⟨by first | omega | exact Nat.le_refl _⟩, ⟨by (with_reducible repeat (first | apply Kd.R_alloc | apply Kd.R_drewN | apply Kd.R_drew)); exact HO279.out⟩, ⟨by (with_reducible repeat (first | refine blk_drewN ?_ _ | refine blk_drew ?_ | refine blk_alloc ?_ _)); exact BK276.out⟩, ⟨Cmp.g HB.out⟩⟩
 case rest =>
  clear HC4; (try clear c1); (try clear p2); (try clear c6); (try clear c8); (try clear c11); (try clear c11b0); (try clear c11b1); (try clear c11b2); (try clear hcz12_0); (try clear hcz12_1); (try clear hcz12_2); (try clear hcz12_3); (try clear hcz12_4); (try clear hcz12_5); (try clear hcz14_0); (try clear hcz14_1); (try clear hcz14_2); (try clear hcz14_3); (try clear hcz14_4); (try clear hcz14_5); (try clear hcz9_0); (try clear hcz9_1); (try clear hcz9_2); (try clear hcz9_3); (try clear hcz9_4); (try clear hcz9_5); (try clear hfz12_0); (try clear hfz12_1); (try clear hfz12_2); (try clear hfz12_3); (try clear hfz12_4); (try clear hfz12_5); (try clear hfz14_0); (try clear hfz14_1); (try clear hfz14_2); (try clear hfz14_3); (try clear hfz14_4); (try clear hfz14_5); (try clear hfz9_0); (try clear hfz9_1); (try clear hfz9_2); (try clear hfz9_3); (try clear hfz9_4); (try clear hfz9_5)
  obtain ⟨kq, x6_3, rfl, HA, HJ3, HO_5, BK276, HB⟩ := hcut
  cases kq with
  | zero => exact absurd HA.out (by simp [spec_l19Step.j0])
  | succ kj3 =>
   have H := HA.out; clear HA
   simp only [spec_l19Step.j0] at H
   have HC16 := Aside0.mk H; clear H
   go_upto_region 3 with (fail)
   go_cut [52] (fun v52 wc => ∃ (kq : Nat) (x52_15 : Bool), v52 = .bool x52_15 ∧ Aside0 (spec_l19Step.j1 kq l0 t277 x52_15 a1_0 a1_1 a1_2 a1_3 a1_4 a1_5 = some r) ∧ Aside0 (kq ≤ kj3) ∧ Aside0 (Kd.R (Kd.int .i64) 3 wc w.heap.size (fun _ => True) v278 t277) ∧ Aside0 (wc.heap[gb276]? = some (.cells #[.int .i64 a1_0, .int .i64 a1_1, .int .i64 a1_2, .int .i64 a1_3, .int .i64 a1_4, .int .i64 a1_5] 86 (0, 0))) ∧ Aside0 (Below w.heap.size w wc))
   case first =>
    have H := HC16.out; clear HC16
    by_cases c17 : a1_0 = (l0.length : Int)
    ·rw [if_pos c17] at H
     have c17b0 : (a1_0 == (l0.length : Int)) = true := beq_iff_eq.mpr c17
     have c17b1 : (a1_0 != (l0.length : Int)) = false := bne_eq_false_iff_eq.mpr c17
     clear c17
     (first | rw [c17b0] | (simp only [i64_w, i32_w]; rw [c17b0]) | skip)
     replace H := Option.bind_eq_some_iff.mp H; obtain ⟨t281, A180, H⟩ := H; (try dsimp only at H); have A18 := Aside0.mk A180; clear A180
     by_cases c19 : a1_4 = t281
     ·rw [if_pos c19] at H; have c19b0 : (a1_4 == t281) = true := beq_iff_eq.mpr c19; have c19b1 : (a1_4 != t281) = false := bne_eq_false_iff_eq.mpr c19; clear c19
      by_cases c20 : x6_3 = true
      ·subst c20; rw [if_pos rfl] at H; replace H := Option.bind_eq_some_iff.mp H; obtain ⟨t282, A210, H⟩ := H; (try dsimp only at H); have A21 := Aside0.mk A210; clear A210
       obtain ⟨y283, hy283⟩ : ∃ y_ : List Int, y_ = (([t282] : List Int)) := ⟨_, rfl⟩
       replace H : ((spec_VerifySignature.f kj3 a1_3 y283 a1_5).bind fun t286 => (spec_l19Step.j1 kj3 l0 t277 (!t286) a1_0 a1_1 a1_2 a1_3 a1_4 a1_5)) = some r := by first | (rw [hy283]; with_reducible exact H) | (have H2_ := (Option.bind_some _ _).symm.trans H; rw [hy283]; with_reducible exact H2_) | (have H2_ := (Option.bind_some _ _).symm.trans H; with_reducible exact H2_) | with_reducible exact H | (rw [hy283]; exact H) | exact H
       have Ny283 := Aside0.mk hy283; clear hy283; replace H := Option.bind_eq_some_iff.mp H; obtain ⟨t286, A220, H⟩ := H; (try dsimp only at H); have A22 := Aside0.mk A220; clear A220
       have H' := Aside0.mk H
       clear H
       try go_wp2
       have n0_ := Aside0.mk (Kd.R_drew HO_5.out); have n1_ := Aside0.mk (blk_drew BK276.out); have n2_ := Aside0.mk (below_drew1 HB.out); clear HO_5; clear BK276; clear HB; have HO_5 := n0_; have BK276 := n1_; have HB := n2_; clear n0_ n1_ n2_
       refine start_ (n := 27) (S := fun w' => w'.cell? ⟨gb276, 0, none⟩ = some (.int .i64 a1_0) ∧ w'.cell? ⟨gb276, 1, none⟩ = some (.int .i64 a1_1) ∧ w'.cell? ⟨gb276, 2, none⟩ = some (.int .i64 a1_2) ∧ w'.cell? ⟨gb276, 3, none⟩ = some (.int .i64 a1_3) ∧ w'.cell? ⟨gb276, 4, none⟩ = some (.int .i64 a1_4) ∧ w'.cell? ⟨gb276, 5, none⟩ = some (.int .i64 a1_5)) (ds := []) (Cmp.bm 0 27) (by kernel_rfl) rfl rfl ⟨(blk_cell BK276.out 0).trans rfl, (blk_cell BK276.out 1).trans rfl, (blk_cell BK276.out 2).trans rfl, (blk_cell BK276.out 3).trans rfl, (blk_cell BK276.out 4).trans rfl, (blk_cell BK276.out 5).trans rfl⟩ (fun hHeld => ?_); refine with_tabW spec_l19Step.tab3 spec_l19Step.bits3 (fun HT_ HW_ => ?_)
       generalize wc.drew = w23 at HO_5 BK276 HB hHeld ⊢
       refine Cmp.pu HT_ 0 26 (Cmp.bm 1 26) ?_; refine Cmp.pu HT_ 2 28 (Cmp.bb 27 5) ?_; refine Cmp.pu HT_ 3 29 (Cmp.bb 27 13) ?_; refine Cmp.tk HT_ HW_ hHeld 1 27 (Cmp.bm 4 23) ?_; refine Cmp.pu HT_ 4 30 (Cmp.bm 5 22) ?_; refine Cmp.pu HT_ 5 31 (Cmp.bm 6 21) ?_; refine Cmp.pu HT_ 6 32 (Cmp.bm 7 20) ?_; refine Cmp.pu HT_ 8 34 (Cmp.bb 27 383) ?_; refine Cmp.tk HT_ HW_ hHeld 7 33 (Cmp.bm 9 18) ?_
       refine one_ (i := 9) (N := some 35) (Cmp.bm 10 17) rfl rfl (one_of HT_.out (by kernel_rfl)) (by decide) (fun K hK => ?_)
       refine goes_ Try.func119 (by kernel_rfl) rfl #[.slice A0 l0.length c0] (by rfl) rfl rfl Cmp.q ?_
       with_reducible refine (spec_LogHead.calls kj3 _ _ l0 t281 _ ?side1 ?side2 A18.out).mono ?_
       (case side1 => exact Cmp.rc (Kd.C_below HR0.out HB.out))
       (case side2 => exact HC0.out)
       rintro e w24 ⟨rfl, hb⟩; refine ⟨_, rfl, ?_⟩
       have n0_ := Aside0.mk (Kd.R_below (Cmp.rr HO_5.out) hb)
       have n1_ := Aside0.mk (blk_below (Cmp.b BK276.out) hb)
       have n2_ := Aside0.mk (below_step (Cmp.g HB.out) hb)
       clear HO_5; clear BK276; clear HB; have HO_5 := n0_; have BK276 := n1_; have HB := n2_; clear n0_ n1_ n2_; (try clear hb); (try clear hb2); (try clear hk); (try clear hi)
       refine hK.out _ _ ⟨(blk_cell BK276.out 0).trans rfl, (blk_cell BK276.out 1).trans rfl, (blk_cell BK276.out 2).trans rfl, (blk_cell BK276.out 3).trans rfl, (blk_cell BK276.out 4).trans rfl, (blk_cell BK276.out 5).trans rfl⟩ (fun hHeld => ?_)
       clear hK K
       refine norm_ (a' := ?_) ?_ ?_
       rotate_left
       ·show Act.put _ (some 35) _ = _
        simp only [Act.put, Cmp.s, Cmp.z, Cmp.c, i64_w, i32_w]; rfl
       refine Cmp.pu HT_ 10 36 (Cmp.bm 11 16) ?_; refine Cmp.pu HT_ 11 37 (Cmp.bm 12 15) ?_; refine Cmp.pu HT_ 12 38 (Cmp.bm 13 14) ?_; refine Cmp.pu HT_ 13 39 (Cmp.bm 14 13) ?_; refine Cmp.pu HT_ 14 40 (Cmp.bm 15 12) ?_; refine Cmp.pu HT_ 15 41 (Cmp.bm 16 11) ?_; refine Cmp.pu HT_ 16 42 (Cmp.bm 17 10) ?_; refine Cmp.pu HT_ 17 43 (Cmp.bm 18 9) ?_; refine Cmp.pu HT_ 22 48 (Cmp.bb 27 4456447) ?_; refine Cmp.tk HT_ HW_ hHeld 18 44 (Cmp.bb 27 4718591) ?_; refine Cmp.tk HT_ HW_ hHeld 19 45 (Cmp.bb 27 5242879) ?_; refine Cmp.tk HT_ HW_ hHeld 23 49 (Cmp.bb 27 13631487) ?_
       refine one_ (i := 20) (N := some 46) (Cmp.bb 27 14680063) rfl rfl (one_of HT_.out (by kernel_rfl)) (by decide) (fun K hK => ?_)
       refine goes_ Try.func121 (by kernel_rfl) rfl #[.agg #[.int .i64 a1_0, .int .i64 a1_1, .int .i64 a1_2, .int .i64 a1_3, .int .i64 a1_4, .int .i64 a1_5]] (by rfl) rfl rfl Cmp.q ?_
       with_reducible refine (spec_EntryHash.calls kj3 a1_0 a1_1 a1_2 a1_3 a1_4 a1_5 t282 _ A21.out).mono ?_
       rintro e w25 ⟨rfl, hb⟩; refine ⟨_, rfl, ?_⟩
       have n0_ := Aside0.mk (Kd.R_below (Cmp.rr HO_5.out) hb)
       have n1_ := Aside0.mk (blk_below (Cmp.b BK276.out) hb)
       have n2_ := Aside0.mk (below_step (Cmp.g HB.out) hb)
       clear HO_5; clear BK276; clear HB; have HO_5 := n0_; have BK276 := n1_; have HB := n2_; clear n0_ n1_ n2_; (try clear hb); (try clear hb2); (try clear hk); (try clear hi)
       refine hK.out _ _ ⟨(blk_cell BK276.out 0).trans rfl, (blk_cell BK276.out 1).trans rfl, (blk_cell BK276.out 2).trans rfl, (blk_cell BK276.out 3).trans rfl, (blk_cell BK276.out 4).trans rfl, (blk_cell BK276.out 5).trans rfl⟩ (fun hHeld => ?_)
       clear hK K
       refine norm_ (a' := ?_) ?_ ?_
       rotate_left
       ·show Act.put _ (some 46) _ = _
        simp only [Act.put, Cmp.s, Cmp.z, Cmp.c, i64_w, i32_w]; rfl
       refine one_ (i := 21) (N := some 47) (Cmp.bm 24 3) rfl rfl (one_of HT_.out (by kernel_rfl)) (by decide) (fun K hK => ?_)
       refine Kd.R_lit_step (Kd.int .i64) _ 3 ?hg (N := 47) ?hd (xs := ([t282] : List Int)) (inner := [.int .i64 t282]) (ok := fun _ => True) (okp := fun _ => True) ?hr ?hp (fun _ hk => hk) trivial (Below.refl _ _) (Nat.le_refl _) (by simp) ?_; (case hd => rfl); (case hg => rfl); (case hr => first | (go_simp; done) | (go_simp; rfl)); (case hp => exact (Reps.one (show Kd.M (Kd.int .i64) _ _ _ t282 [.int .i64 t282] from rfl) (Reps.none _ _)))
       intro v284 w26 ho27 hb hg_ hnew_
       clear hg_ hnew_
       (first | rw [← Ny283.out] at ho27 | (simp only [Int.reduceToNat] at ho27; rw [← Ny283.out] at ho27))
       have n0_ := Aside0.mk (Kd.R_elder' (Cmp.rr HO_5.out) (Kd.R_base ho27) hb)
       have n1_ := Aside0.mk (Kd.R_lower (Kd.R_new' ho27 (Kd.R_lt (Cmp.rr HO_5.out))) (below_size (Cmp.g HB.out)))
       have n2_ := Aside0.mk (blk_below (Cmp.b BK276.out) hb)
       have n3_ := Aside0.mk (below_step (Cmp.g HB.out) hb)
       clear HO_5; clear BK276; clear HB; have HO_5 := n0_; have HO285 := n1_; have BK276 := n2_; have HB := n3_; clear n0_ n1_ n2_ n3_; clear hb ho27
       obtain ⟨Ao28, co28, eo28⟩ := Kd.R_slice HO285.out
       (first | subst eo28 | (injection eo28 with f1_ f2_ f3_; have f4_ := f1_.symm; have f5_ := f3_.symm; clear f1_ f2_ f3_; subst f4_; subst f5_))
       refine hK.out _ _ ⟨(blk_cell BK276.out 0).trans rfl, (blk_cell BK276.out 1).trans rfl, (blk_cell BK276.out 2).trans rfl, (blk_cell BK276.out 3).trans rfl, (blk_cell BK276.out 4).trans rfl, (blk_cell BK276.out 5).trans rfl⟩ (fun hHeld => ?_)
       clear hK K
       refine norm_ (a' := ?_) ?_ ?_
       rotate_left
       ·show Act.put _ (some 47) _ = _
        simp only [Act.put, Cmp.s, Cmp.z, Cmp.c, i64_w, i32_w]; rfl
       refine one_ (i := 24) (N := some 50) (Cmp.bm 25 2) rfl rfl (one_of HT_.out (by kernel_rfl)) (by decide) (fun K hK => ?_)
       refine goes_ Try.func120 (by kernel_rfl) rfl #[.int .i64 a1_3, .slice Ao28 y283.length co28, .int .i64 a1_5] (by rfl) rfl rfl Cmp.q ?_
       with_reducible refine (spec_VerifySignature.calls kj3 a1_3 _ _ y283 a1_5 t286 _ ?side1 ?side2 A22.out).mono ?_
       (case side1 => exact Cmp.rc (Kd.R_reads' HO285.out).2.2)
       (case side2 => exact (Kd.R_reads' HO285.out).2.1)
       rintro e w29 ⟨rfl, hb⟩; refine ⟨_, rfl, ?_⟩
       have n0_ := Aside0.mk (Kd.R_below (Cmp.rr HO_5.out) hb)
       have n1_ := Aside0.mk (Kd.R_below (Cmp.rr HO285.out) hb)
       have n2_ := Aside0.mk (blk_below (Cmp.b BK276.out) hb)
       have n3_ := Aside0.mk (below_step (Cmp.g HB.out) hb)
       clear HO_5; clear HO285; clear BK276; clear HB; have HO_5 := n0_; have HO285 := n1_; have BK276 := n2_; have HB := n3_; clear n0_ n1_ n2_ n3_; (try clear hb); (try clear hb2); (try clear hk); (try clear hi)
       refine hK.out _ _ ⟨(blk_cell BK276.out 0).trans rfl, (blk_cell BK276.out 1).trans rfl, (blk_cell BK276.out 2).trans rfl, (blk_cell BK276.out 3).trans rfl, (blk_cell BK276.out 4).trans rfl, (blk_cell BK276.out 5).trans rfl⟩ (fun hHeld => ?_)
       clear hK K
       refine norm_ (a' := ?_) ?_ ?_
       rotate_left
       ·show Act.put _ (some 50) _ = _
        simp only [Act.put, Cmp.s, Cmp.z, Cmp.c, i64_w, i32_w]; rfl
       refine Cmp.pu HT_ 25 51 (Cmp.bm 26 1) ?_; refine Cmp.pu HT_ 26 52 (Cmp.bm 27 0) ?_
       refine done_ (done_of HT_.out (by kernel_rfl)) ?_
       try go_wp2
       go_meet
       case rel => exact ⟨_, (!t286), (by first | rfl | simp | simp [*]), H', ⟨by have := HJ3.out; first | omega | exact Nat.le_refl _⟩, ⟨by (with_reducible repeat (first | apply Kd.R_alloc | apply Kd.R_drewN | apply Kd.R_drew)); exact Kd.R_mono HO_5.out (fun _ hk => trivial)⟩, ⟨by (with_reducible repeat (first | refine blk_drewN ?_ _ | refine blk_drew ?_ | refine blk_alloc ?_ _)); exact BK276.out⟩, ⟨Cmp.g HB.out⟩⟩
      ·replace c20 := Bool.eq_false_iff.mpr c20
       subst c20
       have H1 : (spec_l19Step.j1 kj3 l0 t277 true a1_0 a1_1 a1_2 a1_3 a1_4 a1_5) = some r := by rw [if_neg (show ¬ (false = true) by decide)] at H; exact H
       clear H; have H := H1; clear H1
       have H' := Aside0.mk H
       clear H
       try go_wp2
       have n0_ := Aside0.mk (Kd.R_drew HO_5.out); have n1_ := Aside0.mk (blk_drew BK276.out); have n2_ := Aside0.mk (below_drew1 HB.out); clear HO_5; clear BK276; clear HB; have HO_5 := n0_; have BK276 := n1_; have HB := n2_; clear n0_ n1_ n2_
       refine start_ (n := 27) (S := fun w' => w'.cell? ⟨gb276, 0, none⟩ = some (.int .i64 a1_0) ∧ w'.cell? ⟨gb276, 1, none⟩ = some (.int .i64 a1_1) ∧ w'.cell? ⟨gb276, 2, none⟩ = some (.int .i64 a1_2) ∧ w'.cell? ⟨gb276, 3, none⟩ = some (.int .i64 a1_3) ∧ w'.cell? ⟨gb276, 4, none⟩ = some (.int .i64 a1_4) ∧ w'.cell? ⟨gb276, 5, none⟩ = some (.int .i64 a1_5)) (ds := []) (Cmp.bm 0 27) (by kernel_rfl) rfl rfl ⟨(blk_cell BK276.out 0).trans rfl, (blk_cell BK276.out 1).trans rfl, (blk_cell BK276.out 2).trans rfl, (blk_cell BK276.out 3).trans rfl, (blk_cell BK276.out 4).trans rfl, (blk_cell BK276.out 5).trans rfl⟩ (fun hHeld => ?_); refine with_tabW spec_l19Step.tab3 spec_l19Step.bits3 (fun HT_ HW_ => ?_)
       generalize wc.drew = w30 at HO_5 BK276 HB hHeld ⊢
       refine Cmp.pu HT_ 0 26 (Cmp.bm 1 26) ?_; refine Cmp.pu HT_ 2 28 (Cmp.bb 27 5) ?_; refine Cmp.pu HT_ 3 29 (Cmp.bb 27 13) ?_; refine Cmp.tk HT_ HW_ hHeld 1 27 (Cmp.bm 4 23) ?_; refine Cmp.pu HT_ 4 30 (Cmp.bm 5 22) ?_; refine Cmp.pu HT_ 5 31 (Cmp.bm 6 21) ?_; refine Cmp.pu HT_ 6 32 (Cmp.bm 7 20) ?_; refine Cmp.pu HT_ 8 34 (Cmp.bb 27 383) ?_; refine Cmp.tk HT_ HW_ hHeld 7 33 (Cmp.bm 9 18) ?_
       refine one_ (i := 9) (N := some 35) (Cmp.bm 10 17) rfl rfl (one_of HT_.out (by kernel_rfl)) (by decide) (fun K hK => ?_)
       refine goes_ Try.func119 (by kernel_rfl) rfl #[.slice A0 l0.length c0] (by rfl) rfl rfl Cmp.q ?_
       with_reducible refine (spec_LogHead.calls kj3 _ _ l0 t281 _ ?side1 ?side2 A18.out).mono ?_
       (case side1 => exact Cmp.rc (Kd.C_below HR0.out HB.out))
       (case side2 => exact HC0.out)
       rintro e w31 ⟨rfl, hb⟩; refine ⟨_, rfl, ?_⟩
       have n0_ := Aside0.mk (Kd.R_below (Cmp.rr HO_5.out) hb)
       have n1_ := Aside0.mk (blk_below (Cmp.b BK276.out) hb)
       have n2_ := Aside0.mk (below_step (Cmp.g HB.out) hb)
       clear HO_5; clear BK276; clear HB; have HO_5 := n0_; have BK276 := n1_; have HB := n2_; clear n0_ n1_ n2_; (try clear hb); (try clear hb2); (try clear hk); (try clear hi)
       refine hK.out _ _ ⟨(blk_cell BK276.out 0).trans rfl, (blk_cell BK276.out 1).trans rfl, (blk_cell BK276.out 2).trans rfl, (blk_cell BK276.out 3).trans rfl, (blk_cell BK276.out 4).trans rfl, (blk_cell BK276.out 5).trans rfl⟩ (fun hHeld => ?_)
       clear hK K
       refine norm_ (a' := ?_) ?_ ?_
       rotate_left
       ·show Act.put _ (some 35) _ = _
        simp only [Act.put, Cmp.s, Cmp.z, Cmp.c, i64_w, i32_w]; rfl
       refine Cmp.pu HT_ 10 36 (Cmp.bm 11 16) ?_; refine Cmp.pu HT_ 11 37 (Cmp.bm 12 15) ?_; refine Cmp.pu HT_ 12 38 (Cmp.bm 13 14) ?_; refine Cmp.pu HT_ 13 39 (Cmp.bm 14 13) ?_; refine Cmp.pu HT_ 14 40 (Cmp.bm 15 12) ?_; refine Cmp.pu HT_ 15 41 (Cmp.bm 16 11) ?_; refine Cmp.pu HT_ 16 42 (Cmp.bm 17 10) ?_; refine Cmp.pv HT_ 17 43 (Cmp.bm 18 9) ?_; refine Cmp.pv HT_ 18 44 (Cmp.bm 19 8) ?_; refine Cmp.pv HT_ 19 45 (Cmp.bm 20 7) ?_; refine Cmp.pv HT_ 20 46 (Cmp.bm 21 6) ?_; refine Cmp.pv HT_ 21 47 (Cmp.bm 22 5) ?_; refine Cmp.pv HT_ 22 48 (Cmp.bm 23 4) ?_; refine Cmp.pv HT_ 23 49 (Cmp.bm 24 3) ?_; refine Cmp.pv HT_ 24 50 (Cmp.bm 25 2) ?_; refine Cmp.pv HT_ 25 51 (Cmp.bm 26 1) ?_; refine Cmp.pu HT_ 26 52 (Cmp.bm 27 0) ?_
       refine done_ (done_of HT_.out (by kernel_rfl)) ?_
       try go_wp2
       go_meet
       case rel => exact ⟨_, (true), (by first | rfl | simp | simp [*]), H', ⟨by have := HJ3.out; first | omega | exact Nat.le_refl _⟩, ⟨by (with_reducible repeat (first | apply Kd.R_alloc | apply Kd.R_drewN | apply Kd.R_drew)); exact HO_5.out⟩, ⟨by (with_reducible repeat (first | refine blk_drewN ?_ _ | refine blk_drew ?_ | refine blk_alloc ?_ _)); exact BK276.out⟩, ⟨Cmp.g HB.out⟩⟩
     ·rw [if_neg c19] at H; have c19b0 : (a1_4 == t281) = false := beq_eq_false_iff_ne.mpr c19; have c19b1 : (a1_4 != t281) = true := bne_iff_ne.mpr c19
      have H' := Aside0.mk H
      clear H
      try go_wp2
      have n0_ := Aside0.mk (Kd.R_drew HO_5.out); have n1_ := Aside0.mk (blk_drew BK276.out); have n2_ := Aside0.mk (below_drew1 HB.out); clear HO_5; clear BK276; clear HB; have HO_5 := n0_; have BK276 := n1_; have HB := n2_; clear n0_ n1_ n2_
      refine start_ (n := 27) (S := fun w' => w'.cell? ⟨gb276, 0, none⟩ = some (.int .i64 a1_0) ∧ w'.cell? ⟨gb276, 1, none⟩ = some (.int .i64 a1_1) ∧ w'.cell? ⟨gb276, 2, none⟩ = some (.int .i64 a1_2) ∧ w'.cell? ⟨gb276, 3, none⟩ = some (.int .i64 a1_3) ∧ w'.cell? ⟨gb276, 4, none⟩ = some (.int .i64 a1_4) ∧ w'.cell? ⟨gb276, 5, none⟩ = some (.int .i64 a1_5)) (ds := []) (Cmp.bm 0 27) (by kernel_rfl) rfl rfl ⟨(blk_cell BK276.out 0).trans rfl, (blk_cell BK276.out 1).trans rfl, (blk_cell BK276.out 2).trans rfl, (blk_cell BK276.out 3).trans rfl, (blk_cell BK276.out 4).trans rfl, (blk_cell BK276.out 5).trans rfl⟩ (fun hHeld => ?_); refine with_tabW spec_l19Step.tab3 spec_l19Step.bits3 (fun HT_ HW_ => ?_)
      generalize wc.drew = w32 at HO_5 BK276 HB hHeld ⊢
      refine Cmp.pu HT_ 0 26 (Cmp.bm 1 26) ?_; refine Cmp.pu HT_ 2 28 (Cmp.bb 27 5) ?_; refine Cmp.pu HT_ 3 29 (Cmp.bb 27 13) ?_; refine Cmp.tk HT_ HW_ hHeld 1 27 (Cmp.bm 4 23) ?_; refine Cmp.pu HT_ 4 30 (Cmp.bm 5 22) ?_; refine Cmp.pu HT_ 5 31 (Cmp.bm 6 21) ?_; refine Cmp.pu HT_ 6 32 (Cmp.bm 7 20) ?_; refine Cmp.pu HT_ 8 34 (Cmp.bb 27 383) ?_; refine Cmp.tk HT_ HW_ hHeld 7 33 (Cmp.bm 9 18) ?_
      refine one_ (i := 9) (N := some 35) (Cmp.bm 10 17) rfl rfl (one_of HT_.out (by kernel_rfl)) (by decide) (fun K hK => ?_)
      refine goes_ Try.func119 (by kernel_rfl) rfl #[.slice A0 l0.length c0] (by rfl) rfl rfl Cmp.q ?_
      with_reducible refine (spec_LogHead.calls kj3 _ _ l0 t281 _ ?side1 ?side2 A18.out).mono ?_
      (case side1 => exact Cmp.rc (Kd.C_below HR0.out HB.out))
      (case side2 => exact HC0.out)
      rintro e w33 ⟨rfl, hb⟩; refine ⟨_, rfl, ?_⟩
      have n0_ := Aside0.mk (Kd.R_below (Cmp.rr HO_5.out) hb)
      have n1_ := Aside0.mk (blk_below (Cmp.b BK276.out) hb)
      have n2_ := Aside0.mk (below_step (Cmp.g HB.out) hb)
      clear HO_5; clear BK276; clear HB; have HO_5 := n0_; have BK276 := n1_; have HB := n2_; clear n0_ n1_ n2_; (try clear hb); (try clear hb2); (try clear hk); (try clear hi)
      refine hK.out _ _ ⟨(blk_cell BK276.out 0).trans rfl, (blk_cell BK276.out 1).trans rfl, (blk_cell BK276.out 2).trans rfl, (blk_cell BK276.out 3).trans rfl, (blk_cell BK276.out 4).trans rfl, (blk_cell BK276.out 5).trans rfl⟩ (fun hHeld => ?_)
      clear hK K
      refine norm_ (a' := ?_) ?_ ?_
      rotate_left
      ·show Act.put _ (some 35) _ = _
       simp only [Act.put, Cmp.s, Cmp.z, Cmp.c, i64_w, i32_w]; rfl
      refine Cmp.pu HT_ 10 36 (Cmp.bm 11 16) ?_; refine Cmp.pu HT_ 11 37 (Cmp.bm 12 15) ?_; refine Cmp.pu HT_ 12 38 (Cmp.bm 13 14) ?_; refine Cmp.pv HT_ 13 39 (Cmp.bm 14 13) ?_; refine Cmp.pv HT_ 14 40 (Cmp.bm 15 12) ?_; refine Cmp.pu HT_ 15 41 (Cmp.bm 16 11) ?_; refine Cmp.pu HT_ 16 42 (Cmp.bm 17 10) ?_; refine Cmp.pv HT_ 17 43 (Cmp.bm 18 9) ?_; refine Cmp.pv HT_ 18 44 (Cmp.bm 19 8) ?_; refine Cmp.pv HT_ 19 45 (Cmp.bm 20 7) ?_; refine Cmp.pv HT_ 20 46 (Cmp.bm 21 6) ?_; refine Cmp.pv HT_ 21 47 (Cmp.bm 22 5) ?_; refine Cmp.pv HT_ 22 48 (Cmp.bm 23 4) ?_; refine Cmp.pv HT_ 23 49 (Cmp.bm 24 3) ?_; refine Cmp.pv HT_ 24 50 (Cmp.bm 25 2) ?_; refine Cmp.pv HT_ 25 51 (Cmp.bm 26 1) ?_; refine Cmp.pu HT_ 26 52 (Cmp.bm 27 0) ?_
      refine done_ (done_of HT_.out (by kernel_rfl)) ?_
      try go_wp2
      go_meet
      case rel => exact ⟨_, (true), (by first | rfl | simp | simp [*]), H', ⟨by have := HJ3.out; first | omega | exact Nat.le_refl _⟩, ⟨by (with_reducible repeat (first | apply Kd.R_alloc | apply Kd.R_drewN | apply Kd.R_drew)); exact HO_5.out⟩, ⟨by (with_reducible repeat (first | refine blk_drewN ?_ _ | refine blk_drew ?_ | refine blk_alloc ?_ _)); exact BK276.out⟩, ⟨Cmp.g HB.out⟩⟩
    ·rw [if_neg c17] at H
     have c17b0 : (a1_0 == (l0.length : Int)) = false := beq_eq_false_iff_ne.mpr c17
     have c17b1 : (a1_0 != (l0.length : Int)) = true := bne_iff_ne.mpr c17
     (first | rw [c17b0] | (simp only [i64_w, i32_w]; rw [c17b0]) | skip)
     have H' := Aside0.mk H
     clear H
     try go_wp2
     have n0_ := Aside0.mk (Kd.R_drew HO_5.out); have n1_ := Aside0.mk (blk_drew BK276.out); have n2_ := Aside0.mk (below_drew1 HB.out); clear HO_5; clear BK276; clear HB; have HO_5 := n0_; have BK276 := n1_; have HB := n2_; clear n0_ n1_ n2_
     refine start_ (n := 27) (S := fun w' => w'.cell? ⟨gb276, 0, none⟩ = some (.int .i64 a1_0) ∧ w'.cell? ⟨gb276, 1, none⟩ = some (.int .i64 a1_1) ∧ w'.cell? ⟨gb276, 2, none⟩ = some (.int .i64 a1_2) ∧ w'.cell? ⟨gb276, 3, none⟩ = some (.int .i64 a1_3) ∧ w'.cell? ⟨gb276, 4, none⟩ = some (.int .i64 a1_4) ∧ w'.cell? ⟨gb276, 5, none⟩ = some (.int .i64 a1_5)) (ds := []) (Cmp.bm 0 27) (by kernel_rfl) rfl rfl ⟨(blk_cell BK276.out 0).trans rfl, (blk_cell BK276.out 1).trans rfl, (blk_cell BK276.out 2).trans rfl, (blk_cell BK276.out 3).trans rfl, (blk_cell BK276.out 4).trans rfl, (blk_cell BK276.out 5).trans rfl⟩ (fun hHeld => ?_); refine with_tabW spec_l19Step.tab3 spec_l19Step.bits3 (fun HT_ HW_ => ?_)
     generalize wc.drew = w34 at HO_5 BK276 HB hHeld ⊢
     refine Cmp.pu HT_ 0 26 (Cmp.bm 1 26) ?_; refine Cmp.pu HT_ 2 28 (Cmp.bb 27 5) ?_; refine Cmp.pu HT_ 3 29 (Cmp.bb 27 13) ?_; refine Cmp.tk HT_ HW_ hHeld 1 27 (Cmp.bm 4 23) ?_; refine Cmp.pu HT_ 4 30 (Cmp.bm 5 22) ?_; refine Cmp.pu HT_ 5 31 (Cmp.bm 6 21) ?_; refine Cmp.pv HT_ 6 32 (Cmp.bm 7 20) ?_; refine Cmp.pv HT_ 7 33 (Cmp.bm 8 19) ?_; refine Cmp.pv HT_ 8 34 (Cmp.bm 9 18) ?_; refine Cmp.pv HT_ 9 35 (Cmp.bm 10 17) ?_; refine Cmp.pv HT_ 10 36 (Cmp.bm 11 16) ?_; refine Cmp.pu HT_ 11 37 (Cmp.bm 12 15) ?_; refine Cmp.pu HT_ 12 38 (Cmp.bm 13 14) ?_; refine Cmp.pv HT_ 13 39 (Cmp.bm 14 13) ?_; refine Cmp.pv HT_ 14 40 (Cmp.bm 15 12) ?_; refine Cmp.pu HT_ 15 41 (Cmp.bm 16 11) ?_; refine Cmp.pu HT_ 16 42 (Cmp.bm 17 10) ?_; refine Cmp.pv HT_ 17 43 (Cmp.bm 18 9) ?_; refine Cmp.pv HT_ 18 44 (Cmp.bm 19 8) ?_; refine Cmp.pv HT_ 19 45 (Cmp.bm 20 7) ?_; refine Cmp.pv HT_ 20 46 (Cmp.bm 21 6) ?_; refine Cmp.pv HT_ 21 47 (Cmp.bm 22 5) ?_; refine Cmp.pv HT_ 22 48 (Cmp.bm 23 4) ?_; refine Cmp.pv HT_ 23 49 (Cmp.bm 24 3) ?_; refine Cmp.pv HT_ 24 50 (Cmp.bm 25 2) ?_; refine Cmp.pv HT_ 25 51 (Cmp.bm 26 1) ?_; refine Cmp.pu HT_ 26 52 (Cmp.bm 27 0) ?_
     refine done_ (done_of HT_.out (by kernel_rfl)) ?_
     try go_wp2
     go_meet
     case rel => exact ⟨_, (true), (by first | rfl | simp | simp [*]), H', ⟨by have := HJ3.out; first | omega | exact Nat.le_refl _⟩, ⟨by (with_reducible repeat (first | apply Kd.R_alloc | apply Kd.R_drewN | apply Kd.R_drew)); exact HO_5.out⟩, ⟨by (with_reducible repeat (first | refine blk_drewN ?_ _ | refine blk_drew ?_ | refine blk_alloc ?_ _)); exact BK276.out⟩, ⟨Cmp.g HB.out⟩⟩
   case rest =>
    clear HC16; (try clear c1); (try clear p2); (try clear c11); (try clear c17); (try clear c17b0); (try clear c17b1); (try clear c19); (try clear c19b0); (try clear c19b1)
    obtain ⟨kq, x52_15, rfl, HA, HJ15, HO_5, BK276, HB⟩ := hcut
    cases kq with
    | zero => exact absurd HA.out (by simp [spec_l19Step.j1])
    | succ kj15 =>
     have H := HA.out; clear HA
     simp only [spec_l19Step.j1] at H
     by_cases c35 : x52_15 = true
     ·subst c35; rw [if_pos rfl] at H
      obtain rfl := Option.some.inj H
      go_wp2
      go_ret
      exact ⟨by first | rfl | (simp [errW_none, errW_some] <;> rfl) | (simp [*, errW_none, errW_some] <;> rfl), Cmp.g HB.out⟩
     ·replace c35 := Bool.eq_false_iff.mpr c35
      subst c35
      have H1 : (if a1_1 = 2 then ((spec_l19Has.f kj15 t277 a1_2).bind fun t287 => (if t287 = true then (some (decide ((t277.length : Int) > 1))) else (some false))) else (spec_l19Step.l0 kj15 l0 t277 0 a1_0 a1_1 a1_2 a1_3 a1_4 a1_5)) = some r := by rw [if_neg (show ¬ (false = true) by decide)] at H; exact H
      clear H; have H := H1; clear H1
      by_cases c36 : a1_1 = 2
      ·rw [if_pos c36] at H; have c36b0 : (a1_1 == 2) = true := beq_iff_eq.mpr c36; have c36b1 : (a1_1 != 2) = false := bne_eq_false_iff_eq.mpr c36; clear c36; replace H := Option.bind_eq_some_iff.mp H; obtain ⟨t287, A370, H⟩ := H; (try dsimp only at H); have A37 := Aside0.mk A370; clear A370
       by_cases c38 : t287 = true
       ·subst c38; rw [if_pos rfl] at H
        obtain rfl := Option.some.inj H
        have hcz39_0 : wc.cell? ⟨gb276, 0, none⟩ = some (.int .i64 a1_0) := (blk_cell BK276.out 0).trans rfl
        have hcz39_1 : wc.cell? ⟨gb276, 1, none⟩ = some (.int .i64 a1_1) := (blk_cell BK276.out 1).trans rfl
        have hcz39_2 : wc.cell? ⟨gb276, 2, none⟩ = some (.int .i64 a1_2) := (blk_cell BK276.out 2).trans rfl
        have hcz39_3 : wc.cell? ⟨gb276, 3, none⟩ = some (.int .i64 a1_3) := (blk_cell BK276.out 3).trans rfl
        have hcz39_4 : wc.cell? ⟨gb276, 4, none⟩ = some (.int .i64 a1_4) := (blk_cell BK276.out 4).trans rfl
        have hcz39_5 : wc.cell? ⟨gb276, 5, none⟩ = some (.int .i64 a1_5) := (blk_cell BK276.out 5).trans rfl
        have hfz39_0 := blk_frozen BK276.out 0; have hfz39_1 := blk_frozen BK276.out 1; have hfz39_2 := blk_frozen BK276.out 2; have hfz39_3 := blk_frozen BK276.out 3; have hfz39_4 := blk_frozen BK276.out 4; have hfz39_5 := blk_frozen BK276.out 5
        obtain ⟨Ao40, co40, eo40⟩ := Kd.R_slice HO_5.out
        subst eo40
        go_wp2_with (first | ((with_reducible refine gate_callee (f := 118) rfl ?_); refine goesL_ (some 59) rfl rfl Try.func118 (by kernel_rfl) rfl #[.slice Ao40 t277.length co40, .int .i64 a1_2] rfl Cmp.q ?_; (with_reducible refine (spec_l19Has.calls kj15 _ _ t277 a1_2 true _ ?side1 ?side2 A37.out).mono ?_); (case side1 => exact Cmp.rc (Kd.R_reads' HO_5.out).2.2); (case side2 => exact (Kd.R_reads' HO_5.out).2.1); rintro e w' ⟨rfl, ⟨nd, rfl⟩⟩; refine ⟨_, rfl, ?_⟩))
        go_ret
        exact ⟨by first | rfl | (simp [errW_none, errW_some] <;> rfl) | (simp [*, errW_none, errW_some] <;> rfl), Cmp.g HB.out⟩
       ·replace c38 := Bool.eq_false_iff.mpr c38
        subst c38
        have H1 : (some false) = some r := by rw [if_neg (show ¬ (false = true) by decide)] at H; exact H
        clear H; have H := H1; clear H1
        obtain rfl := Option.some.inj H
        have hcz41_0 : wc.cell? ⟨gb276, 0, none⟩ = some (.int .i64 a1_0) := (blk_cell BK276.out 0).trans rfl
        have hcz41_1 : wc.cell? ⟨gb276, 1, none⟩ = some (.int .i64 a1_1) := (blk_cell BK276.out 1).trans rfl
        have hcz41_2 : wc.cell? ⟨gb276, 2, none⟩ = some (.int .i64 a1_2) := (blk_cell BK276.out 2).trans rfl
        have hcz41_3 : wc.cell? ⟨gb276, 3, none⟩ = some (.int .i64 a1_3) := (blk_cell BK276.out 3).trans rfl
        have hcz41_4 : wc.cell? ⟨gb276, 4, none⟩ = some (.int .i64 a1_4) := (blk_cell BK276.out 4).trans rfl
        have hcz41_5 : wc.cell? ⟨gb276, 5, none⟩ = some (.int .i64 a1_5) := (blk_cell BK276.out 5).trans rfl
        have hfz41_0 := blk_frozen BK276.out 0; have hfz41_1 := blk_frozen BK276.out 1; have hfz41_2 := blk_frozen BK276.out 2; have hfz41_3 := blk_frozen BK276.out 3; have hfz41_4 := blk_frozen BK276.out 4; have hfz41_5 := blk_frozen BK276.out 5
        obtain ⟨Ao42, co42, eo42⟩ := Kd.R_slice HO_5.out
        subst eo42
        go_wp2_with (first | ((with_reducible refine gate_callee (f := 118) rfl ?_); refine goesL_ (some 59) rfl rfl Try.func118 (by kernel_rfl) rfl #[.slice Ao42 t277.length co42, .int .i64 a1_2] rfl Cmp.q ?_; (with_reducible refine (spec_l19Has.calls kj15 _ _ t277 a1_2 false _ ?side1 ?side2 A37.out).mono ?_); (case side1 => exact Cmp.rc (Kd.R_reads' HO_5.out).2.2); (case side2 => exact (Kd.R_reads' HO_5.out).2.1); rintro e w' ⟨rfl, ⟨nd, rfl⟩⟩; refine ⟨_, rfl, ?_⟩))
        go_ret
        exact ⟨by first | rfl | (simp [errW_none, errW_some] <;> rfl) | (simp [*, errW_none, errW_some] <;> rfl), Cmp.g HB.out⟩
      ·rw [if_neg c36] at H; have c36b0 : (a1_1 == 2) = false := beq_eq_false_iff_ne.mpr c36; have c36b1 : (a1_1 != 2) = true := bne_iff_ne.mpr c36
       have H' := Aside0.mk H
       clear H
       have hcz43_0 : wc.cell? ⟨gb276, 0, none⟩ = some (.int .i64 a1_0) := (blk_cell BK276.out 0).trans rfl
       have hcz43_1 : wc.cell? ⟨gb276, 1, none⟩ = some (.int .i64 a1_1) := (blk_cell BK276.out 1).trans rfl
       have hcz43_2 : wc.cell? ⟨gb276, 2, none⟩ = some (.int .i64 a1_2) := (blk_cell BK276.out 2).trans rfl
       have hcz43_3 : wc.cell? ⟨gb276, 3, none⟩ = some (.int .i64 a1_3) := (blk_cell BK276.out 3).trans rfl
       have hcz43_4 : wc.cell? ⟨gb276, 4, none⟩ = some (.int .i64 a1_4) := (blk_cell BK276.out 4).trans rfl
       have hcz43_5 : wc.cell? ⟨gb276, 5, none⟩ = some (.int .i64 a1_5) := (blk_cell BK276.out 5).trans rfl
       have hfz43_0 := blk_frozen BK276.out 0; have hfz43_1 := blk_frozen BK276.out 1; have hfz43_2 := blk_frozen BK276.out 2; have hfz43_3 := blk_frozen BK276.out 3; have hfz43_4 := blk_frozen BK276.out 4; have hfz43_5 := blk_frozen BK276.out 5
       go_wp2
       go_loopg [7] kj15 (fun kq v7 w' => ∃ (x7_3 : Int), v7 = .int .i64 x7_3 ∧ Aside0 (spec_l19Step.l0 kq l0 t277 x7_3 a1_0 a1_1 a1_2 a1_3 a1_4 a1_5 = some r) ∧ Aside0 (kq ≤ kj15) ∧ Aside0 (Kd.R (Kd.int .i64) 3 w' w.heap.size (fun _ => True) v278 t277) ∧ Aside0 (w'.heap[gb276]? = some (.cells #[.int .i64 a1_0, .int .i64 a1_1, .int .i64 a1_2, .int .i64 a1_3, .int .i64 a1_4, .int .i64 a1_5] 86 (0, 0))) ∧ Aside0 (Below w.heap.size w w'))
       case atStart => exact ⟨(0), (by first | rfl | simp | simp [*]), H', ⟨Nat.le_refl _⟩, ⟨by (with_reducible repeat (first | apply Kd.R_alloc | apply Kd.R_drewN | apply Kd.R_drew)); exact HO_5.out⟩, ⟨by (with_reducible repeat (first | refine blk_drewN ?_ _ | refine blk_drew ?_ | refine blk_alloc ?_ _)); exact BK276.out⟩, ⟨Cmp.g HB.out⟩⟩
       case round =>
        clear H'
        (try clear c1); (try clear p2); (try clear c3); (try clear c11); (try clear c17); (try clear c17b0); (try clear c17b1); (try clear c19); (try clear c19b0); (try clear c19b1); (try clear c35); (try clear c36); (try clear c36b0); (try clear c36b1); (try clear c38); (try clear hcz39_0); (try clear hcz39_1); (try clear hcz39_2); (try clear hcz39_3); (try clear hcz39_4); (try clear hcz39_5); (try clear hcz41_0); (try clear hcz41_1); (try clear hcz41_2); (try clear hcz41_3); (try clear hcz41_4); (try clear hcz41_5); (try clear hcz43_0); (try clear hcz43_1); (try clear hcz43_2); (try clear hcz43_3); (try clear hcz43_4); (try clear hcz43_5); (try clear hfz39_0); (try clear hfz39_1); (try clear hfz39_2); (try clear hfz39_3); (try clear hfz39_4); (try clear hfz39_5); (try clear hfz41_0); (try clear hfz41_1); (try clear hfz41_2); (try clear hfz41_3); (try clear hfz41_4); (try clear hfz41_5); (try clear hfz43_0); (try clear hfz43_1); (try clear hfz43_2); (try clear hfz43_3); (try clear hfz43_4); (try clear hfz43_5); (try clear p2)
        obtain ⟨x7_3, rfl, HA, HK3, HO_5, BK276, HB⟩ := hrel
        cases gk with
        | zero => exact absurd HA.out (by simp [spec_l19Step.l0])
        | succ k3 =>
         have H := HA.out; clear HA
         simp only [spec_l19Step.l0] at H
         by_cases c44 : x7_3 < (l0.length : Int)
         ·rw [if_pos c44] at H
          have c44b0 : decide (x7_3 < (l0.length : Int)) = true := decide_eq_true c44
          clear c44
          by_cases c45 : 0 ≤ x7_3
          ·rw [if_pos c45] at H; have c45b0 : decide (0 ≤ x7_3) = true := decide_eq_true c45; clear c45
           by_cases c46 : ((rd_T86 l0 x7_3).f1) = 2
           ·rw [if_pos c46] at H; have c46b0 : (((rd_T86 l0 x7_3).f1) == 2) = true := beq_iff_eq.mpr c46; have c46b1 : (((rd_T86 l0 x7_3).f1) != 2) = false := bne_eq_false_iff_eq.mpr c46; clear c46
            by_cases c47 : ((rd_T86 l0 x7_3).f2) = a1_2
            ·rw [if_pos c47] at H; have c47b0 : (((rd_T86 l0 x7_3).f2) == a1_2) = true := beq_iff_eq.mpr c47; have c47b1 : (((rd_T86 l0 x7_3).f2) != a1_2) = false := bne_eq_false_iff_eq.mpr c47; clear c47
             obtain rfl := Option.some.inj H
             try go_wp2
             have n0_ := Aside0.mk (Kd.R_drew HO_5.out); have n1_ := Aside0.mk (blk_drew BK276.out); have n2_ := Aside0.mk (below_drew1 HB.out); clear HO_5; clear BK276; clear HB; have HO_5 := n0_; have BK276 := n1_; have HB := n2_; clear n0_ n1_ n2_
             have p288 : 0 ≤ (x7_3 : Int) := of_decide_eq_true Cmp.d
             have q288 : x7_3 < (l0.length : Int) := of_decide_eq_true Cmp.d
             obtain ⟨ad288, e288, hx288_0, hx288_1, hx288_2, hx288_3, hx288_4, hx288_5⟩ := at_T86 HR0.out x7_3 p288 q288
             have hw288_5 := hx288_5; have hw288_4 := hx288_4; have hw288_3 := hx288_3; have hw288_2 := hx288_2; have hw288_1 := hx288_1; have hw288_0 := hx288_0; cases e288
             replace hx288_0 := (HB.out.cell (World.block_lt_of_cell? w _ hx288_0)).trans hx288_0
             replace hx288_1 := (HB.out.cell (World.block_lt_of_cell? w _ hx288_1)).trans hx288_1
             replace hx288_2 := (HB.out.cell (World.block_lt_of_cell? w _ hx288_2)).trans hx288_2
             replace hx288_3 := (HB.out.cell (World.block_lt_of_cell? w _ hx288_3)).trans hx288_3
             replace hx288_4 := (HB.out.cell (World.block_lt_of_cell? w _ hx288_4)).trans hx288_4
             replace hx288_5 := (HB.out.cell (World.block_lt_of_cell? w _ hx288_5)).trans hx288_5
             replace p288 := eq_true p288; replace q288 := eq_true q288
             have p289 : 0 ≤ (x7_3 : Int) := of_decide_eq_true Cmp.d
             have q289 : x7_3 < (l0.length : Int) := of_decide_eq_true Cmp.d
             obtain ⟨ad289, e289, hx289_0, hx289_1, hx289_2, hx289_3, hx289_4, hx289_5⟩ := at_T86 HR0.out x7_3 p289 q289
             have hw289_5 := hx289_5; have hw289_4 := hx289_4; have hw289_3 := hx289_3; have hw289_2 := hx289_2; have hw289_1 := hx289_1; have hw289_0 := hx289_0
             obtain rfl : ad288 = ad289 := (by injection e289)
             replace hx289_0 := (HB.out.cell (World.block_lt_of_cell? w _ hx289_0)).trans hx289_0
             replace hx289_1 := (HB.out.cell (World.block_lt_of_cell? w _ hx289_1)).trans hx289_1
             replace hx289_2 := (HB.out.cell (World.block_lt_of_cell? w _ hx289_2)).trans hx289_2
             replace hx289_3 := (HB.out.cell (World.block_lt_of_cell? w _ hx289_3)).trans hx289_3
             replace hx289_4 := (HB.out.cell (World.block_lt_of_cell? w _ hx289_4)).trans hx289_4
             replace hx289_5 := (HB.out.cell (World.block_lt_of_cell? w _ hx289_5)).trans hx289_5
             replace p289 := eq_true p289; replace q289 := eq_true q289
             refine start_ (n := 16) (S := fun w' => w'.cell? ⟨gb276, 0, none⟩ = some (.int .i64 a1_0) ∧ w'.cell? ⟨gb276, 1, none⟩ = some (.int .i64 a1_1) ∧ w'.cell? ⟨gb276, 2, none⟩ = some (.int .i64 a1_2) ∧ w'.cell? ⟨gb276, 3, none⟩ = some (.int .i64 a1_3) ∧ w'.cell? ⟨gb276, 4, none⟩ = some (.int .i64 a1_4) ∧ w'.cell? ⟨gb276, 5, none⟩ = some (.int .i64 a1_5) ∧ w'.cell? (ad288.add ((x7_3).toNat * 6)) = some (.int .i64 ((rd_T86 l0 x7_3).f0)) ∧ w'.cell? ⟨(ad288.add ((x7_3).toNat * 6)).block, (ad288.add ((x7_3).toNat * 6)).off + 1, none⟩ = some (.int .i64 ((rd_T86 l0 x7_3).f1)) ∧ w'.cell? ⟨(ad288.add ((x7_3).toNat * 6)).block, (ad288.add ((x7_3).toNat * 6)).off + 2, none⟩ = some (.int .i64 ((rd_T86 l0 x7_3).f2)) ∧ w'.cell? ⟨(ad288.add ((x7_3).toNat * 6)).block, (ad288.add ((x7_3).toNat * 6)).off + 3, none⟩ = some (.int .i64 ((rd_T86 l0 x7_3).f3)) ∧ w'.cell? ⟨(ad288.add ((x7_3).toNat * 6)).block, (ad288.add ((x7_3).toNat * 6)).off + 4, none⟩ = some (.int .i64 ((rd_T86 l0 x7_3).f4)) ∧ w'.cell? ⟨(ad288.add ((x7_3).toNat * 6)).block, (ad288.add ((x7_3).toNat * 6)).off + 5, none⟩ = some (.int .i64 ((rd_T86 l0 x7_3).f5)) ∧ w'.cell? (ad288.add ((x7_3).toNat * 6)) = some (.int .i64 ((rd_T86 l0 x7_3).f0)) ∧ w'.cell? ⟨(ad288.add ((x7_3).toNat * 6)).block, (ad288.add ((x7_3).toNat * 6)).off + 1, none⟩ = some (.int .i64 ((rd_T86 l0 x7_3).f1)) ∧ w'.cell? ⟨(ad288.add ((x7_3).toNat * 6)).block, (ad288.add ((x7_3).toNat * 6)).off + 2, none⟩ = some (.int .i64 ((rd_T86 l0 x7_3).f2)) ∧ w'.cell? ⟨(ad288.add ((x7_3).toNat * 6)).block, (ad288.add ((x7_3).toNat * 6)).off + 3, none⟩ = some (.int .i64 ((rd_T86 l0 x7_3).f3)) ∧ w'.cell? ⟨(ad288.add ((x7_3).toNat * 6)).block, (ad288.add ((x7_3).toNat * 6)).off + 4, none⟩ = some (.int .i64 ((rd_T86 l0 x7_3).f4)) ∧ w'.cell? ⟨(ad288.add ((x7_3).toNat * 6)).block, (ad288.add ((x7_3).toNat * 6)).off + 5, none⟩ = some (.int .i64 ((rd_T86 l0 x7_3).f5))) (ds := []) (Cmp.bm 0 16) (by kernel_rfl) rfl rfl ⟨(blk_cell BK276.out 0).trans rfl, (blk_cell BK276.out 1).trans rfl, (blk_cell BK276.out 2).trans rfl, (blk_cell BK276.out 3).trans rfl, (blk_cell BK276.out 4).trans rfl, (blk_cell BK276.out 5).trans rfl, ((HB.out.cell (World.block_lt_of_cell? w _ hw288_0)).trans hw288_0), ((HB.out.cell (World.block_lt_of_cell? w _ hw288_1)).trans hw288_1), ((HB.out.cell (World.block_lt_of_cell? w _ hw288_2)).trans hw288_2), ((HB.out.cell (World.block_lt_of_cell? w _ hw288_3)).trans hw288_3), ((HB.out.cell (World.block_lt_of_cell? w _ hw288_4)).trans hw288_4), ((HB.out.cell (World.block_lt_of_cell? w _ hw288_5)).trans hw288_5), ((HB.out.cell (World.block_lt_of_cell? w _ hw289_0)).trans hw289_0), ((HB.out.cell (World.block_lt_of_cell? w _ hw289_1)).trans hw289_1), ((HB.out.cell (World.block_lt_of_cell? w _ hw289_2)).trans hw289_2), ((HB.out.cell (World.block_lt_of_cell? w _ hw289_3)).trans hw289_3), ((HB.out.cell (World.block_lt_of_cell? w _ hw289_4)).trans hw289_4), ((HB.out.cell (World.block_lt_of_cell? w _ hw289_5)).trans hw289_5)⟩ (fun hHeld => ?_); refine with_tabW spec_l19Step.tab10 spec_l19Step.bits10 (fun HT_ HW_ => ?_)
             generalize wr.drew = w48 at HO_5 BK276 HB hx288_0 hx288_1 hx288_2 hx288_3 hx288_4 hx288_5 hx289_0 hx289_1 hx289_2 hx289_3 hx289_4 hx289_5 hHeld ⊢
             refine Cmp.pu HT_ 0 71 (Cmp.bm 1 15) ?_; refine Cmp.pu HT_ 1 72 (Cmp.bm 2 14) ?_; refine Cmp.pu HT_ 2 73 (Cmp.bm 3 13) ?_; refine Cmp.pu HT_ 3 74 (Cmp.bm 4 12) ?_; refine Cmp.tk HT_ HW_ hHeld 4 75 (Cmp.bm 5 11) ?_; refine Cmp.pu HT_ 5 76 (Cmp.bm 6 10) ?_; refine Cmp.pu HT_ 6 77 (Cmp.bm 7 9) ?_; refine Cmp.pu HT_ 7 78 (Cmp.bm 8 8) ?_; refine Cmp.pu HT_ 8 79 (Cmp.bm 9 7) ?_; refine Cmp.pu HT_ 9 80 (Cmp.bm 10 6) ?_; refine Cmp.pu HT_ 10 81 (Cmp.bm 11 5) ?_; refine Cmp.pu HT_ 12 83 (Cmp.bb 16 6143) ?_; refine Cmp.tk HT_ HW_ hHeld 11 82 (Cmp.bm 13 3) ?_; refine Cmp.tk HT_ HW_ hHeld 13 84 (Cmp.bm 14 2) ?_; refine Cmp.pu HT_ 14 85 (Cmp.bm 15 1) ?_; refine Cmp.pu HT_ 15 86 (Cmp.bm 16 0) ?_
             refine done_ (done_of HT_.out (by kernel_rfl)) ?_
             try go_wp2
             go_ret
             exact ⟨by first | rfl | (simp [errW_none, errW_some] <;> rfl) | (simp [*, errW_none, errW_some] <;> rfl), Cmp.g HB.out⟩
            ·rw [if_neg c47] at H; have c47b0 : (((rd_T86 l0 x7_3).f2) == a1_2) = false := beq_eq_false_iff_ne.mpr c47; have c47b1 : (((rd_T86 l0 x7_3).f2) != a1_2) = true := bne_iff_ne.mpr c47
             have H' := Aside0.mk H
             clear H
             try go_wp2
             have n0_ := Aside0.mk (Kd.R_drew HO_5.out); have n1_ := Aside0.mk (blk_drew BK276.out); have n2_ := Aside0.mk (below_drew1 HB.out); clear HO_5; clear BK276; clear HB; have HO_5 := n0_; have BK276 := n1_; have HB := n2_; clear n0_ n1_ n2_
             have p288 : 0 ≤ (x7_3 : Int) := of_decide_eq_true Cmp.d
             have q288 : x7_3 < (l0.length : Int) := of_decide_eq_true Cmp.d
             obtain ⟨ad288, e288, hx288_0, hx288_1, hx288_2, hx288_3, hx288_4, hx288_5⟩ := at_T86 HR0.out x7_3 p288 q288
             have hw288_5 := hx288_5; have hw288_4 := hx288_4; have hw288_3 := hx288_3; have hw288_2 := hx288_2; have hw288_1 := hx288_1; have hw288_0 := hx288_0; cases e288
             replace hx288_0 := (HB.out.cell (World.block_lt_of_cell? w _ hx288_0)).trans hx288_0
             replace hx288_1 := (HB.out.cell (World.block_lt_of_cell? w _ hx288_1)).trans hx288_1
             replace hx288_2 := (HB.out.cell (World.block_lt_of_cell? w _ hx288_2)).trans hx288_2
             replace hx288_3 := (HB.out.cell (World.block_lt_of_cell? w _ hx288_3)).trans hx288_3
             replace hx288_4 := (HB.out.cell (World.block_lt_of_cell? w _ hx288_4)).trans hx288_4
             replace hx288_5 := (HB.out.cell (World.block_lt_of_cell? w _ hx288_5)).trans hx288_5
             replace p288 := eq_true p288; replace q288 := eq_true q288
             have p289 : 0 ≤ (x7_3 : Int) := of_decide_eq_true Cmp.d
             have q289 : x7_3 < (l0.length : Int) := of_decide_eq_true Cmp.d
             obtain ⟨ad289, e289, hx289_0, hx289_1, hx289_2, hx289_3, hx289_4, hx289_5⟩ := at_T86 HR0.out x7_3 p289 q289
             have hw289_5 := hx289_5; have hw289_4 := hx289_4; have hw289_3 := hx289_3; have hw289_2 := hx289_2; have hw289_1 := hx289_1; have hw289_0 := hx289_0
             obtain rfl : ad288 = ad289 := (by injection e289)
             replace hx289_0 := (HB.out.cell (World.block_lt_of_cell? w _ hx289_0)).trans hx289_0
             replace hx289_1 := (HB.out.cell (World.block_lt_of_cell? w _ hx289_1)).trans hx289_1
             replace hx289_2 := (HB.out.cell (World.block_lt_of_cell? w _ hx289_2)).trans hx289_2
             replace hx289_3 := (HB.out.cell (World.block_lt_of_cell? w _ hx289_3)).trans hx289_3
             replace hx289_4 := (HB.out.cell (World.block_lt_of_cell? w _ hx289_4)).trans hx289_4
             replace hx289_5 := (HB.out.cell (World.block_lt_of_cell? w _ hx289_5)).trans hx289_5
             replace p289 := eq_true p289; replace q289 := eq_true q289
             refine start_ (n := 16) (S := fun w' => w'.cell? ⟨gb276, 0, none⟩ = some (.int .i64 a1_0) ∧ w'.cell? ⟨gb276, 1, none⟩ = some (.int .i64 a1_1) ∧ w'.cell? ⟨gb276, 2, none⟩ = some (.int .i64 a1_2) ∧ w'.cell? ⟨gb276, 3, none⟩ = some (.int .i64 a1_3) ∧ w'.cell? ⟨gb276, 4, none⟩ = some (.int .i64 a1_4) ∧ w'.cell? ⟨gb276, 5, none⟩ = some (.int .i64 a1_5) ∧ w'.cell? (ad288.add ((x7_3).toNat * 6)) = some (.int .i64 ((rd_T86 l0 x7_3).f0)) ∧ w'.cell? ⟨(ad288.add ((x7_3).toNat * 6)).block, (ad288.add ((x7_3).toNat * 6)).off + 1, none⟩ = some (.int .i64 ((rd_T86 l0 x7_3).f1)) ∧ w'.cell? ⟨(ad288.add ((x7_3).toNat * 6)).block, (ad288.add ((x7_3).toNat * 6)).off + 2, none⟩ = some (.int .i64 ((rd_T86 l0 x7_3).f2)) ∧ w'.cell? ⟨(ad288.add ((x7_3).toNat * 6)).block, (ad288.add ((x7_3).toNat * 6)).off + 3, none⟩ = some (.int .i64 ((rd_T86 l0 x7_3).f3)) ∧ w'.cell? ⟨(ad288.add ((x7_3).toNat * 6)).block, (ad288.add ((x7_3).toNat * 6)).off + 4, none⟩ = some (.int .i64 ((rd_T86 l0 x7_3).f4)) ∧ w'.cell? ⟨(ad288.add ((x7_3).toNat * 6)).block, (ad288.add ((x7_3).toNat * 6)).off + 5, none⟩ = some (.int .i64 ((rd_T86 l0 x7_3).f5)) ∧ w'.cell? (ad288.add ((x7_3).toNat * 6)) = some (.int .i64 ((rd_T86 l0 x7_3).f0)) ∧ w'.cell? ⟨(ad288.add ((x7_3).toNat * 6)).block, (ad288.add ((x7_3).toNat * 6)).off + 1, none⟩ = some (.int .i64 ((rd_T86 l0 x7_3).f1)) ∧ w'.cell? ⟨(ad288.add ((x7_3).toNat * 6)).block, (ad288.add ((x7_3).toNat * 6)).off + 2, none⟩ = some (.int .i64 ((rd_T86 l0 x7_3).f2)) ∧ w'.cell? ⟨(ad288.add ((x7_3).toNat * 6)).block, (ad288.add ((x7_3).toNat * 6)).off + 3, none⟩ = some (.int .i64 ((rd_T86 l0 x7_3).f3)) ∧ w'.cell? ⟨(ad288.add ((x7_3).toNat * 6)).block, (ad288.add ((x7_3).toNat * 6)).off + 4, none⟩ = some (.int .i64 ((rd_T86 l0 x7_3).f4)) ∧ w'.cell? ⟨(ad288.add ((x7_3).toNat * 6)).block, (ad288.add ((x7_3).toNat * 6)).off + 5, none⟩ = some (.int .i64 ((rd_T86 l0 x7_3).f5))) (ds := []) (Cmp.bm 0 16) (by kernel_rfl) rfl rfl ⟨(blk_cell BK276.out 0).trans rfl, (blk_cell BK276.out 1).trans rfl, (blk_cell BK276.out 2).trans rfl, (blk_cell BK276.out 3).trans rfl, (blk_cell BK276.out 4).trans rfl, (blk_cell BK276.out 5).trans rfl, ((HB.out.cell (World.block_lt_of_cell? w _ hw288_0)).trans hw288_0), ((HB.out.cell (World.block_lt_of_cell? w _ hw288_1)).trans hw288_1), ((HB.out.cell (World.block_lt_of_cell? w _ hw288_2)).trans hw288_2), ((HB.out.cell (World.block_lt_of_cell? w _ hw288_3)).trans hw288_3), ((HB.out.cell (World.block_lt_of_cell? w _ hw288_4)).trans hw288_4), ((HB.out.cell (World.block_lt_of_cell? w _ hw288_5)).trans hw288_5), ((HB.out.cell (World.block_lt_of_cell? w _ hw289_0)).trans hw289_0), ((HB.out.cell (World.block_lt_of_cell? w _ hw289_1)).trans hw289_1), ((HB.out.cell (World.block_lt_of_cell? w _ hw289_2)).trans hw289_2), ((HB.out.cell (World.block_lt_of_cell? w _ hw289_3)).trans hw289_3), ((HB.out.cell (World.block_lt_of_cell? w _ hw289_4)).trans hw289_4), ((HB.out.cell (World.block_lt_of_cell? w _ hw289_5)).trans hw289_5)⟩ (fun hHeld => ?_); refine with_tabW spec_l19Step.tab10 spec_l19Step.bits10 (fun HT_ HW_ => ?_)
             generalize wr.drew = w49 at HO_5 BK276 HB hx288_0 hx288_1 hx288_2 hx288_3 hx288_4 hx288_5 hx289_0 hx289_1 hx289_2 hx289_3 hx289_4 hx289_5 hHeld ⊢
             refine Cmp.pu HT_ 0 71 (Cmp.bm 1 15) ?_; refine Cmp.pu HT_ 1 72 (Cmp.bm 2 14) ?_; refine Cmp.pu HT_ 2 73 (Cmp.bm 3 13) ?_; refine Cmp.pu HT_ 3 74 (Cmp.bm 4 12) ?_; refine Cmp.tk HT_ HW_ hHeld 4 75 (Cmp.bm 5 11) ?_; refine Cmp.pu HT_ 5 76 (Cmp.bm 6 10) ?_; refine Cmp.pu HT_ 6 77 (Cmp.bm 7 9) ?_; refine Cmp.pu HT_ 7 78 (Cmp.bm 8 8) ?_; refine Cmp.pu HT_ 8 79 (Cmp.bm 9 7) ?_; refine Cmp.pu HT_ 9 80 (Cmp.bm 10 6) ?_; refine Cmp.pu HT_ 10 81 (Cmp.bm 11 5) ?_; refine Cmp.pu HT_ 12 83 (Cmp.bb 16 6143) ?_; refine Cmp.tk HT_ HW_ hHeld 11 82 (Cmp.bm 13 3) ?_; refine Cmp.tk HT_ HW_ hHeld 13 84 (Cmp.bm 14 2) ?_; refine Cmp.pu HT_ 14 85 (Cmp.bm 15 1) ?_; refine Cmp.pu HT_ 15 86 (Cmp.bm 16 0) ?_
             refine done_ (done_of HT_.out (by kernel_rfl)) ?_
             try go_wp2
             go_roundg k3
             case measure => have := HJ3.out; have := HJ15.out; have := HK3.out; omega
             case rel => exact ⟨(wrap64 (x7_3 + 1)), (by first | rfl | simp | simp [*]), H', ⟨by have := HJ3.out; have := HJ15.out; have := HK3.out; omega⟩, ⟨by (with_reducible repeat (first | apply Kd.R_alloc | apply Kd.R_drewN | apply Kd.R_drew)); exact HO_5.out⟩, ⟨by (with_reducible repeat (first | refine blk_drewN ?_ _ | refine blk_drew ?_ | refine blk_alloc ?_ _)); exact BK276.out⟩, ⟨Cmp.g HB.out⟩⟩
           ·rw [if_neg c46] at H; have c46b0 : (((rd_T86 l0 x7_3).f1) == 2) = false := beq_eq_false_iff_ne.mpr c46; have c46b1 : (((rd_T86 l0 x7_3).f1) != 2) = true := bne_iff_ne.mpr c46
            have H' := Aside0.mk H
            clear H
            try go_wp2
            have n0_ := Aside0.mk (Kd.R_drew HO_5.out); have n1_ := Aside0.mk (blk_drew BK276.out); have n2_ := Aside0.mk (below_drew1 HB.out); clear HO_5; clear BK276; clear HB; have HO_5 := n0_; have BK276 := n1_; have HB := n2_; clear n0_ n1_ n2_
            have p288 : 0 ≤ (x7_3 : Int) := of_decide_eq_true Cmp.d
            have q288 : x7_3 < (l0.length : Int) := of_decide_eq_true Cmp.d
            obtain ⟨ad288, e288, hx288_0, hx288_1, hx288_2, hx288_3, hx288_4, hx288_5⟩ := at_T86 HR0.out x7_3 p288 q288
            have hw288_5 := hx288_5; have hw288_4 := hx288_4; have hw288_3 := hx288_3; have hw288_2 := hx288_2; have hw288_1 := hx288_1; have hw288_0 := hx288_0; cases e288
            replace hx288_0 := (HB.out.cell (World.block_lt_of_cell? w _ hx288_0)).trans hx288_0
            replace hx288_1 := (HB.out.cell (World.block_lt_of_cell? w _ hx288_1)).trans hx288_1
            replace hx288_2 := (HB.out.cell (World.block_lt_of_cell? w _ hx288_2)).trans hx288_2
            replace hx288_3 := (HB.out.cell (World.block_lt_of_cell? w _ hx288_3)).trans hx288_3
            replace hx288_4 := (HB.out.cell (World.block_lt_of_cell? w _ hx288_4)).trans hx288_4
            replace hx288_5 := (HB.out.cell (World.block_lt_of_cell? w _ hx288_5)).trans hx288_5
            replace p288 := eq_true p288; replace q288 := eq_true q288
            refine start_ (n := 16) (S := fun w' => w'.cell? (ad288.add ((x7_3).toNat * 6)) = some (.int .i64 ((rd_T86 l0 x7_3).f0)) ∧ w'.cell? ⟨(ad288.add ((x7_3).toNat * 6)).block, (ad288.add ((x7_3).toNat * 6)).off + 1, none⟩ = some (.int .i64 ((rd_T86 l0 x7_3).f1)) ∧ w'.cell? ⟨(ad288.add ((x7_3).toNat * 6)).block, (ad288.add ((x7_3).toNat * 6)).off + 2, none⟩ = some (.int .i64 ((rd_T86 l0 x7_3).f2)) ∧ w'.cell? ⟨(ad288.add ((x7_3).toNat * 6)).block, (ad288.add ((x7_3).toNat * 6)).off + 3, none⟩ = some (.int .i64 ((rd_T86 l0 x7_3).f3)) ∧ w'.cell? ⟨(ad288.add ((x7_3).toNat * 6)).block, (ad288.add ((x7_3).toNat * 6)).off + 4, none⟩ = some (.int .i64 ((rd_T86 l0 x7_3).f4)) ∧ w'.cell? ⟨(ad288.add ((x7_3).toNat * 6)).block, (ad288.add ((x7_3).toNat * 6)).off + 5, none⟩ = some (.int .i64 ((rd_T86 l0 x7_3).f5))) (ds := []) (Cmp.bm 0 16) (by kernel_rfl) rfl rfl ⟨((HB.out.cell (World.block_lt_of_cell? w _ hw288_0)).trans hw288_0), ((HB.out.cell (World.block_lt_of_cell? w _ hw288_1)).trans hw288_1), ((HB.out.cell (World.block_lt_of_cell? w _ hw288_2)).trans hw288_2), ((HB.out.cell (World.block_lt_of_cell? w _ hw288_3)).trans hw288_3), ((HB.out.cell (World.block_lt_of_cell? w _ hw288_4)).trans hw288_4), ((HB.out.cell (World.block_lt_of_cell? w _ hw288_5)).trans hw288_5)⟩ (fun hHeld => ?_); refine with_tabW spec_l19Step.tab10 spec_l19Step.bits10 (fun HT_ HW_ => ?_)
            generalize wr.drew = w50 at HO_5 BK276 HB hx288_0 hx288_1 hx288_2 hx288_3 hx288_4 hx288_5 hHeld ⊢
            refine Cmp.pu HT_ 0 71 (Cmp.bm 1 15) ?_; refine Cmp.pu HT_ 1 72 (Cmp.bm 2 14) ?_; refine Cmp.pu HT_ 2 73 (Cmp.bm 3 13) ?_; refine Cmp.pu HT_ 3 74 (Cmp.bm 4 12) ?_; refine Cmp.tk HT_ HW_ hHeld 4 75 (Cmp.bm 5 11) ?_; refine Cmp.pu HT_ 5 76 (Cmp.bm 6 10) ?_; refine Cmp.pu HT_ 6 77 (Cmp.bm 7 9) ?_; refine Cmp.pv HT_ 7 78 (Cmp.bm 8 8) ?_; refine Cmp.pv HT_ 8 79 (Cmp.bm 9 7) ?_; refine Cmp.pv HT_ 9 80 (Cmp.bm 10 6) ?_; refine Cmp.pv HT_ 10 81 (Cmp.bm 11 5) ?_; refine Cmp.pv HT_ 11 82 (Cmp.bm 12 4) ?_; refine Cmp.pv HT_ 12 83 (Cmp.bm 13 3) ?_; refine Cmp.pv HT_ 13 84 (Cmp.bm 14 2) ?_; refine Cmp.pv HT_ 14 85 (Cmp.bm 15 1) ?_; refine Cmp.pu HT_ 15 86 (Cmp.bm 16 0) ?_
            refine done_ (done_of HT_.out (by kernel_rfl)) ?_
            try go_wp2
            go_roundg k3
            case measure => have := HJ3.out; have := HJ15.out; have := HK3.out; omega
            case rel => exact ⟨(wrap64 (x7_3 + 1)), (by first | rfl | simp | simp [*]), H', ⟨by have := HJ3.out; have := HJ15.out; have := HK3.out; omega⟩, ⟨by (with_reducible repeat (first | apply Kd.R_alloc | apply Kd.R_drewN | apply Kd.R_drew)); exact HO_5.out⟩, ⟨by (with_reducible repeat (first | refine blk_drewN ?_ _ | refine blk_drew ?_ | refine blk_alloc ?_ _)); exact BK276.out⟩, ⟨Cmp.g HB.out⟩⟩
          ·rw [if_neg c45] at H; exact absurd H (by simp)
         ·rw [if_neg c44] at H
          have c44b0 : decide (x7_3 < (l0.length : Int)) = false := decide_eq_false c44
          clear c44
          by_cases c51 : a1_1 = 1
          ·rw [if_pos c51] at H; have c51b0 : (a1_1 == 1) = true := beq_iff_eq.mpr c51; have c51b1 : (a1_1 != 1) = false := bne_eq_false_iff_eq.mpr c51; clear c51; replace H := Option.bind_eq_some_iff.mp H; obtain ⟨t290, A520, H⟩ := H; (try dsimp only at H); have A52 := Aside0.mk A520; clear A520
           by_cases c53 : t290 = true
           ·subst c53; rw [if_pos rfl] at H
            obtain rfl := Option.some.inj H
            have hcz54_0 : wr.cell? ⟨gb276, 0, none⟩ = some (.int .i64 a1_0) := (blk_cell BK276.out 0).trans rfl
            have hcz54_1 : wr.cell? ⟨gb276, 1, none⟩ = some (.int .i64 a1_1) := (blk_cell BK276.out 1).trans rfl
            have hcz54_2 : wr.cell? ⟨gb276, 2, none⟩ = some (.int .i64 a1_2) := (blk_cell BK276.out 2).trans rfl
            have hcz54_3 : wr.cell? ⟨gb276, 3, none⟩ = some (.int .i64 a1_3) := (blk_cell BK276.out 3).trans rfl
            have hcz54_4 : wr.cell? ⟨gb276, 4, none⟩ = some (.int .i64 a1_4) := (blk_cell BK276.out 4).trans rfl
            have hcz54_5 : wr.cell? ⟨gb276, 5, none⟩ = some (.int .i64 a1_5) := (blk_cell BK276.out 5).trans rfl
            have hfz54_0 := blk_frozen BK276.out 0; have hfz54_1 := blk_frozen BK276.out 1; have hfz54_2 := blk_frozen BK276.out 2; have hfz54_3 := blk_frozen BK276.out 3; have hfz54_4 := blk_frozen BK276.out 4; have hfz54_5 := blk_frozen BK276.out 5
            obtain ⟨Ao55, co55, eo55⟩ := Kd.R_slice HO_5.out
            subst eo55
            go_wp2_with (first | (go_at_call 118; (with_reducible refine (spec_l19Has.calls k3 _ _ t277 a1_2 true _ ?side1 ?side2 A52.out).mono ?_); (case side1 => exact Cmp.rc (Kd.R_reads' HO_5.out).2.2); (case side2 => exact (Kd.R_reads' HO_5.out).2.1); rintro e w' ⟨rfl, ⟨nd, rfl⟩⟩))
            go_ret
            exact ⟨by first | rfl | (simp [errW_none, errW_some] <;> rfl) | (simp [*, errW_none, errW_some] <;> rfl), Cmp.g HB.out⟩
           ·replace c53 := Bool.eq_false_iff.mpr c53
            subst c53
            have H1 : (some (decide ((t277.length : Int) < 6))) = some r := by rw [if_neg (show ¬ (false = true) by decide)] at H; exact H
            clear H; have H := H1; clear H1
            obtain rfl := Option.some.inj H
            have hcz56_0 : wr.cell? ⟨gb276, 0, none⟩ = some (.int .i64 a1_0) := (blk_cell BK276.out 0).trans rfl
            have hcz56_1 : wr.cell? ⟨gb276, 1, none⟩ = some (.int .i64 a1_1) := (blk_cell BK276.out 1).trans rfl
            have hcz56_2 : wr.cell? ⟨gb276, 2, none⟩ = some (.int .i64 a1_2) := (blk_cell BK276.out 2).trans rfl
            have hcz56_3 : wr.cell? ⟨gb276, 3, none⟩ = some (.int .i64 a1_3) := (blk_cell BK276.out 3).trans rfl
            have hcz56_4 : wr.cell? ⟨gb276, 4, none⟩ = some (.int .i64 a1_4) := (blk_cell BK276.out 4).trans rfl
            have hcz56_5 : wr.cell? ⟨gb276, 5, none⟩ = some (.int .i64 a1_5) := (blk_cell BK276.out 5).trans rfl
            have hfz56_0 := blk_frozen BK276.out 0; have hfz56_1 := blk_frozen BK276.out 1; have hfz56_2 := blk_frozen BK276.out 2; have hfz56_3 := blk_frozen BK276.out 3; have hfz56_4 := blk_frozen BK276.out 4; have hfz56_5 := blk_frozen BK276.out 5
            obtain ⟨Ao57, co57, eo57⟩ := Kd.R_slice HO_5.out
            subst eo57
            go_wp2_with (first | (go_at_call 118; (with_reducible refine (spec_l19Has.calls k3 _ _ t277 a1_2 false _ ?side1 ?side2 A52.out).mono ?_); (case side1 => exact Cmp.rc (Kd.R_reads' HO_5.out).2.2); (case side2 => exact (Kd.R_reads' HO_5.out).2.1); rintro e w' ⟨rfl, ⟨nd, rfl⟩⟩))
            go_ret
            exact ⟨by first | rfl | (simp [errW_none, errW_some] <;> rfl) | (simp [*, errW_none, errW_some] <;> rfl), Cmp.g HB.out⟩
          ·rw [if_neg c51] at H; have c51b0 : (a1_1 == 1) = false := beq_eq_false_iff_ne.mpr c51; have c51b1 : (a1_1 != 1) = true := bne_iff_ne.mpr c51
           obtain rfl := Option.some.inj H
           have hcz58_0 : wr.cell? ⟨gb276, 0, none⟩ = some (.int .i64 a1_0) := (blk_cell BK276.out 0).trans rfl
           have hcz58_1 : wr.cell? ⟨gb276, 1, none⟩ = some (.int .i64 a1_1) := (blk_cell BK276.out 1).trans rfl
           have hcz58_2 : wr.cell? ⟨gb276, 2, none⟩ = some (.int .i64 a1_2) := (blk_cell BK276.out 2).trans rfl
           have hcz58_3 : wr.cell? ⟨gb276, 3, none⟩ = some (.int .i64 a1_3) := (blk_cell BK276.out 3).trans rfl
           have hcz58_4 : wr.cell? ⟨gb276, 4, none⟩ = some (.int .i64 a1_4) := (blk_cell BK276.out 4).trans rfl
           have hcz58_5 : wr.cell? ⟨gb276, 5, none⟩ = some (.int .i64 a1_5) := (blk_cell BK276.out 5).trans rfl
           have hfz58_0 := blk_frozen BK276.out 0; have hfz58_1 := blk_frozen BK276.out 1; have hfz58_2 := blk_frozen BK276.out 2; have hfz58_3 := blk_frozen BK276.out 3; have hfz58_4 := blk_frozen BK276.out 4; have hfz58_5 := blk_frozen BK276.out 5
           go_wp2
           go_ret
           exact ⟨by first | rfl | (simp [errW_none, errW_some] <;> rfl) | (simp [*, errW_none, errW_some] <;> rfl), Cmp.g HB.out⟩

end Go.Proofs.Ytgcipecdaimjfaa.PFnDeviceLogs

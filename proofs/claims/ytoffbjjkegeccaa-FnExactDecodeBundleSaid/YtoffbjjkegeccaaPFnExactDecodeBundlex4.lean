/- Printed functions of the program, out of print.sh; some facts told twice. No condition. -/
import Derived.Test.YtoffbjjkegeccaaCmp
import Derived.Test.YtoffbjjkegeccaaPFnExactDecodeBundlex0
import Derived.Test.YtoffbjjkegeccaaPFnExactDecodeBundlex2
import Derived.Test.YtoffbjjkegeccaaPFnExactDecodeBundlex3
namespace Go.Proofs.Ytoffbjjkegeccaa.PFnExactDecodeBundle
open Go.Proofs.Ytoffbjjkegeccaa
open Go.RowKit Go.Proofs.YtoffbjjkegeccaaW.PrintWords Go.Proofs.YtoffbjjkegeccaaW.PrintLast Go.Proofs.YtoffbjjkegeccaaW.PrintMore
attribute [local go_sem] max2_int min2_int max_two min_two max_three min_three max_four min_four   -- for this text's walks alone
set_option linter.unusedVariables false
set_option linter.unusedSimpArgs false

/-! ### spec_EncodeBundle: function 76 -/
def spec_EncodeBundle.l0 : Nat → List Int → Int → List (S49) → Option (List Int)
  | 0, _, _, _ => none
  | k + 1, x3, x4, x146000 => if x4 < (x146000.length : Int) then (if 0 ≤ x4 then (if (rd_T49 x146000 x4).f3 = true then ((some (([(rd_T49 x146000 x4).f0, (rd_T49 x146000 x4).f1, (rd_T49 x146000 x4).f2, 1] : List Int) : List Int)).bind fun y157 => (if x3.length + y157.length < 17592186044416 then (spec_EncodeBundle.l0 k (x3 ++ y157) (wrap64 (x4 + 1)) x146000) else (none))) else ((some (([(rd_T49 x146000 x4).f0, (rd_T49 x146000 x4).f1, (rd_T49 x146000 x4).f2, 0] : List Int) : List Int)).bind fun y166 => (if x3.length + y166.length < 17592186044416 then (spec_EncodeBundle.l0 k (x3 ++ y166) (wrap64 (x4 + 1)) x146000) else (none)))) else (none)) else ((spec_EncodeInts.f k x3).bind fun t172 => (some t172))
def spec_EncodeBundle.f (k : Nat) (l0_0 : List (S49)) : Option (List Int) := (spec_IsBundle.f k l0_0).bind fun t146 => (if t146 = true then (spec_EncodeBundle.l0 k (([(l0_0.length : Int)] : List Int)) 0 l0_0) else (some (([] : List Int))))
theorem spec_EncodeBundle.mono_l : ∀ k, (∀ y0 y1 y2, LeO (spec_EncodeBundle.l0 k y0 y1 y2) (spec_EncodeBundle.l0 (k + 1) y0 y1 y2))
  | 0 => fun _ _ _ r h => by simp [spec_EncodeBundle.l0] at h
  | k + 1 => by
    have ih0 := spec_EncodeBundle.mono_l k
    · intro y0 y1 y2
      unfold spec_EncodeBundle.l0
      repeat' first
      | (with_reducible exact ih0 _ _ _)
      | (with_reducible exact spec_EncodeInts.mono _ _)
      | (with_reducible exact spec_IsBundle.mono _ _)
      | (with_reducible exact LeO.refl _)
      | (with_reducible exact LeO.none _)
      | (with_reducible refine LeO.ite ?_ ?_)
      | (with_reducible refine LeO.bind ?_ (fun _ => ?_))
      | exact ih0 _ _ _
      | exact spec_EncodeInts.mono _ _
      | exact spec_IsBundle.mono _ _
      | exact LeO.none _
      | refine LeO.ite ?_ ?_
      | refine LeO.bind ?_ (fun _ => ?_)
theorem spec_EncodeBundle.mono : ∀ a0 k, LeO (spec_EncodeBundle.f k a0) (spec_EncodeBundle.f (k + 1) a0) := by
  intro a0 k
  have ih0 := spec_EncodeBundle.mono_l k
  unfold spec_EncodeBundle.f
  repeat' first
      | (with_reducible exact ih0 _ _ _)
      | (with_reducible exact spec_EncodeInts.mono _ _)
      | (with_reducible exact spec_IsBundle.mono _ _)
      | (with_reducible exact LeO.refl _)
      | (with_reducible exact LeO.none _)
      | (with_reducible refine LeO.ite ?_ ?_)
      | (with_reducible refine LeO.bind ?_ (fun _ => ?_))
      | exact ih0 _ _ _
      | exact spec_EncodeInts.mono _ _
      | exact spec_IsBundle.mono _ _
      | exact LeO.none _
      | refine LeO.ite ?_ ?_
      | refine LeO.bind ?_ (fun _ => ?_)
def spec_EncodeBundle.T10 : Bool × List (List Nat × List Nat) := (true, [([], []), ([], []), ([1], [1]), ([], []), ([2, 3], [2, 3]), ([4], [4]), ([5], [5]), ([], []), ([7], [7]), ([], []), ([8, 9], [8, 9]), ([10], [10]), ([11], [11]), ([], []), ([13], [13]), ([], []), ([14, 15], [14, 15]), ([16], [16]), ([17], [17]), ([], []), ([6, 12, 18, 19], [6, 12, 18, 19]), ([0, 20], [0, 20]), ([21, 21, 0, 1, 2, 3, 4, 5, 6, 7, 8, 9, 10, 11, 12, 13, 14, 15, 16, 17, 18, 19, 20, 21], [0, 21])])
def spec_EncodeBundle.B10 : List Nat := [0, 0, 2, 0, 14, 30, 62, 0, 128, 0, 896, 1920, 3968, 0, 8192, 0, 57344, 122880, 253952, 0, 1048574, 2097151, 4194303]
theorem spec_EncodeBundle.tab10 : rtab .any (opsOf Try.f76 10) = spec_EncodeBundle.T10 := by kernel_rfl
theorem spec_EncodeBundle.bits10 : waitsOk spec_EncodeBundle.T10.2 spec_EncodeBundle.B10 = true := by kernel_rfl
set_option maxHeartbeats 8000000 in
set_option maxRecDepth 100000 in
theorem spec_EncodeBundle.calls (k : Nat) (A0_0 : Option Addr) (c0_0 : Nat) (l0_0 : List (S49)) (r : List Int) (w : World) (hr0_0 : Kd.C k49 w A0_0 l0_0.length l0_0) (hc0_0 : l0_0.length ≤ c0_0) (h : spec_EncodeBundle.f k l0_0 = some r) :
    Calls Try.prog 76 #[.agg #[.slice A0_0 l0_0.length c0_0]] w fun e w' => ∃ v0_ : Value, e = .returned (v0_) ∧ Kd.R (Kd.int .u8) 5 w' w.heap.size (fun _ => True) v0_ r ∧ Below w.heap.size w w' := by
 have hu41 := Try.underlying41; have HR0_0 := Aside0.mk hr0_0; have HC0_0 := Aside0.mk hc0_0; clear hr0_0 hc0_0
 have HB := Aside0.mk (Below.refl w.heap.size w)
 have H : ((spec_IsBundle.f k l0_0).bind fun t146 => (if t146 = true then (spec_EncodeBundle.l0 k (([(l0_0.length : Int)] : List Int)) 0 l0_0) else (some (([] : List Int))))) = some r := h
 clear h; replace H := Option.bind_eq_some_iff.mp H; obtain ⟨t146, A20, H⟩ := H; (try dsimp only at H); have A2 := Aside0.mk A20; clear A20
 by_cases c3 : t146 = true
 ·subst c3; rw [if_pos rfl] at H
  obtain ⟨y150, hy150⟩ : ∃ y_ : List Int, y_ = (([(l0_0.length : Int)] : List Int)) := ⟨_, rfl⟩
  replace H : (spec_EncodeBundle.l0 k y150 0 l0_0) = some r := by first | (rw [hy150]; with_reducible exact H) | (have H2_ := (Option.bind_some _ _).symm.trans H; rw [hy150]; with_reducible exact H2_) | (have H2_ := (Option.bind_some _ _).symm.trans H; with_reducible exact H2_) | with_reducible exact H | (rw [hy150]; exact H) | exact H
  have Ny150 := Aside0.mk hy150; clear hy150
  have H' := Aside0.mk H
  clear H
  go_enter Try.func76, Try.ntmps76
  go_wp2_with (first | ((with_reducible refine gate_dst (N := 1) rfl ?_); refine box_event (by rfl) (N := 1) (by rfl) (cs := #[.slice A0_0 l0_0.length c0_0]) (t := 41) (by first | (go_simp; done) | (go_simp; rfl)) ?_; intro gb145 hg w4 hbox hb; have n0_ := Aside0.mk (below_step (Cmp.g HB.out) hb); have n1_ := Aside0.mk (hbox); have n2_ := Aside0.mk ((by rw [hg]; exact (below_size (Cmp.g HB.out)) : w.heap.size ≤ gb145)); have n3_ := Aside0.mk ((by rw [hg]; exact (below_size (Cmp.g HB.out)) : w.heap.size ≤ gb145)); clear HB; have HB := n0_; have BK145 := n1_; have GW145 := n2_; have GE145 := n3_; clear n0_ n1_ n2_ n3_; clear hb hbox hg; have hcz5_0 : w4.cell? ⟨gb145, 0, none⟩ = some (.slice A0_0 l0_0.length c0_0) := (blk_cell BK145.out 0).trans rfl; have hfz5_0 := blk_frozen BK145.out 0) | ((with_reducible refine gate_callee (f := 60) rfl ?_); refine goesL_ (some 7) rfl rfl Try.func60 (by kernel_rfl) rfl #[.agg #[.slice A0_0 l0_0.length c0_0]] rfl Cmp.q ?_; (with_reducible refine (spec_IsBundle.calls k _ _ l0_0 true _ ?side1 ?side2 A2.out).mono ?_); (case side1 => exact Cmp.rc (Kd.C_below HR0_0.out HB.out)); (case side2 => exact HC0_0.out); rintro e w6 ⟨rfl, hb⟩; refine ⟨_, rfl, ?_⟩; have n0_ := Aside0.mk (blk_below (Cmp.b BK145.out) hb); have n1_ := Aside0.mk (below_step (Cmp.g HB.out) hb); clear BK145; clear HB; have BK145 := n0_; have HB := n1_; clear n0_ n1_; (try clear hb); (try clear hb2); (try clear hk); (try clear hi); have hcz7_0 : w6.cell? ⟨gb145, 0, none⟩ = some (.slice A0_0 l0_0.length c0_0) := (blk_cell BK145.out 0).trans rfl; have hfz7_0 := blk_frozen BK145.out 0) | ((with_reducible refine gate_dst (N := 13) rfl ?_); refine Kd.R_lit (Kd.int .i64) _ 3 ?hg (N := 13) ?hd (xs := ([(l0_0.length : Int)] : List Int)) (inner := [.int .i64 (l0_0.length : Int)]) (ok := fun _ => True) (okp := fun _ => True) ?hr ?hp (fun _ hk => hk) trivial (Below.refl _ _) (Nat.le_refl _) (by simp) ?_; (case hd => rfl); (case hg => rfl); (case hr => first | (go_simp; done) | (go_simp; rfl)); (case hp => exact (Reps.one (show Kd.M (Kd.int .i64) _ _ _ (l0_0.length : Int) [.int .i64 (l0_0.length : Int)] from rfl) (Reps.none _ _))); intro v151 w8 ho9 hb hg_ hnew_; clear hg_ hnew_; (first | rw [← Ny150.out] at ho9 | (simp only [Int.reduceToNat] at ho9; rw [← Ny150.out] at ho9)); have n0_ := Aside0.mk (Kd.R_lower ho9 (below_size (Cmp.g HB.out))); have n1_ := Aside0.mk (blk_below (Cmp.b BK145.out) hb); have n2_ := Aside0.mk (below_step (Cmp.g HB.out) hb); clear BK145; clear HB; have HO152 := n0_; have BK145 := n1_; have HB := n2_; clear n0_ n1_ n2_; clear hb ho9))
  go_loopg [3, 4] k (fun kq v3 v4 w' => ∃ (x3_1 : List Int) (x4_1 : Int), v4 = .int .i64 x4_1 ∧ Aside0 (spec_EncodeBundle.l0 kq x3_1 x4_1 l0_0 = some r) ∧ Aside0 (kq ≤ k) ∧ Aside0 (Kd.R (Kd.int .i64) 3 w' w.heap.size (fun _ => True) v3 x3_1) ∧ Aside0 (w'.heap[gb145]? = some (.cells #[(.slice A0_0 l0_0.length c0_0)] 41 (0, 0))) ∧ Aside0 (Below w.heap.size w w'))
  case atStart => exact ⟨(y150), (0), (by first | rfl | simp | simp [*]), H', ⟨Nat.le_refl _⟩, ⟨by refine Cmp.rr ?_; exact HO152.out⟩, ⟨by refine Cmp.b ?_; exact BK145.out⟩, ⟨Cmp.g HB.out⟩⟩
  case round =>
   clear H'
   (try clear p2); (try clear c3); (try clear c6); (try clear c7); (try clear hcz5_0); (try clear hcz7_0); (try clear hfz5_0); (try clear hfz7_0)
   obtain ⟨x3_1, x4_1, rfl, HA, HK1, HO_3, BK145, HB⟩ := hrel
   cases gk with
   | zero => exact absurd HA.out (by simp [spec_EncodeBundle.l0])
   | succ k1 =>
    have H := HA.out; clear HA
    simp only [spec_EncodeBundle.l0] at H
    by_cases c10 : x4_1 < (l0_0.length : Int)
    ·rw [if_pos c10] at H
     have c10b0 : decide (x4_1 < (l0_0.length : Int)) = true := decide_eq_true c10
     clear c10
     by_cases c11 : 0 ≤ x4_1
     ·rw [if_pos c11] at H; have c11b0 : decide (0 ≤ x4_1) = true := decide_eq_true c11; clear c11
      obtain ⟨bq12, hbq12⟩ : ∃ b_ : Bool, b_ = ((rd_T49 l0_0 x4_1).f3) := ⟨_, rfl⟩
      replace H : (if bq12 = true then ((some (([(rd_T49 l0_0 x4_1).f0, (rd_T49 l0_0 x4_1).f1, (rd_T49 l0_0 x4_1).f2, 1] : List Int) : List Int)).bind fun y157 => (if x3_1.length + y157.length < 17592186044416 then (spec_EncodeBundle.l0 k1 (x3_1 ++ y157) (wrap64 (x4_1 + 1)) l0_0) else (none))) else ((some (([(rd_T49 l0_0 x4_1).f0, (rd_T49 l0_0 x4_1).f1, (rd_T49 l0_0 x4_1).f2, 0] : List Int) : List Int)).bind fun y166 => (if x3_1.length + y166.length < 17592186044416 then (spec_EncodeBundle.l0 k1 (x3_1 ++ y166) (wrap64 (x4_1 + 1)) l0_0) else (none)))) = some r := by rw [← hbq12] at H; exact H
      have Nbq12 := Aside0.mk hbq12; clear hbq12
      by_cases c13 : bq12 = true
      ·subst c13; rw [if_pos rfl] at H
       obtain ⟨y157, hy157⟩ : ∃ y_ : List Int, y_ = (([(rd_T49 l0_0 x4_1).f0, (rd_T49 l0_0 x4_1).f1, (rd_T49 l0_0 x4_1).f2, 1] : List Int)) := ⟨_, rfl⟩
       replace H : (if x3_1.length + y157.length < 17592186044416 then (spec_EncodeBundle.l0 k1 (x3_1 ++ y157) (wrap64 (x4_1 + 1)) l0_0) else (none)) = some r := by first | (rw [hy157]; with_reducible exact H) | (have H2_ := (Option.bind_some _ _).symm.trans H; rw [hy157]; with_reducible exact H2_) | (have H2_ := (Option.bind_some _ _).symm.trans H; with_reducible exact H2_) | with_reducible exact H | (rw [hy157]; exact H) | exact H
       have Ny157 := Aside0.mk hy157; clear hy157
       by_cases c14 : x3_1.length + y157.length < 17592186044416
       ·rw [if_pos c14] at H; have LMc14 := Aside0.mk c14; clear c14
        obtain ⟨y160, hy160⟩ : ∃ y_ : List Int, y_ = (x3_1 ++ y157) := ⟨_, rfl⟩
        replace H : (spec_EncodeBundle.l0 k1 y160 (wrap64 (x4_1 + 1)) l0_0) = some r := by first | (rw [hy160]; with_reducible exact H) | (have H2_ := (Option.bind_some _ _).symm.trans H; rw [hy160]; with_reducible exact H2_) | (have H2_ := (Option.bind_some _ _).symm.trans H; with_reducible exact H2_) | with_reducible exact H | (rw [hy160]; exact H) | exact H
        have Ny160 := Aside0.mk hy160; clear hy160
        have H' := Aside0.mk H
        clear H
        have hcz15_0 : wr.cell? ⟨gb145, 0, none⟩ = some (.slice A0_0 l0_0.length c0_0) := (blk_cell BK145.out 0).trans rfl
        have hfz15_0 := blk_frozen BK145.out 0
        have p153 : 0 ≤ (x4_1 : Int) := of_decide_eq_true Cmp.d
        have q153 : x4_1 < (l0_0.length : Int) := of_decide_eq_true Cmp.d
        obtain ⟨ad153, e153, hx153_0, hx153_1, hx153_2, hx153_3⟩ := at_T49 HR0_0.out x4_1 p153 q153
        (try rw [← Nbq12.out] at hx153_3)
        (try rw [← Nbq12.out] at hw153_3)
        cases e153
        replace hx153_0 := (HB.out.cell (World.block_lt_of_cell? w _ hx153_0)).trans hx153_0
        replace hx153_1 := (HB.out.cell (World.block_lt_of_cell? w _ hx153_1)).trans hx153_1
        replace hx153_2 := (HB.out.cell (World.block_lt_of_cell? w _ hx153_2)).trans hx153_2
        replace hx153_3 := (HB.out.cell (World.block_lt_of_cell? w _ hx153_3)).trans hx153_3
        replace p153 := eq_true p153; replace q153 := eq_true q153
        try go_wp2
        have n0_ := Aside0.mk (Kd.R_drew HO_3.out); have n1_ := Aside0.mk (blk_drew BK145.out); have n2_ := Aside0.mk (below_drew1 HB.out); clear HO_3; clear BK145; clear HB; have HO_3 := n0_; have BK145 := n1_; have HB := n2_; clear n0_ n1_ n2_
        have p154 : 0 ≤ (x4_1 : Int) := of_decide_eq_true Cmp.d
        have q154 : x4_1 < (l0_0.length : Int) := of_decide_eq_true Cmp.d
        obtain ⟨ad154, e154, hx154_0, hx154_1, hx154_2, hx154_3⟩ := at_T49 HR0_0.out x4_1 p154 q154
        have hw154_3 := hx154_3; have hw154_2 := hx154_2; have hw154_1 := hx154_1; have hw154_0 := hx154_0
        (try rw [← Nbq12.out] at hx154_3)
        (try rw [← Nbq12.out] at hw154_3)
        obtain rfl : ad153 = ad154 := (by injection e154)
        replace hx154_0 := (HB.out.cell (World.block_lt_of_cell? w _ hx154_0)).trans hx154_0
        replace hx154_1 := (HB.out.cell (World.block_lt_of_cell? w _ hx154_1)).trans hx154_1
        replace hx154_2 := (HB.out.cell (World.block_lt_of_cell? w _ hx154_2)).trans hx154_2
        replace hx154_3 := (HB.out.cell (World.block_lt_of_cell? w _ hx154_3)).trans hx154_3
        replace p154 := eq_true p154; replace q154 := eq_true q154
        have p155 : 0 ≤ (x4_1 : Int) := of_decide_eq_true Cmp.d
        have q155 : x4_1 < (l0_0.length : Int) := of_decide_eq_true Cmp.d
        obtain ⟨ad155, e155, hx155_0, hx155_1, hx155_2, hx155_3⟩ := at_T49 HR0_0.out x4_1 p155 q155
        have hw155_3 := hx155_3; have hw155_2 := hx155_2; have hw155_1 := hx155_1; have hw155_0 := hx155_0
        (try rw [← Nbq12.out] at hx155_3)
        (try rw [← Nbq12.out] at hw155_3)
        obtain rfl : ad153 = ad155 := (by injection e155)
        replace hx155_0 := (HB.out.cell (World.block_lt_of_cell? w _ hx155_0)).trans hx155_0
        replace hx155_1 := (HB.out.cell (World.block_lt_of_cell? w _ hx155_1)).trans hx155_1
        replace hx155_2 := (HB.out.cell (World.block_lt_of_cell? w _ hx155_2)).trans hx155_2
        replace hx155_3 := (HB.out.cell (World.block_lt_of_cell? w _ hx155_3)).trans hx155_3
        replace p155 := eq_true p155; replace q155 := eq_true q155
        have p156 : 0 ≤ (x4_1 : Int) := of_decide_eq_true Cmp.d
        have q156 : x4_1 < (l0_0.length : Int) := of_decide_eq_true Cmp.d
        obtain ⟨ad156, e156, hx156_0, hx156_1, hx156_2, hx156_3⟩ := at_T49 HR0_0.out x4_1 p156 q156
        have hw156_3 := hx156_3; have hw156_2 := hx156_2; have hw156_1 := hx156_1; have hw156_0 := hx156_0
        (try rw [← Nbq12.out] at hx156_3)
        (try rw [← Nbq12.out] at hw156_3)
        obtain rfl : ad153 = ad156 := (by injection e156)
        replace hx156_0 := (HB.out.cell (World.block_lt_of_cell? w _ hx156_0)).trans hx156_0
        replace hx156_1 := (HB.out.cell (World.block_lt_of_cell? w _ hx156_1)).trans hx156_1
        replace hx156_2 := (HB.out.cell (World.block_lt_of_cell? w _ hx156_2)).trans hx156_2
        replace hx156_3 := (HB.out.cell (World.block_lt_of_cell? w _ hx156_3)).trans hx156_3
        replace p156 := eq_true p156; replace q156 := eq_true q156
        refine start_ (n := 23) (S := fun w' => w'.cell? ⟨gb145, 0, none⟩ = some (.slice (some ad153) l0_0.length c0_0) ∧ w'.cell? (ad153.add ((x4_1).toNat * 4)) = some (.int .i64 ((rd_T49 l0_0 x4_1).f0)) ∧ w'.cell? ⟨(ad153.add ((x4_1).toNat * 4)).block, (ad153.add ((x4_1).toNat * 4)).off + 1, none⟩ = some (.int .i64 ((rd_T49 l0_0 x4_1).f1)) ∧ w'.cell? ⟨(ad153.add ((x4_1).toNat * 4)).block, (ad153.add ((x4_1).toNat * 4)).off + 2, none⟩ = some (.int .i64 ((rd_T49 l0_0 x4_1).f2)) ∧ w'.cell? ⟨(ad153.add ((x4_1).toNat * 4)).block, (ad153.add ((x4_1).toNat * 4)).off + 3, none⟩ = some (.bool (true)) ∧ w'.cell? (ad153.add ((x4_1).toNat * 4)) = some (.int .i64 ((rd_T49 l0_0 x4_1).f0)) ∧ w'.cell? ⟨(ad153.add ((x4_1).toNat * 4)).block, (ad153.add ((x4_1).toNat * 4)).off + 1, none⟩ = some (.int .i64 ((rd_T49 l0_0 x4_1).f1)) ∧ w'.cell? ⟨(ad153.add ((x4_1).toNat * 4)).block, (ad153.add ((x4_1).toNat * 4)).off + 2, none⟩ = some (.int .i64 ((rd_T49 l0_0 x4_1).f2)) ∧ w'.cell? ⟨(ad153.add ((x4_1).toNat * 4)).block, (ad153.add ((x4_1).toNat * 4)).off + 3, none⟩ = some (.bool (true)) ∧ w'.cell? (ad153.add ((x4_1).toNat * 4)) = some (.int .i64 ((rd_T49 l0_0 x4_1).f0)) ∧ w'.cell? ⟨(ad153.add ((x4_1).toNat * 4)).block, (ad153.add ((x4_1).toNat * 4)).off + 1, none⟩ = some (.int .i64 ((rd_T49 l0_0 x4_1).f1)) ∧ w'.cell? ⟨(ad153.add ((x4_1).toNat * 4)).block, (ad153.add ((x4_1).toNat * 4)).off + 2, none⟩ = some (.int .i64 ((rd_T49 l0_0 x4_1).f2)) ∧ w'.cell? ⟨(ad153.add ((x4_1).toNat * 4)).block, (ad153.add ((x4_1).toNat * 4)).off + 3, none⟩ = some (.bool (true))) (ds := []) (Cmp.bm 0 23) (by kernel_rfl) rfl rfl ⟨(blk_cell BK145.out 0).trans rfl, ((HB.out.cell (World.block_lt_of_cell? w _ hw154_0)).trans hw154_0), ((HB.out.cell (World.block_lt_of_cell? w _ hw154_1)).trans hw154_1), ((HB.out.cell (World.block_lt_of_cell? w _ hw154_2)).trans hw154_2), ((HB.out.cell (World.block_lt_of_cell? w _ hw154_3)).trans hw154_3), ((HB.out.cell (World.block_lt_of_cell? w _ hw155_0)).trans hw155_0), ((HB.out.cell (World.block_lt_of_cell? w _ hw155_1)).trans hw155_1), ((HB.out.cell (World.block_lt_of_cell? w _ hw155_2)).trans hw155_2), ((HB.out.cell (World.block_lt_of_cell? w _ hw155_3)).trans hw155_3), ((HB.out.cell (World.block_lt_of_cell? w _ hw156_0)).trans hw156_0), ((HB.out.cell (World.block_lt_of_cell? w _ hw156_1)).trans hw156_1), ((HB.out.cell (World.block_lt_of_cell? w _ hw156_2)).trans hw156_2), ((HB.out.cell (World.block_lt_of_cell? w _ hw156_3)).trans hw156_3)⟩ (fun hHeld => ?_); refine with_tabW spec_EncodeBundle.tab10 spec_EncodeBundle.bits10 (fun HT_ HW_ => ?_)
        generalize wr.drew = w16 at HO_3 BK145 HB hx154_0 hx154_1 hx154_2 hx154_3 hx155_0 hx155_1 hx155_2 hx155_3 hx156_0 hx156_1 hx156_2 hx156_3 hHeld ⊢
        refine Cmp.pu HT_ 0 27 (Cmp.bm 1 22) ?_; refine Cmp.pu HT_ 1 28 (Cmp.bm 2 21) ?_; refine Cmp.pu HT_ 3 30 (Cmp.bb 23 11) ?_; refine Cmp.pu HT_ 7 34 (Cmp.bb 23 139) ?_; refine Cmp.pu HT_ 9 36 (Cmp.bb 23 651) ?_; refine Cmp.pu HT_ 13 40 (Cmp.bb 23 8843) ?_; refine Cmp.pu HT_ 15 42 (Cmp.bb 23 41611) ?_; refine Cmp.pu HT_ 19 46 (Cmp.bb 23 565899) ?_; refine Cmp.tk HT_ HW_ hHeld 2 29 (Cmp.bb 23 565903) ?_; refine Cmp.pu HT_ 4 31 (Cmp.bb 23 565919) ?_; refine Cmp.pu HT_ 5 32 (Cmp.bb 23 565951) ?_; refine Cmp.tk HT_ HW_ hHeld 6 33 (Cmp.bb 23 566015) ?_; refine Cmp.tk HT_ HW_ hHeld 8 35 (Cmp.bb 23 566271) ?_; refine Cmp.pu HT_ 10 37 (Cmp.bb 23 567295) ?_; refine Cmp.pu HT_ 11 38 (Cmp.bb 23 569343) ?_; refine Cmp.tk HT_ HW_ hHeld 12 39 (Cmp.bb 23 573439) ?_; refine Cmp.tk HT_ HW_ hHeld 14 41 (Cmp.bb 23 589823) ?_; refine Cmp.pu HT_ 16 43 (Cmp.bb 23 655359) ?_; refine Cmp.pu HT_ 17 44 (Cmp.bb 23 786431) ?_; refine Cmp.tk HT_ HW_ hHeld 18 45 (Cmp.bm 20 3) ?_
        refine one_ (i := 20) (N := some 47) (Cmp.bm 21 2) rfl rfl (one_of HT_.out (by kernel_rfl)) (by decide) (fun K hK => ?_)
        refine Kd.R_lit_step (Kd.int .i64) _ 3 ?hg (N := 47) ?hd (xs := ([(rd_T49 l0_0 x4_1).f0, (rd_T49 l0_0 x4_1).f1, (rd_T49 l0_0 x4_1).f2, 1] : List Int)) (inner := [.int .i64 ((rd_T49 l0_0 x4_1).f0), .int .i64 ((rd_T49 l0_0 x4_1).f1), .int .i64 ((rd_T49 l0_0 x4_1).f2), .int .i64 1]) (ok := fun _ => True) (okp := fun _ => True) ?hr ?hp (fun _ hk => hk) trivial (Below.refl _ _) (Nat.le_refl _) (by simp) ?_; (case hd => rfl); (case hg => rfl); (case hr => first | (go_simp; done) | (go_simp; rfl)); (case hp => exact (Reps.one (show Kd.M (Kd.int .i64) _ _ _ ((rd_T49 l0_0 x4_1).f0) [.int .i64 ((rd_T49 l0_0 x4_1).f0)] from rfl) (Reps.one (show Kd.M (Kd.int .i64) _ _ _ ((rd_T49 l0_0 x4_1).f1) [.int .i64 ((rd_T49 l0_0 x4_1).f1)] from rfl) (Reps.one (show Kd.M (Kd.int .i64) _ _ _ ((rd_T49 l0_0 x4_1).f2) [.int .i64 ((rd_T49 l0_0 x4_1).f2)] from rfl) (Reps.one (show Kd.M (Kd.int .i64) _ _ _ 1 [.int .i64 1] from rfl) (Reps.none _ _))))))
        intro v158 w17 ho18 hb hg_ hnew_
        clear hg_ hnew_
        (first | rw [← Ny157.out] at ho18 | (simp only [Int.reduceToNat] at ho18; rw [← Ny157.out] at ho18))
        have n0_ := Aside0.mk (Kd.R_elder' (Cmp.rr HO_3.out) (Kd.R_base ho18) hb)
        have n1_ := Aside0.mk (Kd.R_lower (Kd.R_new' ho18 (Kd.R_lt (Cmp.rr HO_3.out))) (below_size (Cmp.g HB.out)))
        have n2_ := Aside0.mk (blk_below (Cmp.b BK145.out) hb)
        have n3_ := Aside0.mk (below_step (Cmp.g HB.out) hb)
        clear HO_3; clear BK145; clear HB; have HO_3 := n0_; have HO159 := n1_; have BK145 := n2_; have HB := n3_; clear n0_ n1_ n2_ n3_; clear hb ho18
        obtain ⟨Ao20, co20, eo20⟩ := Kd.R_slice HO159.out
        (first | subst eo20 | (injection eo20 with f1_ f2_ f3_; have f4_ := f1_.symm; have f5_ := f3_.symm; clear f1_ f2_ f3_; subst f4_; subst f5_))
        refine hK.out _ _ ⟨(blk_cell BK145.out 0).trans rfl, ((HB.out.cell (World.block_lt_of_cell? w _ hw154_0)).trans hw154_0), ((HB.out.cell (World.block_lt_of_cell? w _ hw154_1)).trans hw154_1), ((HB.out.cell (World.block_lt_of_cell? w _ hw154_2)).trans hw154_2), ((HB.out.cell (World.block_lt_of_cell? w _ hw154_3)).trans hw154_3), ((HB.out.cell (World.block_lt_of_cell? w _ hw155_0)).trans hw155_0), ((HB.out.cell (World.block_lt_of_cell? w _ hw155_1)).trans hw155_1), ((HB.out.cell (World.block_lt_of_cell? w _ hw155_2)).trans hw155_2), ((HB.out.cell (World.block_lt_of_cell? w _ hw155_3)).trans hw155_3), ((HB.out.cell (World.block_lt_of_cell? w _ hw156_0)).trans hw156_0), ((HB.out.cell (World.block_lt_of_cell? w _ hw156_1)).trans hw156_1), ((HB.out.cell (World.block_lt_of_cell? w _ hw156_2)).trans hw156_2), ((HB.out.cell (World.block_lt_of_cell? w _ hw156_3)).trans hw156_3)⟩ (fun hHeld => ?_)
        clear hK K
        refine norm_ (a' := ?_) ?_ ?_
        rotate_left
        ·show Act.put _ (some 47) _ = _
         simp only [Act.put, Cmp.s, Cmp.z, Cmp.c, i64_w, i32_w]; rfl
        refine one_ (i := 21) (N := some 48) (Cmp.bm 22 1) rfl rfl (one_of HT_.out (by kernel_rfl)) (by decide) (fun K hK => ?_)
        refine Kd.R_append_rows_step (Kd.int .i64) (w0 := w) w.heap.size (by rfl) (.tmp 27) (.tmp 47) 56 3 (.int .i64 0) 8 rfl Try.underlying56 info3 rfl (by decide) (by omega) u3 x3_1 y157 _ _ _ (fun k_ => some k_ ≠ (.slice Ao20 y157.length co20 : Value).ownBlock) (fun _ => False) rfl rfl ?aO ?aR (fun _ _ h => h) (fun _ h => h.elim) ?aF ?aB ?aS ?aL ?_
        (case aR => repeat (first | exact (Kd.R_reads' HO159.out).2.2 | (with_reducible refine Kd.C_alloc ?_ _) | (with_reducible refine Kd.C_drewN ?_ _) | (with_reducible refine Kd.C_drew ?_)))
        (case aB => exact (Cmp.g HB.out))
        (case aF => exact (fun k_ hk => Kd.fresh' (Kd.R_lt (Cmp.rr HO159.out)) k_ hk))
        (case aO => exact (by refine Cmp.rr ?_; exact Kd.R_mono HO_3.out (fun _ hk => hk.2)))
        (case aS => exact (below_size (Cmp.g HB.out)))
        (case aL => have := LMc14.out; omega)
        intro v161 w19 ho hb hg hat
        rw [← Ny160.out] at ho
        have n0_ := Aside0.mk (blk_grown (g := gb145) (o := .cells #[.slice (some ad153) l0_0.length c0_0] 41 (0, 0)) (Cmp.b BK145.out) hg (Kd.R_ne HO_3.out BK145.out (by decide)))
        have n1_ := Aside0.mk (Kd.R_after (ok := (fun _ => True)) (Cmp.rr HO159.out) hg hat)
        have n2_ := Aside0.mk (hb)
        have n3_ := Aside0.mk (ho)
        clear BK145; clear HO159; clear HB; clear HO_3; have BK145 := n0_; have HO159 := n1_; have HB := n2_; have HO162 := n3_; clear n0_ n1_ n2_ n3_; clear ho hb hg hat
        refine hK.out _ _ ⟨(blk_cell BK145.out 0).trans rfl, ((HB.out.cell (World.block_lt_of_cell? w _ hw154_0)).trans hw154_0), ((HB.out.cell (World.block_lt_of_cell? w _ hw154_1)).trans hw154_1), ((HB.out.cell (World.block_lt_of_cell? w _ hw154_2)).trans hw154_2), ((HB.out.cell (World.block_lt_of_cell? w _ hw154_3)).trans hw154_3), ((HB.out.cell (World.block_lt_of_cell? w _ hw155_0)).trans hw155_0), ((HB.out.cell (World.block_lt_of_cell? w _ hw155_1)).trans hw155_1), ((HB.out.cell (World.block_lt_of_cell? w _ hw155_2)).trans hw155_2), ((HB.out.cell (World.block_lt_of_cell? w _ hw155_3)).trans hw155_3), ((HB.out.cell (World.block_lt_of_cell? w _ hw156_0)).trans hw156_0), ((HB.out.cell (World.block_lt_of_cell? w _ hw156_1)).trans hw156_1), ((HB.out.cell (World.block_lt_of_cell? w _ hw156_2)).trans hw156_2), ((HB.out.cell (World.block_lt_of_cell? w _ hw156_3)).trans hw156_3)⟩ (fun hHeld => ?_)
        clear hK K
        refine norm_ (a' := ?_) ?_ ?_
        rotate_left
        ·show Act.put _ (some 48) _ = _
         simp only [Act.put, Cmp.s, Cmp.z, Cmp.c, i64_w, i32_w]; rfl
        refine Cmp.pu HT_ 22 3 (Cmp.bm 23 0) ?_
        refine done_ (done_of HT_.out (by kernel_rfl)) ?_
        try go_wp2
        go_roundg k1
        case measure => have := HK1.out; omega
        case rel => exact ⟨(y160), (wrap64 (x4_1 + 1)), (by first | rfl | simp | simp [*]), H', ⟨by have := HK1.out; omega⟩, ⟨by refine Cmp.rr ?_; exact Kd.R_mono HO162.out (fun _ hk => trivial)⟩, ⟨by refine Cmp.b ?_; exact BK145.out⟩, ⟨Cmp.g HB.out⟩⟩
       ·rw [if_neg c14] at H; exact absurd H (by simp)
      ·replace c13 := Bool.eq_false_iff.mpr c13
       subst c13
       have H1 : ((some (([(rd_T49 l0_0 x4_1).f0, (rd_T49 l0_0 x4_1).f1, (rd_T49 l0_0 x4_1).f2, 0] : List Int) : List Int)).bind fun y166 => (if x3_1.length + y166.length < 17592186044416 then (spec_EncodeBundle.l0 k1 (x3_1 ++ y166) (wrap64 (x4_1 + 1)) l0_0) else (none))) = some r := by rw [if_neg (show ¬ (false = true) by decide)] at H; exact H
       clear H; have H := H1; clear H1
       obtain ⟨y166, hy166⟩ : ∃ y_ : List Int, y_ = (([(rd_T49 l0_0 x4_1).f0, (rd_T49 l0_0 x4_1).f1, (rd_T49 l0_0 x4_1).f2, 0] : List Int)) := ⟨_, rfl⟩
       replace H : (if x3_1.length + y166.length < 17592186044416 then (spec_EncodeBundle.l0 k1 (x3_1 ++ y166) (wrap64 (x4_1 + 1)) l0_0) else (none)) = some r := by first | (rw [hy166]; with_reducible exact H) | (have H2_ := (Option.bind_some _ _).symm.trans H; rw [hy166]; with_reducible exact H2_) | (have H2_ := (Option.bind_some _ _).symm.trans H; with_reducible exact H2_) | with_reducible exact H | (rw [hy166]; exact H) | exact H
       have Ny166 := Aside0.mk hy166; clear hy166
       by_cases c21 : x3_1.length + y166.length < 17592186044416
       ·rw [if_pos c21] at H; have LMc21 := Aside0.mk c21; clear c21
        obtain ⟨y169, hy169⟩ : ∃ y_ : List Int, y_ = (x3_1 ++ y166) := ⟨_, rfl⟩
        replace H : (spec_EncodeBundle.l0 k1 y169 (wrap64 (x4_1 + 1)) l0_0) = some r := by first | (rw [hy169]; with_reducible exact H) | (have H2_ := (Option.bind_some _ _).symm.trans H; rw [hy169]; with_reducible exact H2_) | (have H2_ := (Option.bind_some _ _).symm.trans H; with_reducible exact H2_) | with_reducible exact H | (rw [hy169]; exact H) | exact H
        have Ny169 := Aside0.mk hy169; clear hy169
        have H' := Aside0.mk H
        clear H
        have hcz22_0 : wr.cell? ⟨gb145, 0, none⟩ = some (.slice A0_0 l0_0.length c0_0) := (blk_cell BK145.out 0).trans rfl
        have hfz22_0 := blk_frozen BK145.out 0
        have p153 : 0 ≤ (x4_1 : Int) := of_decide_eq_true Cmp.d
        have q153 : x4_1 < (l0_0.length : Int) := of_decide_eq_true Cmp.d
        obtain ⟨ad153, e153, hx153_0, hx153_1, hx153_2, hx153_3⟩ := at_T49 HR0_0.out x4_1 p153 q153
        (try rw [← Nbq12.out] at hx153_3)
        (try rw [← Nbq12.out] at hw153_3)
        cases e153
        replace hx153_0 := (HB.out.cell (World.block_lt_of_cell? w _ hx153_0)).trans hx153_0
        replace hx153_1 := (HB.out.cell (World.block_lt_of_cell? w _ hx153_1)).trans hx153_1
        replace hx153_2 := (HB.out.cell (World.block_lt_of_cell? w _ hx153_2)).trans hx153_2
        replace hx153_3 := (HB.out.cell (World.block_lt_of_cell? w _ hx153_3)).trans hx153_3
        replace p153 := eq_true p153; replace q153 := eq_true q153
        try go_wp2
        have n0_ := Aside0.mk (Kd.R_drew HO_3.out); have n1_ := Aside0.mk (blk_drew BK145.out); have n2_ := Aside0.mk (below_drew1 HB.out); clear HO_3; clear BK145; clear HB; have HO_3 := n0_; have BK145 := n1_; have HB := n2_; clear n0_ n1_ n2_
        have p163 : 0 ≤ (x4_1 : Int) := of_decide_eq_true Cmp.d
        have q163 : x4_1 < (l0_0.length : Int) := of_decide_eq_true Cmp.d
        obtain ⟨ad163, e163, hx163_0, hx163_1, hx163_2, hx163_3⟩ := at_T49 HR0_0.out x4_1 p163 q163
        have hw163_3 := hx163_3; have hw163_2 := hx163_2; have hw163_1 := hx163_1; have hw163_0 := hx163_0
        (try rw [← Nbq12.out] at hx163_3)
        (try rw [← Nbq12.out] at hw163_3)
        obtain rfl : ad153 = ad163 := (by injection e163)
        replace hx163_0 := (HB.out.cell (World.block_lt_of_cell? w _ hx163_0)).trans hx163_0
        replace hx163_1 := (HB.out.cell (World.block_lt_of_cell? w _ hx163_1)).trans hx163_1
        replace hx163_2 := (HB.out.cell (World.block_lt_of_cell? w _ hx163_2)).trans hx163_2
        replace hx163_3 := (HB.out.cell (World.block_lt_of_cell? w _ hx163_3)).trans hx163_3
        replace p163 := eq_true p163; replace q163 := eq_true q163
        have p164 : 0 ≤ (x4_1 : Int) := of_decide_eq_true Cmp.d
        have q164 : x4_1 < (l0_0.length : Int) := of_decide_eq_true Cmp.d
        obtain ⟨ad164, e164, hx164_0, hx164_1, hx164_2, hx164_3⟩ := at_T49 HR0_0.out x4_1 p164 q164
        have hw164_3 := hx164_3; have hw164_2 := hx164_2; have hw164_1 := hx164_1; have hw164_0 := hx164_0
        (try rw [← Nbq12.out] at hx164_3)
        (try rw [← Nbq12.out] at hw164_3)
        obtain rfl : ad153 = ad164 := (by injection e164)
        replace hx164_0 := (HB.out.cell (World.block_lt_of_cell? w _ hx164_0)).trans hx164_0
        replace hx164_1 := (HB.out.cell (World.block_lt_of_cell? w _ hx164_1)).trans hx164_1
        replace hx164_2 := (HB.out.cell (World.block_lt_of_cell? w _ hx164_2)).trans hx164_2
        replace hx164_3 := (HB.out.cell (World.block_lt_of_cell? w _ hx164_3)).trans hx164_3
        replace p164 := eq_true p164; replace q164 := eq_true q164
        have p165 : 0 ≤ (x4_1 : Int) := of_decide_eq_true Cmp.d
        have q165 : x4_1 < (l0_0.length : Int) := of_decide_eq_true Cmp.d
        obtain ⟨ad165, e165, hx165_0, hx165_1, hx165_2, hx165_3⟩ := at_T49 HR0_0.out x4_1 p165 q165
        have hw165_3 := hx165_3; have hw165_2 := hx165_2; have hw165_1 := hx165_1; have hw165_0 := hx165_0
        (try rw [← Nbq12.out] at hx165_3)
        (try rw [← Nbq12.out] at hw165_3)
        obtain rfl : ad153 = ad165 := (by injection e165)
        replace hx165_0 := (HB.out.cell (World.block_lt_of_cell? w _ hx165_0)).trans hx165_0
        replace hx165_1 := (HB.out.cell (World.block_lt_of_cell? w _ hx165_1)).trans hx165_1
        replace hx165_2 := (HB.out.cell (World.block_lt_of_cell? w _ hx165_2)).trans hx165_2
        replace hx165_3 := (HB.out.cell (World.block_lt_of_cell? w _ hx165_3)).trans hx165_3
        replace p165 := eq_true p165; replace q165 := eq_true q165
        refine start_ (n := 23) (S := fun w' => w'.cell? ⟨gb145, 0, none⟩ = some (.slice (some ad153) l0_0.length c0_0) ∧ w'.cell? (ad153.add ((x4_1).toNat * 4)) = some (.int .i64 ((rd_T49 l0_0 x4_1).f0)) ∧ w'.cell? ⟨(ad153.add ((x4_1).toNat * 4)).block, (ad153.add ((x4_1).toNat * 4)).off + 1, none⟩ = some (.int .i64 ((rd_T49 l0_0 x4_1).f1)) ∧ w'.cell? ⟨(ad153.add ((x4_1).toNat * 4)).block, (ad153.add ((x4_1).toNat * 4)).off + 2, none⟩ = some (.int .i64 ((rd_T49 l0_0 x4_1).f2)) ∧ w'.cell? ⟨(ad153.add ((x4_1).toNat * 4)).block, (ad153.add ((x4_1).toNat * 4)).off + 3, none⟩ = some (.bool (false)) ∧ w'.cell? (ad153.add ((x4_1).toNat * 4)) = some (.int .i64 ((rd_T49 l0_0 x4_1).f0)) ∧ w'.cell? ⟨(ad153.add ((x4_1).toNat * 4)).block, (ad153.add ((x4_1).toNat * 4)).off + 1, none⟩ = some (.int .i64 ((rd_T49 l0_0 x4_1).f1)) ∧ w'.cell? ⟨(ad153.add ((x4_1).toNat * 4)).block, (ad153.add ((x4_1).toNat * 4)).off + 2, none⟩ = some (.int .i64 ((rd_T49 l0_0 x4_1).f2)) ∧ w'.cell? ⟨(ad153.add ((x4_1).toNat * 4)).block, (ad153.add ((x4_1).toNat * 4)).off + 3, none⟩ = some (.bool (false)) ∧ w'.cell? (ad153.add ((x4_1).toNat * 4)) = some (.int .i64 ((rd_T49 l0_0 x4_1).f0)) ∧ w'.cell? ⟨(ad153.add ((x4_1).toNat * 4)).block, (ad153.add ((x4_1).toNat * 4)).off + 1, none⟩ = some (.int .i64 ((rd_T49 l0_0 x4_1).f1)) ∧ w'.cell? ⟨(ad153.add ((x4_1).toNat * 4)).block, (ad153.add ((x4_1).toNat * 4)).off + 2, none⟩ = some (.int .i64 ((rd_T49 l0_0 x4_1).f2)) ∧ w'.cell? ⟨(ad153.add ((x4_1).toNat * 4)).block, (ad153.add ((x4_1).toNat * 4)).off + 3, none⟩ = some (.bool (false))) (ds := []) (Cmp.bm 0 23) (by kernel_rfl) rfl rfl ⟨(blk_cell BK145.out 0).trans rfl, ((HB.out.cell (World.block_lt_of_cell? w _ hw163_0)).trans hw163_0), ((HB.out.cell (World.block_lt_of_cell? w _ hw163_1)).trans hw163_1), ((HB.out.cell (World.block_lt_of_cell? w _ hw163_2)).trans hw163_2), ((HB.out.cell (World.block_lt_of_cell? w _ hw163_3)).trans hw163_3), ((HB.out.cell (World.block_lt_of_cell? w _ hw164_0)).trans hw164_0), ((HB.out.cell (World.block_lt_of_cell? w _ hw164_1)).trans hw164_1), ((HB.out.cell (World.block_lt_of_cell? w _ hw164_2)).trans hw164_2), ((HB.out.cell (World.block_lt_of_cell? w _ hw164_3)).trans hw164_3), ((HB.out.cell (World.block_lt_of_cell? w _ hw165_0)).trans hw165_0), ((HB.out.cell (World.block_lt_of_cell? w _ hw165_1)).trans hw165_1), ((HB.out.cell (World.block_lt_of_cell? w _ hw165_2)).trans hw165_2), ((HB.out.cell (World.block_lt_of_cell? w _ hw165_3)).trans hw165_3)⟩ (fun hHeld => ?_); refine with_tabW spec_EncodeBundle.tab10 spec_EncodeBundle.bits10 (fun HT_ HW_ => ?_)
        generalize wr.drew = w23 at HO_3 BK145 HB hx163_0 hx163_1 hx163_2 hx163_3 hx164_0 hx164_1 hx164_2 hx164_3 hx165_0 hx165_1 hx165_2 hx165_3 hHeld ⊢
        refine Cmp.pu HT_ 0 27 (Cmp.bm 1 22) ?_; refine Cmp.pu HT_ 1 28 (Cmp.bm 2 21) ?_; refine Cmp.pu HT_ 3 30 (Cmp.bb 23 11) ?_; refine Cmp.pu HT_ 7 34 (Cmp.bb 23 139) ?_; refine Cmp.pu HT_ 9 36 (Cmp.bb 23 651) ?_; refine Cmp.pu HT_ 13 40 (Cmp.bb 23 8843) ?_; refine Cmp.pu HT_ 15 42 (Cmp.bb 23 41611) ?_; refine Cmp.pu HT_ 19 46 (Cmp.bb 23 565899) ?_; refine Cmp.tk HT_ HW_ hHeld 2 29 (Cmp.bb 23 565903) ?_; refine Cmp.pu HT_ 4 31 (Cmp.bb 23 565919) ?_; refine Cmp.pu HT_ 5 32 (Cmp.bb 23 565951) ?_; refine Cmp.tk HT_ HW_ hHeld 6 33 (Cmp.bb 23 566015) ?_; refine Cmp.tk HT_ HW_ hHeld 8 35 (Cmp.bb 23 566271) ?_; refine Cmp.pu HT_ 10 37 (Cmp.bb 23 567295) ?_; refine Cmp.pu HT_ 11 38 (Cmp.bb 23 569343) ?_; refine Cmp.tk HT_ HW_ hHeld 12 39 (Cmp.bb 23 573439) ?_; refine Cmp.tk HT_ HW_ hHeld 14 41 (Cmp.bb 23 589823) ?_; refine Cmp.pu HT_ 16 43 (Cmp.bb 23 655359) ?_; refine Cmp.pu HT_ 17 44 (Cmp.bb 23 786431) ?_; refine Cmp.tk HT_ HW_ hHeld 18 45 (Cmp.bm 20 3) ?_
        refine one_ (i := 20) (N := some 47) (Cmp.bm 21 2) rfl rfl (one_of HT_.out (by kernel_rfl)) (by decide) (fun K hK => ?_)
        refine Kd.R_lit_step (Kd.int .i64) _ 3 ?hg (N := 47) ?hd (xs := ([(rd_T49 l0_0 x4_1).f0, (rd_T49 l0_0 x4_1).f1, (rd_T49 l0_0 x4_1).f2, 0] : List Int)) (inner := [.int .i64 ((rd_T49 l0_0 x4_1).f0), .int .i64 ((rd_T49 l0_0 x4_1).f1), .int .i64 ((rd_T49 l0_0 x4_1).f2), .int .i64 0]) (ok := fun _ => True) (okp := fun _ => True) ?hr ?hp (fun _ hk => hk) trivial (Below.refl _ _) (Nat.le_refl _) (by simp) ?_; (case hd => rfl); (case hg => rfl); (case hr => first | (go_simp; done) | (go_simp; rfl)); (case hp => exact (Reps.one (show Kd.M (Kd.int .i64) _ _ _ ((rd_T49 l0_0 x4_1).f0) [.int .i64 ((rd_T49 l0_0 x4_1).f0)] from rfl) (Reps.one (show Kd.M (Kd.int .i64) _ _ _ ((rd_T49 l0_0 x4_1).f1) [.int .i64 ((rd_T49 l0_0 x4_1).f1)] from rfl) (Reps.one (show Kd.M (Kd.int .i64) _ _ _ ((rd_T49 l0_0 x4_1).f2) [.int .i64 ((rd_T49 l0_0 x4_1).f2)] from rfl) (Reps.one (show Kd.M (Kd.int .i64) _ _ _ 0 [.int .i64 0] from rfl) (Reps.none _ _))))))
        intro v167 w24 ho25 hb hg_ hnew_
        clear hg_ hnew_
        (first | rw [← Ny166.out] at ho25 | (simp only [Int.reduceToNat] at ho25; rw [← Ny166.out] at ho25))
        have n0_ := Aside0.mk (Kd.R_elder' (Cmp.rr HO_3.out) (Kd.R_base ho25) hb)
        have n1_ := Aside0.mk (Kd.R_lower (Kd.R_new' ho25 (Kd.R_lt (Cmp.rr HO_3.out))) (below_size (Cmp.g HB.out)))
        have n2_ := Aside0.mk (blk_below (Cmp.b BK145.out) hb)
        have n3_ := Aside0.mk (below_step (Cmp.g HB.out) hb)
        clear HO_3; clear BK145; clear HB; have HO_3 := n0_; have HO168 := n1_; have BK145 := n2_; have HB := n3_; clear n0_ n1_ n2_ n3_; clear hb ho25
        obtain ⟨Ao27, co27, eo27⟩ := Kd.R_slice HO168.out
        (first | subst eo27 | (injection eo27 with f1_ f2_ f3_; have f4_ := f1_.symm; have f5_ := f3_.symm; clear f1_ f2_ f3_; subst f4_; subst f5_))
        refine hK.out _ _ ⟨(blk_cell BK145.out 0).trans rfl, ((HB.out.cell (World.block_lt_of_cell? w _ hw163_0)).trans hw163_0), ((HB.out.cell (World.block_lt_of_cell? w _ hw163_1)).trans hw163_1), ((HB.out.cell (World.block_lt_of_cell? w _ hw163_2)).trans hw163_2), ((HB.out.cell (World.block_lt_of_cell? w _ hw163_3)).trans hw163_3), ((HB.out.cell (World.block_lt_of_cell? w _ hw164_0)).trans hw164_0), ((HB.out.cell (World.block_lt_of_cell? w _ hw164_1)).trans hw164_1), ((HB.out.cell (World.block_lt_of_cell? w _ hw164_2)).trans hw164_2), ((HB.out.cell (World.block_lt_of_cell? w _ hw164_3)).trans hw164_3), ((HB.out.cell (World.block_lt_of_cell? w _ hw165_0)).trans hw165_0), ((HB.out.cell (World.block_lt_of_cell? w _ hw165_1)).trans hw165_1), ((HB.out.cell (World.block_lt_of_cell? w _ hw165_2)).trans hw165_2), ((HB.out.cell (World.block_lt_of_cell? w _ hw165_3)).trans hw165_3)⟩ (fun hHeld => ?_)
        clear hK K
        refine norm_ (a' := ?_) ?_ ?_
        rotate_left
        ·show Act.put _ (some 47) _ = _
         simp only [Act.put, Cmp.s, Cmp.z, Cmp.c, i64_w, i32_w]; rfl
        refine one_ (i := 21) (N := some 48) (Cmp.bm 22 1) rfl rfl (one_of HT_.out (by kernel_rfl)) (by decide) (fun K hK => ?_)
        refine Kd.R_append_rows_step (Kd.int .i64) (w0 := w) w.heap.size (by rfl) (.tmp 27) (.tmp 47) 56 3 (.int .i64 0) 8 rfl Try.underlying56 info3 rfl (by decide) (by omega) u3 x3_1 y166 _ _ _ (fun k_ => some k_ ≠ (.slice Ao27 y166.length co27 : Value).ownBlock) (fun _ => False) rfl rfl ?aO ?aR (fun _ _ h => h) (fun _ h => h.elim) ?aF ?aB ?aS ?aL ?_
        (case aR => repeat (first | exact (Kd.R_reads' HO168.out).2.2 | (with_reducible refine Kd.C_alloc ?_ _) | (with_reducible refine Kd.C_drewN ?_ _) | (with_reducible refine Kd.C_drew ?_)))
        (case aB => exact (Cmp.g HB.out))
        (case aF => exact (fun k_ hk => Kd.fresh' (Kd.R_lt (Cmp.rr HO168.out)) k_ hk))
        (case aO => exact (by refine Cmp.rr ?_; exact Kd.R_mono HO_3.out (fun _ hk => hk.2)))
        (case aS => exact (below_size (Cmp.g HB.out)))
        (case aL => have := LMc21.out; omega)
        intro v170 w26 ho hb hg hat
        rw [← Ny169.out] at ho
        have n0_ := Aside0.mk (blk_grown (g := gb145) (o := .cells #[.slice (some ad153) l0_0.length c0_0] 41 (0, 0)) (Cmp.b BK145.out) hg (Kd.R_ne HO_3.out BK145.out (by decide)))
        have n1_ := Aside0.mk (Kd.R_after (ok := (fun _ => True)) (Cmp.rr HO168.out) hg hat)
        have n2_ := Aside0.mk (hb)
        have n3_ := Aside0.mk (ho)
        clear BK145; clear HO168; clear HB; clear HO_3; have BK145 := n0_; have HO168 := n1_; have HB := n2_; have HO171 := n3_; clear n0_ n1_ n2_ n3_; clear ho hb hg hat
        refine hK.out _ _ ⟨(blk_cell BK145.out 0).trans rfl, ((HB.out.cell (World.block_lt_of_cell? w _ hw163_0)).trans hw163_0), ((HB.out.cell (World.block_lt_of_cell? w _ hw163_1)).trans hw163_1), ((HB.out.cell (World.block_lt_of_cell? w _ hw163_2)).trans hw163_2), ((HB.out.cell (World.block_lt_of_cell? w _ hw163_3)).trans hw163_3), ((HB.out.cell (World.block_lt_of_cell? w _ hw164_0)).trans hw164_0), ((HB.out.cell (World.block_lt_of_cell? w _ hw164_1)).trans hw164_1), ((HB.out.cell (World.block_lt_of_cell? w _ hw164_2)).trans hw164_2), ((HB.out.cell (World.block_lt_of_cell? w _ hw164_3)).trans hw164_3), ((HB.out.cell (World.block_lt_of_cell? w _ hw165_0)).trans hw165_0), ((HB.out.cell (World.block_lt_of_cell? w _ hw165_1)).trans hw165_1), ((HB.out.cell (World.block_lt_of_cell? w _ hw165_2)).trans hw165_2), ((HB.out.cell (World.block_lt_of_cell? w _ hw165_3)).trans hw165_3)⟩ (fun hHeld => ?_)
        clear hK K
        refine norm_ (a' := ?_) ?_ ?_
        rotate_left
        ·show Act.put _ (some 48) _ = _
         simp only [Act.put, Cmp.s, Cmp.z, Cmp.c, i64_w, i32_w]; rfl
        refine Cmp.pu HT_ 22 3 (Cmp.bm 23 0) ?_
        refine done_ (done_of HT_.out (by kernel_rfl)) ?_
        try go_wp2
        go_roundg k1
        case measure => have := HK1.out; omega
        case rel => exact ⟨(y169), (wrap64 (x4_1 + 1)), (by first | rfl | simp | simp [*]), H', ⟨by have := HK1.out; omega⟩, ⟨by refine Cmp.rr ?_; exact Kd.R_mono HO171.out (fun _ hk => trivial)⟩, ⟨by refine Cmp.b ?_; exact BK145.out⟩, ⟨Cmp.g HB.out⟩⟩
       ·rw [if_neg c21] at H; exact absurd H (by simp)
     ·rw [if_neg c11] at H; exact absurd H (by simp)
    ·rw [if_neg c10] at H
     have c10b0 : decide (x4_1 < (l0_0.length : Int)) = false := decide_eq_false c10
     clear c10; replace H := Option.bind_eq_some_iff.mp H; obtain ⟨t172, A280, H⟩ := H; (try dsimp only at H); have A28 := Aside0.mk A280; clear A280
     obtain rfl := Option.some.inj H
     have hcz29_0 : wr.cell? ⟨gb145, 0, none⟩ = some (.slice A0_0 l0_0.length c0_0) := (blk_cell BK145.out 0).trans rfl
     have hfz29_0 := blk_frozen BK145.out 0
     obtain ⟨Ao30, co30, eo30⟩ := Kd.R_slice HO_3.out
     subst eo30
     go_wp2_with (first | ((with_reducible refine gate_callee (f := 93) rfl ?_); refine goesL_ (some 50) rfl rfl Try.func93 (by kernel_rfl) rfl #[.slice Ao30 x3_1.length co30] rfl Cmp.q ?_; (with_reducible refine (spec_EncodeInts.calls k1 _ _ x3_1 t172 _ ?side1 ?side2 A28.out).mono ?_); (case side1 => exact Cmp.rc (Kd.R_reads' HO_3.out).2.2); (case side2 => exact (Kd.R_reads' HO_3.out).2.1); rintro e w31 ⟨v173, rfl, ho0, hb⟩; refine ⟨_, rfl, ?_⟩; have n0_ := Aside0.mk (Kd.R_below (Cmp.rr HO_3.out) hb); have n1_ := Aside0.mk (Kd.R_lower ho0 (below_size (Cmp.g HB.out))); have n2_ := Aside0.mk (blk_below (Cmp.b BK145.out) hb); have n3_ := Aside0.mk (below_step (Cmp.g HB.out) hb); clear HO_3; clear BK145; clear HB; have HO_3 := n0_; have HO174 := n1_; have BK145 := n2_; have HB := n3_; clear n0_ n1_ n2_ n3_; (try clear hb); (try clear hb2); (try clear hk); (try clear hi); (try clear ho0)))
     go_ret
     exact ⟨_, by first | rfl | (simp [errW_none, errW_some] <;> rfl) | (simp [*, errW_none, errW_some] <;> rfl), by refine Cmp.rr ?_; exact HO174.out, Cmp.g HB.out⟩
 ·replace c3 := Bool.eq_false_iff.mpr c3
  subst c3
  have H1 : (some (([] : List Int))) = some r := by rw [if_neg (show ¬ (false = true) by decide)] at H; exact H
  clear H; have H := H1; clear H1
  obtain ⟨y147, hy147⟩ : ∃ y_ : List Int, y_ = (([] : List Int)) := ⟨_, rfl⟩
  replace H : (some y147) = some r := by first | (rw [hy147]; with_reducible exact H) | (have H2_ := (Option.bind_some _ _).symm.trans H; rw [hy147]; with_reducible exact H2_) | (have H2_ := (Option.bind_some _ _).symm.trans H; with_reducible exact H2_) | with_reducible exact H | (rw [hy147]; exact H) | exact H
  have Ny147 := Aside0.mk hy147; clear hy147
  obtain rfl := Option.some.inj H
  go_enter Try.func76, Try.ntmps76
  go_wp2_with (first | ((with_reducible refine gate_dst (N := 1) rfl ?_); refine box_event (by rfl) (N := 1) (by rfl) (cs := #[.slice A0_0 l0_0.length c0_0]) (t := 41) (by first | (go_simp; done) | (go_simp; rfl)) ?_; intro gb145 hg w32 hbox hb; have n0_ := Aside0.mk (below_step (Cmp.g HB.out) hb); have n1_ := Aside0.mk (hbox); have n2_ := Aside0.mk ((by rw [hg]; exact (below_size (Cmp.g HB.out)) : w.heap.size ≤ gb145)); have n3_ := Aside0.mk ((by rw [hg]; exact (below_size (Cmp.g HB.out)) : w.heap.size ≤ gb145)); clear HB; have HB := n0_; have BK145 := n1_; have GW145 := n2_; have GE145 := n3_; clear n0_ n1_ n2_ n3_; clear hb hbox hg; have hcz33_0 : w32.cell? ⟨gb145, 0, none⟩ = some (.slice A0_0 l0_0.length c0_0) := (blk_cell BK145.out 0).trans rfl; have hfz33_0 := blk_frozen BK145.out 0) | ((with_reducible refine gate_callee (f := 60) rfl ?_); refine goesL_ (some 7) rfl rfl Try.func60 (by kernel_rfl) rfl #[.agg #[.slice A0_0 l0_0.length c0_0]] rfl Cmp.q ?_; (with_reducible refine (spec_IsBundle.calls k _ _ l0_0 false _ ?side1 ?side2 A2.out).mono ?_); (case side1 => exact Cmp.rc (Kd.C_below HR0_0.out HB.out)); (case side2 => exact HC0_0.out); rintro e w34 ⟨rfl, hb⟩; refine ⟨_, rfl, ?_⟩; have n0_ := Aside0.mk (blk_below (Cmp.b BK145.out) hb); have n1_ := Aside0.mk (below_step (Cmp.g HB.out) hb); clear BK145; clear HB; have BK145 := n0_; have HB := n1_; clear n0_ n1_; (try clear hb); (try clear hb2); (try clear hk); (try clear hi)) | ((with_reducible refine gate_dst (N := 9) rfl ?_); refine Kd.R_lit (Kd.int .u8) _ 5 ?hg (N := 9) ?hd (xs := ([] : List Int)) (inner := []) (ok := fun _ => True) (okp := fun _ => True) ?hr ?hp (fun _ hk => hk) trivial (Below.refl _ _) (Nat.le_refl _) (by simp) ?_; (case hd => rfl); (case hg => rfl); (case hr => first | (go_simp; done) | (go_simp; rfl)); (case hp => exact (Reps.none _ _)); intro v148 w35 ho36 hb hg_ hnew_; clear hg_ hnew_; (first | rw [← Ny147.out] at ho36 | (simp only [Int.reduceToNat] at ho36; rw [← Ny147.out] at ho36)); have n0_ := Aside0.mk (Kd.R_lower ho36 (below_size (Cmp.g HB.out))); have n1_ := Aside0.mk (blk_below (Cmp.b BK145.out) hb); have n2_ := Aside0.mk (below_step (Cmp.g HB.out) hb); clear BK145; clear HB; have HO149 := n0_; have BK145 := n1_; have HB := n2_; clear n0_ n1_ n2_; clear hb ho36))
  go_ret
  exact ⟨_, by first | rfl | (simp [errW_none, errW_some] <;> rfl) | (simp [*, errW_none, errW_some] <;> rfl), by refine Cmp.rr ?_; exact HO149.out, Cmp.g HB.out⟩

end Go.Proofs.Ytoffbjjkegeccaa.PFnExactDecodeBundle

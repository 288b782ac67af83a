/- Printed functions of the program, out of print.sh; some facts told twice. No condition. -/
import Derived.Test.YtgcipecdaimjfaaCmp
import Derived.Test.YtgcipecdaimjfaaPFnExactSealBundlex0
import Derived.Test.YtgcipecdaimjfaaPFnExactSealBundlex2
import Derived.Test.YtgcipecdaimjfaaPFnExactSealBundlex3
namespace Go.Proofs.Ytgcipecdaimjfaa.PFnExactSealBundle
open Go.Proofs.Ytgcipecdaimjfaa
open Go.RowKit Go.Proofs.YtgcipecdaimjfaaW.PrintWords Go.Proofs.YtgcipecdaimjfaaW.PrintLast Go.Proofs.YtgcipecdaimjfaaW.PrintMore
attribute [local go_sem] max2_int min2_int max_two min_two max_three min_three max_four min_four   -- for this text's walks alone
set_option linter.unusedVariables false
set_option linter.unusedSimpArgs false

/-! ### spec_EncodeBundle: function 87 -/
def spec_EncodeBundle.l0 : Nat → List Int → Int → List (S143) → Option (List Int)
  | 0, _, _, _ => none
  | k + 1, x3, x4, x173000 => if x4 < (x173000.length : Int) then (if 0 ≤ x4 then (if (rd_T143 x173000 x4).f3 = true then ((some (([(rd_T143 x173000 x4).f0, (rd_T143 x173000 x4).f1, (rd_T143 x173000 x4).f2, 1] : List Int) : List Int)).bind fun y184 => (if x3.length + y184.length < 17592186044416 then (spec_EncodeBundle.l0 k (x3 ++ y184) (wrap64 (x4 + 1)) x173000) else (none))) else ((some (([(rd_T143 x173000 x4).f0, (rd_T143 x173000 x4).f1, (rd_T143 x173000 x4).f2, 0] : List Int) : List Int)).bind fun y193 => (if x3.length + y193.length < 17592186044416 then (spec_EncodeBundle.l0 k (x3 ++ y193) (wrap64 (x4 + 1)) x173000) else (none)))) else (none)) else ((spec_EncodeInts.f k x3).bind fun t199 => (some t199))
def spec_EncodeBundle.f (k : Nat) (l0_0 : List (S143)) : Option (List Int) := (spec_IsBundle.f k l0_0).bind fun t173 => (if t173 = true then (spec_EncodeBundle.l0 k (([(l0_0.length : Int)] : List Int)) 0 l0_0) else (some (([] : List Int))))
theorem spec_EncodeBundle.mono_l : ∀ k, (∀ y0 y1 y2, LeO (spec_EncodeBundle.l0 k y0 y1 y2) (spec_EncodeBundle.l0 (k + 1) y0 y1 y2))
  | 0 => fun _ _ _ r h => by simp [spec_EncodeBundle.l0] at h
  | k + 1 => by
    have ih0 := spec_EncodeBundle.mono_l k
    · intro y0 y1 y2
      unfold spec_EncodeBundle.l0
      repeat' first
      | (with_reducible exact ih0 _ _ _)
      | (with_reducible exact spec_EncodeInts.mono _ _)
      | (with_reducible exact spec_IsBundle.mono _ _)
      | (with_reducible exact LeO.refl _)
      | (with_reducible exact LeO.none _)
      | (with_reducible refine LeO.ite ?_ ?_)
      | (with_reducible refine LeO.bind ?_ (fun _ => ?_))
      | exact ih0 _ _ _
      | exact spec_EncodeInts.mono _ _
      | exact spec_IsBundle.mono _ _
      | exact LeO.none _
      | refine LeO.ite ?_ ?_
      | refine LeO.bind ?_ (fun _ => ?_)
theorem spec_EncodeBundle.mono : ∀ a0 k, LeO (spec_EncodeBundle.f k a0) (spec_EncodeBundle.f (k + 1) a0) := by
  intro a0 k
  have ih0 := spec_EncodeBundle.mono_l k
  unfold spec_EncodeBundle.f
  repeat' first
      | (with_reducible exact ih0 _ _ _)
      | (with_reducible exact spec_EncodeInts.mono _ _)
      | (with_reducible exact spec_IsBundle.mono _ _)
      | (with_reducible exact LeO.refl _)
      | (with_reducible exact LeO.none _)
      | (with_reducible refine LeO.ite ?_ ?_)
      | (with_reducible refine LeO.bind ?_ (fun _ => ?_))
      | exact ih0 _ _ _
      | exact spec_EncodeInts.mono _ _
      | exact spec_IsBundle.mono _ _
      | exact LeO.none _
      | refine LeO.ite ?_ ?_
      | refine LeO.bind ?_ (fun _ => ?_)
def spec_EncodeBundle.T10 : Bool × List (List Nat × List Nat) := (true, [([], []), ([], []), ([1], [1]), ([], []), ([2, 3], [2, 3]), ([4], [4]), ([5], [5]), ([], []), ([7], [7]), ([], []), ([8, 9], [8, 9]), ([10], [10]), ([11], [11]), ([], []), ([13], [13]), ([], []), ([14, 15], [14, 15]), ([16], [16]), ([17], [17]), ([], []), ([6, 12, 18, 19], [6, 12, 18, 19]), ([0, 20], [0, 20]), ([21, 21, 0, 1, 2, 3, 4, 5, 6, 7, 8, 9, 10, 11, 12, 13, 14, 15, 16, 17, 18, 19, 20, 21], [0, 21])])
def spec_EncodeBundle.B10 : List Nat := [0, 0, 2, 0, 14, 30, 62, 0, 128, 0, 896, 1920, 3968, 0, 8192, 0, 57344, 122880, 253952, 0, 1048574, 2097151, 4194303]
theorem spec_EncodeBundle.tab10 : rtab .any (opsOf Try.f87 10) = spec_EncodeBundle.T10 := by kernel_rfl
theorem spec_EncodeBundle.bits10 : waitsOk spec_EncodeBundle.T10.2 spec_EncodeBundle.B10 = true := by kernel_rfl
set_option maxHeartbeats 8000000 in
set_option maxRecDepth 100000 in
theorem spec_EncodeBundle.calls (k : Nat) (A0_0 : Option Addr) (c0_0 : Nat) (l0_0 : List (S143)) (r : List Int) (w : World) (hr0_0 : Kd.C k143 w A0_0 l0_0.length l0_0) (hc0_0 : l0_0.length ≤ c0_0) (h : spec_EncodeBundle.f k l0_0 = some r) :
    Calls Try.prog 87 #[.agg #[.slice A0_0 l0_0.length c0_0]] w fun e w' => ∃ v0_ : Value, e = .returned (v0_) ∧ Kd.R (Kd.int .u8) 5 w' w.heap.size (fun _ => True) v0_ r ∧ Below w.heap.size w w' := by
 have hu71 := Try.underlying71; have HR0_0 := Aside0.mk hr0_0; have HC0_0 := Aside0.mk hc0_0; clear hr0_0 hc0_0
 have HB := Aside0.mk (Below.refl w.heap.size w)
 have H : ((spec_IsBundle.f k l0_0).bind fun t173 => (if t173 = true then (spec_EncodeBundle.l0 k (([(l0_0.length : Int)] : List Int)) 0 l0_0) else (some (([] : List Int))))) = some r := h
 clear h; replace H := Option.bind_eq_some_iff.mp H; obtain ⟨t173, A20, H⟩ := H; (try dsimp only at H); have A2 := Aside0.mk A20; clear A20
 by_cases c3 : t173 = true
 ·subst c3; rw [if_pos rfl] at H
  obtain ⟨y177, hy177⟩ : ∃ y_ : List Int, y_ = (([(l0_0.length : Int)] : List Int)) := ⟨_, rfl⟩
  replace H : (spec_EncodeBundle.l0 k y177 0 l0_0) = some r := by first | (rw [hy177]; with_reducible exact H) | (have H2_ := (Option.bind_some _ _).symm.trans H; rw [hy177]; with_reducible exact H2_) | (have H2_ := (Option.bind_some _ _).symm.trans H; with_reducible exact H2_) | with_reducible exact H | (rw [hy177]; exact H) | exact H
  have Ny177 := Aside0.mk hy177; clear hy177
  have H' := Aside0.mk H
  clear H
  go_enter Try.func87, Try.ntmps87
  go_wp2_with (first | ((with_reducible refine gate_dst (N := 1) rfl ?_); refine box_event ?hg (N := 1) ?hd (cs := #[.slice A0_0 l0_0.length c0_0]) (t := 71) ?hr ?_; (case hd => rfl); (case hg => rfl); (case hr => first | (go_simp; done) | (go_simp; rfl)); intro gb172 hg w4 hbox hb; have n0_ := Aside0.mk (below_step (Cmp.g HB.out) hb); have n1_ := Aside0.mk (hbox); have n2_ := Aside0.mk ((by rw [hg]; exact (below_size (Cmp.g HB.out)) : w.heap.size ≤ gb172)); have n3_ := Aside0.mk ((by rw [hg]; exact (below_size (Cmp.g HB.out)) : w.heap.size ≤ gb172)); clear HB; have HB := n0_; have BK172 := n1_; have GW172 := n2_; have GE172 := n3_; clear n0_ n1_ n2_ n3_; clear hb hbox hg; have hcz5_0 : w4.cell? ⟨gb172, 0, none⟩ = some (.slice A0_0 l0_0.length c0_0) := (blk_cell BK172.out 0).trans rfl; have hfz5_0 := blk_frozen BK172.out 0) | ((with_reducible refine gate_callee (f := 84) rfl ?_); refine goesL_ (some 7) rfl rfl Try.func84 (by kernel_rfl) rfl #[.agg #[.slice A0_0 l0_0.length c0_0]] rfl Cmp.q ?_; (with_reducible refine (spec_IsBundle.calls k _ _ l0_0 true _ ?side1 ?side2 A2.out).mono ?_); (case side1 => exact Cmp.rc (Kd.C_below HR0_0.out HB.out)); (case side2 => exact HC0_0.out); rintro e w6 ⟨rfl, hb⟩; refine ⟨_, rfl, ?_⟩; have n0_ := Aside0.mk (blk_below (Cmp.b BK172.out) hb); have n1_ := Aside0.mk (below_step (Cmp.g HB.out) hb); clear BK172; clear HB; have BK172 := n0_; have HB := n1_; clear n0_ n1_; (try clear hb); (try clear hb2); (try clear hk); (try clear hi); have hcz7_0 : w6.cell? ⟨gb172, 0, none⟩ = some (.slice A0_0 l0_0.length c0_0) := (blk_cell BK172.out 0).trans rfl; have hfz7_0 := blk_frozen BK172.out 0) | ((with_reducible refine gate_dst (N := 13) rfl ?_); refine Kd.R_lit (Kd.int .i64) _ 3 ?hg (N := 13) ?hd (xs := ([(l0_0.length : Int)] : List Int)) (inner := [.int .i64 (l0_0.length : Int)]) (ok := fun _ => True) (okp := fun _ => True) ?hr ?hp (fun _ hk => hk) trivial (Below.refl _ _) (Nat.le_refl _) (by simp) ?_; (case hd => rfl); (case hg => rfl); (case hr => first | (go_simp; done) | (go_simp; rfl)); (case hp => exact (Reps.one (show Kd.M (Kd.int .i64) _ _ _ (l0_0.length : Int) [.int .i64 (l0_0.length : Int)] from rfl) (Reps.none _ _))); intro v178 w8 ho9 hb hg_ hnew_; clear hg_ hnew_; (first | rw [← Ny177.out] at ho9 | (simp only [Int.reduceToNat] at ho9; rw [← Ny177.out] at ho9)); have n0_ := Aside0.mk (Kd.R_lower ho9 (below_size (Cmp.g HB.out))); have n1_ := Aside0.mk (blk_below (Cmp.b BK172.out) hb); have n2_ := Aside0.mk (below_step (Cmp.g HB.out) hb); clear BK172; clear HB; have HO179 := n0_; have BK172 := n1_; have HB := n2_; clear n0_ n1_ n2_; clear hb ho9))
  go_loopg [3, 4] k (fun kq v3 v4 w' => ∃ (x3_1 : List Int) (x4_1 : Int), v4 = .int .i64 x4_1 ∧ Aside0 (spec_EncodeBundle.l0 kq x3_1 x4_1 l0_0 = some r) ∧ Aside0 (kq ≤ k) ∧ Aside0 (Kd.R (Kd.int .i64) 3 w' w.heap.size (fun _ => True) v3 x3_1) ∧ Aside0 (w'.heap[gb172]? = some (.cells #[(.slice A0_0 l0_0.length c0_0)] 71 (0, 0))) ∧ Aside0 (Below w.heap.size w w'))
  case atStart => exact ⟨(y177), (0), (by first | rfl | simp | simp [*]), H', ⟨Nat.le_refl _⟩, ⟨by (with_reducible repeat (first | apply Kd.R_alloc | apply Kd.R_drewN | apply Kd.R_drew)); exact HO179.out⟩, ⟨by (with_reducible repeat (first | refine blk_drewN ?_ _ | refine blk_drew ?_ | refine blk_alloc ?_ _)); exact BK172.out⟩, ⟨Cmp.g HB.out⟩⟩
  case round =>
   clear H'
   (try clear p2); (try clear c3); (try clear c8); (try clear hcz5_0); (try clear hcz7_0); (try clear hfz5_0); (try clear hfz7_0)
   obtain ⟨x3_1, x4_1, rfl, HA, HK1, HO_3, BK172, HB⟩ := hrel
   cases gk with
   | zero => exact absurd HA.out (by simp [spec_EncodeBundle.l0])
   | succ k1 =>
    have H := HA.out; clear HA
    simp only [spec_EncodeBundle.l0] at H
    by_cases c10 : x4_1 < (l0_0.length : Int)
    ·rw [if_pos c10] at H
     have c10b0 : decide (x4_1 < (l0_0.length : Int)) = true := decide_eq_true c10
     clear c10
     by_cases c11 : 0 ≤ x4_1
     ·rw [if_pos c11] at H; have c11b0 : decide (0 ≤ x4_1) = true := decide_eq_true c11; clear c11
      obtain ⟨bq12, hbq12⟩ : ∃ b_ : Bool, b_ = ((rd_T143 l0_0 x4_1).f3) := ⟨_, rfl⟩
      replace H : (if bq12 = true then ((some (([(rd_T143 l0_0 x4_1).f0, (rd_T143 l0_0 x4_1).f1, (rd_T143 l0_0 x4_1).f2, 1] : List Int) : List Int)).bind fun y184 => (if x3_1.length + y184.length < 17592186044416 then (spec_EncodeBundle.l0 k1 (x3_1 ++ y184) (wrap64 (x4_1 + 1)) l0_0) else (none))) else ((some (([(rd_T143 l0_0 x4_1).f0, (rd_T143 l0_0 x4_1).f1, (rd_T143 l0_0 x4_1).f2, 0] : List Int) : List Int)).bind fun y193 => (if x3_1.length + y193.length < 17592186044416 then (spec_EncodeBundle.l0 k1 (x3_1 ++ y193) (wrap64 (x4_1 + 1)) l0_0) else (none)))) = some r := by rw [← hbq12] at H; exact H
      have Nbq12 := Aside0.mk hbq12; clear hbq12
      by_cases c13 : bq12 = true
      ·subst c13; rw [if_pos rfl] at H
       obtain ⟨y184, hy184⟩ : ∃ y_ : List Int, y_ = (([(rd_T143 l0_0 x4_1).f0, (rd_T143 l0_0 x4_1).f1, (rd_T143 l0_0 x4_1).f2, 1] : List Int)) := ⟨_, rfl⟩
       replace H : (if x3_1.length + y184.length < 17592186044416 then (spec_EncodeBundle.l0 k1 (x3_1 ++ y184) (wrap64 (x4_1 + 1)) l0_0) else (none)) = some r := by first | (rw [hy184]; with_reducible exact H) | (have H2_ := (Option.bind_some _ _).symm.trans H; rw [hy184]; with_reducible exact H2_) | (have H2_ := (Option.bind_some _ _).symm.trans H; with_reducible exact H2_) | with_reducible exact H | (rw [hy184]; exact H) | exact H
       have Ny184 := Aside0.mk hy184; clear hy184
       by_cases c14 : x3_1.length + y184.length < 17592186044416
       ·rw [if_pos c14] at H; have LMc14 := Aside0.mk c14; clear c14
        obtain ⟨y187, hy187⟩ : ∃ y_ : List Int, y_ = (x3_1 ++ y184) := ⟨_, rfl⟩
        replace H : (spec_EncodeBundle.l0 k1 y187 (wrap64 (x4_1 + 1)) l0_0) = some r := by first | (rw [hy187]; with_reducible exact H) | (have H2_ := (Option.bind_some _ _).symm.trans H; rw [hy187]; with_reducible exact H2_) | (have H2_ := (Option.bind_some _ _).symm.trans H; with_reducible exact H2_) | with_reducible exact H | (rw [hy187]; exact H) | exact H
        have Ny187 := Aside0.mk hy187; clear hy187
        have H' := Aside0.mk H
        clear H
        have hcz15_0 : wr.cell? ⟨gb172, 0, none⟩ = some (.slice A0_0 l0_0.length c0_0) := (blk_cell BK172.out 0).trans rfl
        have hfz15_0 := blk_frozen BK172.out 0
        have p180 : 0 ≤ (x4_1 : Int) := of_decide_eq_true Cmp.d
        have q180 : x4_1 < (l0_0.length : Int) := of_decide_eq_true Cmp.d
        obtain ⟨ad180, e180, hx180_0, hx180_1, hx180_2, hx180_3⟩ := at_T143 HR0_0.out x4_1 p180 q180
        (try rw [← Nbq12.out] at hx180_3)
        (try rw [← Nbq12.out] at hw180_3)
        cases e180
        replace hx180_0 := (HB.out.cell (World.block_lt_of_cell? w _ hx180_0)).trans hx180_0
        replace hx180_1 := (HB.out.cell (World.block_lt_of_cell? w _ hx180_1)).trans hx180_1
        replace hx180_2 := (HB.out.cell (World.block_lt_of_cell? w _ hx180_2)).trans hx180_2
        replace hx180_3 := (HB.out.cell (World.block_lt_of_cell? w _ hx180_3)).trans hx180_3
        replace p180 := eq_true p180; replace q180 := eq_true q180
        try go_wp2
        have n0_ := Aside0.mk (Kd.R_drew HO_3.out); have n1_ := Aside0.mk (blk_drew BK172.out); have n2_ := Aside0.mk (below_drew1 HB.out); clear HO_3; clear BK172; clear HB; have HO_3 := n0_; have BK172 := n1_; have HB := n2_; clear n0_ n1_ n2_
        have p181 : 0 ≤ (x4_1 : Int) := of_decide_eq_true Cmp.d
        have q181 : x4_1 < (l0_0.length : Int) := of_decide_eq_true Cmp.d
        obtain ⟨ad181, e181, hx181_0, hx181_1, hx181_2, hx181_3⟩ := at_T143 HR0_0.out x4_1 p181 q181
        have hw181_3 := hx181_3; have hw181_2 := hx181_2; have hw181_1 := hx181_1; have hw181_0 := hx181_0
        (try rw [← Nbq12.out] at hx181_3)
        (try rw [← Nbq12.out] at hw181_3)
        obtain rfl : ad180 = ad181 := (by injection e181)
        replace hx181_0 := (HB.out.cell (World.block_lt_of_cell? w _ hx181_0)).trans hx181_0
        replace hx181_1 := (HB.out.cell (World.block_lt_of_cell? w _ hx181_1)).trans hx181_1
        replace hx181_2 := (HB.out.cell (World.block_lt_of_cell? w _ hx181_2)).trans hx181_2
        replace hx181_3 := (HB.out.cell (World.block_lt_of_cell? w _ hx181_3)).trans hx181_3
        replace p181 := eq_true p181; replace q181 := eq_true q181
        have p182 : 0 ≤ (x4_1 : Int) := of_decide_eq_true Cmp.d
        have q182 : x4_1 < (l0_0.length : Int) := of_decide_eq_true Cmp.d
        obtain ⟨ad182, e182, hx182_0, hx182_1, hx182_2, hx182_3⟩ := at_T143 HR0_0.out x4_1 p182 q182
        have hw182_3 := hx182_3; have hw182_2 := hx182_2; have hw182_1 := hx182_1; have hw182_0 := hx182_0
        (try rw [← Nbq12.out] at hx182_3)
        (try rw [← Nbq12.out] at hw182_3)
        obtain rfl : ad180 = ad182 := (by injection e182)
        replace hx182_0 := (HB.out.cell (World.block_lt_of_cell? w _ hx182_0)).trans hx182_0
        replace hx182_1 := (HB.out.cell (World.block_lt_of_cell? w _ hx182_1)).trans hx182_1
        replace hx182_2 := (HB.out.cell (World.block_lt_of_cell? w _ hx182_2)).trans hx182_2
        replace hx182_3 := (HB.out.cell (World.block_lt_of_cell? w _ hx182_3)).trans hx182_3
        replace p182 := eq_true p182; replace q182 := eq_true q182
        have p183 : 0 ≤ (x4_1 : Int) := of_decide_eq_true Cmp.d
        have q183 : x4_1 < (l0_0.length : Int) := of_decide_eq_true Cmp.d
        obtain ⟨ad183, e183, hx183_0, hx183_1, hx183_2, hx183_3⟩ := at_T143 HR0_0.out x4_1 p183 q183
        have hw183_3 := hx183_3; have hw183_2 := hx183_2; have hw183_1 := hx183_1; have hw183_0 := hx183_0
        (try rw [← Nbq12.out] at hx183_3)
        (try rw [← Nbq12.out] at hw183_3)
        obtain rfl : ad180 = ad183 := (by injection e183)
        replace hx183_0 := (HB.out.cell (World.block_lt_of_cell? w _ hx183_0)).trans hx183_0
        replace hx183_1 := (HB.out.cell (World.block_lt_of_cell? w _ hx183_1)).trans hx183_1
        replace hx183_2 := (HB.out.cell (World.block_lt_of_cell? w _ hx183_2)).trans hx183_2
        replace hx183_3 := (HB.out.cell (World.block_lt_of_cell? w _ hx183_3)).trans hx183_3
        replace p183 := eq_true p183; replace q183 := eq_true q183
        refine start_ (n := 23) (S := fun w' => w'.cell? ⟨gb172, 0, none⟩ = some (.slice (some ad180) l0_0.length c0_0) ∧ w'.cell? (ad180.add ((x4_1).toNat * 4)) = some (.int .i64 ((rd_T143 l0_0 x4_1).f0)) ∧ w'.cell? ⟨(ad180.add ((x4_1).toNat * 4)).block, (ad180.add ((x4_1).toNat * 4)).off + 1, none⟩ = some (.int .i64 ((rd_T143 l0_0 x4_1).f1)) ∧ w'.cell? ⟨(ad180.add ((x4_1).toNat * 4)).block, (ad180.add ((x4_1).toNat * 4)).off + 2, none⟩ = some (.int .i64 ((rd_T143 l0_0 x4_1).f2)) ∧ w'.cell? ⟨(ad180.add ((x4_1).toNat * 4)).block, (ad180.add ((x4_1).toNat * 4)).off + 3, none⟩ = some (.bool (true)) ∧ w'.cell? (ad180.add ((x4_1).toNat * 4)) = some (.int .i64 ((rd_T143 l0_0 x4_1).f0)) ∧ w'.cell? ⟨(ad180.add ((x4_1).toNat * 4)).block, (ad180.add ((x4_1).toNat * 4)).off + 1, none⟩ = some (.int .i64 ((rd_T143 l0_0 x4_1).f1)) ∧ w'.cell? ⟨(ad180.add ((x4_1).toNat * 4)).block, (ad180.add ((x4_1).toNat * 4)).off + 2, none⟩ = some (.int .i64 ((rd_T143 l0_0 x4_1).f2)) ∧ w'.cell? ⟨(ad180.add ((x4_1).toNat * 4)).block, (ad180.add ((x4_1).toNat * 4)).off + 3, none⟩ = some (.bool (true)) ∧ w'.cell? (ad180.add ((x4_1).toNat * 4)) = some (.int .i64 ((rd_T143 l0_0 x4_1).f0)) ∧ w'.cell? ⟨(ad180.add ((x4_1).toNat * 4)).block, (ad180.add ((x4_1).toNat * 4)).off + 1, none⟩ = some (.int .i64 ((rd_T143 l0_0 x4_1).f1)) ∧ w'.cell? ⟨(ad180.add ((x4_1).toNat * 4)).block, (ad180.add ((x4_1).toNat * 4)).off + 2, none⟩ = some (.int .i64 ((rd_T143 l0_0 x4_1).f2)) ∧ w'.cell? ⟨(ad180.add ((x4_1).toNat * 4)).block, (ad180.add ((x4_1).toNat * 4)).off + 3, none⟩ = some (.bool (true))) (ds := []) (Cmp.bm 0 23) (by kernel_rfl) rfl rfl ⟨(blk_cell BK172.out 0).trans rfl, ((HB.out.cell (World.block_lt_of_cell? w _ hw181_0)).trans hw181_0), ((HB.out.cell (World.block_lt_of_cell? w _ hw181_1)).trans hw181_1), ((HB.out.cell (World.block_lt_of_cell? w _ hw181_2)).trans hw181_2), ((HB.out.cell (World.block_lt_of_cell? w _ hw181_3)).trans hw181_3), ((HB.out.cell (World.block_lt_of_cell? w _ hw182_0)).trans hw182_0), ((HB.out.cell (World.block_lt_of_cell? w _ hw182_1)).trans hw182_1), ((HB.out.cell (World.block_lt_of_cell? w _ hw182_2)).trans hw182_2), ((HB.out.cell (World.block_lt_of_cell? w _ hw182_3)).trans hw182_3), ((HB.out.cell (World.block_lt_of_cell? w _ hw183_0)).trans hw183_0), ((HB.out.cell (World.block_lt_of_cell? w _ hw183_1)).trans hw183_1), ((HB.out.cell (World.block_lt_of_cell? w _ hw183_2)).trans hw183_2), ((HB.out.cell (World.block_lt_of_cell? w _ hw183_3)).trans hw183_3)⟩ (fun hHeld => ?_); refine with_tabW spec_EncodeBundle.tab10 spec_EncodeBundle.bits10 (fun HT_ HW_ => ?_)
        generalize wr.drew = w16 at HO_3 BK172 HB hx181_0 hx181_1 hx181_2 hx181_3 hx182_0 hx182_1 hx182_2 hx182_3 hx183_0 hx183_1 hx183_2 hx183_3 hHeld ⊢
        refine Cmp.pu HT_ 0 27 (Cmp.bm 1 22) ?_; refine Cmp.pu HT_ 1 28 (Cmp.bm 2 21) ?_; refine Cmp.pu HT_ 3 30 (Cmp.bb 23 11) ?_; refine Cmp.pu HT_ 7 34 (Cmp.bb 23 139) ?_; refine Cmp.pu HT_ 9 36 (Cmp.bb 23 651) ?_; refine Cmp.pu HT_ 13 40 (Cmp.bb 23 8843) ?_; refine Cmp.pu HT_ 15 42 (Cmp.bb 23 41611) ?_; refine Cmp.pu HT_ 19 46 (Cmp.bb 23 565899) ?_; refine Cmp.tk HT_ HW_ hHeld 2 29 (Cmp.bb 23 565903) ?_; refine Cmp.pu HT_ 4 31 (Cmp.bb 23 565919) ?_; refine Cmp.pu HT_ 5 32 (Cmp.bb 23 565951) ?_; refine Cmp.tk HT_ HW_ hHeld 6 33 (Cmp.bb 23 566015) ?_; refine Cmp.tk HT_ HW_ hHeld 8 35 (Cmp.bb 23 566271) ?_; refine Cmp.pu HT_ 10 37 (Cmp.bb 23 567295) ?_; refine Cmp.pu HT_ 11 38 (Cmp.bb 23 569343) ?_; refine Cmp.tk HT_ HW_ hHeld 12 39 (Cmp.bb 23 573439) ?_; refine Cmp.tk HT_ HW_ hHeld 14 41 (Cmp.bb 23 589823) ?_; refine Cmp.pu HT_ 16 43 (Cmp.bb 23 655359) ?_; refine Cmp.pu HT_ 17 44 (Cmp.bb 23 786431) ?_; refine Cmp.tk HT_ HW_ hHeld 18 45 (Cmp.bm 20 3) ?_
        refine one_ (i := 20) (N := some 47) (Cmp.bm 21 2) rfl rfl (one_of HT_.out (by kernel_rfl)) (by decide) (fun K hK => ?_)
        refine Kd.R_lit_step (Kd.int .i64) _ 3 ?hg (N := 47) ?hd (xs := ([(rd_T143 l0_0 x4_1).f0, (rd_T143 l0_0 x4_1).f1, (rd_T143 l0_0 x4_1).f2, 1] : List Int)) (inner := [.int .i64 ((rd_T143 l0_0 x4_1).f0), .int .i64 ((rd_T143 l0_0 x4_1).f1), .int .i64 ((rd_T143 l0_0 x4_1).f2), .int .i64 1]) (ok := fun _ => True) (okp := fun _ => True) ?hr ?hp (fun _ hk => hk) trivial (Below.refl _ _) (Nat.le_refl _) (by simp) ?_; (case hd => rfl); (case hg => rfl); (case hr => first | (go_simp; done) | (go_simp; rfl)); (case hp => exact (Reps.one (show Kd.M (Kd.int .i64) _ _ _ ((rd_T143 l0_0 x4_1).f0) [.int .i64 ((rd_T143 l0_0 x4_1).f0)] from rfl) (Reps.one (show Kd.M (Kd.int .i64) _ _ _ ((rd_T143 l0_0 x4_1).f1) [.int .i64 ((rd_T143 l0_0 x4_1).f1)] from rfl) (Reps.one (show Kd.M (Kd.int .i64) _ _ _ ((rd_T143 l0_0 x4_1).f2) [.int .i64 ((rd_T143 l0_0 x4_1).f2)] from rfl) (Reps.one (show Kd.M (Kd.int .i64) _ _ _ 1 [.int .i64 1] from rfl) (Reps.none _ _))))))
        intro v185 w17 ho18 hb hg_ hnew_
        clear hg_ hnew_
        (first | rw [← Ny184.out] at ho18 | (simp only [Int.reduceToNat] at ho18; rw [← Ny184.out] at ho18))
        have n0_ := Aside0.mk (Kd.R_elder' (Cmp.rr HO_3.out) (Kd.R_base ho18) hb)
        have n1_ := Aside0.mk (Kd.R_lower (Kd.R_new' ho18 (Kd.R_lt (Cmp.rr HO_3.out))) (below_size (Cmp.g HB.out)))
        have n2_ := Aside0.mk (blk_below (Cmp.b BK172.out) hb)
        have n3_ := Aside0.mk (below_step (Cmp.g HB.out) hb)
        clear HO_3; clear BK172; clear HB; have HO_3 := n0_; have HO186 := n1_; have BK172 := n2_; have HB := n3_; clear n0_ n1_ n2_ n3_; clear hb ho18
        obtain ⟨Ao20, co20, eo20⟩ := Kd.R_slice HO186.out
        (first | subst eo20 | (injection eo20 with f1_ f2_ f3_; have f4_ := f1_.symm; have f5_ := f3_.symm; clear f1_ f2_ f3_; subst f4_; subst f5_))
        refine hK.out _ _ ⟨(blk_cell BK172.out 0).trans rfl, ((HB.out.cell (World.block_lt_of_cell? w _ hw181_0)).trans hw181_0), ((HB.out.cell (World.block_lt_of_cell? w _ hw181_1)).trans hw181_1), ((HB.out.cell (World.block_lt_of_cell? w _ hw181_2)).trans hw181_2), ((HB.out.cell (World.block_lt_of_cell? w _ hw181_3)).trans hw181_3), ((HB.out.cell (World.block_lt_of_cell? w _ hw182_0)).trans hw182_0), ((HB.out.cell (World.block_lt_of_cell? w _ hw182_1)).trans hw182_1), ((HB.out.cell (World.block_lt_of_cell? w _ hw182_2)).trans hw182_2), ((HB.out.cell (World.block_lt_of_cell? w _ hw182_3)).trans hw182_3), ((HB.out.cell (World.block_lt_of_cell? w _ hw183_0)).trans hw183_0), ((HB.out.cell (World.block_lt_of_cell? w _ hw183_1)).trans hw183_1), ((HB.out.cell (World.block_lt_of_cell? w _ hw183_2)).trans hw183_2), ((HB.out.cell (World.block_lt_of_cell? w _ hw183_3)).trans hw183_3)⟩ (fun hHeld => ?_)
        clear hK K
        refine norm_ (a' := ?_) ?_ ?_
        rotate_left
        ·show Act.put _ (some 47) _ = _
         simp only [Act.put, Cmp.s, Cmp.z, Cmp.c, i64_w, i32_w]; rfl
        refine one_ (i := 21) (N := some 48) (Cmp.bm 22 1) rfl rfl (one_of HT_.out (by kernel_rfl)) (by decide) (fun K hK => ?_)
        refine Kd.R_append_rows_step (Kd.int .i64) (w0 := w) w.heap.size (by rfl) (.tmp 27) (.tmp 47) 48 3 (.int .i64 0) 8 rfl Try.underlying48 info3 rfl (by decide) (by omega) u3 x3_1 y184 _ _ _ (fun k_ => some k_ ≠ (.slice Ao20 y184.length co20 : Value).ownBlock) (fun _ => False) rfl rfl ?aO ?aR (fun _ _ h => h) (fun _ h => h.elim) ?aF ?aB ?aS ?aL ?_
        (case aR => repeat (first | exact (Kd.R_reads' HO186.out).2.2 | (with_reducible refine Kd.C_alloc ?_ _) | (with_reducible refine Kd.C_drewN ?_ _) | (with_reducible refine Kd.C_drew ?_)))
        (case aB => exact (Cmp.g HB.out))
        (case aF => exact (fun k_ hk => Kd.fresh' (Kd.R_lt (Cmp.rr HO186.out)) k_ hk))
        (case aO => exact (by (with_reducible repeat (first | apply Kd.R_alloc | apply Kd.R_drewN | apply Kd.R_drew)); exact Kd.R_mono HO_3.out (fun _ hk => hk.2)))
        (case aS => exact (below_size (Cmp.g HB.out)))
        (case aL => have := LMc14.out; omega)
        intro v188 w19 ho hb hg hat
        rw [← Ny187.out] at ho
        have n0_ := Aside0.mk (blk_grown (g := gb172) (o := .cells #[.slice (some ad180) l0_0.length c0_0] 71 (0, 0)) (Cmp.b BK172.out) hg (Kd.R_ne HO_3.out BK172.out (by decide)))
        have n1_ := Aside0.mk (Kd.R_after (ok := (fun _ => True)) (Cmp.rr HO186.out) hg hat)
        have n2_ := Aside0.mk (hb)
        have n3_ := Aside0.mk (ho)
        clear BK172; clear HO186; clear HB; clear HO_3; have BK172 := n0_; have HO186 := n1_; have HB := n2_; have HO189 := n3_; clear n0_ n1_ n2_ n3_; clear ho hb hg hat
        refine hK.out _ _ ⟨(blk_cell BK172.out 0).trans rfl, ((HB.out.cell (World.block_lt_of_cell? w _ hw181_0)).trans hw181_0), ((HB.out.cell (World.block_lt_of_cell? w _ hw181_1)).trans hw181_1), ((HB.out.cell (World.block_lt_of_cell? w _ hw181_2)).trans hw181_2), ((HB.out.cell (World.block_lt_of_cell? w _ hw181_3)).trans hw181_3), ((HB.out.cell (World.block_lt_of_cell? w _ hw182_0)).trans hw182_0), ((HB.out.cell (World.block_lt_of_cell? w _ hw182_1)).trans hw182_1), ((HB.out.cell (World.block_lt_of_cell? w _ hw182_2)).trans hw182_2), ((HB.out.cell (World.block_lt_of_cell? w _ hw182_3)).trans hw182_3), ((HB.out.cell (World.block_lt_of_cell? w _ hw183_0)).trans hw183_0), ((HB.out.cell (World.block_lt_of_cell? w _ hw183_1)).trans hw183_1), ((HB.out.cell (World.block_lt_of_cell? w _ hw183_2)).trans hw183_2), ((HB.out.cell (World.block_lt_of_cell? w _ hw183_3)).trans hw183_3)⟩ (fun hHeld => ?_)
        clear hK K
        refine norm_ (a' := ?_) ?_ ?_
        rotate_left
        ·show Act.put _ (some 48) _ = _
         simp only [Act.put, Cmp.s, Cmp.z, Cmp.c, i64_w, i32_w]; rfl
        refine Cmp.pu HT_ 22 3 (Cmp.bm 23 0) ?_
        refine done_ (done_of HT_.out (by kernel_rfl)) ?_
        try go_wp2
        go_roundg k1
        case measure => have := HK1.out; omega
        case rel => exact ⟨(y187), (wrap64 (x4_1 + 1)), (by first | rfl | simp | simp [*]), H', ⟨by have := HK1.out; omega⟩, ⟨by (with_reducible repeat (first | apply Kd.R_alloc | apply Kd.R_drewN | apply Kd.R_drew)); exact Kd.R_mono HO189.out (fun _ hk => trivial)⟩, ⟨by (with_reducible repeat (first | refine blk_drewN ?_ _ | refine blk_drew ?_ | refine blk_alloc ?_ _)); exact BK172.out⟩, ⟨Cmp.g HB.out⟩⟩
       ·rw [if_neg c14] at H; exact absurd H (by simp)
      ·replace c13 := Bool.eq_false_iff.mpr c13
       subst c13
       have H1 : ((some (([(rd_T143 l0_0 x4_1).f0, (rd_T143 l0_0 x4_1).f1, (rd_T143 l0_0 x4_1).f2, 0] : List Int) : List Int)).bind fun y193 => (if x3_1.length + y193.length < 17592186044416 then (spec_EncodeBundle.l0 k1 (x3_1 ++ y193) (wrap64 (x4_1 + 1)) l0_0) else (none))) = some r := by rw [if_neg (show ¬ (false = true) by decide)] at H; exact H
       clear H; have H := H1; clear H1
       obtain ⟨y193, hy193⟩ : ∃ y_ : List Int, y_ = (([(rd_T143 l0_0 x4_1).f0, (rd_T143 l0_0 x4_1).f1, (rd_T143 l0_0 x4_1).f2, 0] : List Int)) := ⟨_, rfl⟩
       replace H : (if x3_1.length + y193.length < 17592186044416 then (spec_EncodeBundle.l0 k1 (x3_1 ++ y193) (wrap64 (x4_1 + 1)) l0_0) else (none)) = some r := by first | (rw [hy193]; with_reducible exact H) | (have H2_ := (Option.bind_some _ _).symm.trans H; rw [hy193]; with_reducible exact H2_) | (have H2_ := (Option.bind_some _ _).symm.trans H; with_reducible exact H2_) | with_reducible exact H | (rw [hy193]; exact H) | exact H
       have Ny193 := Aside0.mk hy193; clear hy193
       by_cases c21 : x3_1.length + y193.length < 17592186044416
       ·rw [if_pos c21] at H; have LMc21 := Aside0.mk c21; clear c21
        obtain ⟨y196, hy196⟩ : ∃ y_ : List Int, y_ = (x3_1 ++ y193) := ⟨_, rfl⟩
        replace H : (spec_EncodeBundle.l0 k1 y196 (wrap64 (x4_1 + 1)) l0_0) = some r := by first | (rw [hy196]; with_reducible exact H) | (have H2_ := (Option.bind_some _ _).symm.trans H; rw [hy196]; with_reducible exact H2_) | (have H2_ := (Option.bind_some _ _).symm.trans H; with_reducible exact H2_) | with_reducible exact H | (rw [hy196]; exact H) | exact H
        have Ny196 := Aside0.mk hy196; clear hy196
        have H' := Aside0.mk H
        clear H
        have hcz22_0 : wr.cell? ⟨gb172, 0, none⟩ = some (.slice A0_0 l0_0.length c0_0) := (blk_cell BK172.out 0).trans rfl
        have hfz22_0 := blk_frozen BK172.out 0
        have p180 : 0 ≤ (x4_1 : Int) := of_decide_eq_true Cmp.d
        have q180 : x4_1 < (l0_0.length : Int) := of_decide_eq_true Cmp.d
        obtain ⟨ad180, e180, hx180_0, hx180_1, hx180_2, hx180_3⟩ := at_T143 HR0_0.out x4_1 p180 q180
        (try rw [← Nbq12.out] at hx180_3)
        (try rw [← Nbq12.out] at hw180_3)
        cases e180
        replace hx180_0 := (HB.out.cell (World.block_lt_of_cell? w _ hx180_0)).trans hx180_0
        replace hx180_1 := (HB.out.cell (World.block_lt_of_cell? w _ hx180_1)).trans hx180_1
        replace hx180_2 := (HB.out.cell (World.block_lt_of_cell? w _ hx180_2)).trans hx180_2
        replace hx180_3 := (HB.out.cell (World.block_lt_of_cell? w _ hx180_3)).trans hx180_3
        replace p180 := eq_true p180; replace q180 := eq_true q180
        try go_wp2
        have n0_ := Aside0.mk (Kd.R_drew HO_3.out); have n1_ := Aside0.mk (blk_drew BK172.out); have n2_ := Aside0.mk (below_drew1 HB.out); clear HO_3; clear BK172; clear HB; have HO_3 := n0_; have BK172 := n1_; have HB := n2_; clear n0_ n1_ n2_
        have p190 : 0 ≤ (x4_1 : Int) := of_decide_eq_true Cmp.d
        have q190 : x4_1 < (l0_0.length : Int) := of_decide_eq_true Cmp.d
        obtain ⟨ad190, e190, hx190_0, hx190_1, hx190_2, hx190_3⟩ := at_T143 HR0_0.out x4_1 p190 q190
        have hw190_3 := hx190_3; have hw190_2 := hx190_2; have hw190_1 := hx190_1; have hw190_0 := hx190_0
        (try rw [← Nbq12.out] at hx190_3)
        (try rw [← Nbq12.out] at hw190_3)
        obtain rfl : ad180 = ad190 := (by injection e190)
        replace hx190_0 := (HB.out.cell (World.block_lt_of_cell? w _ hx190_0)).trans hx190_0
        replace hx190_1 := (HB.out.cell (World.block_lt_of_cell? w _ hx190_1)).trans hx190_1
        replace hx190_2 := (HB.out.cell (World.block_lt_of_cell? w _ hx190_2)).trans hx190_2
        replace hx190_3 := (HB.out.cell (World.block_lt_of_cell? w _ hx190_3)).trans hx190_3
        replace p190 := eq_true p190; replace q190 := eq_true q190
        have p191 : 0 ≤ (x4_1 : Int) := of_decide_eq_true Cmp.d
        have q191 : x4_1 < (l0_0.length : Int) := of_decide_eq_true Cmp.d
        obtain ⟨ad191, e191, hx191_0, hx191_1, hx191_2, hx191_3⟩ := at_T143 HR0_0.out x4_1 p191 q191
        have hw191_3 := hx191_3; have hw191_2 := hx191_2; have hw191_1 := hx191_1; have hw191_0 := hx191_0
        (try rw [← Nbq12.out] at hx191_3)
        (try rw [← Nbq12.out] at hw191_3)
        obtain rfl : ad180 = ad191 := (by injection e191)
        replace hx191_0 := (HB.out.cell (World.block_lt_of_cell? w _ hx191_0)).trans hx191_0
        replace hx191_1 := (HB.out.cell (World.block_lt_of_cell? w _ hx191_1)).trans hx191_1
        replace hx191_2 := (HB.out.cell (World.block_lt_of_cell? w _ hx191_2)).trans hx191_2
        replace hx191_3 := (HB.out.cell (World.block_lt_of_cell? w _ hx191_3)).trans hx191_3
        replace p191 := eq_true p191; replace q191 := eq_true q191
        have p192 : 0 ≤ (x4_1 : Int) := of_decide_eq_true Cmp.d
        have q192 : x4_1 < (l0_0.length : Int) := of_decide_eq_true Cmp.d
        obtain ⟨ad192, e192, hx192_0, hx192_1, hx192_2, hx192_3⟩ := at_T143 HR0_0.out x4_1 p192 q192
        have hw192_3 := hx192_3; have hw192_2 := hx192_2; have hw192_1 := hx192_1; have hw192_0 := hx192_0
        (try rw [← Nbq12.out] at hx192_3)
        (try rw [← Nbq12.out] at hw192_3)
        obtain rfl : ad180 = ad192 := (by injection e192)
        replace hx192_0 := (HB.out.cell (World.block_lt_of_cell? w _ hx192_0)).trans hx192_0
        replace hx192_1 := (HB.out.cell (World.block_lt_of_cell? w _ hx192_1)).trans hx192_1
        replace hx192_2 := (HB.out.cell (World.block_lt_of_cell? w _ hx192_2)).trans hx192_2
        replace hx192_3 := (HB.out.cell (World.block_lt_of_cell? w _ hx192_3)).trans hx192_3
        replace p192 := eq_true p192; replace q192 := eq_true q192
        refine start_ (n := 23) (S := fun w' => w'.cell? ⟨gb172, 0, none⟩ = some (.slice (some ad180) l0_0.length c0_0) ∧ w'.cell? (ad180.add ((x4_1).toNat * 4)) = some (.int .i64 ((rd_T143 l0_0 x4_1).f0)) ∧ w'.cell? ⟨(ad180.add ((x4_1).toNat * 4)).block, (ad180.add ((x4_1).toNat * 4)).off + 1, none⟩ = some (.int .i64 ((rd_T143 l0_0 x4_1).f1)) ∧ w'.cell? ⟨(ad180.add ((x4_1).toNat * 4)).block, (ad180.add ((x4_1).toNat * 4)).off + 2, none⟩ = some (.int .i64 ((rd_T143 l0_0 x4_1).f2)) ∧ w'.cell? ⟨(ad180.add ((x4_1).toNat * 4)).block, (ad180.add ((x4_1).toNat * 4)).off + 3, none⟩ = some (.bool (false)) ∧ w'.cell? (ad180.add ((x4_1).toNat * 4)) = some (.int .i64 ((rd_T143 l0_0 x4_1).f0)) ∧ w'.cell? ⟨(ad180.add ((x4_1).toNat * 4)).block, (ad180.add ((x4_1).toNat * 4)).off + 1, none⟩ = some (.int .i64 ((rd_T143 l0_0 x4_1).f1)) ∧ w'.cell? ⟨(ad180.add ((x4_1).toNat * 4)).block, (ad180.add ((x4_1).toNat * 4)).off + 2, none⟩ = some (.int .i64 ((rd_T143 l0_0 x4_1).f2)) ∧ w'.cell? ⟨(ad180.add ((x4_1).toNat * 4)).block, (ad180.add ((x4_1).toNat * 4)).off + 3, none⟩ = some (.bool (false)) ∧ w'.cell? (ad180.add ((x4_1).toNat * 4)) = some (.int .i64 ((rd_T143 l0_0 x4_1).f0)) ∧ w'.cell? ⟨(ad180.add ((x4_1).toNat * 4)).block, (ad180.add ((x4_1).toNat * 4)).off + 1, none⟩ = some (.int .i64 ((rd_T143 l0_0 x4_1).f1)) ∧ w'.cell? ⟨(ad180.add ((x4_1).toNat * 4)).block, (ad180.add ((x4_1).toNat * 4)).off + 2, none⟩ = some (.int .i64 ((rd_T143 l0_0 x4_1).f2)) ∧ w'.cell? ⟨(ad180.add ((x4_1).toNat * 4)).block, (ad180.add ((x4_1).toNat * 4)).off + 3, none⟩ = some (.bool (false))) (ds := []) (Cmp.bm 0 23) (by kernel_rfl) rfl rfl ⟨(blk_cell BK172.out 0).trans rfl, ((HB.out.cell (World.block_lt_of_cell? w _ hw190_0)).trans hw190_0), ((HB.out.cell (World.block_lt_of_cell? w _ hw190_1)).trans hw190_1), ((HB.out.cell (World.block_lt_of_cell? w _ hw190_2)).trans hw190_2), ((HB.out.cell (World.block_lt_of_cell? w _ hw190_3)).trans hw190_3), ((HB.out.cell (World.block_lt_of_cell? w _ hw191_0)).trans hw191_0), ((HB.out.cell (World.block_lt_of_cell? w _ hw191_1)).trans hw191_1), ((HB.out.cell (World.block_lt_of_cell? w _ hw191_2)).trans hw191_2), ((HB.out.cell (World.block_lt_of_cell? w _ hw191_3)).trans hw191_3), ((HB.out.cell (World.block_lt_of_cell? w _ hw192_0)).trans hw192_0), ((HB.out.cell (World.block_lt_of_cell? w _ hw192_1)).trans hw192_1), ((HB.out.cell (World.block_lt_of_cell? w _ hw192_2)).trans hw192_2), ((HB.out.cell (World.block_lt_of_cell? w _ hw192_3)).trans hw192_3)⟩ (fun hHeld => ?_); refine with_tabW spec_EncodeBundle.tab10 spec_EncodeBundle.bits10 (fun HT_ HW_ => ?_)
        generalize wr.drew = w23 at HO_3 BK172 HB hx190_0 hx190_1 hx190_2 hx190_3 hx191_0 hx191_1 hx191_2 hx191_3 hx192_0 hx192_1 hx192_2 hx192_3 hHeld ⊢
        refine Cmp.pu HT_ 0 27 (Cmp.bm 1 22) ?_; refine Cmp.pu HT_ 1 28 (Cmp.bm 2 21) ?_; refine Cmp.pu HT_ 3 30 (Cmp.bb 23 11) ?_; refine Cmp.pu HT_ 7 34 (Cmp.bb 23 139) ?_; refine Cmp.pu HT_ 9 36 (Cmp.bb 23 651) ?_; refine Cmp.pu HT_ 13 40 (Cmp.bb 23 8843) ?_; refine Cmp.pu HT_ 15 42 (Cmp.bb 23 41611) ?_; refine Cmp.pu HT_ 19 46 (Cmp.bb 23 565899) ?_; refine Cmp.tk HT_ HW_ hHeld 2 29 (Cmp.bb 23 565903) ?_; refine Cmp.pu HT_ 4 31 (Cmp.bb 23 565919) ?_; refine Cmp.pu HT_ 5 32 (Cmp.bb 23 565951) ?_; refine Cmp.tk HT_ HW_ hHeld 6 33 (Cmp.bb 23 566015) ?_; refine Cmp.tk HT_ HW_ hHeld 8 35 (Cmp.bb 23 566271) ?_; refine Cmp.pu HT_ 10 37 (Cmp.bb 23 567295) ?_; refine Cmp.pu HT_ 11 38 (Cmp.bb 23 569343) ?_; refine Cmp.tk HT_ HW_ hHeld 12 39 (Cmp.bb 23 573439) ?_; refine Cmp.tk HT_ HW_ hHeld 14 41 (Cmp.bb 23 589823) ?_; refine Cmp.pu HT_ 16 43 (Cmp.bb 23 655359) ?_; refine Cmp.pu HT_ 17 44 (Cmp.bb 23 786431) ?_; refine Cmp.tk HT_ HW_ hHeld 18 45 (Cmp.bm 20 3) ?_
        refine one_ (i := 20) (N := some 47) (Cmp.bm 21 2) rfl rfl (one_of HT_.out (by kernel_rfl)) (by decide) (fun K hK => ?_)
        refine Kd.R_lit_step (Kd.int .i64) _ 3 ?hg (N := 47) ?hd (xs := ([(rd_T143 l0_0 x4_1).f0, (rd_T143 l0_0 x4_1).f1, (rd_T143 l0_0 x4_1).f2, 0] : List Int)) (inner := [.int .i64 ((rd_T143 l0_0 x4_1).f0), .int .i64 ((rd_T143 l0_0 x4_1).f1), .int .i64 ((rd_T143 l0_0 x4_1).f2), .int .i64 0]) (ok := fun _ => True) (okp := fun _ => True) ?hr ?hp (fun _ hk => hk) trivial (Below.refl _ _) (Nat.le_refl _) (by simp) ?_; (case hd => rfl); (case hg => rfl); (case hr => first | (go_simp; done) | (go_simp; rfl)); (case hp => exact (Reps.one (show Kd.M (Kd.int .i64) _ _ _ ((rd_T143 l0_0 x4_1).f0) [.int .i64 ((rd_T143 l0_0 x4_1).f0)] from rfl) (Reps.one (show Kd.M (Kd.int .i64) _ _ _ ((rd_T143 l0_0 x4_1).f1) [.int .i64 ((rd_T143 l0_0 x4_1).f1)] from rfl) (Reps.one (show Kd.M (Kd.int .i64) _ _ _ ((rd_T143 l0_0 x4_1).f2) [.int .i64 ((rd_T143 l0_0 x4_1).f2)] from rfl) (Reps.one (show Kd.M (Kd.int .i64) _ _ _ 0 [.int .i64 0] from rfl) (Reps.none _ _))))))
        intro v194 w24 ho25 hb hg_ hnew_
        clear hg_ hnew_
        (first | rw [← Ny193.out] at ho25 | (simp only [Int.reduceToNat] at ho25; rw [← Ny193.out] at ho25))
        have n0_ := Aside0.mk (Kd.R_elder' (Cmp.rr HO_3.out) (Kd.R_base ho25) hb)
        have n1_ := Aside0.mk (Kd.R_lower (Kd.R_new' ho25 (Kd.R_lt (Cmp.rr HO_3.out))) (below_size (Cmp.g HB.out)))
        have n2_ := Aside0.mk (blk_below (Cmp.b BK172.out) hb)
        have n3_ := Aside0.mk (below_step (Cmp.g HB.out) hb)
        clear HO_3; clear BK172; clear HB; have HO_3 := n0_; have HO195 := n1_; have BK172 := n2_; have HB := n3_; clear n0_ n1_ n2_ n3_; clear hb ho25
        obtain ⟨Ao27, co27, eo27⟩ := Kd.R_slice HO195.out
        (first | subst eo27 | (injection eo27 with f1_ f2_ f3_; have f4_ := f1_.symm; have f5_ := f3_.symm; clear f1_ f2_ f3_; subst f4_; subst f5_))
        refine hK.out _ _ ⟨(blk_cell BK172.out 0).trans rfl, ((HB.out.cell (World.block_lt_of_cell? w _ hw190_0)).trans hw190_0), ((HB.out.cell (World.block_lt_of_cell? w _ hw190_1)).trans hw190_1), ((HB.out.cell (World.block_lt_of_cell? w _ hw190_2)).trans hw190_2), ((HB.out.cell (World.block_lt_of_cell? w _ hw190_3)).trans hw190_3), ((HB.out.cell (World.block_lt_of_cell? w _ hw191_0)).trans hw191_0), ((HB.out.cell (World.block_lt_of_cell? w _ hw191_1)).trans hw191_1), ((HB.out.cell (World.block_lt_of_cell? w _ hw191_2)).trans hw191_2), ((HB.out.cell (World.block_lt_of_cell? w _ hw191_3)).trans hw191_3), ((HB.out.cell (World.block_lt_of_cell? w _ hw192_0)).trans hw192_0), ((HB.out.cell (World.block_lt_of_cell? w _ hw192_1)).trans hw192_1), ((HB.out.cell (World.block_lt_of_cell? w _ hw192_2)).trans hw192_2), ((HB.out.cell (World.block_lt_of_cell? w _ hw192_3)).trans hw192_3)⟩ (fun hHeld => ?_)
        clear hK K
        refine norm_ (a' := ?_) ?_ ?_
        rotate_left
        ·show Act.put _ (some 47) _ = _
         simp only [Act.put, Cmp.s, Cmp.z, Cmp.c, i64_w, i32_w]; rfl
        refine one_ (i := 21) (N := some 48) (Cmp.bm 22 1) rfl rfl (one_of HT_.out (by kernel_rfl)) (by decide) (fun K hK => ?_)
        refine Kd.R_append_rows_step (Kd.int .i64) (w0 := w) w.heap.size (by rfl) (.tmp 27) (.tmp 47) 48 3 (.int .i64 0) 8 rfl Try.underlying48 info3 rfl (by decide) (by omega) u3 x3_1 y193 _ _ _ (fun k_ => some k_ ≠ (.slice Ao27 y193.length co27 : Value).ownBlock) (fun _ => False) rfl rfl ?aO ?aR (fun _ _ h => h) (fun _ h => h.elim) ?aF ?aB ?aS ?aL ?_
        (case aR => repeat (first | exact (Kd.R_reads' HO195.out).2.2 | (with_reducible refine Kd.C_alloc ?_ _) | (with_reducible refine Kd.C_drewN ?_ _) | (with_reducible refine Kd.C_drew ?_)))
        (case aB => exact (Cmp.g HB.out))
        (case aF => exact (fun k_ hk => Kd.fresh' (Kd.R_lt (Cmp.rr HO195.out)) k_ hk))
        (case aO => exact (by (with_reducible repeat (first | apply Kd.R_alloc | apply Kd.R_drewN | apply Kd.R_drew)); exact Kd.R_mono HO_3.out (fun _ hk => hk.2)))
        (case aS => exact (below_size (Cmp.g HB.out)))
        (case aL => have := LMc21.out; omega)
        intro v197 w26 ho hb hg hat
        rw [← Ny196.out] at ho
        have n0_ := Aside0.mk (blk_grown (g := gb172) (o := .cells #[.slice (some ad180) l0_0.length c0_0] 71 (0, 0)) (Cmp.b BK172.out) hg (Kd.R_ne HO_3.out BK172.out (by decide)))
        have n1_ := Aside0.mk (Kd.R_after (ok := (fun _ => True)) (Cmp.rr HO195.out) hg hat)
        have n2_ := Aside0.mk (hb)
        have n3_ := Aside0.mk (ho)
        clear BK172; clear HO195; clear HB; clear HO_3; have BK172 := n0_; have HO195 := n1_; have HB := n2_; have HO198 := n3_; clear n0_ n1_ n2_ n3_; clear ho hb hg hat
        refine hK.out _ _ ⟨(blk_cell BK172.out 0).trans rfl, ((HB.out.cell (World.block_lt_of_cell? w _ hw190_0)).trans hw190_0), ((HB.out.cell (World.block_lt_of_cell? w _ hw190_1)).trans hw190_1), ((HB.out.cell (World.block_lt_of_cell? w _ hw190_2)).trans hw190_2), ((HB.out.cell (World.block_lt_of_cell? w _ hw190_3)).trans hw190_3), ((HB.out.cell (World.block_lt_of_cell? w _ hw191_0)).trans hw191_0), ((HB.out.cell (World.block_lt_of_cell? w _ hw191_1)).trans hw191_1), ((HB.out.cell (World.block_lt_of_cell? w _ hw191_2)).trans hw191_2), ((HB.out.cell (World.block_lt_of_cell? w _ hw191_3)).trans hw191_3), ((HB.out.cell (World.block_lt_of_cell? w _ hw192_0)).trans hw192_0), ((HB.out.cell (World.block_lt_of_cell? w _ hw192_1)).trans hw192_1), ((HB.out.cell (World.block_lt_of_cell? w _ hw192_2)).trans hw192_2), ((HB.out.cell (World.block_lt_of_cell? w _ hw192_3)).trans hw192_3)⟩ (fun hHeld => ?_)
        clear hK K
        refine norm_ (a' := ?_) ?_ ?_
        rotate_left
        ·show Act.put _ (some 48) _ = _
         simp only [Act.put, Cmp.s, Cmp.z, Cmp.c, i64_w, i32_w]; rfl
        refine Cmp.pu HT_ 22 3 (Cmp.bm 23 0) ?_
        refine done_ (done_of HT_.out (by kernel_rfl)) ?_
        try go_wp2
        go_roundg k1
        case measure => have := HK1.out; omega
        case rel => exact ⟨(y196), (wrap64 (x4_1 + 1)), (by first | rfl | simp | simp [*]), H', ⟨by have := HK1.out; omega⟩, ⟨by (with_reducible repeat (first | apply Kd.R_alloc | apply Kd.R_drewN | apply Kd.R_drew)); exact Kd.R_mono HO198.out (fun _ hk => trivial)⟩, ⟨by (with_reducible repeat (first | refine blk_drewN ?_ _ | refine blk_drew ?_ | refine blk_alloc ?_ _)); exact BK172.out⟩, ⟨Cmp.g HB.out⟩⟩
       ·rw [if_neg c21] at H; exact absurd H (by simp)
     ·rw [if_neg c11] at H; exact absurd H (by simp)
    ·rw [if_neg c10] at H
     have c10b0 : decide (x4_1 < (l0_0.length : Int)) = false := decide_eq_false c10
     clear c10; replace H := Option.bind_eq_some_iff.mp H; obtain ⟨t199, A280, H⟩ := H; (try dsimp only at H); have A28 := Aside0.mk A280; clear A280
     obtain rfl := Option.some.inj H
     have hcz29_0 : wr.cell? ⟨gb172, 0, none⟩ = some (.slice A0_0 l0_0.length c0_0) := (blk_cell BK172.out 0).trans rfl
     have hfz29_0 := blk_frozen BK172.out 0
     obtain ⟨Ao30, co30, eo30⟩ := Kd.R_slice HO_3.out
     subst eo30
     go_wp2_with (first | ((with_reducible refine gate_callee (f := 108) rfl ?_); refine goesL_ (some 50) rfl rfl Try.func108 (by kernel_rfl) rfl #[.slice Ao30 x3_1.length co30] rfl Cmp.q ?_; (with_reducible refine (spec_EncodeInts.calls k1 _ _ x3_1 t199 _ ?side1 ?side2 A28.out).mono ?_); (case side1 => exact Cmp.rc (Kd.R_reads' HO_3.out).2.2); (case side2 => exact (Kd.R_reads' HO_3.out).2.1); rintro e w31 ⟨v200, rfl, ho0, hb⟩; refine ⟨_, rfl, ?_⟩; have n0_ := Aside0.mk (Kd.R_below (Cmp.rr HO_3.out) hb); have n1_ := Aside0.mk (Kd.R_lower ho0 (below_size (Cmp.g HB.out))); have n2_ := Aside0.mk (blk_below (Cmp.b BK172.out) hb); have n3_ := Aside0.mk (below_step (Cmp.g HB.out) hb); clear HO_3; clear BK172; clear HB; have HO_3 := n0_; have HO201 := n1_; have BK172 := n2_; have HB := n3_; clear n0_ n1_ n2_ n3_; (try clear hb); (try clear hb2); (try clear hk); (try clear hi); (try clear ho0)))
     go_ret
     exact ⟨_, by first | rfl | (simp [errW_none, errW_some] <;> rfl) | (simp [*, errW_none, errW_some] <;> rfl), by (with_reducible repeat (first | apply Kd.R_alloc | apply Kd.R_drewN | apply Kd.R_drew)); exact HO201.out, Cmp.g HB.out⟩
 ·replace c3 := Bool.eq_false_iff.mpr c3
  subst c3
  have H1 : (some (([] : List Int))) = some r := by rw [if_neg (show ¬ (false = true) by decide)] at H; exact H
  clear H; have H := H1; clear H1
  obtain ⟨y174, hy174⟩ : ∃ y_ : List Int, y_ = (([] : List Int)) := ⟨_, rfl⟩
  replace H : (some y174) = some r := by first | (rw [hy174]; with_reducible exact H) | (have H2_ := (Option.bind_some _ _).symm.trans H; rw [hy174]; with_reducible exact H2_) | (have H2_ := (Option.bind_some _ _).symm.trans H; with_reducible exact H2_) | with_reducible exact H | (rw [hy174]; exact H) | exact H
  have Ny174 := Aside0.mk hy174; clear hy174
  obtain rfl := Option.some.inj H
  go_enter Try.func87, Try.ntmps87
  go_wp2_with (first | ((with_reducible refine gate_dst (N := 1) rfl ?_); refine box_event ?hg (N := 1) ?hd (cs := #[.slice A0_0 l0_0.length c0_0]) (t := 71) ?hr ?_; (case hd => rfl); (case hg => rfl); (case hr => first | (go_simp; done) | (go_simp; rfl)); intro gb172 hg w32 hbox hb; have n0_ := Aside0.mk (below_step (Cmp.g HB.out) hb); have n1_ := Aside0.mk (hbox); have n2_ := Aside0.mk ((by rw [hg]; exact (below_size (Cmp.g HB.out)) : w.heap.size ≤ gb172)); have n3_ := Aside0.mk ((by rw [hg]; exact (below_size (Cmp.g HB.out)) : w.heap.size ≤ gb172)); clear HB; have HB := n0_; have BK172 := n1_; have GW172 := n2_; have GE172 := n3_; clear n0_ n1_ n2_ n3_; clear hb hbox hg; have hcz33_0 : w32.cell? ⟨gb172, 0, none⟩ = some (.slice A0_0 l0_0.length c0_0) := (blk_cell BK172.out 0).trans rfl; have hfz33_0 := blk_frozen BK172.out 0) | ((with_reducible refine gate_callee (f := 84) rfl ?_); refine goesL_ (some 7) rfl rfl Try.func84 (by kernel_rfl) rfl #[.agg #[.slice A0_0 l0_0.length c0_0]] rfl Cmp.q ?_; (with_reducible refine (spec_IsBundle.calls k _ _ l0_0 false _ ?side1 ?side2 A2.out).mono ?_); (case side1 => exact Cmp.rc (Kd.C_below HR0_0.out HB.out)); (case side2 => exact HC0_0.out); rintro e w34 ⟨rfl, hb⟩; refine ⟨_, rfl, ?_⟩; have n0_ := Aside0.mk (blk_below (Cmp.b BK172.out) hb); have n1_ := Aside0.mk (below_step (Cmp.g HB.out) hb); clear BK172; clear HB; have BK172 := n0_; have HB := n1_; clear n0_ n1_; (try clear hb); (try clear hb2); (try clear hk); (try clear hi)) | ((with_reducible refine gate_dst (N := 9) rfl ?_); refine Kd.R_lit (Kd.int .u8) _ 5 ?hg (N := 9) ?hd (xs := ([] : List Int)) (inner := []) (ok := fun _ => True) (okp := fun _ => True) ?hr ?hp (fun _ hk => hk) trivial (Below.refl _ _) (Nat.le_refl _) (by simp) ?_; (case hd => rfl); (case hg => rfl); (case hr => first | (go_simp; done) | (go_simp; rfl)); (case hp => exact (Reps.none _ _)); intro v175 w35 ho36 hb hg_ hnew_; clear hg_ hnew_; (first | rw [← Ny174.out] at ho36 | (simp only [Int.reduceToNat] at ho36; rw [← Ny174.out] at ho36)); have n0_ := Aside0.mk (Kd.R_lower ho36 (below_size (Cmp.g HB.out))); have n1_ := Aside0.mk (blk_below (Cmp.b BK172.out) hb); have n2_ := Aside0.mk (below_step (Cmp.g HB.out) hb); clear BK172; clear HB; have HO176 := n0_; have BK172 := n1_; have HB := n2_; clear n0_ n1_ n2_; clear hb ho36))
  go_ret
  exact ⟨_, by first | rfl | (simp [errW_none, errW_some] <;> rfl) | (simp [*, errW_none, errW_some] <;> rfl), by (with_reducible repeat (first | apply Kd.R_alloc | apply Kd.R_drewN | apply Kd.R_drew)); exact HO176.out, Cmp.g HB.out⟩

/-! ### spec_BytesToInts: function 132 -/
def spec_BytesToInts.l0 : Nat → List Int → List Int → Int → Option (List Int)
  | 0, _, _, _ => none
  | k + 1, x0, x3, x4 => if x4 < (x0.length : Int) then (if 0 ≤ x4 then (if x3.length < 17592186044416 then (spec_BytesToInts.l0 k x0 (x3 ++ [wrap64 (rd x0 x4)]) (wrap64 (x4 + 1))) else (none)) else (none)) else (some x3)
def spec_BytesToInts.f (k : Nat) (l0 : List Int) : Option (List Int) := spec_BytesToInts.l0 k l0 (([(l0.length : Int)] : List Int)) 0
theorem spec_BytesToInts.mono_l : ∀ k, (∀ y0 y1 y2, LeO (spec_BytesToInts.l0 k y0 y1 y2) (spec_BytesToInts.l0 (k + 1) y0 y1 y2))
  | 0 => fun _ _ _ r h => by simp [spec_BytesToInts.l0] at h
  | k + 1 => by
    have ih0 := spec_BytesToInts.mono_l k
    · intro y0 y1 y2
      unfold spec_BytesToInts.l0
      repeat' first
      | (with_reducible exact ih0 _ _ _)
      | (with_reducible exact LeO.refl _)
      | (with_reducible exact LeO.none _)
      | (with_reducible refine LeO.ite ?_ ?_)
      | (with_reducible refine LeO.bind ?_ (fun _ => ?_))
      | exact ih0 _ _ _
      | exact LeO.none _
      | refine LeO.ite ?_ ?_
      | refine LeO.bind ?_ (fun _ => ?_)
theorem spec_BytesToInts.mono : ∀ a0 k, LeO (spec_BytesToInts.f k a0) (spec_BytesToInts.f (k + 1) a0) := by
  intro a0 k
  have ih0 := spec_BytesToInts.mono_l k
  unfold spec_BytesToInts.f
  repeat' first
      | (with_reducible exact ih0 _ _ _)
      | (with_reducible exact LeO.refl _)
      | (with_reducible exact LeO.none _)
      | (with_reducible refine LeO.ite ?_ ?_)
      | (with_reducible refine LeO.bind ?_ (fun _ => ?_))
      | exact ih0 _ _ _
      | exact LeO.none _
      | refine LeO.ite ?_ ?_
      | refine LeO.bind ?_ (fun _ => ?_)
set_option maxHeartbeats 8000000 in
set_option maxRecDepth 100000 in
theorem spec_BytesToInts.calls (k : Nat) (A0 : Option Addr) (c0 : Nat) (l0 : List Int) (r : List Int) (w : World) (hr0 : Kd.C (Kd.int .u8) w A0 l0.length l0) (hc0 : l0.length ≤ c0) (h : spec_BytesToInts.f k l0 = some r) :
    Calls Try.prog 132 #[.slice A0 l0.length c0] w fun e w' => ∃ v0_ : Value, e = .returned (v0_) ∧ Kd.R (Kd.int .i64) 3 w' w.heap.size (fun _ => True) v0_ r ∧ Below w.heap.size w w' := by
 have HR0 := Aside0.mk hr0; have HC0 := Aside0.mk hc0; clear hr0 hc0
 have HB := Aside0.mk (Below.refl w.heap.size w)
 have H : (spec_BytesToInts.l0 k l0 (([(l0.length : Int)] : List Int)) 0) = some r := h
 clear h
 obtain ⟨y202, hy202⟩ : ∃ y_ : List Int, y_ = (([(l0.length : Int)] : List Int)) := ⟨_, rfl⟩
 replace H : (spec_BytesToInts.l0 k l0 y202 0) = some r := by first | (rw [hy202]; with_reducible exact H) | (have H2_ := (Option.bind_some _ _).symm.trans H; rw [hy202]; with_reducible exact H2_) | (have H2_ := (Option.bind_some _ _).symm.trans H; with_reducible exact H2_) | with_reducible exact H | (rw [hy202]; exact H) | exact H
 have Ny202 := Aside0.mk hy202; clear hy202
 have H' := Aside0.mk H
 clear H
 go_enter Try.func132, Try.ntmps132
 go_wp2_with (first | ((with_reducible refine gate_dst (N := 7) rfl ?_); refine Kd.R_lit (Kd.int .i64) _ 3 ?hg (N := 7) ?hd (xs := ([(l0.length : Int)] : List Int)) (inner := [.int .i64 (l0.length : Int)]) (ok := fun _ => True) (okp := fun _ => True) ?hr ?hp (fun _ hk => hk) trivial (Below.refl _ _) (Nat.le_refl _) (by simp) ?_; (case hd => rfl); (case hg => rfl); (case hr => first | (go_simp; done) | (go_simp; rfl)); (case hp => exact (Reps.one (show Kd.M (Kd.int .i64) _ _ _ (l0.length : Int) [.int .i64 (l0.length : Int)] from rfl) (Reps.none _ _))); intro v203 w2 ho3 hb hg_ hnew_; clear hg_ hnew_; (first | rw [← Ny202.out] at ho3 | (simp only [Int.reduceToNat] at ho3; rw [← Ny202.out] at ho3)); have n0_ := Aside0.mk (Kd.R_lower ho3 (below_size (Cmp.g HB.out))); have n1_ := Aside0.mk (below_step (Cmp.g HB.out) hb); clear HB; have HO204 := n0_; have HB := n1_; clear n0_ n1_; clear hb ho3))
 go_loopg [3, 4] k (fun kq v3 v4 w' => ∃ (x3_1 : List Int) (x4_1 : Int), v4 = .int .i64 x4_1 ∧ Aside0 (spec_BytesToInts.l0 kq l0 x3_1 x4_1 = some r) ∧ Aside0 (kq ≤ k) ∧ Aside0 (Kd.R (Kd.int .i64) 3 w' w.heap.size (fun _ => True) v3 x3_1) ∧ Aside0 (Below w.heap.size w w'))
 case atStart => exact ⟨(y202), (0), (by first | rfl | simp | simp [*]), H', ⟨Nat.le_refl _⟩, ⟨by (with_reducible repeat (first | apply Kd.R_alloc | apply Kd.R_drewN | apply Kd.R_drew)); exact HO204.out⟩, ⟨Cmp.g HB.out⟩⟩
 case round =>
  clear H'
  (try clear c1); (try clear p2)
  obtain ⟨x3_1, x4_1, rfl, HA, HK1, HO_3, HB⟩ := hrel
  cases gk with
  | zero => exact absurd HA.out (by simp [spec_BytesToInts.l0])
  | succ k1 =>
   have H := HA.out; clear HA
   simp only [spec_BytesToInts.l0] at H
   by_cases c4 : x4_1 < (l0.length : Int)
   ·rw [if_pos c4] at H
    have c4b0 : decide (x4_1 < (l0.length : Int)) = true := decide_eq_true c4
    clear c4
    by_cases c5 : 0 ≤ x4_1
    ·rw [if_pos c5] at H; have c5b0 : decide (0 ≤ x4_1) = true := decide_eq_true c5; clear c5
     by_cases c6 : x3_1.length < 17592186044416
     ·rw [if_pos c6] at H; have LMc6 := Aside0.mk c6; clear c6
      obtain ⟨y206, hy206⟩ : ∃ y_ : List Int, y_ = (x3_1 ++ [wrap64 (rd l0 x4_1)]) := ⟨_, rfl⟩
      replace H : (spec_BytesToInts.l0 k1 l0 y206 (wrap64 (x4_1 + 1))) = some r := by first | (rw [hy206]; with_reducible exact H) | (have H2_ := (Option.bind_some _ _).symm.trans H; rw [hy206]; with_reducible exact H2_) | (have H2_ := (Option.bind_some _ _).symm.trans H; with_reducible exact H2_) | with_reducible exact H | (rw [hy206]; exact H) | exact H
      have Ny206 := Aside0.mk hy206; clear hy206
      have H' := Aside0.mk H
      clear H
      have p205 : 0 ≤ (x4_1 : Int) := of_decide_eq_true Cmp.d
      have q205 : x4_1 < (l0.length : Int) := of_decide_eq_true Cmp.d
      obtain ⟨ad205, e205, hx205_0⟩ := Kd.at_int HR0.out x4_1 p205 q205
      cases e205
      replace hx205_0 := (HB.out.cell (World.block_lt_of_cell? w _ hx205_0)).trans hx205_0
      replace p205 := eq_true p205; replace q205 := eq_true q205
      go_wp2_with (first | ((with_reducible refine gate_builtin (b := .append) (xs := #[.tmp 14, .tmp 20]) rfl ?_); at_builtin; refine Kd.R_append (Kd.int .i64) (w0 := w) w.heap.size rfl (.tmp 14) (.tmp 20) 48 3 (.int .i64 0) 8 rfl Try.underlying48 info3 rfl (by decide) (by omega) u3 x3_1 (wrap64 (rd l0 x4_1)) [.int .i64 (wrap64 (rd l0 x4_1))] (fun _ => True) (fun _ => False) rfl rfl ?aP (fun _ hk => hk.elim) ?aF ?aO ?aB ?aS ?aL ?_; (case aP => exact rfl); (case aB => exact (Cmp.g HB.out)); (case aF => exact (fun _ _ => trivial)); (case aO => exact (Cmp.rr HO_3.out)); (case aS => exact (below_size (Cmp.g HB.out))); (case aL => have := LMc6.out; omega); intro v207 w7 ho hb hg hat; rw [← Ny206.out] at ho; have n0_ := Aside0.mk (hb); have n1_ := Aside0.mk (ho); clear HB; clear HO_3; have HB := n0_; have HO208 := n1_; clear n0_ n1_; clear ho hb hg hat))
      go_roundg k1
      case measure => have := HK1.out; omega
      case rel => exact ⟨(y206), (wrap64 (x4_1 + 1)), (by first | rfl | simp | simp [*]), H', ⟨by have := HK1.out; omega⟩, ⟨by (with_reducible repeat (first | apply Kd.R_alloc | apply Kd.R_drewN | apply Kd.R_drew)); exact HO208.out⟩, ⟨Cmp.g HB.out⟩⟩
     ·rw [if_neg c6] at H; exact absurd H (by simp)
    ·rw [if_neg c5] at H; exact absurd H (by simp)
   ·rw [if_neg c4] at H
    have c4b0 : decide (x4_1 < (l0.length : Int)) = false := decide_eq_false c4
    clear c4
    obtain rfl := Option.some.inj H
    go_wp2
    go_ret
    exact ⟨_, by first | rfl | (simp [errW_none, errW_some] <;> rfl) | (simp [*, errW_none, errW_some] <;> rfl), by (with_reducible repeat (first | apply Kd.R_alloc | apply Kd.R_drewN | apply Kd.R_drew)); exact HO_3.out, Cmp.g HB.out⟩

end Go.Proofs.Ytgcipecdaimjfaa.PFnExactSealBundle

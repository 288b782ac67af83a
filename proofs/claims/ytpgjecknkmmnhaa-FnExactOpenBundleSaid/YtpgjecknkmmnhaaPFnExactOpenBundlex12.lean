/- Printed functions of the program, out of print.sh; some facts told twice. No condition. -/
import Derived.Test.YtpgjecknkmmnhaaCmp
import Derived.Test.YtpgjecknkmmnhaaPFnExactOpenBundlex0
import Derived.Test.YtpgjecknkmmnhaaPFnExactOpenBundlex10
import Derived.Test.YtpgjecknkmmnhaaPFnExactOpenBundlex11
namespace Go.Proofs.Ytpgjecknkmmnhaa.PFnExactOpenBundle
open Go.Proofs.Ytpgjecknkmmnhaa
open Go.RowKit Go.Proofs.YtpgjecknkmmnhaaW.PrintWords Go.Proofs.YtpgjecknkmmnhaaW.PrintLast Go.Proofs.YtpgjecknkmmnhaaW.PrintMore
attribute [local go_sem] max2_int min2_int max_two min_two max_three min_three max_four min_four   -- for this text's walks alone
set_option linter.unusedVariables false
set_option linter.unusedSimpArgs false

/-! ### spec_EncodeBundle: function 69 -/
def spec_EncodeBundle.l0 : Nat → List Int → Int → List (S94) → Option (List Int)
  | 0, _, _, _ => none
  | k + 1, x3, x4, x311000 => if x4 < (x311000.length : Int) then (if 0 ≤ x4 then (if (rd_T94 x311000 x4).f3 = true then ((some (([(rd_T94 x311000 x4).f0, (rd_T94 x311000 x4).f1, (rd_T94 x311000 x4).f2, 1] : List Int) : List Int)).bind fun y322 => (if x3.length + y322.length < 17592186044416 then (spec_EncodeBundle.l0 k (x3 ++ y322) (wrap64 (x4 + 1)) x311000) else (none))) else ((some (([(rd_T94 x311000 x4).f0, (rd_T94 x311000 x4).f1, (rd_T94 x311000 x4).f2, 0] : List Int) : List Int)).bind fun y331 => (if x3.length + y331.length < 17592186044416 then (spec_EncodeBundle.l0 k (x3 ++ y331) (wrap64 (x4 + 1)) x311000) else (none)))) else (none)) else ((spec_EncodeInts.f k x3).bind fun t337 => (some t337))
def spec_EncodeBundle.f (k : Nat) (l0_0 : List (S94)) : Option (List Int) := (spec_IsBundle.f k l0_0).bind fun t311 => (if t311 = true then (spec_EncodeBundle.l0 k (([(l0_0.length : Int)] : List Int)) 0 l0_0) else (some (([] : List Int))))
theorem spec_EncodeBundle.mono_l : ∀ k, (∀ y0 y1 y2, LeO (spec_EncodeBundle.l0 k y0 y1 y2) (spec_EncodeBundle.l0 (k + 1) y0 y1 y2))
  | 0 => fun _ _ _ r h => by simp [spec_EncodeBundle.l0] at h
  | k + 1 => by
    have ih0 := spec_EncodeBundle.mono_l k
    · intro y0 y1 y2
      unfold spec_EncodeBundle.l0
      repeat' first
      | (with_reducible exact ih0 _ _ _)
      | (with_reducible exact spec_EncodeInts.mono _ _)
      | (with_reducible exact spec_IsBundle.mono _ _)
      | (with_reducible exact LeO.refl _)
      | (with_reducible exact LeO.none _)
      | (with_reducible refine LeO.ite ?_ ?_)
      | (with_reducible refine LeO.bind ?_ (fun _ => ?_))
      | exact ih0 _ _ _
      | exact spec_EncodeInts.mono _ _
      | exact spec_IsBundle.mono _ _
      | exact LeO.none _
      | refine LeO.ite ?_ ?_
      | refine LeO.bind ?_ (fun _ => ?_)
theorem spec_EncodeBundle.mono : ∀ a0 k, LeO (spec_EncodeBundle.f k a0) (spec_EncodeBundle.f (k + 1) a0) := by
  intro a0 k
  have ih0 := spec_EncodeBundle.mono_l k
  unfold spec_EncodeBundle.f
  repeat' first
      | (with_reducible exact ih0 _ _ _)
      | (with_reducible exact spec_EncodeInts.mono _ _)
      | (with_reducible exact spec_IsBundle.mono _ _)
      | (with_reducible exact LeO.refl _)
      | (with_reducible exact LeO.none _)
      | (with_reducible refine LeO.ite ?_ ?_)
      | (with_reducible refine LeO.bind ?_ (fun _ => ?_))
      | exact ih0 _ _ _
      | exact spec_EncodeInts.mono _ _
      | exact spec_IsBundle.mono _ _
      | exact LeO.none _
      | refine LeO.ite ?_ ?_
      | refine LeO.bind ?_ (fun _ => ?_)
def spec_EncodeBundle.T10 : Bool × List (List Nat × List Nat) := (true, [([], []), ([], []), ([1], [1]), ([], []), ([2, 3], [2, 3]), ([4], [4]), ([5], [5]), ([], []), ([7], [7]), ([], []), ([8, 9], [8, 9]), ([10], [10]), ([11], [11]), ([], []), ([13], [13]), ([], []), ([14, 15], [14, 15]), ([16], [16]), ([17], [17]), ([], []), ([6, 12, 18, 19], [6, 12, 18, 19]), ([0, 20], [0, 20]), ([21, 21, 0, 1, 2, 3, 4, 5, 6, 7, 8, 9, 10, 11, 12, 13, 14, 15, 16, 17, 18, 19, 20, 21], [0, 21])])
def spec_EncodeBundle.B10 : List Nat := [0, 0, 2, 0, 14, 30, 62, 0, 128, 0, 896, 1920, 3968, 0, 8192, 0, 57344, 122880, 253952, 0, 1048574, 2097151, 4194303]
theorem spec_EncodeBundle.tab10 : rtab .any (opsOf Try.f69 10) = spec_EncodeBundle.T10 := by kernel_rfl
theorem spec_EncodeBundle.bits10 : waitsOk spec_EncodeBundle.T10.2 spec_EncodeBundle.B10 = true := by kernel_rfl
set_option maxHeartbeats 8000000 in
set_option maxRecDepth 100000 in
theorem spec_EncodeBundle.calls (k : Nat) (A0_0 : Option Addr) (c0_0 : Nat) (l0_0 : List (S94)) (r : List Int) (w : World) (hr0_0 : Kd.C k94 w A0_0 l0_0.length l0_0) (hc0_0 : l0_0.length ≤ c0_0) (h : spec_EncodeBundle.f k l0_0 = some r) :
    Calls Try.prog 69 #[.agg #[.slice A0_0 l0_0.length c0_0]] w fun e w' => ∃ v0_ : Value, e = .returned (v0_) ∧ Kd.R (Kd.int .u8) 5 w' w.heap.size (fun _ => True) v0_ r ∧ Below w.heap.size w w' := by
 have hu45 := Try.underlying45; have HR0_0 := Aside0.mk hr0_0; have HC0_0 := Aside0.mk hc0_0; clear hr0_0 hc0_0
 have HB := Aside0.mk (Below.refl w.heap.size w)
 have H : ((spec_IsBundle.f k l0_0).bind fun t311 => (if t311 = true then (spec_EncodeBundle.l0 k (([(l0_0.length : Int)] : List Int)) 0 l0_0) else (some (([] : List Int))))) = some r := h
 clear h; replace H := Option.bind_eq_some_iff.mp H; obtain ⟨t311, A20, H⟩ := H; (try dsimp only at H); have A2 := Aside0.mk A20; clear A20
 by_cases c3 : t311 = true
 ·subst c3; rw [if_pos rfl] at H
  obtain ⟨y315, hy315⟩ : ∃ y_ : List Int, y_ = (([(l0_0.length : Int)] : List Int)) := ⟨_, rfl⟩
  replace H : (spec_EncodeBundle.l0 k y315 0 l0_0) = some r := by first | (rw [hy315]; with_reducible exact H) | (have H2_ := (Option.bind_some _ _).symm.trans H; rw [hy315]; with_reducible exact H2_) | (have H2_ := (Option.bind_some _ _).symm.trans H; with_reducible exact H2_) | with_reducible exact H | (rw [hy315]; exact H) | exact H
  have Ny315 := Aside0.mk hy315; clear hy315
  have H' := Aside0.mk H
  clear H
  go_enter Try.func69, Try.ntmps69
  go_wp2_with (first | ((with_reducible refine gate_dst (N := 1) rfl ?_); refine box_event ?hg (N := 1) ?hd (cs := #[.slice A0_0 l0_0.length c0_0]) (t := 45) ?hr ?_; (case hd => rfl); (case hg => rfl); (case hr => first | (go_simp; done) | (go_simp; rfl)); intro gb310 hg w4 hbox hb; have n0_ := Aside0.mk (below_step (Cmp.g HB.out) hb); have n1_ := Aside0.mk (hbox); have n2_ := Aside0.mk ((by rw [hg]; exact (below_size (Cmp.g HB.out)) : w.heap.size ≤ gb310)); have n3_ := Aside0.mk ((by rw [hg]; exact (below_size (Cmp.g HB.out)) : w.heap.size ≤ gb310)); clear HB; have HB := n0_; have BK310 := n1_; have GW310 := n2_; have GE310 := n3_; clear n0_ n1_ n2_ n3_; clear hb hbox hg; have hcz5_0 : w4.cell? ⟨gb310, 0, none⟩ = some (.slice A0_0 l0_0.length c0_0) := (blk_cell BK310.out 0).trans rfl; have hfz5_0 := blk_frozen BK310.out 0) | ((with_reducible refine gate_callee (f := 66) rfl ?_); refine goesL_ (some 7) rfl rfl Try.func66 (by kernel_rfl) rfl #[.agg #[.slice A0_0 l0_0.length c0_0]] rfl Cmp.q ?_; (with_reducible refine (spec_IsBundle.calls k _ _ l0_0 true _ ?side1 ?side2 A2.out).mono ?_); (case side1 => exact Cmp.rc (Kd.C_below HR0_0.out HB.out)); (case side2 => exact HC0_0.out); rintro e w6 ⟨rfl, hb⟩; refine ⟨_, rfl, ?_⟩; have n0_ := Aside0.mk (blk_below (Cmp.b BK310.out) hb); have n1_ := Aside0.mk (below_step (Cmp.g HB.out) hb); clear BK310; clear HB; have BK310 := n0_; have HB := n1_; clear n0_ n1_; (try clear hb); (try clear hb2); (try clear hk); (try clear hi); have hcz7_0 : w6.cell? ⟨gb310, 0, none⟩ = some (.slice A0_0 l0_0.length c0_0) := (blk_cell BK310.out 0).trans rfl; have hfz7_0 := blk_frozen BK310.out 0) | ((with_reducible refine gate_dst (N := 13) rfl ?_); refine Kd.R_lit (Kd.int .i64) _ 3 ?hg (N := 13) ?hd (xs := ([(l0_0.length : Int)] : List Int)) (inner := [.int .i64 (l0_0.length : Int)]) (ok := fun _ => True) (okp := fun _ => True) ?hr ?hp (fun _ hk => hk) trivial (Below.refl _ _) (Nat.le_refl _) (by simp) ?_; (case hd => rfl); (case hg => rfl); (case hr => first | (go_simp; done) | (go_simp; rfl)); (case hp => exact (Reps.one (show Kd.M (Kd.int .i64) _ _ _ (l0_0.length : Int) [.int .i64 (l0_0.length : Int)] from rfl) (Reps.none _ _))); intro v316 w8 ho9 hb hg_ hnew_; clear hg_ hnew_; (first | rw [← Ny315.out] at ho9 | (simp only [Int.reduceToNat] at ho9; rw [← Ny315.out] at ho9)); have n0_ := Aside0.mk (Kd.R_lower ho9 (below_size (Cmp.g HB.out))); have n1_ := Aside0.mk (blk_below (Cmp.b BK310.out) hb); have n2_ := Aside0.mk (below_step (Cmp.g HB.out) hb); clear BK310; clear HB; have HO317 := n0_; have BK310 := n1_; have HB := n2_; clear n0_ n1_ n2_; clear hb ho9))
  go_loopg [3, 4] k (fun kq v3 v4 w' => ∃ (x3_1 : List Int) (x4_1 : Int), v4 = .int .i64 x4_1 ∧ Aside0 (spec_EncodeBundle.l0 kq x3_1 x4_1 l0_0 = some r) ∧ Aside0 (kq ≤ k) ∧ Aside0 (Kd.R (Kd.int .i64) 3 w' w.heap.size (fun _ => True) v3 x3_1) ∧ Aside0 (w'.heap[gb310]? = some (.cells #[(.slice A0_0 l0_0.length c0_0)] 45 (0, 0))) ∧ Aside0 (Below w.heap.size w w'))
  case atStart => exact ⟨(y315), (0), (by first | rfl | simp | simp [*]), H', ⟨Nat.le_refl _⟩, ⟨by (with_reducible repeat (first | apply Kd.R_alloc | apply Kd.R_drewN | apply Kd.R_drew)); exact HO317.out⟩, ⟨by (with_reducible repeat (first | refine blk_drewN ?_ _ | refine blk_drew ?_ | refine blk_alloc ?_ _)); exact BK310.out⟩, ⟨Cmp.g HB.out⟩⟩
  case round =>
   clear H'
   (try clear p2); (try clear c3); (try clear c6); (try clear hcz5_0); (try clear hcz7_0); (try clear hfz5_0); (try clear hfz7_0)
   obtain ⟨x3_1, x4_1, rfl, HA, HK1, HO_3, BK310, HB⟩ := hrel
   cases gk with
   | zero => exact absurd HA.out (by simp [spec_EncodeBundle.l0])
   | succ k1 =>
    have H := HA.out; clear HA
    simp only [spec_EncodeBundle.l0] at H
    by_cases c10 : x4_1 < (l0_0.length : Int)
    ·rw [if_pos c10] at H
     have c10b0 : decide (x4_1 < (l0_0.length : Int)) = true := decide_eq_true c10
     clear c10
     by_cases c11 : 0 ≤ x4_1
     ·rw [if_pos c11] at H; have c11b0 : decide (0 ≤ x4_1) = true := decide_eq_true c11; clear c11
      obtain ⟨bq12, hbq12⟩ : ∃ b_ : Bool, b_ = ((rd_T94 l0_0 x4_1).f3) := ⟨_, rfl⟩
      replace H : (if bq12 = true then ((some (([(rd_T94 l0_0 x4_1).f0, (rd_T94 l0_0 x4_1).f1, (rd_T94 l0_0 x4_1).f2, 1] : List Int) : List Int)).bind fun y322 => (if x3_1.length + y322.length < 17592186044416 then (spec_EncodeBundle.l0 k1 (x3_1 ++ y322) (wrap64 (x4_1 + 1)) l0_0) else (none))) else ((some (([(rd_T94 l0_0 x4_1).f0, (rd_T94 l0_0 x4_1).f1, (rd_T94 l0_0 x4_1).f2, 0] : List Int) : List Int)).bind fun y331 => (if x3_1.length + y331.length < 17592186044416 then (spec_EncodeBundle.l0 k1 (x3_1 ++ y331) (wrap64 (x4_1 + 1)) l0_0) else (none)))) = some r := by rw [← hbq12] at H; exact H
      have Nbq12 := Aside0.mk hbq12; clear hbq12
      by_cases c13 : bq12 = true
      ·subst c13; rw [if_pos rfl] at H
       obtain ⟨y322, hy322⟩ : ∃ y_ : List Int, y_ = (([(rd_T94 l0_0 x4_1).f0, (rd_T94 l0_0 x4_1).f1, (rd_T94 l0_0 x4_1).f2, 1] : List Int)) := ⟨_, rfl⟩
       replace H : (if x3_1.length + y322.length < 17592186044416 then (spec_EncodeBundle.l0 k1 (x3_1 ++ y322) (wrap64 (x4_1 + 1)) l0_0) else (none)) = some r := by first | (rw [hy322]; with_reducible exact H) | (have H2_ := (Option.bind_some _ _).symm.trans H; rw [hy322]; with_reducible exact H2_) | (have H2_ := (Option.bind_some _ _).symm.trans H; with_reducible exact H2_) | with_reducible exact H | (rw [hy322]; exact H) | exact H
       have Ny322 := Aside0.mk hy322; clear hy322
       by_cases c14 : x3_1.length + y322.length < 17592186044416
       ·rw [if_pos c14] at H; have LMc14 := Aside0.mk c14; clear c14
        obtain ⟨y325, hy325⟩ : ∃ y_ : List Int, y_ = (x3_1 ++ y322) := ⟨_, rfl⟩
        replace H : (spec_EncodeBundle.l0 k1 y325 (wrap64 (x4_1 + 1)) l0_0) = some r := by first | (rw [hy325]; with_reducible exact H) | (have H2_ := (Option.bind_some _ _).symm.trans H; rw [hy325]; with_reducible exact H2_) | (have H2_ := (Option.bind_some _ _).symm.trans H; with_reducible exact H2_) | with_reducible exact H | (rw [hy325]; exact H) | exact H
        have Ny325 := Aside0.mk hy325; clear hy325
        have H' := Aside0.mk H
        clear H
        have hcz15_0 : wr.cell? ⟨gb310, 0, none⟩ = some (.slice A0_0 l0_0.length c0_0) := (blk_cell BK310.out 0).trans rfl
        have hfz15_0 := blk_frozen BK310.out 0
        have p318 : 0 ≤ (x4_1 : Int) := of_decide_eq_true Cmp.d
        have q318 : x4_1 < (l0_0.length : Int) := of_decide_eq_true Cmp.d
        obtain ⟨ad318, e318, hx318_0, hx318_1, hx318_2, hx318_3⟩ := at_T94 HR0_0.out x4_1 p318 q318
        (try rw [← Nbq12.out] at hx318_3)
        (try rw [← Nbq12.out] at hw318_3)
        cases e318
        replace hx318_0 := (HB.out.cell (World.block_lt_of_cell? w _ hx318_0)).trans hx318_0
        replace hx318_1 := (HB.out.cell (World.block_lt_of_cell? w _ hx318_1)).trans hx318_1
        replace hx318_2 := (HB.out.cell (World.block_lt_of_cell? w _ hx318_2)).trans hx318_2
        replace hx318_3 := (HB.out.cell (World.block_lt_of_cell? w _ hx318_3)).trans hx318_3
        replace p318 := eq_true p318; replace q318 := eq_true q318
        try go_wp2
        have n0_ := Aside0.mk (Kd.R_drew HO_3.out); have n1_ := Aside0.mk (blk_drew BK310.out); have n2_ := Aside0.mk (below_drew1 HB.out); clear HO_3; clear BK310; clear HB; have HO_3 := n0_; have BK310 := n1_; have HB := n2_; clear n0_ n1_ n2_
        have p319 : 0 ≤ (x4_1 : Int) := of_decide_eq_true Cmp.d
        have q319 : x4_1 < (l0_0.length : Int) := of_decide_eq_true Cmp.d
        obtain ⟨ad319, e319, hx319_0, hx319_1, hx319_2, hx319_3⟩ := at_T94 HR0_0.out x4_1 p319 q319
        have hw319_3 := hx319_3; have hw319_2 := hx319_2; have hw319_1 := hx319_1; have hw319_0 := hx319_0
        (try rw [← Nbq12.out] at hx319_3)
        (try rw [← Nbq12.out] at hw319_3)
        obtain rfl : ad318 = ad319 := (by injection e319)
        replace hx319_0 := (HB.out.cell (World.block_lt_of_cell? w _ hx319_0)).trans hx319_0
        replace hx319_1 := (HB.out.cell (World.block_lt_of_cell? w _ hx319_1)).trans hx319_1
        replace hx319_2 := (HB.out.cell (World.block_lt_of_cell? w _ hx319_2)).trans hx319_2
        replace hx319_3 := (HB.out.cell (World.block_lt_of_cell? w _ hx319_3)).trans hx319_3
        replace p319 := eq_true p319; replace q319 := eq_true q319
        have p320 : 0 ≤ (x4_1 : Int) := of_decide_eq_true Cmp.d
        have q320 : x4_1 < (l0_0.length : Int) := of_decide_eq_true Cmp.d
        obtain ⟨ad320, e320, hx320_0, hx320_1, hx320_2, hx320_3⟩ := at_T94 HR0_0.out x4_1 p320 q320
        have hw320_3 := hx320_3; have hw320_2 := hx320_2; have hw320_1 := hx320_1; have hw320_0 := hx320_0
        (try rw [← Nbq12.out] at hx320_3)
        (try rw [← Nbq12.out] at hw320_3)
        obtain rfl : ad318 = ad320 := (by injection e320)
        replace hx320_0 := (HB.out.cell (World.block_lt_of_cell? w _ hx320_0)).trans hx320_0
        replace hx320_1 := (HB.out.cell (World.block_lt_of_cell? w _ hx320_1)).trans hx320_1
        replace hx320_2 := (HB.out.cell (World.block_lt_of_cell? w _ hx320_2)).trans hx320_2
        replace hx320_3 := (HB.out.cell (World.block_lt_of_cell? w _ hx320_3)).trans hx320_3
        replace p320 := eq_true p320; replace q320 := eq_true q320
        have p321 : 0 ≤ (x4_1 : Int) := of_decide_eq_true Cmp.d
        have q321 : x4_1 < (l0_0.length : Int) := of_decide_eq_true Cmp.d
        obtain ⟨ad321, e321, hx321_0, hx321_1, hx321_2, hx321_3⟩ := at_T94 HR0_0.out x4_1 p321 q321
        have hw321_3 := hx321_3; have hw321_2 := hx321_2; have hw321_1 := hx321_1; have hw321_0 := hx321_0
        (try rw [← Nbq12.out] at hx321_3)
        (try rw [← Nbq12.out] at hw321_3)
        obtain rfl : ad318 = ad321 := (by injection e321)
        replace hx321_0 := (HB.out.cell (World.block_lt_of_cell? w _ hx321_0)).trans hx321_0
        replace hx321_1 := (HB.out.cell (World.block_lt_of_cell? w _ hx321_1)).trans hx321_1
        replace hx321_2 := (HB.out.cell (World.block_lt_of_cell? w _ hx321_2)).trans hx321_2
        replace hx321_3 := (HB.out.cell (World.block_lt_of_cell? w _ hx321_3)).trans hx321_3
        replace p321 := eq_true p321; replace q321 := eq_true q321
        refine start_ (n := 23) (S := fun w' => w'.cell? ⟨gb310, 0, none⟩ = some (.slice (some ad318) l0_0.length c0_0) ∧ w'.cell? (ad318.add ((x4_1).toNat * 4)) = some (.int .i64 ((rd_T94 l0_0 x4_1).f0)) ∧ w'.cell? ⟨(ad318.add ((x4_1).toNat * 4)).block, (ad318.add ((x4_1).toNat * 4)).off + 1, none⟩ = some (.int .i64 ((rd_T94 l0_0 x4_1).f1)) ∧ w'.cell? ⟨(ad318.add ((x4_1).toNat * 4)).block, (ad318.add ((x4_1).toNat * 4)).off + 2, none⟩ = some (.int .i64 ((rd_T94 l0_0 x4_1).f2)) ∧ w'.cell? ⟨(ad318.add ((x4_1).toNat * 4)).block, (ad318.add ((x4_1).toNat * 4)).off + 3, none⟩ = some (.bool (true)) ∧ w'.cell? (ad318.add ((x4_1).toNat * 4)) = some (.int .i64 ((rd_T94 l0_0 x4_1).f0)) ∧ w'.cell? ⟨(ad318.add ((x4_1).toNat * 4)).block, (ad318.add ((x4_1).toNat * 4)).off + 1, none⟩ = some (.int .i64 ((rd_T94 l0_0 x4_1).f1)) ∧ w'.cell? ⟨(ad318.add ((x4_1).toNat * 4)).block, (ad318.add ((x4_1).toNat * 4)).off + 2, none⟩ = some (.int .i64 ((rd_T94 l0_0 x4_1).f2)) ∧ w'.cell? ⟨(ad318.add ((x4_1).toNat * 4)).block, (ad318.add ((x4_1).toNat * 4)).off + 3, none⟩ = some (.bool (true)) ∧ w'.cell? (ad318.add ((x4_1).toNat * 4)) = some (.int .i64 ((rd_T94 l0_0 x4_1).f0)) ∧ w'.cell? ⟨(ad318.add ((x4_1).toNat * 4)).block, (ad318.add ((x4_1).toNat * 4)).off + 1, none⟩ = some (.int .i64 ((rd_T94 l0_0 x4_1).f1)) ∧ w'.cell? ⟨(ad318.add ((x4_1).toNat * 4)).block, (ad318.add ((x4_1).toNat * 4)).off + 2, none⟩ = some (.int .i64 ((rd_T94 l0_0 x4_1).f2)) ∧ w'.cell? ⟨(ad318.add ((x4_1).toNat * 4)).block, (ad318.add ((x4_1).toNat * 4)).off + 3, none⟩ = some (.bool (true))) (ds := []) (Cmp.bm 0 23) (by kernel_rfl) rfl rfl ⟨(blk_cell BK310.out 0).trans rfl, ((HB.out.cell (World.block_lt_of_cell? w _ hw319_0)).trans hw319_0), ((HB.out.cell (World.block_lt_of_cell? w _ hw319_1)).trans hw319_1), ((HB.out.cell (World.block_lt_of_cell? w _ hw319_2)).trans hw319_2), ((HB.out.cell (World.block_lt_of_cell? w _ hw319_3)).trans hw319_3), ((HB.out.cell (World.block_lt_of_cell? w _ hw320_0)).trans hw320_0), ((HB.out.cell (World.block_lt_of_cell? w _ hw320_1)).trans hw320_1), ((HB.out.cell (World.block_lt_of_cell? w _ hw320_2)).trans hw320_2), ((HB.out.cell (World.block_lt_of_cell? w _ hw320_3)).trans hw320_3), ((HB.out.cell (World.block_lt_of_cell? w _ hw321_0)).trans hw321_0), ((HB.out.cell (World.block_lt_of_cell? w _ hw321_1)).trans hw321_1), ((HB.out.cell (World.block_lt_of_cell? w _ hw321_2)).trans hw321_2), ((HB.out.cell (World.block_lt_of_cell? w _ hw321_3)).trans hw321_3)⟩ (fun hHeld => ?_); refine with_tabW spec_EncodeBundle.tab10 spec_EncodeBundle.bits10 (fun HT_ HW_ => ?_)
        generalize wr.drew = w16 at HO_3 BK310 HB hx319_0 hx319_1 hx319_2 hx319_3 hx320_0 hx320_1 hx320_2 hx320_3 hx321_0 hx321_1 hx321_2 hx321_3 hHeld ⊢
        refine Cmp.pu HT_ 0 27 (Cmp.bm 1 22) ?_; refine Cmp.pu HT_ 1 28 (Cmp.bm 2 21) ?_; refine Cmp.pu HT_ 3 30 (Cmp.bb 23 11) ?_; refine Cmp.pu HT_ 7 34 (Cmp.bb 23 139) ?_; refine Cmp.pu HT_ 9 36 (Cmp.bb 23 651) ?_; refine Cmp.pu HT_ 13 40 (Cmp.bb 23 8843) ?_; refine Cmp.pu HT_ 15 42 (Cmp.bb 23 41611) ?_; refine Cmp.pu HT_ 19 46 (Cmp.bb 23 565899) ?_; refine Cmp.tk HT_ HW_ hHeld 2 29 (Cmp.bb 23 565903) ?_; refine Cmp.pu HT_ 4 31 (Cmp.bb 23 565919) ?_; refine Cmp.pu HT_ 5 32 (Cmp.bb 23 565951) ?_; refine Cmp.tk HT_ HW_ hHeld 6 33 (Cmp.bb 23 566015) ?_; refine Cmp.tk HT_ HW_ hHeld 8 35 (Cmp.bb 23 566271) ?_; refine Cmp.pu HT_ 10 37 (Cmp.bb 23 567295) ?_; refine Cmp.pu HT_ 11 38 (Cmp.bb 23 569343) ?_; refine Cmp.tk HT_ HW_ hHeld 12 39 (Cmp.bb 23 573439) ?_; refine Cmp.tk HT_ HW_ hHeld 14 41 (Cmp.bb 23 589823) ?_; refine Cmp.pu HT_ 16 43 (Cmp.bb 23 655359) ?_; refine Cmp.pu HT_ 17 44 (Cmp.bb 23 786431) ?_; refine Cmp.tk HT_ HW_ hHeld 18 45 (Cmp.bm 20 3) ?_
        refine one_ (i := 20) (N := some 47) (Cmp.bm 21 2) rfl rfl (one_of HT_.out (by kernel_rfl)) (by decide) (fun K hK => ?_)
        refine Kd.R_lit_step (Kd.int .i64) _ 3 ?hg (N := 47) ?hd (xs := ([(rd_T94 l0_0 x4_1).f0, (rd_T94 l0_0 x4_1).f1, (rd_T94 l0_0 x4_1).f2, 1] : List Int)) (inner := [.int .i64 ((rd_T94 l0_0 x4_1).f0), .int .i64 ((rd_T94 l0_0 x4_1).f1), .int .i64 ((rd_T94 l0_0 x4_1).f2), .int .i64 1]) (ok := fun _ => True) (okp := fun _ => True) ?hr ?hp (fun _ hk => hk) trivial (Below.refl _ _) (Nat.le_refl _) (by simp) ?_; (case hd => rfl); (case hg => rfl); (case hr => first | (go_simp; done) | (go_simp; rfl)); (case hp => exact (Reps.one (show Kd.M (Kd.int .i64) _ _ _ ((rd_T94 l0_0 x4_1).f0) [.int .i64 ((rd_T94 l0_0 x4_1).f0)] from rfl) (Reps.one (show Kd.M (Kd.int .i64) _ _ _ ((rd_T94 l0_0 x4_1).f1) [.int .i64 ((rd_T94 l0_0 x4_1).f1)] from rfl) (Reps.one (show Kd.M (Kd.int .i64) _ _ _ ((rd_T94 l0_0 x4_1).f2) [.int .i64 ((rd_T94 l0_0 x4_1).f2)] from rfl) (Reps.one (show Kd.M (Kd.int .i64) _ _ _ 1 [.int .i64 1] from rfl) (Reps.none _ _))))))
        intro v323 w17 ho18 hb hg_ hnew_
        clear hg_ hnew_
        (first | rw [← Ny322.out] at ho18 | (simp only [Int.reduceToNat] at ho18; rw [← Ny322.out] at ho18))
        have n0_ := Aside0.mk (Kd.R_elder' (Cmp.rr HO_3.out) (Kd.R_base ho18) hb)
        have n1_ := Aside0.mk (Kd.R_lower (Kd.R_new' ho18 (Kd.R_lt (Cmp.rr HO_3.out))) (below_size (Cmp.g HB.out)))
        have n2_ := Aside0.mk (blk_below (Cmp.b BK310.out) hb)
        have n3_ := Aside0.mk (below_step (Cmp.g HB.out) hb)
        clear HO_3; clear BK310; clear HB; have HO_3 := n0_; have HO324 := n1_; have BK310 := n2_; have HB := n3_; clear n0_ n1_ n2_ n3_; clear hb ho18
        obtain ⟨Ao20, co20, eo20⟩ := Kd.R_slice HO324.out
        (first | subst eo20 | (injection eo20 with f1_ f2_ f3_; have f4_ := f1_.symm; have f5_ := f3_.symm; clear f1_ f2_ f3_; subst f4_; subst f5_))
        refine hK.out _ _ ⟨(blk_cell BK310.out 0).trans rfl, ((HB.out.cell (World.block_lt_of_cell? w _ hw319_0)).trans hw319_0), ((HB.out.cell (World.block_lt_of_cell? w _ hw319_1)).trans hw319_1), ((HB.out.cell (World.block_lt_of_cell? w _ hw319_2)).trans hw319_2), ((HB.out.cell (World.block_lt_of_cell? w _ hw319_3)).trans hw319_3), ((HB.out.cell (World.block_lt_of_cell? w _ hw320_0)).trans hw320_0), ((HB.out.cell (World.block_lt_of_cell? w _ hw320_1)).trans hw320_1), ((HB.out.cell (World.block_lt_of_cell? w _ hw320_2)).trans hw320_2), ((HB.out.cell (World.block_lt_of_cell? w _ hw320_3)).trans hw320_3), ((HB.out.cell (World.block_lt_of_cell? w _ hw321_0)).trans hw321_0), ((HB.out.cell (World.block_lt_of_cell? w _ hw321_1)).trans hw321_1), ((HB.out.cell (World.block_lt_of_cell? w _ hw321_2)).trans hw321_2), ((HB.out.cell (World.block_lt_of_cell? w _ hw321_3)).trans hw321_3)⟩ (fun hHeld => ?_)
        clear hK K
        refine norm_ (a' := ?_) ?_ ?_
        rotate_left
        ·show Act.put _ (some 47) _ = _
         simp only [Act.put, Cmp.s, Cmp.z, Cmp.c, i64_w, i32_w]; rfl
        refine one_ (i := 21) (N := some 48) (Cmp.bm 22 1) rfl rfl (one_of HT_.out (by kernel_rfl)) (by decide) (fun K hK => ?_)
        refine Kd.R_append_rows_step (Kd.int .i64) (w0 := w) w.heap.size (by rfl) (.tmp 27) (.tmp 47) 32 3 (.int .i64 0) 8 rfl Try.underlying32 info3 rfl (by decide) (by omega) u3 x3_1 y322 _ _ _ (fun k_ => some k_ ≠ (.slice Ao20 y322.length co20 : Value).ownBlock) (fun _ => False) rfl rfl ?aO ?aR (fun _ _ h => h) (fun _ h => h.elim) ?aF ?aB ?aS ?aL ?_
        (case aR => repeat (first | exact (Kd.R_reads' HO324.out).2.2 | (with_reducible refine Kd.C_alloc ?_ _) | (with_reducible refine Kd.C_drewN ?_ _) | (with_reducible refine Kd.C_drew ?_)))
        (case aB => exact (Cmp.g HB.out))
        (case aF => exact (fun k_ hk => Kd.fresh' (Kd.R_lt (Cmp.rr HO324.out)) k_ hk))
        (case aO => exact (by (with_reducible repeat (first | apply Kd.R_alloc | apply Kd.R_drewN | apply Kd.R_drew)); exact Kd.R_mono HO_3.out (fun _ hk => hk.2)))
        (case aS => exact (below_size (Cmp.g HB.out)))
        (case aL => have := LMc14.out; omega)
        intro v326 w19 ho hb hg hat
        rw [← Ny325.out] at ho
        have n0_ := Aside0.mk (blk_grown (g := gb310) (o := .cells #[.slice (some ad318) l0_0.length c0_0] 45 (0, 0)) (Cmp.b BK310.out) hg (Kd.R_ne HO_3.out BK310.out (by decide)))
        have n1_ := Aside0.mk (Kd.R_after (ok := (fun _ => True)) (Cmp.rr HO324.out) hg hat)
        have n2_ := Aside0.mk (hb)
        have n3_ := Aside0.mk (ho)
        clear BK310; clear HO324; clear HB; clear HO_3; have BK310 := n0_; have HO324 := n1_; have HB := n2_; have HO327 := n3_; clear n0_ n1_ n2_ n3_; clear ho hb hg hat
        refine hK.out _ _ ⟨(blk_cell BK310.out 0).trans rfl, ((HB.out.cell (World.block_lt_of_cell? w _ hw319_0)).trans hw319_0), ((HB.out.cell (World.block_lt_of_cell? w _ hw319_1)).trans hw319_1), ((HB.out.cell (World.block_lt_of_cell? w _ hw319_2)).trans hw319_2), ((HB.out.cell (World.block_lt_of_cell? w _ hw319_3)).trans hw319_3), ((HB.out.cell (World.block_lt_of_cell? w _ hw320_0)).trans hw320_0), ((HB.out.cell (World.block_lt_of_cell? w _ hw320_1)).trans hw320_1), ((HB.out.cell (World.block_lt_of_cell? w _ hw320_2)).trans hw320_2), ((HB.out.cell (World.block_lt_of_cell? w _ hw320_3)).trans hw320_3), ((HB.out.cell (World.block_lt_of_cell? w _ hw321_0)).trans hw321_0), ((HB.out.cell (World.block_lt_of_cell? w _ hw321_1)).trans hw321_1), ((HB.out.cell (World.block_lt_of_cell? w _ hw321_2)).trans hw321_2), ((HB.out.cell (World.block_lt_of_cell? w _ hw321_3)).trans hw321_3)⟩ (fun hHeld => ?_)
        clear hK K
        refine norm_ (a' := ?_) ?_ ?_
        rotate_left
        ·show Act.put _ (some 48) _ = _
         simp only [Act.put, Cmp.s, Cmp.z, Cmp.c, i64_w, i32_w]; rfl
        refine Cmp.pu HT_ 22 3 (Cmp.bm 23 0) ?_
        refine done_ (done_of HT_.out (by kernel_rfl)) ?_
        try go_wp2
        go_roundg k1
        case measure => have := HK1.out; omega
        case rel => exact ⟨(y325), (wrap64 (x4_1 + 1)), (by first | rfl | simp | simp [*]), H', ⟨by have := HK1.out; omega⟩, ⟨by (with_reducible repeat (first | apply Kd.R_alloc | apply Kd.R_drewN | apply Kd.R_drew)); exact Kd.R_mono HO327.out (fun _ hk => trivial)⟩, ⟨by (with_reducible repeat (first | refine blk_drewN ?_ _ | refine blk_drew ?_ | refine blk_alloc ?_ _)); exact BK310.out⟩, ⟨Cmp.g HB.out⟩⟩
       ·rw [if_neg c14] at H; exact absurd H (by simp)
      ·replace c13 := Bool.eq_false_iff.mpr c13
       subst c13
       have H1 : ((some (([(rd_T94 l0_0 x4_1).f0, (rd_T94 l0_0 x4_1).f1, (rd_T94 l0_0 x4_1).f2, 0] : List Int) : List Int)).bind fun y331 => (if x3_1.length + y331.length < 17592186044416 then (spec_EncodeBundle.l0 k1 (x3_1 ++ y331) (wrap64 (x4_1 + 1)) l0_0) else (none))) = some r := by rw [if_neg (show ¬ (false = true) by decide)] at H; exact H
       clear H; have H := H1; clear H1
       obtain ⟨y331, hy331⟩ : ∃ y_ : List Int, y_ = (([(rd_T94 l0_0 x4_1).f0, (rd_T94 l0_0 x4_1).f1, (rd_T94 l0_0 x4_1).f2, 0] : List Int)) := ⟨_, rfl⟩
       replace H : (if x3_1.length + y331.length < 17592186044416 then (spec_EncodeBundle.l0 k1 (x3_1 ++ y331) (wrap64 (x4_1 + 1)) l0_0) else (none)) = some r := by first | (rw [hy331]; with_reducible exact H) | (have H2_ := (Option.bind_some _ _).symm.trans H; rw [hy331]; with_reducible exact H2_) | (have H2_ := (Option.bind_some _ _).symm.trans H; with_reducible exact H2_) | with_reducible exact H | (rw [hy331]; exact H) | exact H
       have Ny331 := Aside0.mk hy331; clear hy331
       by_cases c21 : x3_1.length + y331.length < 17592186044416
       ·rw [if_pos c21] at H; have LMc21 := Aside0.mk c21; clear c21
        obtain ⟨y334, hy334⟩ : ∃ y_ : List Int, y_ = (x3_1 ++ y331) := ⟨_, rfl⟩
        replace H : (spec_EncodeBundle.l0 k1 y334 (wrap64 (x4_1 + 1)) l0_0) = some r := by first | (rw [hy334]; with_reducible exact H) | (have H2_ := (Option.bind_some _ _).symm.trans H; rw [hy334]; with_reducible exact H2_) | (have H2_ := (Option.bind_some _ _).symm.trans H; with_reducible exact H2_) | with_reducible exact H | (rw [hy334]; exact H) | exact H
        have Ny334 := Aside0.mk hy334; clear hy334
        have H' := Aside0.mk H
        clear H
        have hcz22_0 : wr.cell? ⟨gb310, 0, none⟩ = some (.slice A0_0 l0_0.length c0_0) := (blk_cell BK310.out 0).trans rfl
        have hfz22_0 := blk_frozen BK310.out 0
        have p318 : 0 ≤ (x4_1 : Int) := of_decide_eq_true Cmp.d
        have q318 : x4_1 < (l0_0.length : Int) := of_decide_eq_true Cmp.d
        obtain ⟨ad318, e318, hx318_0, hx318_1, hx318_2, hx318_3⟩ := at_T94 HR0_0.out x4_1 p318 q318
        (try rw [← Nbq12.out] at hx318_3)
        (try rw [← Nbq12.out] at hw318_3)
        cases e318
        replace hx318_0 := (HB.out.cell (World.block_lt_of_cell? w _ hx318_0)).trans hx318_0
        replace hx318_1 := (HB.out.cell (World.block_lt_of_cell? w _ hx318_1)).trans hx318_1
        replace hx318_2 := (HB.out.cell (World.block_lt_of_cell? w _ hx318_2)).trans hx318_2
        replace hx318_3 := (HB.out.cell (World.block_lt_of_cell? w _ hx318_3)).trans hx318_3
        replace p318 := eq_true p318; replace q318 := eq_true q318
        try go_wp2
        have n0_ := Aside0.mk (Kd.R_drew HO_3.out); have n1_ := Aside0.mk (blk_drew BK310.out); have n2_ := Aside0.mk (below_drew1 HB.out); clear HO_3; clear BK310; clear HB; have HO_3 := n0_; have BK310 := n1_; have HB := n2_; clear n0_ n1_ n2_
        have p328 : 0 ≤ (x4_1 : Int) := of_decide_eq_true Cmp.d
        have q328 : x4_1 < (l0_0.length : Int) := of_decide_eq_true Cmp.d
        obtain ⟨ad328, e328, hx328_0, hx328_1, hx328_2, hx328_3⟩ := at_T94 HR0_0.out x4_1 p328 q328
        have hw328_3 := hx328_3; have hw328_2 := hx328_2; have hw328_1 := hx328_1; have hw328_0 := hx328_0
        (try rw [← Nbq12.out] at hx328_3)
        (try rw [← Nbq12.out] at hw328_3)
        obtain rfl : ad318 = ad328 := (by injection e328)
        replace hx328_0 := (HB.out.cell (World.block_lt_of_cell? w _ hx328_0)).trans hx328_0
        replace hx328_1 := (HB.out.cell (World.block_lt_of_cell? w _ hx328_1)).trans hx328_1
        replace hx328_2 := (HB.out.cell (World.block_lt_of_cell? w _ hx328_2)).trans hx328_2
        replace hx328_3 := (HB.out.cell (World.block_lt_of_cell? w _ hx328_3)).trans hx328_3
        replace p328 := eq_true p328; replace q328 := eq_true q328
        have p329 : 0 ≤ (x4_1 : Int) := of_decide_eq_true Cmp.d
        have q329 : x4_1 < (l0_0.length : Int) := of_decide_eq_true Cmp.d
        obtain ⟨ad329, e329, hx329_0, hx329_1, hx329_2, hx329_3⟩ := at_T94 HR0_0.out x4_1 p329 q329
        have hw329_3 := hx329_3; have hw329_2 := hx329_2; have hw329_1 := hx329_1; have hw329_0 := hx329_0
        (try rw [← Nbq12.out] at hx329_3)
        (try rw [← Nbq12.out] at hw329_3)
        obtain rfl : ad318 = ad329 := (by injection e329)
        replace hx329_0 := (HB.out.cell (World.block_lt_of_cell? w _ hx329_0)).trans hx329_0
        replace hx329_1 := (HB.out.cell (World.block_lt_of_cell? w _ hx329_1)).trans hx329_1
        replace hx329_2 := (HB.out.cell (World.block_lt_of_cell? w _ hx329_2)).trans hx329_2
        replace hx329_3 := (HB.out.cell (World.block_lt_of_cell? w _ hx329_3)).trans hx329_3
        replace p329 := eq_true p329; replace q329 := eq_true q329
        have p330 : 0 ≤ (x4_1 : Int) := of_decide_eq_true Cmp.d
        have q330 : x4_1 < (l0_0.length : Int) := of_decide_eq_true Cmp.d
        obtain ⟨ad330, e330, hx330_0, hx330_1, hx330_2, hx330_3⟩ := at_T94 HR0_0.out x4_1 p330 q330
        have hw330_3 := hx330_3; have hw330_2 := hx330_2; have hw330_1 := hx330_1; have hw330_0 := hx330_0
        (try rw [← Nbq12.out] at hx330_3)
        (try rw [← Nbq12.out] at hw330_3)
        obtain rfl : ad318 = ad330 := (by injection e330)
        replace hx330_0 := (HB.out.cell (World.block_lt_of_cell? w _ hx330_0)).trans hx330_0
        replace hx330_1 := (HB.out.cell (World.block_lt_of_cell? w _ hx330_1)).trans hx330_1
        replace hx330_2 := (HB.out.cell (World.block_lt_of_cell? w _ hx330_2)).trans hx330_2
        replace hx330_3 := (HB.out.cell (World.block_lt_of_cell? w _ hx330_3)).trans hx330_3
        replace p330 := eq_true p330; replace q330 := eq_true q330
        refine start_ (n := 23) (S := fun w' => w'.cell? ⟨gb310, 0, none⟩ = some (.slice (some ad318) l0_0.length c0_0) ∧ w'.cell? (ad318.add ((x4_1).toNat * 4)) = some (.int .i64 ((rd_T94 l0_0 x4_1).f0)) ∧ w'.cell? ⟨(ad318.add ((x4_1).toNat * 4)).block, (ad318.add ((x4_1).toNat * 4)).off + 1, none⟩ = some (.int .i64 ((rd_T94 l0_0 x4_1).f1)) ∧ w'.cell? ⟨(ad318.add ((x4_1).toNat * 4)).block, (ad318.add ((x4_1).toNat * 4)).off + 2, none⟩ = some (.int .i64 ((rd_T94 l0_0 x4_1).f2)) ∧ w'.cell? ⟨(ad318.add ((x4_1).toNat * 4)).block, (ad318.add ((x4_1).toNat * 4)).off + 3, none⟩ = some (.bool (false)) ∧ w'.cell? (ad318.add ((x4_1).toNat * 4)) = some (.int .i64 ((rd_T94 l0_0 x4_1).f0)) ∧ w'.cell? ⟨(ad318.add ((x4_1).toNat * 4)).block, (ad318.add ((x4_1).toNat * 4)).off + 1, none⟩ = some (.int .i64 ((rd_T94 l0_0 x4_1).f1)) ∧ w'.cell? ⟨(ad318.add ((x4_1).toNat * 4)).block, (ad318.add ((x4_1).toNat * 4)).off + 2, none⟩ = some (.int .i64 ((rd_T94 l0_0 x4_1).f2)) ∧ w'.cell? ⟨(ad318.add ((x4_1).toNat * 4)).block, (ad318.add ((x4_1).toNat * 4)).off + 3, none⟩ = some (.bool (false)) ∧ w'.cell? (ad318.add ((x4_1).toNat * 4)) = some (.int .i64 ((rd_T94 l0_0 x4_1).f0)) ∧ w'.cell? ⟨(ad318.add ((x4_1).toNat * 4)).block, (ad318.add ((x4_1).toNat * 4)).off + 1, none⟩ = some (.int .i64 ((rd_T94 l0_0 x4_1).f1)) ∧ w'.cell? ⟨(ad318.add ((x4_1).toNat * 4)).block, (ad318.add ((x4_1).toNat * 4)).off + 2, none⟩ = some (.int .i64 ((rd_T94 l0_0 x4_1).f2)) ∧ w'.cell? ⟨(ad318.add ((x4_1).toNat * 4)).block, (ad318.add ((x4_1).toNat * 4)).off + 3, none⟩ = some (.bool (false))) (ds := []) (Cmp.bm 0 23) (by kernel_rfl) rfl rfl ⟨(blk_cell BK310.out 0).trans rfl, ((HB.out.cell (World.block_lt_of_cell? w _ hw328_0)).trans hw328_0), ((HB.out.cell (World.block_lt_of_cell? w _ hw328_1)).trans hw328_1), ((HB.out.cell (World.block_lt_of_cell? w _ hw328_2)).trans hw328_2), ((HB.out.cell (World.block_lt_of_cell? w _ hw328_3)).trans hw328_3), ((HB.out.cell (World.block_lt_of_cell? w _ hw329_0)).trans hw329_0), ((HB.out.cell (World.block_lt_of_cell? w _ hw329_1)).trans hw329_1), ((HB.out.cell (World.block_lt_of_cell? w _ hw329_2)).trans hw329_2), ((HB.out.cell (World.block_lt_of_cell? w _ hw329_3)).trans hw329_3), ((HB.out.cell (World.block_lt_of_cell? w _ hw330_0)).trans hw330_0), ((HB.out.cell (World.block_lt_of_cell? w _ hw330_1)).trans hw330_1), ((HB.out.cell (World.block_lt_of_cell? w _ hw330_2)).trans hw330_2), ((HB.out.cell (World.block_lt_of_cell? w _ hw330_3)).trans hw330_3)⟩ (fun hHeld => ?_); refine with_tabW spec_EncodeBundle.tab10 spec_EncodeBundle.bits10 (fun HT_ HW_ => ?_)
        generalize wr.drew = w23 at HO_3 BK310 HB hx328_0 hx328_1 hx328_2 hx328_3 hx329_0 hx329_1 hx329_2 hx329_3 hx330_0 hx330_1 hx330_2 hx330_3 hHeld ⊢
        refine Cmp.pu HT_ 0 27 (Cmp.bm 1 22) ?_; refine Cmp.pu HT_ 1 28 (Cmp.bm 2 21) ?_; refine Cmp.pu HT_ 3 30 (Cmp.bb 23 11) ?_; refine Cmp.pu HT_ 7 34 (Cmp.bb 23 139) ?_; refine Cmp.pu HT_ 9 36 (Cmp.bb 23 651) ?_; refine Cmp.pu HT_ 13 40 (Cmp.bb 23 8843) ?_; refine Cmp.pu HT_ 15 42 (Cmp.bb 23 41611) ?_; refine Cmp.pu HT_ 19 46 (Cmp.bb 23 565899) ?_; refine Cmp.tk HT_ HW_ hHeld 2 29 (Cmp.bb 23 565903) ?_; refine Cmp.pu HT_ 4 31 (Cmp.bb 23 565919) ?_; refine Cmp.pu HT_ 5 32 (Cmp.bb 23 565951) ?_; refine Cmp.tk HT_ HW_ hHeld 6 33 (Cmp.bb 23 566015) ?_; refine Cmp.tk HT_ HW_ hHeld 8 35 (Cmp.bb 23 566271) ?_; refine Cmp.pu HT_ 10 37 (Cmp.bb 23 567295) ?_; refine Cmp.pu HT_ 11 38 (Cmp.bb 23 569343) ?_; refine Cmp.tk HT_ HW_ hHeld 12 39 (Cmp.bb 23 573439) ?_; refine Cmp.tk HT_ HW_ hHeld 14 41 (Cmp.bb 23 589823) ?_; refine Cmp.pu HT_ 16 43 (Cmp.bb 23 655359) ?_; refine Cmp.pu HT_ 17 44 (Cmp.bb 23 786431) ?_; refine Cmp.tk HT_ HW_ hHeld 18 45 (Cmp.bm 20 3) ?_
        refine one_ (i := 20) (N := some 47) (Cmp.bm 21 2) rfl rfl (one_of HT_.out (by kernel_rfl)) (by decide) (fun K hK => ?_)
        refine Kd.R_lit_step (Kd.int .i64) _ 3 ?hg (N := 47) ?hd (xs := ([(rd_T94 l0_0 x4_1).f0, (rd_T94 l0_0 x4_1).f1, (rd_T94 l0_0 x4_1).f2, 0] : List Int)) (inner := [.int .i64 ((rd_T94 l0_0 x4_1).f0), .int .i64 ((rd_T94 l0_0 x4_1).f1), .int .i64 ((rd_T94 l0_0 x4_1).f2), .int .i64 0]) (ok := fun _ => True) (okp := fun _ => True) ?hr ?hp (fun _ hk => hk) trivial (Below.refl _ _) (Nat.le_refl _) (by simp) ?_; (case hd => rfl); (case hg => rfl); (case hr => first | (go_simp; done) | (go_simp; rfl)); (case hp => exact (Reps.one (show Kd.M (Kd.int .i64) _ _ _ ((rd_T94 l0_0 x4_1).f0) [.int .i64 ((rd_T94 l0_0 x4_1).f0)] from rfl) (Reps.one (show Kd.M (Kd.int .i64) _ _ _ ((rd_T94 l0_0 x4_1).f1) [.int .i64 ((rd_T94 l0_0 x4_1).f1)] from rfl) (Reps.one (show Kd.M (Kd.int .i64) _ _ _ ((rd_T94 l0_0 x4_1).f2) [.int .i64 ((rd_T94 l0_0 x4_1).f2)] from rfl) (Reps.one (show Kd.M (Kd.int .i64) _ _ _ 0 [.int .i64 0] from rfl) (Reps.none _ _))))))
        intro v332 w24 ho25 hb hg_ hnew_
        clear hg_ hnew_
        (first | rw [← Ny331.out] at ho25 | (simp only [Int.reduceToNat] at ho25; rw [← Ny331.out] at ho25))
        have n0_ := Aside0.mk (Kd.R_elder' (Cmp.rr HO_3.out) (Kd.R_base ho25) hb)
        have n1_ := Aside0.mk (Kd.R_lower (Kd.R_new' ho25 (Kd.R_lt (Cmp.rr HO_3.out))) (below_size (Cmp.g HB.out)))
        have n2_ := Aside0.mk (blk_below (Cmp.b BK310.out) hb)
        have n3_ := Aside0.mk (below_step (Cmp.g HB.out) hb)
        clear HO_3; clear BK310; clear HB; have HO_3 := n0_; have HO333 := n1_; have BK310 := n2_; have HB := n3_; clear n0_ n1_ n2_ n3_; clear hb ho25
        obtain ⟨Ao27, co27, eo27⟩ := Kd.R_slice HO333.out
        (first | subst eo27 | (injection eo27 with f1_ f2_ f3_; have f4_ := f1_.symm; have f5_ := f3_.symm; clear f1_ f2_ f3_; subst f4_; subst f5_))
        refine hK.out _ _ ⟨(blk_cell BK310.out 0).trans rfl, ((HB.out.cell (World.block_lt_of_cell? w _ hw328_0)).trans hw328_0), ((HB.out.cell (World.block_lt_of_cell? w _ hw328_1)).trans hw328_1), ((HB.out.cell (World.block_lt_of_cell? w _ hw328_2)).trans hw328_2), ((HB.out.cell (World.block_lt_of_cell? w _ hw328_3)).trans hw328_3), ((HB.out.cell (World.block_lt_of_cell? w _ hw329_0)).trans hw329_0), ((HB.out.cell (World.block_lt_of_cell? w _ hw329_1)).trans hw329_1), ((HB.out.cell (World.block_lt_of_cell? w _ hw329_2)).trans hw329_2), ((HB.out.cell (World.block_lt_of_cell? w _ hw329_3)).trans hw329_3), ((HB.out.cell (World.block_lt_of_cell? w _ hw330_0)).trans hw330_0), ((HB.out.cell (World.block_lt_of_cell? w _ hw330_1)).trans hw330_1), ((HB.out.cell (World.block_lt_of_cell? w _ hw330_2)).trans hw330_2), ((HB.out.cell (World.block_lt_of_cell? w _ hw330_3)).trans hw330_3)⟩ (fun hHeld => ?_)
        clear hK K
        refine norm_ (a' := ?_) ?_ ?_
        rotate_left
        ·show Act.put _ (some 47) _ = _
         simp only [Act.put, Cmp.s, Cmp.z, Cmp.c, i64_w, i32_w]; rfl
        refine one_ (i := 21) (N := some 48) (Cmp.bm 22 1) rfl rfl (one_of HT_.out (by kernel_rfl)) (by decide) (fun K hK => ?_)
        refine Kd.R_append_rows_step (Kd.int .i64) (w0 := w) w.heap.size (by rfl) (.tmp 27) (.tmp 47) 32 3 (.int .i64 0) 8 rfl Try.underlying32 info3 rfl (by decide) (by omega) u3 x3_1 y331 _ _ _ (fun k_ => some k_ ≠ (.slice Ao27 y331.length co27 : Value).ownBlock) (fun _ => False) rfl rfl ?aO ?aR (fun _ _ h => h) (fun _ h => h.elim) ?aF ?aB ?aS ?aL ?_
        (case aR => repeat (first | exact (Kd.R_reads' HO333.out).2.2 | (with_reducible refine Kd.C_alloc ?_ _) | (with_reducible refine Kd.C_drewN ?_ _) | (with_reducible refine Kd.C_drew ?_)))
        (case aB => exact (Cmp.g HB.out))
        (case aF => exact (fun k_ hk => Kd.fresh' (Kd.R_lt (Cmp.rr HO333.out)) k_ hk))
        (case aO => exact (by (with_reducible repeat (first | apply Kd.R_alloc | apply Kd.R_drewN | apply Kd.R_drew)); exact Kd.R_mono HO_3.out (fun _ hk => hk.2)))
        (case aS => exact (below_size (Cmp.g HB.out)))
        (case aL => have := LMc21.out; omega)
        intro v335 w26 ho hb hg hat
        rw [← Ny334.out] at ho
        have n0_ := Aside0.mk (blk_grown (g := gb310) (o := .cells #[.slice (some ad318) l0_0.length c0_0] 45 (0, 0)) (Cmp.b BK310.out) hg (Kd.R_ne HO_3.out BK310.out (by decide)))
        have n1_ := Aside0.mk (Kd.R_after (ok := (fun _ => True)) (Cmp.rr HO333.out) hg hat)
        have n2_ := Aside0.mk (hb)
        have n3_ := Aside0.mk (ho)
        clear BK310; clear HO333; clear HB; clear HO_3; have BK310 := n0_; have HO333 := n1_; have HB := n2_; have HO336 := n3_; clear n0_ n1_ n2_ n3_; clear ho hb hg hat
        refine hK.out _ _ ⟨(blk_cell BK310.out 0).trans rfl, ((HB.out.cell (World.block_lt_of_cell? w _ hw328_0)).trans hw328_0), ((HB.out.cell (World.block_lt_of_cell? w _ hw328_1)).trans hw328_1), ((HB.out.cell (World.block_lt_of_cell? w _ hw328_2)).trans hw328_2), ((HB.out.cell (World.block_lt_of_cell? w _ hw328_3)).trans hw328_3), ((HB.out.cell (World.block_lt_of_cell? w _ hw329_0)).trans hw329_0), ((HB.out.cell (World.block_lt_of_cell? w _ hw329_1)).trans hw329_1), ((HB.out.cell (World.block_lt_of_cell? w _ hw329_2)).trans hw329_2), ((HB.out.cell (World.block_lt_of_cell? w _ hw329_3)).trans hw329_3), ((HB.out.cell (World.block_lt_of_cell? w _ hw330_0)).trans hw330_0), ((HB.out.cell (World.block_lt_of_cell? w _ hw330_1)).trans hw330_1), ((HB.out.cell (World.block_lt_of_cell? w _ hw330_2)).trans hw330_2), ((HB.out.cell (World.block_lt_of_cell? w _ hw330_3)).trans hw330_3)⟩ (fun hHeld => ?_)
        clear hK K
        refine norm_ (a' := ?_) ?_ ?_
        rotate_left
        ·show Act.put _ (some 48) _ = _
         simp only [Act.put, Cmp.s, Cmp.z, Cmp.c, i64_w, i32_w]; rfl
        refine Cmp.pu HT_ 22 3 (Cmp.bm 23 0) ?_
        refine done_ (done_of HT_.out (by kernel_rfl)) ?_
        try go_wp2
        go_roundg k1
        case measure => have := HK1.out; omega
        case rel => exact ⟨(y334), (wrap64 (x4_1 + 1)), (by first | rfl | simp | simp [*]), H', ⟨by have := HK1.out; omega⟩, ⟨by (with_reducible repeat (first | apply Kd.R_alloc | apply Kd.R_drewN | apply Kd.R_drew)); exact Kd.R_mono HO336.out (fun _ hk => trivial)⟩, ⟨by (with_reducible repeat (first | refine blk_drewN ?_ _ | refine blk_drew ?_ | refine blk_alloc ?_ _)); exact BK310.out⟩, ⟨Cmp.g HB.out⟩⟩
       ·rw [if_neg c21] at H; exact absurd H (by simp)
     ·rw [if_neg c11] at H; exact absurd H (by simp)
    ·rw [if_neg c10] at H
     have c10b0 : decide (x4_1 < (l0_0.length : Int)) = false := decide_eq_false c10
     clear c10; replace H := Option.bind_eq_some_iff.mp H; obtain ⟨t337, A280, H⟩ := H; (try dsimp only at H); have A28 := Aside0.mk A280; clear A280
     obtain rfl := Option.some.inj H
     have hcz29_0 : wr.cell? ⟨gb310, 0, none⟩ = some (.slice A0_0 l0_0.length c0_0) := (blk_cell BK310.out 0).trans rfl
     have hfz29_0 := blk_frozen BK310.out 0
     obtain ⟨Ao30, co30, eo30⟩ := Kd.R_slice HO_3.out
     subst eo30
     go_wp2_with (first | ((with_reducible refine gate_callee (f := 110) rfl ?_); refine goesL_ (some 50) rfl rfl Try.func110 (by kernel_rfl) rfl #[.slice Ao30 x3_1.length co30] rfl Cmp.q ?_; (with_reducible refine (spec_EncodeInts.calls k1 _ _ x3_1 t337 _ ?side1 ?side2 A28.out).mono ?_); (case side1 => exact Cmp.rc (Kd.R_reads' HO_3.out).2.2); (case side2 => exact (Kd.R_reads' HO_3.out).2.1); rintro e w31 ⟨v338, rfl, ho0, hb⟩; refine ⟨_, rfl, ?_⟩; have n0_ := Aside0.mk (Kd.R_below (Cmp.rr HO_3.out) hb); have n1_ := Aside0.mk (Kd.R_lower ho0 (below_size (Cmp.g HB.out))); have n2_ := Aside0.mk (blk_below (Cmp.b BK310.out) hb); have n3_ := Aside0.mk (below_step (Cmp.g HB.out) hb); clear HO_3; clear BK310; clear HB; have HO_3 := n0_; have HO339 := n1_; have BK310 := n2_; have HB := n3_; clear n0_ n1_ n2_ n3_; (try clear hb); (try clear hb2); (try clear hk); (try clear hi); (try clear ho0)))
     go_ret
     exact ⟨_, by first | rfl | (simp [errW_none, errW_some] <;> rfl) | (simp [*, errW_none, errW_some] <;> rfl), by (with_reducible repeat (first | apply Kd.R_alloc | apply Kd.R_drewN | apply Kd.R_drew)); exact HO339.out, Cmp.g HB.out⟩
 ·replace c3 := Bool.eq_false_iff.mpr c3
  subst c3
  have H1 : (some (([] : List Int))) = some r := by rw [if_neg (show ¬ (false = true) by decide)] at H; exact H
  clear H; have H := H1; clear H1
  obtain ⟨y312, hy312⟩ : ∃ y_ : List Int, y_ = (([] : List Int)) := ⟨_, rfl⟩
  replace H : (some y312) = some r := by first | (rw [hy312]; with_reducible exact H) | (have H2_ := (Option.bind_some _ _).symm.trans H; rw [hy312]; with_reducible exact H2_) | (have H2_ := (Option.bind_some _ _).symm.trans H; with_reducible exact H2_) | with_reducible exact H | (rw [hy312]; exact H) | exact H
  have Ny312 := Aside0.mk hy312; clear hy312
  obtain rfl := Option.some.inj H
  go_enter Try.func69, Try.ntmps69
  go_wp2_with (first | ((with_reducible refine gate_dst (N := 1) rfl ?_); refine box_event ?hg (N := 1) ?hd (cs := #[.slice A0_0 l0_0.length c0_0]) (t := 45) ?hr ?_; (case hd => rfl); (case hg => rfl); (case hr => first | (go_simp; done) | (go_simp; rfl)); intro gb310 hg w32 hbox hb; have n0_ := Aside0.mk (below_step (Cmp.g HB.out) hb); have n1_ := Aside0.mk (hbox); have n2_ := Aside0.mk ((by rw [hg]; exact (below_size (Cmp.g HB.out)) : w.heap.size ≤ gb310)); have n3_ := Aside0.mk ((by rw [hg]; exact (below_size (Cmp.g HB.out)) : w.heap.size ≤ gb310)); clear HB; have HB := n0_; have BK310 := n1_; have GW310 := n2_; have GE310 := n3_; clear n0_ n1_ n2_ n3_; clear hb hbox hg; have hcz33_0 : w32.cell? ⟨gb310, 0, none⟩ = some (.slice A0_0 l0_0.length c0_0) := (blk_cell BK310.out 0).trans rfl; have hfz33_0 := blk_frozen BK310.out 0) | ((with_reducible refine gate_callee (f := 66) rfl ?_); refine goesL_ (some 7) rfl rfl Try.func66 (by kernel_rfl) rfl #[.agg #[.slice A0_0 l0_0.length c0_0]] rfl Cmp.q ?_; (with_reducible refine (spec_IsBundle.calls k _ _ l0_0 false _ ?side1 ?side2 A2.out).mono ?_); (case side1 => exact Cmp.rc (Kd.C_below HR0_0.out HB.out)); (case side2 => exact HC0_0.out); rintro e w34 ⟨rfl, hb⟩; refine ⟨_, rfl, ?_⟩; have n0_ := Aside0.mk (blk_below (Cmp.b BK310.out) hb); have n1_ := Aside0.mk (below_step (Cmp.g HB.out) hb); clear BK310; clear HB; have BK310 := n0_; have HB := n1_; clear n0_ n1_; (try clear hb); (try clear hb2); (try clear hk); (try clear hi)) | ((with_reducible refine gate_dst (N := 9) rfl ?_); refine Kd.R_lit (Kd.int .u8) _ 5 ?hg (N := 9) ?hd (xs := ([] : List Int)) (inner := []) (ok := fun _ => True) (okp := fun _ => True) ?hr ?hp (fun _ hk => hk) trivial (Below.refl _ _) (Nat.le_refl _) (by simp) ?_; (case hd => rfl); (case hg => rfl); (case hr => first | (go_simp; done) | (go_simp; rfl)); (case hp => exact (Reps.none _ _)); intro v313 w35 ho36 hb hg_ hnew_; clear hg_ hnew_; (first | rw [← Ny312.out] at ho36 | (simp only [Int.reduceToNat] at ho36; rw [← Ny312.out] at ho36)); have n0_ := Aside0.mk (Kd.R_lower ho36 (below_size (Cmp.g HB.out))); have n1_ := Aside0.mk (blk_below (Cmp.b BK310.out) hb); have n2_ := Aside0.mk (below_step (Cmp.g HB.out) hb); clear BK310; clear HB; have HO314 := n0_; have BK310 := n1_; have HB := n2_; clear n0_ n1_ n2_; clear hb ho36))
  go_ret
  exact ⟨_, by first | rfl | (simp [errW_none, errW_some] <;> rfl) | (simp [*, errW_none, errW_some] <;> rfl), by (with_reducible repeat (first | apply Kd.R_alloc | apply Kd.R_drewN | apply Kd.R_drew)); exact HO314.out, Cmp.g HB.out⟩

end Go.Proofs.Ytpgjecknkmmnhaa.PFnExactOpenBundle

/- Printed functions of the program, out of print.sh, told more shortly. No condition. -/
import Derived.Test.YtgcipecdaimjfaaCmp
import Derived.Test.YtgcipecdaimjfaaPFnDeviceLogsx0
import Derived.Test.YtgcipecdaimjfaaPFnDeviceLogsx5
import Derived.Test.YtgcipecdaimjfaaPFnDeviceLogsx6
import Derived.Test.YtgcipecdaimjfaaPFnDeviceLogsx7
namespace Go.Proofs.Ytgcipecdaimjfaa.PFnDeviceLogs
open Go.Proofs.Ytgcipecdaimjfaa
open Go.RowKit Go.Proofs.YtgcipecdaimjfaaW.PrintWords Go.Proofs.YtgcipecdaimjfaaW.PrintLast Go.Proofs.YtgcipecdaimjfaaW.PrintMore
attribute [local go_sem] max2_int min2_int max_two min_two max_three min_three max_four min_four   -- for this text's walks alone
set_option linter.unusedVariables false
set_option linter.unusedSimpArgs false

/-! ### spec_VerifyLog: function 18 -/
def spec_VerifyLog.l0 : Nat → List (S86) → Int → Option (Bool)
  | 0, _, _ => none
  | k + 1, x0, x3 => if x3 < (x0.length : Int) then (if 0 ≤ x3 then (if x3 ≤ (x0.length : Int) then ((spec_l19Step.f k (x0.take (x3 : Int).toNat) ((rd_T86 x0 x3).f0) ((rd_T86 x0 x3).f1) ((rd_T86 x0 x3).f2) ((rd_T86 x0 x3).f3) ((rd_T86 x0 x3).f4) ((rd_T86 x0 x3).f5)).bind fun t296 => (if t296 = true then (spec_VerifyLog.l0 k x0 (wrap64 (x3 + 1))) else (some false))) else (none)) else (none)) else ((spec_l1In.f (x0.length : Int) 1 40).bind fun t297 => (some t297))
def spec_VerifyLog.f (k : Nat) (l0 : List (S86)) : Option (Bool) := spec_VerifyLog.l0 k l0 0
theorem spec_VerifyLog.mono_l : ∀ k, (∀ y0 y1, LeO (spec_VerifyLog.l0 k y0 y1) (spec_VerifyLog.l0 (k + 1) y0 y1))
  | 0 => fun _ _ r h => by simp [spec_VerifyLog.l0] at h
  | k + 1 => by
    have ih0 := spec_VerifyLog.mono_l k
    · intro y0 y1
      unfold spec_VerifyLog.l0
      repeat' first
      | (with_reducible exact ih0 _ _)
      | (with_reducible exact spec_l19Step.mono _ _ _ _ _ _ _ _)
      | (with_reducible exact LeO.refl _)
      | (with_reducible exact LeO.none _)
      | (with_reducible refine LeO.ite ?_ ?_)
      | (with_reducible refine LeO.bind ?_ (fun _ => ?_))
      | exact ih0 _ _
      | exact spec_l19Step.mono _ _ _ _ _ _ _ _
      | exact LeO.none _
      | refine LeO.ite ?_ ?_
      | refine LeO.bind ?_ (fun _ => ?_)
theorem spec_VerifyLog.mono : ∀ a0 k, LeO (spec_VerifyLog.f k a0) (spec_VerifyLog.f (k + 1) a0) := by
  intro a0 k
  have ih0 := spec_VerifyLog.mono_l k
  unfold spec_VerifyLog.f
  repeat' first
      | (with_reducible exact ih0 _ _)
      | (with_reducible exact spec_l19Step.mono _ _ _ _ _ _ _ _)
      | (with_reducible exact LeO.refl _)
      | (with_reducible exact LeO.none _)
      | (with_reducible refine LeO.ite ?_ ?_)
      | (with_reducible refine LeO.bind ?_ (fun _ => ?_))
      | exact ih0 _ _
      | exact spec_l19Step.mono _ _ _ _ _ _ _ _
      | exact LeO.none _
      | refine LeO.ite ?_ ?_
      | refine LeO.bind ?_ (fun _ => ?_)
def spec_VerifyLog.T4 : Bool × List (List Nat × List Nat) := (true, [([], []), ([], []), ([0, 1], [0, 1]), ([], []), ([], []), ([3, 4], [3, 4]), ([5], [5]), ([2, 6], [2, 6]), ([7], [7])])
def spec_VerifyLog.B4 : List Nat := [0, 0, 3, 0, 0, 24, 56, 127, 255]
theorem spec_VerifyLog.tab4 : rtab .any (opsOf Try.f18 4) = spec_VerifyLog.T4 := by kernel_rfl
theorem spec_VerifyLog.bits4 : waitsOk spec_VerifyLog.T4.2 spec_VerifyLog.B4 = true := by kernel_rfl
set_option maxHeartbeats 8000000 in
set_option maxRecDepth 100000 in
theorem spec_VerifyLog.calls (k : Nat) (A0 : Option Addr) (c0 : Nat) (l0 : List (S86)) (r : Bool) (w : World) (hr0 : Kd.C k86 w A0 l0.length l0) (hc0 : l0.length ≤ c0) (h : spec_VerifyLog.f k l0 = some r) :
    Calls Try.prog 18 #[.slice A0 l0.length c0] w fun e w' => e = .returned (.bool r) ∧ Below w.heap.size w w' := by
 have hu86 := Try.underlying86; have HR0 := Aside0.mk hr0; have HC0 := Aside0.mk hc0; clear hr0 hc0
 have HB := Aside0.mk (Below.refl w.heap.size w)
 have H : (spec_VerifyLog.l0 k l0 0) = some r := h
 clear h
 have H' := Aside0.mk H
 clear H
 go_enter Try.func18, Try.ntmps18
 go_wp2
 go_loopg [3] k (fun kq v3 w' => ∃ (x3_1 : Int), v3 = .int .i64 x3_1 ∧ Aside0 (spec_VerifyLog.l0 kq l0 x3_1 = some r) ∧ Aside0 (kq ≤ k) ∧ Aside0 (Below w.heap.size w w'))
 case atStart => exact ⟨(0), (by first | rfl | simp | simp [*]), H', ⟨Nat.le_refl _⟩, ⟨Cmp.g HB.out⟩⟩
 case round =>
  clear H'
  (try clear c1)
  obtain ⟨x3_1, rfl, HA, HK1, HB⟩ := hrel
  cases gk with
  | zero => exact absurd HA.out (by simp [spec_VerifyLog.l0])
  | succ k1 =>
   have H := HA.out; clear HA
   simp only [spec_VerifyLog.l0] at H
   by_cases c2 : x3_1 < (l0.length : Int)
   ·rw [if_pos c2] at H
    have c2b0 : decide (x3_1 < (l0.length : Int)) = true := decide_eq_true c2
    clear c2
    by_cases c3 : 0 ≤ x3_1
    ·rw [if_pos c3] at H
     have c3b0 := eq_true c3
     have c3b1 : decide (0 ≤ x3_1) = true := decide_eq_true c3; clear c3
     by_cases c4 : x3_1 ≤ (l0.length : Int)
     ·rw [if_pos c4] at H
      have c4b0 := eq_true c4
      have c4b1 : decide (x3_1 ≤ (l0.length : Int)) = true := decide_eq_true c4
      clear c4
      obtain ⟨y291, hy291⟩ : ∃ y_ : List (S86), y_ = (l0.take (x3_1 : Int).toNat) := ⟨_, rfl⟩
      replace H : ((spec_l19Step.f k1 y291 ((rd_T86 l0 x3_1).f0) ((rd_T86 l0 x3_1).f1) ((rd_T86 l0 x3_1).f2) ((rd_T86 l0 x3_1).f3) ((rd_T86 l0 x3_1).f4) ((rd_T86 l0 x3_1).f5)).bind fun t296 => (if t296 = true then (spec_VerifyLog.l0 k1 l0 (wrap64 (x3_1 + 1))) else (some false))) = some r := by first | (rw [hy291]; with_reducible exact H) | (have H2_ := (Option.bind_some _ _).symm.trans H; rw [hy291]; with_reducible exact H2_) | (have H2_ := (Option.bind_some _ _).symm.trans H; with_reducible exact H2_) | with_reducible exact H | (rw [hy291]; exact H) | exact H
      have Ny291 := Aside0.mk hy291; clear hy291; replace H := Option.bind_eq_some_iff.mp H; obtain ⟨t296, A50, H⟩ := H; (try dsimp only at H); have A5 := Aside0.mk A50; clear A50
      by_cases c6 : t296 = true
      ·subst c6; rw [if_pos rfl] at H
       have H' := Aside0.mk H
       clear H
       try go_wp2
       have n0_ := Aside0.mk (below_drew1 HB.out); clear HB; have HB := n0_; clear n0_
       have q8 : (x3_1 : Int) ≤ ((l0.length : Int) : Int) := of_decide_eq_true Cmp.d
       obtain ⟨i08, hi08, _, hsz8, _⟩ := info_parts info86
       have hroom8 : l0.length ≤ c0 := HC0.out
       have hC8 : Kd.C k86 _ A0 l0.length l0 := HR0.out
       have hcut8 := cut_to (P := Try.prog) 40 86 .i64 Try.underlying40 hi08 A0 l0.length c0 x3_1 (of_decide_eq_true Cmp.d) q8 hroom8
       have hr8 := Kd.C_take (m := (x3_1 : Int).toNat) hC8 (by omega)
       have hy8 : y291.length = (x3_1 : Int).toNat := (by rw [Ny291.out, List.length_take]; omega)
       rw [← Ny291.out] at hr8
       rw [← hy8] at hcut8
       have HR294 := Aside0.mk hr8
       have HC294 := Aside0.mk (show y291.length ≤ c0 from by omega)
       clear hr8 hC8 hroom8 hi08 hsz8; have KY8 := Aside0.mk hy8; clear hy8; replace q8 := eq_true q8
       have p295 : 0 ≤ (x3_1 : Int) := of_decide_eq_true Cmp.d
       have q295 : x3_1 < (l0.length : Int) := of_decide_eq_true Cmp.d
       obtain ⟨ad295, e295, hx295_0, hx295_1, hx295_2, hx295_3, hx295_4, hx295_5⟩ := at_T86 HR0.out x3_1 p295 q295
       have hw295_5 := hx295_5; have hw295_4 := hx295_4; have hw295_3 := hx295_3; have hw295_2 := hx295_2; have hw295_1 := hx295_1; have hw295_0 := hx295_0; cases e295
       replace hx295_0 := (HB.out.cell (World.block_lt_of_cell? w _ hx295_0)).trans hx295_0
       replace hx295_1 := (HB.out.cell (World.block_lt_of_cell? w _ hx295_1)).trans hx295_1
       replace hx295_2 := (HB.out.cell (World.block_lt_of_cell? w _ hx295_2)).trans hx295_2
       replace hx295_3 := (HB.out.cell (World.block_lt_of_cell? w _ hx295_3)).trans hx295_3
       replace hx295_4 := (HB.out.cell (World.block_lt_of_cell? w _ hx295_4)).trans hx295_4
       replace hx295_5 := (HB.out.cell (World.block_lt_of_cell? w _ hx295_5)).trans hx295_5
       replace p295 := eq_true p295; replace q295 := eq_true q295
       refine start_ (n := 9) (S := fun w' => w'.cell? (ad295.add ((x3_1).toNat * 6)) = some (.int .i64 ((rd_T86 l0 x3_1).f0)) ∧ w'.cell? ⟨(ad295.add ((x3_1).toNat * 6)).block, (ad295.add ((x3_1).toNat * 6)).off + 1, none⟩ = some (.int .i64 ((rd_T86 l0 x3_1).f1)) ∧ w'.cell? ⟨(ad295.add ((x3_1).toNat * 6)).block, (ad295.add ((x3_1).toNat * 6)).off + 2, none⟩ = some (.int .i64 ((rd_T86 l0 x3_1).f2)) ∧ w'.cell? ⟨(ad295.add ((x3_1).toNat * 6)).block, (ad295.add ((x3_1).toNat * 6)).off + 3, none⟩ = some (.int .i64 ((rd_T86 l0 x3_1).f3)) ∧ w'.cell? ⟨(ad295.add ((x3_1).toNat * 6)).block, (ad295.add ((x3_1).toNat * 6)).off + 4, none⟩ = some (.int .i64 ((rd_T86 l0 x3_1).f4)) ∧ w'.cell? ⟨(ad295.add ((x3_1).toNat * 6)).block, (ad295.add ((x3_1).toNat * 6)).off + 5, none⟩ = some (.int .i64 ((rd_T86 l0 x3_1).f5))) (ds := []) (Cmp.bm 0 9) (by kernel_rfl) rfl rfl ⟨((HB.out.cell (World.block_lt_of_cell? w _ hw295_0)).trans hw295_0), ((HB.out.cell (World.block_lt_of_cell? w _ hw295_1)).trans hw295_1), ((HB.out.cell (World.block_lt_of_cell? w _ hw295_2)).trans hw295_2), ((HB.out.cell (World.block_lt_of_cell? w _ hw295_3)).trans hw295_3), ((HB.out.cell (World.block_lt_of_cell? w _ hw295_4)).trans hw295_4), ((HB.out.cell (World.block_lt_of_cell? w _ hw295_5)).trans hw295_5)⟩ (fun hHeld => ?_); refine with_tabW spec_VerifyLog.tab4 spec_VerifyLog.bits4 (fun HT_ HW_ => ?_)
       generalize wr.drew = w7 at HB HR294 hx295_0 hx295_1 hx295_2 hx295_3 hx295_4 hx295_5 hHeld ⊢
       refine Cmp.pu HT_ 0 10 (Cmp.bm 1 8) ?_; refine Cmp.pu HT_ 1 11 (Cmp.bm 2 7) ?_; refine Cmp.pu HT_ 2 12 (Cmp.bm 3 6) ?_; refine Cmp.pu HT_ 3 13 (Cmp.bm 4 5) ?_; refine Cmp.pu HT_ 4 14 (Cmp.bm 5 4) ?_; refine Cmp.pu HT_ 5 15 (Cmp.bm 6 3) ?_; refine Cmp.tk HT_ HW_ hHeld 6 16 (Cmp.bm 7 2) ?_
       refine one_ (i := 7) (N := some 17) (Cmp.bm 8 1) rfl rfl (one_of HT_.out (by kernel_rfl)) (by decide) (fun K hK => ?_)
       refine goes_ Try.func61 (by kernel_rfl) rfl #[.slice (some ad295) y291.length c0, .agg #[.int .i64 ((rd_T86 l0 x3_1).f0), .int .i64 ((rd_T86 l0 x3_1).f1), .int .i64 ((rd_T86 l0 x3_1).f2), .int .i64 ((rd_T86 l0 x3_1).f3), .int .i64 ((rd_T86 l0 x3_1).f4), .int .i64 ((rd_T86 l0 x3_1).f5)]] (by rfl) rfl rfl Cmp.q ?_
       with_reducible refine (spec_l19Step.calls k1 _ _ y291 ((rd_T86 l0 x3_1).f0) ((rd_T86 l0 x3_1).f1) ((rd_T86 l0 x3_1).f2) ((rd_T86 l0 x3_1).f3) ((rd_T86 l0 x3_1).f4) ((rd_T86 l0 x3_1).f5) true _ ?side1 ?side2 A5.out).mono ?_
       (case side1 => exact Cmp.rc (Kd.C_below HR294.out HB.out))
       (case side2 => exact HC294.out)
       rintro e w9 ⟨rfl, hb⟩; refine ⟨_, rfl, ?_⟩
       have n0_ := Aside0.mk (below_step (Cmp.g HB.out) hb)
       clear HB; have HB := n0_; clear n0_; (try clear hb); (try clear hb2); (try clear hk); (try clear hi)
       refine hK.out _ _ ⟨((HB.out.cell (World.block_lt_of_cell? w _ hw295_0)).trans hw295_0), ((HB.out.cell (World.block_lt_of_cell? w _ hw295_1)).trans hw295_1), ((HB.out.cell (World.block_lt_of_cell? w _ hw295_2)).trans hw295_2), ((HB.out.cell (World.block_lt_of_cell? w _ hw295_3)).trans hw295_3), ((HB.out.cell (World.block_lt_of_cell? w _ hw295_4)).trans hw295_4), ((HB.out.cell (World.block_lt_of_cell? w _ hw295_5)).trans hw295_5)⟩ (fun hHeld => ?_)
       clear hK K
       refine norm_ (a' := ?_) ?_ ?_
       rotate_left
       ·show Act.put _ (some 17) _ = _
        simp only [Act.put, Cmp.s, Cmp.z, Cmp.c, i64_w, i32_w]; rfl
       refine Cmp.pu HT_ 8 18 (Cmp.bm 9 0) ?_
       refine done_ (done_of HT_.out (by kernel_rfl)) ?_
       try go_wp2
       go_roundg k1
       case measure => have := HK1.out; omega
       case rel => exact ⟨(wrap64 (x3_1 + 1)), (by first | rfl | simp | simp [*]), H', ⟨by have := HK1.out; omega⟩, ⟨Cmp.g HB.out⟩⟩
      ·replace c6 := Bool.eq_false_iff.mpr c6
       subst c6
       have H1 : (some false) = some r := by rw [if_neg (show ¬ (false = true) by decide)] at H; exact H
       clear H; have H := H1; clear H1
       obtain rfl := Option.some.inj H
       try go_wp2
       have n0_ := Aside0.mk (below_drew1 HB.out); clear HB; have HB := n0_; clear n0_
       have q11 : (x3_1 : Int) ≤ ((l0.length : Int) : Int) := of_decide_eq_true Cmp.d
       obtain ⟨i011, hi011, _, hsz11, _⟩ := info_parts info86
       have hroom11 : l0.length ≤ c0 := HC0.out
       have hC11 : Kd.C k86 _ A0 l0.length l0 := HR0.out
       have hcut11 := cut_to (P := Try.prog) 40 86 .i64 Try.underlying40 hi011 A0 l0.length c0 x3_1 (of_decide_eq_true Cmp.d) q11 hroom11
       have hr11 := Kd.C_take (m := (x3_1 : Int).toNat) hC11 (by omega)
       have hy11 : y291.length = (x3_1 : Int).toNat := (by rw [Ny291.out, List.length_take]; omega)
       rw [← Ny291.out] at hr11
       rw [← hy11] at hcut11
       have HR294 := Aside0.mk hr11
       have HC294 := Aside0.mk (show y291.length ≤ c0 from by omega)
       clear hr11 hC11 hroom11 hi011 hsz11; have KY11 := Aside0.mk hy11; clear hy11; replace q11 := eq_true q11
       have p295 : 0 ≤ (x3_1 : Int) := of_decide_eq_true Cmp.d
       have q295 : x3_1 < (l0.length : Int) := of_decide_eq_true Cmp.d
       obtain ⟨ad295, e295, hx295_0, hx295_1, hx295_2, hx295_3, hx295_4, hx295_5⟩ := at_T86 HR0.out x3_1 p295 q295
       have hw295_5 := hx295_5; have hw295_4 := hx295_4; have hw295_3 := hx295_3; have hw295_2 := hx295_2; have hw295_1 := hx295_1; have hw295_0 := hx295_0; cases e295
       replace hx295_0 := (HB.out.cell (World.block_lt_of_cell? w _ hx295_0)).trans hx295_0
       replace hx295_1 := (HB.out.cell (World.block_lt_of_cell? w _ hx295_1)).trans hx295_1
       replace hx295_2 := (HB.out.cell (World.block_lt_of_cell? w _ hx295_2)).trans hx295_2
       replace hx295_3 := (HB.out.cell (World.block_lt_of_cell? w _ hx295_3)).trans hx295_3
       replace hx295_4 := (HB.out.cell (World.block_lt_of_cell? w _ hx295_4)).trans hx295_4
       replace hx295_5 := (HB.out.cell (World.block_lt_of_cell? w _ hx295_5)).trans hx295_5
       replace p295 := eq_true p295; replace q295 := eq_true q295
       refine start_ (n := 9) (S := fun w' => w'.cell? (ad295.add ((x3_1).toNat * 6)) = some (.int .i64 ((rd_T86 l0 x3_1).f0)) ∧ w'.cell? ⟨(ad295.add ((x3_1).toNat * 6)).block, (ad295.add ((x3_1).toNat * 6)).off + 1, none⟩ = some (.int .i64 ((rd_T86 l0 x3_1).f1)) ∧ w'.cell? ⟨(ad295.add ((x3_1).toNat * 6)).block, (ad295.add ((x3_1).toNat * 6)).off + 2, none⟩ = some (.int .i64 ((rd_T86 l0 x3_1).f2)) ∧ w'.cell? ⟨(ad295.add ((x3_1).toNat * 6)).block, (ad295.add ((x3_1).toNat * 6)).off + 3, none⟩ = some (.int .i64 ((rd_T86 l0 x3_1).f3)) ∧ w'.cell? ⟨(ad295.add ((x3_1).toNat * 6)).block, (ad295.add ((x3_1).toNat * 6)).off + 4, none⟩ = some (.int .i64 ((rd_T86 l0 x3_1).f4)) ∧ w'.cell? ⟨(ad295.add ((x3_1).toNat * 6)).block, (ad295.add ((x3_1).toNat * 6)).off + 5, none⟩ = some (.int .i64 ((rd_T86 l0 x3_1).f5))) (ds := []) (Cmp.bm 0 9) (by kernel_rfl) rfl rfl ⟨((HB.out.cell (World.block_lt_of_cell? w _ hw295_0)).trans hw295_0), ((HB.out.cell (World.block_lt_of_cell? w _ hw295_1)).trans hw295_1), ((HB.out.cell (World.block_lt_of_cell? w _ hw295_2)).trans hw295_2), ((HB.out.cell (World.block_lt_of_cell? w _ hw295_3)).trans hw295_3), ((HB.out.cell (World.block_lt_of_cell? w _ hw295_4)).trans hw295_4), ((HB.out.cell (World.block_lt_of_cell? w _ hw295_5)).trans hw295_5)⟩ (fun hHeld => ?_); refine with_tabW spec_VerifyLog.tab4 spec_VerifyLog.bits4 (fun HT_ HW_ => ?_)
       generalize wr.drew = w10 at HB HR294 hx295_0 hx295_1 hx295_2 hx295_3 hx295_4 hx295_5 hHeld ⊢
       refine Cmp.pu HT_ 0 10 (Cmp.bm 1 8) ?_; refine Cmp.pu HT_ 1 11 (Cmp.bm 2 7) ?_; refine Cmp.pu HT_ 2 12 (Cmp.bm 3 6) ?_; refine Cmp.pu HT_ 3 13 (Cmp.bm 4 5) ?_; refine Cmp.pu HT_ 4 14 (Cmp.bm 5 4) ?_; refine Cmp.pu HT_ 5 15 (Cmp.bm 6 3) ?_; refine Cmp.tk HT_ HW_ hHeld 6 16 (Cmp.bm 7 2) ?_
       refine one_ (i := 7) (N := some 17) (Cmp.bm 8 1) rfl rfl (one_of HT_.out (by kernel_rfl)) (by decide) (fun K hK => ?_)
       refine goes_ Try.func61 (by kernel_rfl) rfl #[.slice (some ad295) y291.length c0, .agg #[.int .i64 ((rd_T86 l0 x3_1).f0), .int .i64 ((rd_T86 l0 x3_1).f1), .int .i64 ((rd_T86 l0 x3_1).f2), .int .i64 ((rd_T86 l0 x3_1).f3), .int .i64 ((rd_T86 l0 x3_1).f4), .int .i64 ((rd_T86 l0 x3_1).f5)]] (by rfl) rfl rfl Cmp.q ?_
       with_reducible refine (spec_l19Step.calls k1 _ _ y291 ((rd_T86 l0 x3_1).f0) ((rd_T86 l0 x3_1).f1) ((rd_T86 l0 x3_1).f2) ((rd_T86 l0 x3_1).f3) ((rd_T86 l0 x3_1).f4) ((rd_T86 l0 x3_1).f5) false _ ?side1 ?side2 A5.out).mono ?_
       (case side1 => exact Cmp.rc (Kd.C_below HR294.out HB.out))
       (case side2 => exact HC294.out)
       rintro e w12 ⟨rfl, hb⟩; refine ⟨_, rfl, ?_⟩
       have n0_ := Aside0.mk (below_step (Cmp.g HB.out) hb)
       clear HB; have HB := n0_; clear n0_; (try clear hb); (try clear hb2); (try clear hk); (try clear hi)
       refine hK.out _ _ ⟨((HB.out.cell (World.block_lt_of_cell? w _ hw295_0)).trans hw295_0), ((HB.out.cell (World.block_lt_of_cell? w _ hw295_1)).trans hw295_1), ((HB.out.cell (World.block_lt_of_cell? w _ hw295_2)).trans hw295_2), ((HB.out.cell (World.block_lt_of_cell? w _ hw295_3)).trans hw295_3), ((HB.out.cell (World.block_lt_of_cell? w _ hw295_4)).trans hw295_4), ((HB.out.cell (World.block_lt_of_cell? w _ hw295_5)).trans hw295_5)⟩ (fun hHeld => ?_)
       clear hK K
       refine norm_ (a' := ?_) ?_ ?_
       rotate_left
       ·show Act.put _ (some 17) _ = _
        simp only [Act.put, Cmp.s, Cmp.z, Cmp.c, i64_w, i32_w]; rfl
       refine Cmp.pu HT_ 8 18 (Cmp.bm 9 0) ?_
       refine done_ (done_of HT_.out (by kernel_rfl)) ?_
       try go_wp2
       go_ret
       exact ⟨by first | rfl | (simp [errW_none, errW_some] <;> rfl) | (simp [*, errW_none, errW_some] <;> rfl), Cmp.g HB.out⟩
     ·rw [if_neg c4] at H; exact absurd H (by simp)
    ·rw [if_neg c3] at H; exact absurd H (by simp)
   ·rw [if_neg c2] at H
    have c2b0 : decide (x3_1 < (l0.length : Int)) = false := decide_eq_false c2
    clear c2; replace H := Option.bind_eq_some_iff.mp H; obtain ⟨t297, A130, H⟩ := H; (try dsimp only at H); have A13 := Aside0.mk A130; clear A130
    obtain rfl := Option.some.inj H
    go_wp2_with (first | ((with_reducible refine gate_callee (f := 62) rfl ?_); refine goesL_ (some 21) rfl rfl Try.func62 (by kernel_rfl) rfl #[.int .i64 (l0.length : Int), .int .i64 1, .int .i64 40] rfl Cmp.q ?_; (with_reducible refine (spec_l1In.calls (l0.length : Int) 1 40 t297 _ A13.out).mono ?_); rintro e w' ⟨rfl, ⟨nd, rfl⟩⟩; refine ⟨_, rfl, ?_⟩))
    go_ret
    exact ⟨by first | rfl | (simp [errW_none, errW_some] <;> rfl) | (simp [*, errW_none, errW_some] <;> rfl), Cmp.g HB.out⟩

/-! ### spec_SignAsDevice: function 161 -/
def spec_SignAsDevice.f (k : Nat) (a0_0 : Int) (a0_1 : Int) (a0_2 : Int) (a0_3 : Int) (l1 : List Int) : Option (Int) := (spec_l10Device.f k a0_0 a0_1 a0_2 a0_3).bind fun t299 => ((spec_SignMessage.f k t299 l1).bind fun t300 => (some t300))
theorem spec_SignAsDevice.mono : ∀ a0 a1 a2 a3 a4 k, LeO (spec_SignAsDevice.f k a0 a1 a2 a3 a4) (spec_SignAsDevice.f (k + 1) a0 a1 a2 a3 a4) := by
  intro a0 a1 a2 a3 a4 k
  unfold spec_SignAsDevice.f
  repeat' first
      | (with_reducible exact spec_SignMessage.mono _ _ _)
      | (with_reducible exact spec_l10Device.mono _ _ _ _ _)
      | (with_reducible exact LeO.refl _)
      | (with_reducible exact LeO.none _)
      | (with_reducible refine LeO.ite ?_ ?_)
      | (with_reducible refine LeO.bind ?_ (fun _ => ?_))
      | exact spec_SignMessage.mono _ _ _
      | exact spec_l10Device.mono _ _ _ _ _
      | exact LeO.none _
      | refine LeO.ite ?_ ?_
      | refine LeO.bind ?_ (fun _ => ?_)
set_option maxHeartbeats 8000000 in
set_option maxRecDepth 100000 in
theorem spec_SignAsDevice.calls (k : Nat) (a0_0 : Int) (a0_1 : Int) (a0_2 : Int) (a0_3 : Int) (A1 : Option Addr) (c1 : Nat) (l1 : List Int) (r : Int) (w : World) (hr1 : Kd.C (Kd.int .i64) w A1 l1.length l1) (hc1 : l1.length ≤ c1) (h : spec_SignAsDevice.f k a0_0 a0_1 a0_2 a0_3 l1 = some r) :
    Calls Try.prog 161 #[.agg #[.int .i64 a0_0, .int .i64 a0_1, .int .i64 a0_2, .int .i64 a0_3], .slice A1 l1.length c1] w fun e w' => e = .returned (.int .i64 r) ∧ Below w.heap.size w w' := by
 have hu84 := Try.underlying84; have HR1 := Aside0.mk hr1; have HC1 := Aside0.mk hc1; clear hr1 hc1
 have HB := Aside0.mk (Below.refl w.heap.size w)
 have H : ((spec_l10Device.f k a0_0 a0_1 a0_2 a0_3).bind fun t299 => ((spec_SignMessage.f k t299 l1).bind fun t300 => (some t300))) = some r := h
 clear h; replace H := Option.bind_eq_some_iff.mp H; obtain ⟨t299, A30, H⟩ := H; (try dsimp only at H); have A3 := Aside0.mk A30; clear A30; replace H := Option.bind_eq_some_iff.mp H; obtain ⟨t300, A40, H⟩ := H; (try dsimp only at H); have A4 := Aside0.mk A40; clear A40
 obtain rfl := Option.some.inj H
 go_enter Try.func161, Try.ntmps161
 go_wp2_with (first | ((with_reducible refine gate_dst (N := 2) rfl ?_); refine box_event ?hg (N := 2) ?hd (cs := #[.int .i64 a0_0, .int .i64 a0_1, .int .i64 a0_2, .int .i64 a0_3]) (t := 84) ?hr ?_; (case hd => rfl); (case hg => rfl); (case hr => first | (go_simp; done) | (go_simp; rfl)); intro gb298 hg w5 hbox hb; have n0_ := Aside0.mk (below_step (Cmp.g HB.out) hb); have n1_ := Aside0.mk (hbox); have n2_ := Aside0.mk ((by rw [hg]; exact (below_size (Cmp.g HB.out)) : w.heap.size ≤ gb298)); have n3_ := Aside0.mk ((by rw [hg]; exact (below_size (Cmp.g HB.out)) : w.heap.size ≤ gb298)); clear HB; have HB := n0_; have BK298 := n1_; have GW298 := n2_; have GE298 := n3_; clear n0_ n1_ n2_ n3_; clear hb hbox hg; have hcz6_0 : w5.cell? ⟨gb298, 0, none⟩ = some (.int .i64 a0_0) := (blk_cell BK298.out 0).trans rfl; have hcz6_1 : w5.cell? ⟨gb298, 1, none⟩ = some (.int .i64 a0_1) := (blk_cell BK298.out 1).trans rfl; have hcz6_2 : w5.cell? ⟨gb298, 2, none⟩ = some (.int .i64 a0_2) := (blk_cell BK298.out 2).trans rfl; have hcz6_3 : w5.cell? ⟨gb298, 3, none⟩ = some (.int .i64 a0_3) := (blk_cell BK298.out 3).trans rfl; have hfz6_0 := blk_frozen BK298.out 0; have hfz6_1 := blk_frozen BK298.out 1; have hfz6_2 := blk_frozen BK298.out 2; have hfz6_3 := blk_frozen BK298.out 3) | ((with_reducible refine gate_callee (f := 102) rfl ?_); refine goesL_ (some 6) rfl rfl Try.func102 (by kernel_rfl) rfl #[.agg #[.int .i64 a0_0, .int .i64 a0_1, .int .i64 a0_2, .int .i64 a0_3]] rfl Cmp.q ?_; (with_reducible refine (spec_l10Device.calls k a0_0 a0_1 a0_2 a0_3 t299 _ A3.out).mono ?_); rintro e w7 ⟨rfl, hb⟩; refine ⟨_, rfl, ?_⟩; have n0_ := Aside0.mk (blk_below (Cmp.b BK298.out) hb); have n1_ := Aside0.mk (below_step (Cmp.g HB.out) hb); clear BK298; clear HB; have BK298 := n0_; have HB := n1_; clear n0_ n1_; (try clear hb); (try clear hb2); (try clear hk); (try clear hi)) | ((with_reducible refine gate_callee (f := 153) rfl ?_); refine goesL_ (some 8) rfl rfl Try.func153 (by kernel_rfl) rfl #[.int .i64 t299, .slice A1 l1.length c1] rfl Cmp.q ?_; (with_reducible refine (spec_SignMessage.calls k t299 _ _ l1 t300 _ ?side1 ?side2 A4.out).mono ?_); (case side1 => exact Cmp.rc (Kd.C_below HR1.out HB.out)); (case side2 => exact HC1.out); rintro e w8 ⟨rfl, hb⟩; refine ⟨_, rfl, ?_⟩; have n0_ := Aside0.mk (blk_below (Cmp.b BK298.out) hb); have n1_ := Aside0.mk (below_step (Cmp.g HB.out) hb); clear BK298; clear HB; have BK298 := n0_; have HB := n1_; clear n0_ n1_; (try clear hb); (try clear hb2); (try clear hk); (try clear hi)))
 go_ret
 exact ⟨by first | rfl | (simp [errW_none, errW_some] <;> rfl) | (simp [*, errW_none, errW_some] <;> rfl), Cmp.g HB.out⟩

/-! ### spec_l19Copy: function 162 -/
def spec_l19Copy.f (l0 : List (S86)) : Option ((List (S86))) := (some (([] : List (S86)) : List (S86))).bind fun y301 => (if y301.length + l0.length < 2932031007402 then (some (y301 ++ l0)) else (none))
set_option maxHeartbeats 8000000 in
set_option maxRecDepth 100000 in
theorem spec_l19Copy.calls (A0 : Option Addr) (c0 : Nat) (l0 : List (S86)) (r : List (S86)) (w : World) (hr0 : Kd.C k86 w A0 l0.length l0) (hc0 : l0.length ≤ c0) (h : spec_l19Copy.f l0 = some r) :
    Calls Try.prog 162 #[.slice A0 l0.length c0] w fun e w' => ∃ v0_ : Value, e = .returned (v0_) ∧ Kd.R k86 86 w' w.heap.size (fun _ => True) v0_ r ∧ Below w.heap.size w w' := by
 have HR0 := Aside0.mk hr0; have HC0 := Aside0.mk hc0; clear hr0 hc0
 have HB := Aside0.mk (Below.refl w.heap.size w)
 have H : ((some (([] : List (S86)) : List (S86))).bind fun y301 => (if y301.length + l0.length < 2932031007402 then (some (y301 ++ l0)) else (none))) = some r := h
 clear h
 obtain ⟨y301, hy301⟩ : ∃ y_ : List (S86), y_ = (([] : List (S86))) := ⟨_, rfl⟩
 replace H : (if y301.length + l0.length < 2932031007402 then (some (y301 ++ l0)) else (none)) = some r := by first | (rw [hy301]; with_reducible exact H) | (have H2_ := (Option.bind_some _ _).symm.trans H; rw [hy301]; with_reducible exact H2_) | (have H2_ := (Option.bind_some _ _).symm.trans H; with_reducible exact H2_) | with_reducible exact H | (rw [hy301]; exact H) | exact H
 have Ny301 := Aside0.mk hy301; clear hy301
 by_cases c2 : y301.length + l0.length < 2932031007402
 ·rw [if_pos c2] at H; have LMc2 := Aside0.mk c2; clear c2
  obtain ⟨y304, hy304⟩ : ∃ y_ : List (S86), y_ = (y301 ++ l0) := ⟨_, rfl⟩
  replace H : (some y304) = some r := by first | (rw [hy304]; with_reducible exact H) | (have H2_ := (Option.bind_some _ _).symm.trans H; rw [hy304]; with_reducible exact H2_) | (have H2_ := (Option.bind_some _ _).symm.trans H; with_reducible exact H2_) | with_reducible exact H | (rw [hy304]; exact H) | exact H
  have Ny304 := Aside0.mk hy304; clear hy304
  obtain rfl := Option.some.inj H
  go_enter Try.func162, Try.ntmps162
  go_wp2_with (first | ((with_reducible refine gate_dst (N := 3) rfl ?_); refine Kd.R_lit k86 _ 86 ?hg (N := 3) ?hd (xs := ([] : List (S86))) (inner := []) (ok := fun _ => True) (okp := fun _ => True) ?hr ?hp (fun _ hk => hk) trivial (Below.refl _ _) (Nat.le_refl _) (by simp) ?_; (case hd => rfl); (case hg => rfl); (case hr => first | (go_simp; done) | (go_simp; rfl)); (case hp => exact (Reps.none _ _)); intro v302 w3 ho4 hb hg_ hnew_; clear hg_ hnew_; (first | rw [← Ny301.out] at ho4 | (simp only [Int.reduceToNat] at ho4; rw [← Ny301.out] at ho4)); have n0_ := Aside0.mk (Kd.R_lower ho4 (below_size (Cmp.g HB.out))); have n1_ := Aside0.mk (below_step (Cmp.g HB.out) hb); clear HB; have HO303 := n0_; have HB := n1_; clear n0_ n1_; clear hb ho4) | ((with_reducible refine gate_builtin (b := .append) (xs := #[.tmp 3, .tmp 4]) rfl ?_); at_builtin; refine Kd.R_append_rows k86 (w0 := w) w.heap.size rfl (.tmp 3) (.tmp 4) 40 86 (.agg #[(.int .i64 0), (.int .i64 0), (.int .i64 0), (.int .i64 0), (.int .i64 0), (.int .i64 0)]) 48 rfl Try.underlying40 info86 rfl (by decide) (by omega) v302 y301 l0 _ _ _ (fun _ => True) (fun _ => False) rfl rfl ?aO ?aR (fun _ _ h => h) (fun _ h => h.elim) ?aF ?aB ?aS ?aL ?_; (case aR => repeat (first | exact (Kd.C_below HR0.out HB.out) | (with_reducible refine Kd.C_alloc ?_ _) | (with_reducible refine Kd.C_drewN ?_ _) | (with_reducible refine Kd.C_drew ?_))); (case aB => exact (Cmp.g HB.out)); (case aF => exact (fun _ _ => trivial)); (case aO => exact (Cmp.rr HO303.out)); (case aS => exact (below_size (Cmp.g HB.out))); (case aL => have := LMc2.out; omega); intro v305 w5 ho hb hg hat; rw [← Ny304.out] at ho; have n0_ := Aside0.mk (hb); have n1_ := Aside0.mk (ho); clear HB; clear HO303; have HB := n0_; have HO306 := n1_; clear n0_ n1_; clear ho hb hg hat))
  go_ret
  exact ⟨_, by first | rfl | (simp [errW_none, errW_some] <;> rfl) | (simp [*, errW_none, errW_some] <;> rfl), by (with_reducible repeat (first | apply Kd.R_alloc | apply Kd.R_drewN | apply Kd.R_drew)); exact HO306.out, Cmp.g HB.out⟩
 ·rw [if_neg c2] at H; exact absurd H (by simp)

end Go.Proofs.Ytgcipecdaimjfaa.PFnDeviceLogs

/- Printed functions of the program, out of print.sh, told more shortly. No condition. -/
import Derived.Test.YtpgjecknkmmnhaaCmp
import Derived.Test.YtpgjecknkmmnhaaPFnRemovedx0
import Derived.Test.YtpgjecknkmmnhaaPFnRemovedx1
import Derived.Test.YtpgjecknkmmnhaaPFnRemovedx4
namespace Go.Proofs.Ytpgjecknkmmnhaa.PFnRemoved
open Go.Proofs.Ytpgjecknkmmnhaa
open Go.RowKit Go.Proofs.YtpgjecknkmmnhaaW.PrintWords Go.Proofs.YtpgjecknkmmnhaaW.PrintLast Go.Proofs.YtpgjecknkmmnhaaW.PrintMore
attribute [local go_sem] max2_int min2_int max_two min_two max_three min_three max_four min_four   -- for this text's walks alone
set_option linter.unusedVariables false
set_option linter.unusedSimpArgs false

/-! ### spec_VerifyLog: function 53 -/
def spec_VerifyLog.l0 : Nat → List (S74) → Int → Option (Bool)
  | 0, _, _ => none
  | k + 1, x0, x3 => if x3 < (x0.length : Int) then (if 0 ≤ x3 then (if x3 ≤ (x0.length : Int) then ((spec_l19Step.f k (x0.take (x3 : Int).toNat) ((rd_T74 x0 x3).f0) ((rd_T74 x0 x3).f1) ((rd_T74 x0 x3).f2) ((rd_T74 x0 x3).f3) ((rd_T74 x0 x3).f4) ((rd_T74 x0 x3).f5)).bind fun t217 => (if t217 = true then (spec_VerifyLog.l0 k x0 (wrap64 (x3 + 1))) else (some false))) else (none)) else (none)) else ((spec_l1In.f (x0.length : Int) 1 40).bind fun t218 => (some t218))
def spec_VerifyLog.f (k : Nat) (l0 : List (S74)) : Option (Bool) := spec_VerifyLog.l0 k l0 0
theorem spec_VerifyLog.mono_l : ∀ k, (∀ y0 y1, LeO (spec_VerifyLog.l0 k y0 y1) (spec_VerifyLog.l0 (k + 1) y0 y1))
  | 0 => fun _ _ r h => by simp [spec_VerifyLog.l0] at h
  | k + 1 => by
    have ih0 := spec_VerifyLog.mono_l k
    · intro y0 y1
      unfold spec_VerifyLog.l0
      repeat' first
      | (with_reducible exact ih0 _ _)
      | (with_reducible exact spec_l19Step.mono _ _ _ _ _ _ _ _)
      | (with_reducible exact LeO.refl _)
      | (with_reducible exact LeO.none _)
      | (with_reducible refine LeO.ite ?_ ?_)
      | (with_reducible refine LeO.bind ?_ (fun _ => ?_))
      | exact ih0 _ _
      | exact spec_l19Step.mono _ _ _ _ _ _ _ _
      | exact LeO.none _
      | refine LeO.ite ?_ ?_
      | refine LeO.bind ?_ (fun _ => ?_)
theorem spec_VerifyLog.mono : ∀ a0 k, LeO (spec_VerifyLog.f k a0) (spec_VerifyLog.f (k + 1) a0) := by
  intro a0 k
  have ih0 := spec_VerifyLog.mono_l k
  unfold spec_VerifyLog.f
  repeat' first
      | (with_reducible exact ih0 _ _)
      | (with_reducible exact spec_l19Step.mono _ _ _ _ _ _ _ _)
      | (with_reducible exact LeO.refl _)
      | (with_reducible exact LeO.none _)
      | (with_reducible refine LeO.ite ?_ ?_)
      | (with_reducible refine LeO.bind ?_ (fun _ => ?_))
      | exact ih0 _ _
      | exact spec_l19Step.mono _ _ _ _ _ _ _ _
      | exact LeO.none _
      | refine LeO.ite ?_ ?_
      | refine LeO.bind ?_ (fun _ => ?_)
def spec_VerifyLog.T4 : Bool × List (List Nat × List Nat) := (true, [([], []), ([], []), ([0, 1], [0, 1]), ([], []), ([], []), ([3, 4], [3, 4]), ([5], [5]), ([2, 6], [2, 6]), ([7], [7])])
def spec_VerifyLog.B4 : List Nat := [0, 0, 3, 0, 0, 24, 56, 127, 255]
theorem spec_VerifyLog.tab4 : rtab .any (opsOf Try.f53 4) = spec_VerifyLog.T4 := by kernel_rfl
theorem spec_VerifyLog.bits4 : waitsOk spec_VerifyLog.T4.2 spec_VerifyLog.B4 = true := by kernel_rfl
set_option maxHeartbeats 8000000 in
set_option maxRecDepth 100000 in
theorem spec_VerifyLog.calls (k : Nat) (A0 : Option Addr) (c0 : Nat) (l0 : List (S74)) (r : Bool) (w : World) (hr0 : Kd.C k74 w A0 l0.length l0) (hc0 : l0.length ≤ c0) (h : spec_VerifyLog.f k l0 = some r) :
    Calls Try.prog 53 #[.slice A0 l0.length c0] w fun e w' => e = .returned (.bool r) ∧ Below w.heap.size w w' := by
 have hu74 := Try.underlying74; have HR0 := Aside0.mk hr0; have HC0 := Aside0.mk hc0; clear hr0 hc0
 have HB := Aside0.mk (Below.refl w.heap.size w)
 have H : (spec_VerifyLog.l0 k l0 0) = some r := h
 clear h
 have H' := Aside0.mk H
 clear H
 go_enter Try.func53, Try.ntmps53
 go_wp2
 go_loopg [3] k (fun kq v3 w' => ∃ (x3_1 : Int), v3 = .int .i64 x3_1 ∧ Aside0 (spec_VerifyLog.l0 kq l0 x3_1 = some r) ∧ Aside0 (kq ≤ k) ∧ Aside0 (Below w.heap.size w w'))
 case atStart => exact ⟨(0), (by first | rfl | simp | simp [*]), H', ⟨Nat.le_refl _⟩, ⟨Cmp.g HB.out⟩⟩
 case round =>
  clear H'
  obtain ⟨x3_1, rfl, HA, HK1, HB⟩ := hrel
  cases gk with
  | zero => exact absurd HA.out (by simp [spec_VerifyLog.l0])
  | succ k1 =>
   have H := HA.out; clear HA
   simp only [spec_VerifyLog.l0] at H
   by_cases c2 : x3_1 < (l0.length : Int)
   ·rw [if_pos c2] at H
    have c2b0 : decide (x3_1 < (l0.length : Int)) = true := decide_eq_true c2
    clear c2
    by_cases c3 : 0 ≤ x3_1
    ·rw [if_pos c3] at H
     have c3b0 := eq_true c3
     have c3b1 : decide (0 ≤ x3_1) = true := decide_eq_true c3; clear c3
     by_cases c4 : x3_1 ≤ (l0.length : Int)
     ·rw [if_pos c4] at H
      have c4b0 := eq_true c4
      have c4b1 : decide (x3_1 ≤ (l0.length : Int)) = true := decide_eq_true c4
      clear c4
      obtain ⟨y212, hy212⟩ : ∃ y_ : List (S74), y_ = (l0.take (x3_1 : Int).toNat) := ⟨_, rfl⟩
      replace H : ((spec_l19Step.f k1 y212 ((rd_T74 l0 x3_1).f0) ((rd_T74 l0 x3_1).f1) ((rd_T74 l0 x3_1).f2) ((rd_T74 l0 x3_1).f3) ((rd_T74 l0 x3_1).f4) ((rd_T74 l0 x3_1).f5)).bind fun t217 => (if t217 = true then (spec_VerifyLog.l0 k1 l0 (wrap64 (x3_1 + 1))) else (some false))) = some r := by first | (rw [hy212]; with_reducible exact H) | (have H2_ := (Option.bind_some _ _).symm.trans H; rw [hy212]; with_reducible exact H2_) | (have H2_ := (Option.bind_some _ _).symm.trans H; with_reducible exact H2_) | with_reducible exact H | (rw [hy212]; exact H) | exact H
      have Ny212 := Aside0.mk hy212; clear hy212; replace H := Option.bind_eq_some_iff.mp H; obtain ⟨t217, A50, H⟩ := H; (try dsimp only at H); have A5 := Aside0.mk A50; clear A50
      by_cases c6 : t217 = true
      ·subst c6; rw [if_pos rfl] at H
       have H' := Aside0.mk H
       clear H
       try go_wp2
       have n0_ := Aside0.mk (below_drew1 HB.out); clear HB; have HB := n0_; clear n0_
       have q8 : (x3_1 : Int) ≤ ((l0.length : Int) : Int) := of_decide_eq_true Cmp.d
       obtain ⟨i08, hi08, _, hsz8, _⟩ := info_parts info74
       have hroom8 : l0.length ≤ c0 := HC0.out
       have hC8 : Kd.C k74 _ A0 l0.length l0 := HR0.out
       have hcut8 := cut_to (P := Try.prog) 24 74 .i64 Try.underlying24 hi08 A0 l0.length c0 x3_1 (of_decide_eq_true Cmp.d) q8 hroom8
       have hr8 := Kd.C_take (m := (x3_1 : Int).toNat) hC8 (by omega)
       have hy8 : y212.length = (x3_1 : Int).toNat := (by rw [Ny212.out, List.length_take]; omega)
       rw [← Ny212.out] at hr8
       rw [← hy8] at hcut8
       have HR215 := Aside0.mk hr8
       have HC215 := Aside0.mk (show y212.length ≤ c0 from by omega)
       clear hr8 hC8 hroom8 hi08 hsz8; have KY8 := Aside0.mk hy8; clear hy8; replace q8 := eq_true q8
       have p216 : 0 ≤ (x3_1 : Int) := of_decide_eq_true Cmp.d
       have q216 : x3_1 < (l0.length : Int) := of_decide_eq_true Cmp.d
       obtain ⟨ad216, e216, hx216_0, hx216_1, hx216_2, hx216_3, hx216_4, hx216_5⟩ := at_T74 HR0.out x3_1 p216 q216
       have hw216_5 := hx216_5; have hw216_4 := hx216_4; have hw216_3 := hx216_3; have hw216_2 := hx216_2; have hw216_1 := hx216_1; have hw216_0 := hx216_0; cases e216
       replace hx216_0 := (HB.out.cell (World.block_lt_of_cell? w _ hx216_0)).trans hx216_0
       replace hx216_1 := (HB.out.cell (World.block_lt_of_cell? w _ hx216_1)).trans hx216_1
       replace hx216_2 := (HB.out.cell (World.block_lt_of_cell? w _ hx216_2)).trans hx216_2
       replace hx216_3 := (HB.out.cell (World.block_lt_of_cell? w _ hx216_3)).trans hx216_3
       replace hx216_4 := (HB.out.cell (World.block_lt_of_cell? w _ hx216_4)).trans hx216_4
       replace hx216_5 := (HB.out.cell (World.block_lt_of_cell? w _ hx216_5)).trans hx216_5
       replace p216 := eq_true p216; replace q216 := eq_true q216
       refine start_ (n := 9) (S := fun w' => w'.cell? (ad216.add ((x3_1).toNat * 6)) = some (.int .i64 ((rd_T74 l0 x3_1).f0)) ∧ w'.cell? ⟨(ad216.add ((x3_1).toNat * 6)).block, (ad216.add ((x3_1).toNat * 6)).off + 1, none⟩ = some (.int .i64 ((rd_T74 l0 x3_1).f1)) ∧ w'.cell? ⟨(ad216.add ((x3_1).toNat * 6)).block, (ad216.add ((x3_1).toNat * 6)).off + 2, none⟩ = some (.int .i64 ((rd_T74 l0 x3_1).f2)) ∧ w'.cell? ⟨(ad216.add ((x3_1).toNat * 6)).block, (ad216.add ((x3_1).toNat * 6)).off + 3, none⟩ = some (.int .i64 ((rd_T74 l0 x3_1).f3)) ∧ w'.cell? ⟨(ad216.add ((x3_1).toNat * 6)).block, (ad216.add ((x3_1).toNat * 6)).off + 4, none⟩ = some (.int .i64 ((rd_T74 l0 x3_1).f4)) ∧ w'.cell? ⟨(ad216.add ((x3_1).toNat * 6)).block, (ad216.add ((x3_1).toNat * 6)).off + 5, none⟩ = some (.int .i64 ((rd_T74 l0 x3_1).f5))) (ds := []) (Cmp.bm 0 9) (by kernel_rfl) rfl rfl ⟨((HB.out.cell (World.block_lt_of_cell? w _ hw216_0)).trans hw216_0), ((HB.out.cell (World.block_lt_of_cell? w _ hw216_1)).trans hw216_1), ((HB.out.cell (World.block_lt_of_cell? w _ hw216_2)).trans hw216_2), ((HB.out.cell (World.block_lt_of_cell? w _ hw216_3)).trans hw216_3), ((HB.out.cell (World.block_lt_of_cell? w _ hw216_4)).trans hw216_4), ((HB.out.cell (World.block_lt_of_cell? w _ hw216_5)).trans hw216_5)⟩ (fun hHeld => ?_); refine with_tabW spec_VerifyLog.tab4 spec_VerifyLog.bits4 (fun HT_ HW_ => ?_)
       generalize wr.drew = w7 at HB HR215 hx216_0 hx216_1 hx216_2 hx216_3 hx216_4 hx216_5 hHeld ⊢
       refine Cmp.pu HT_ 0 10 (Cmp.bm 1 8) ?_; refine Cmp.pu HT_ 1 11 (Cmp.bm 2 7) ?_; refine Cmp.pu HT_ 2 12 (Cmp.bm 3 6) ?_; refine Cmp.pu HT_ 3 13 (Cmp.bm 4 5) ?_; refine Cmp.pu HT_ 4 14 (Cmp.bm 5 4) ?_; refine Cmp.pu HT_ 5 15 (Cmp.bm 6 3) ?_; refine Cmp.tk HT_ HW_ hHeld 6 16 (Cmp.bm 7 2) ?_
       refine one_ (i := 7) (N := some 17) (Cmp.bm 8 1) rfl rfl (one_of HT_.out (by kernel_rfl)) (by decide) (fun K hK => ?_)
       refine goes_ Try.func98 (by kernel_rfl) rfl #[.slice (some ad216) y212.length c0, .agg #[.int .i64 ((rd_T74 l0 x3_1).f0), .int .i64 ((rd_T74 l0 x3_1).f1), .int .i64 ((rd_T74 l0 x3_1).f2), .int .i64 ((rd_T74 l0 x3_1).f3), .int .i64 ((rd_T74 l0 x3_1).f4), .int .i64 ((rd_T74 l0 x3_1).f5)]] (by rfl) rfl rfl Cmp.q ?_
       with_reducible refine (spec_l19Step.calls k1 _ _ y212 ((rd_T74 l0 x3_1).f0) ((rd_T74 l0 x3_1).f1) ((rd_T74 l0 x3_1).f2) ((rd_T74 l0 x3_1).f3) ((rd_T74 l0 x3_1).f4) ((rd_T74 l0 x3_1).f5) true _ ?side1 ?side2 A5.out).mono ?_
       (case side1 => exact Cmp.rc (Kd.C_below HR215.out HB.out))
       (case side2 => exact HC215.out)
       rintro e w9 ⟨rfl, hb⟩; refine ⟨_, rfl, ?_⟩
       have n0_ := Aside0.mk (below_step (Cmp.g HB.out) hb)
       clear HB; have HB := n0_; clear n0_; (try clear hb); (try clear hb2); (try clear hk); (try clear hi)
       refine hK.out _ _ ⟨((HB.out.cell (World.block_lt_of_cell? w _ hw216_0)).trans hw216_0), ((HB.out.cell (World.block_lt_of_cell? w _ hw216_1)).trans hw216_1), ((HB.out.cell (World.block_lt_of_cell? w _ hw216_2)).trans hw216_2), ((HB.out.cell (World.block_lt_of_cell? w _ hw216_3)).trans hw216_3), ((HB.out.cell (World.block_lt_of_cell? w _ hw216_4)).trans hw216_4), ((HB.out.cell (World.block_lt_of_cell? w _ hw216_5)).trans hw216_5)⟩ (fun hHeld => ?_)
       clear hK K
       refine norm_ (a' := ?_) ?_ ?_
       rotate_left
       ·show Act.put _ (some 17) _ = _
        simp only [Act.put, Cmp.s, Cmp.z, Cmp.c, i64_w, i32_w]; rfl
       refine Cmp.pu HT_ 8 18 (Cmp.bm 9 0) ?_
       refine done_ (done_of HT_.out (by kernel_rfl)) ?_
       try go_wp2
       go_roundg k1
       case measure => have := HK1.out; omega
       case rel => exact ⟨(wrap64 (x3_1 + 1)), (by first | rfl | simp | simp [*]), H', ⟨by have := HK1.out; omega⟩, ⟨Cmp.g HB.out⟩⟩
      ·replace c6 := Bool.eq_false_iff.mpr c6
       subst c6
       have H1 : (some false) = some r := by rw [if_neg (show ¬ (false = true) by decide)] at H; exact H
       clear H; have H := H1; clear H1
       obtain rfl := Option.some.inj H
       try go_wp2
       have n0_ := Aside0.mk (below_drew1 HB.out); clear HB; have HB := n0_; clear n0_
       have q11 : (x3_1 : Int) ≤ ((l0.length : Int) : Int) := of_decide_eq_true Cmp.d
       obtain ⟨i011, hi011, _, hsz11, _⟩ := info_parts info74
       have hroom11 : l0.length ≤ c0 := HC0.out
       have hC11 : Kd.C k74 _ A0 l0.length l0 := HR0.out
       have hcut11 := cut_to (P := Try.prog) 24 74 .i64 Try.underlying24 hi011 A0 l0.length c0 x3_1 (of_decide_eq_true Cmp.d) q11 hroom11
       have hr11 := Kd.C_take (m := (x3_1 : Int).toNat) hC11 (by omega)
       have hy11 : y212.length = (x3_1 : Int).toNat := (by rw [Ny212.out, List.length_take]; omega)
       rw [← Ny212.out] at hr11
       rw [← hy11] at hcut11
       have HR215 := Aside0.mk hr11
       have HC215 := Aside0.mk (show y212.length ≤ c0 from by omega)
       clear hr11 hC11 hroom11 hi011 hsz11; have KY11 := Aside0.mk hy11; clear hy11; replace q11 := eq_true q11
       have p216 : 0 ≤ (x3_1 : Int) := of_decide_eq_true Cmp.d
       have q216 : x3_1 < (l0.length : Int) := of_decide_eq_true Cmp.d
       obtain ⟨ad216, e216, hx216_0, hx216_1, hx216_2, hx216_3, hx216_4, hx216_5⟩ := at_T74 HR0.out x3_1 p216 q216
       have hw216_5 := hx216_5; have hw216_4 := hx216_4; have hw216_3 := hx216_3; have hw216_2 := hx216_2; have hw216_1 := hx216_1; have hw216_0 := hx216_0; cases e216
       replace hx216_0 := (HB.out.cell (World.block_lt_of_cell? w _ hx216_0)).trans hx216_0
       replace hx216_1 := (HB.out.cell (World.block_lt_of_cell? w _ hx216_1)).trans hx216_1
       replace hx216_2 := (HB.out.cell (World.block_lt_of_cell? w _ hx216_2)).trans hx216_2
       replace hx216_3 := (HB.out.cell (World.block_lt_of_cell? w _ hx216_3)).trans hx216_3
       replace hx216_4 := (HB.out.cell (World.block_lt_of_cell? w _ hx216_4)).trans hx216_4
       replace hx216_5 := (HB.out.cell (World.block_lt_of_cell? w _ hx216_5)).trans hx216_5
       replace p216 := eq_true p216; replace q216 := eq_true q216
       refine start_ (n := 9) (S := fun w' => w'.cell? (ad216.add ((x3_1).toNat * 6)) = some (.int .i64 ((rd_T74 l0 x3_1).f0)) ∧ w'.cell? ⟨(ad216.add ((x3_1).toNat * 6)).block, (ad216.add ((x3_1).toNat * 6)).off + 1, none⟩ = some (.int .i64 ((rd_T74 l0 x3_1).f1)) ∧ w'.cell? ⟨(ad216.add ((x3_1).toNat * 6)).block, (ad216.add ((x3_1).toNat * 6)).off + 2, none⟩ = some (.int .i64 ((rd_T74 l0 x3_1).f2)) ∧ w'.cell? ⟨(ad216.add ((x3_1).toNat * 6)).block, (ad216.add ((x3_1).toNat * 6)).off + 3, none⟩ = some (.int .i64 ((rd_T74 l0 x3_1).f3)) ∧ w'.cell? ⟨(ad216.add ((x3_1).toNat * 6)).block, (ad216.add ((x3_1).toNat * 6)).off + 4, none⟩ = some (.int .i64 ((rd_T74 l0 x3_1).f4)) ∧ w'.cell? ⟨(ad216.add ((x3_1).toNat * 6)).block, (ad216.add ((x3_1).toNat * 6)).off + 5, none⟩ = some (.int .i64 ((rd_T74 l0 x3_1).f5))) (ds := []) (Cmp.bm 0 9) (by kernel_rfl) rfl rfl ⟨((HB.out.cell (World.block_lt_of_cell? w _ hw216_0)).trans hw216_0), ((HB.out.cell (World.block_lt_of_cell? w _ hw216_1)).trans hw216_1), ((HB.out.cell (World.block_lt_of_cell? w _ hw216_2)).trans hw216_2), ((HB.out.cell (World.block_lt_of_cell? w _ hw216_3)).trans hw216_3), ((HB.out.cell (World.block_lt_of_cell? w _ hw216_4)).trans hw216_4), ((HB.out.cell (World.block_lt_of_cell? w _ hw216_5)).trans hw216_5)⟩ (fun hHeld => ?_); refine with_tabW spec_VerifyLog.tab4 spec_VerifyLog.bits4 (fun HT_ HW_ => ?_)
       generalize wr.drew = w10 at HB HR215 hx216_0 hx216_1 hx216_2 hx216_3 hx216_4 hx216_5 hHeld ⊢
       refine Cmp.pu HT_ 0 10 (Cmp.bm 1 8) ?_; refine Cmp.pu HT_ 1 11 (Cmp.bm 2 7) ?_; refine Cmp.pu HT_ 2 12 (Cmp.bm 3 6) ?_; refine Cmp.pu HT_ 3 13 (Cmp.bm 4 5) ?_; refine Cmp.pu HT_ 4 14 (Cmp.bm 5 4) ?_; refine Cmp.pu HT_ 5 15 (Cmp.bm 6 3) ?_; refine Cmp.tk HT_ HW_ hHeld 6 16 (Cmp.bm 7 2) ?_
       refine one_ (i := 7) (N := some 17) (Cmp.bm 8 1) rfl rfl (one_of HT_.out (by kernel_rfl)) (by decide) (fun K hK => ?_)
       refine goes_ Try.func98 (by kernel_rfl) rfl #[.slice (some ad216) y212.length c0, .agg #[.int .i64 ((rd_T74 l0 x3_1).f0), .int .i64 ((rd_T74 l0 x3_1).f1), .int .i64 ((rd_T74 l0 x3_1).f2), .int .i64 ((rd_T74 l0 x3_1).f3), .int .i64 ((rd_T74 l0 x3_1).f4), .int .i64 ((rd_T74 l0 x3_1).f5)]] (by rfl) rfl rfl Cmp.q ?_
       with_reducible refine (spec_l19Step.calls k1 _ _ y212 ((rd_T74 l0 x3_1).f0) ((rd_T74 l0 x3_1).f1) ((rd_T74 l0 x3_1).f2) ((rd_T74 l0 x3_1).f3) ((rd_T74 l0 x3_1).f4) ((rd_T74 l0 x3_1).f5) false _ ?side1 ?side2 A5.out).mono ?_
       (case side1 => exact Cmp.rc (Kd.C_below HR215.out HB.out))
       (case side2 => exact HC215.out)
       rintro e w12 ⟨rfl, hb⟩; refine ⟨_, rfl, ?_⟩
       have n0_ := Aside0.mk (below_step (Cmp.g HB.out) hb)
       clear HB; have HB := n0_; clear n0_; (try clear hb); (try clear hb2); (try clear hk); (try clear hi)
       refine hK.out _ _ ⟨((HB.out.cell (World.block_lt_of_cell? w _ hw216_0)).trans hw216_0), ((HB.out.cell (World.block_lt_of_cell? w _ hw216_1)).trans hw216_1), ((HB.out.cell (World.block_lt_of_cell? w _ hw216_2)).trans hw216_2), ((HB.out.cell (World.block_lt_of_cell? w _ hw216_3)).trans hw216_3), ((HB.out.cell (World.block_lt_of_cell? w _ hw216_4)).trans hw216_4), ((HB.out.cell (World.block_lt_of_cell? w _ hw216_5)).trans hw216_5)⟩ (fun hHeld => ?_)
       clear hK K
       refine norm_ (a' := ?_) ?_ ?_
       rotate_left
       ·show Act.put _ (some 17) _ = _
        simp only [Act.put, Cmp.s, Cmp.z, Cmp.c, i64_w, i32_w]; rfl
       refine Cmp.pu HT_ 8 18 (Cmp.bm 9 0) ?_
       refine done_ (done_of HT_.out (by kernel_rfl)) ?_
       try go_wp2
       go_ret
       exact ⟨by first | rfl | (simp [errW_none, errW_some] <;> rfl) | (simp [*, errW_none, errW_some] <;> rfl), Cmp.g HB.out⟩
     ·rw [if_neg c4] at H; exact absurd H (by simp)
    ·rw [if_neg c3] at H; exact absurd H (by simp)
   ·rw [if_neg c2] at H
    have c2b0 : decide (x3_1 < (l0.length : Int)) = false := decide_eq_false c2
    clear c2; replace H := Option.bind_eq_some_iff.mp H; obtain ⟨t218, A130, H⟩ := H; (try dsimp only at H); have A13 := Aside0.mk A130; clear A130
    obtain rfl := Option.some.inj H
    go_wp2_with (first | ((with_reducible refine gate_callee (f := 99) rfl ?_); refine goesL_ (some 21) rfl rfl Try.func99 (by kernel_rfl) rfl #[.int .i64 (l0.length : Int), .int .i64 1, .int .i64 40] rfl Cmp.q ?_; (with_reducible refine (spec_l1In.calls (l0.length : Int) 1 40 t218 _ A13.out).mono ?_); rintro e w' ⟨rfl, ⟨nd, rfl⟩⟩; refine ⟨_, rfl, ?_⟩))
    go_ret
    exact ⟨by first | rfl | (simp [errW_none, errW_some] <;> rfl) | (simp [*, errW_none, errW_some] <;> rfl), Cmp.g HB.out⟩

end Go.Proofs.Ytpgjecknkmmnhaa.PFnRemoved

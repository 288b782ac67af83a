/- Printed functions of the program, out of print.sh, told more shortly. No condition. -/
import Derived.Test.YtoffbjjkegeccaaCmp
import Derived.Test.YtoffbjjkegeccaaPFnExactFindAccountx0
import Derived.Test.YtoffbjjkegeccaaPFnExactFindAccountx2
namespace Go.Proofs.Ytoffbjjkegeccaa.PFnExactFindAccount
open Go.Proofs.Ytoffbjjkegeccaa
open Go.RowKit Go.Proofs.YtoffbjjkegeccaaW.PrintWords Go.Proofs.YtoffbjjkegeccaaW.PrintLast Go.Proofs.YtoffbjjkegeccaaW.PrintMore
attribute [local go_sem] max2_int min2_int max_two min_two max_three min_three max_four min_four   -- for this text's walks alone
set_option linter.unusedVariables false
set_option linter.unusedSimpArgs false

/-! ### laws_eqCredentialS: function 51 -/
def laws_eqCredentialS.l0 : Nat → List (S83) → List (S83) → Int → Option (Bool)
  | 0, _, _, _ => none
  | k + 1, x0, x1, x5 => if x5 < (x0.length : Int) then (if 0 ≤ x5 then (if x5 < (x1.length : Int) then ((laws_eqCredential.f ((rd_T83 x0 x5).f0) ((rd_T83 x0 x5).f1) ((rd_T83 x0 x5).f2) ((rd_T83 x0 x5).f3) ((rd_T83 x1 x5).f0) ((rd_T83 x1 x5).f1) ((rd_T83 x1 x5).f2) ((rd_T83 x1 x5).f3)).bind fun t184 => (if t184 = true then (laws_eqCredentialS.l0 k x0 x1 (wrap64 (x5 + 1))) else (some false))) else (none)) else (none)) else (some true)
def laws_eqCredentialS.f (k : Nat) (l0 : List (S83)) (l1 : List (S83)) : Option (Bool) := if (l0.length : Int) = (l1.length : Int) then (laws_eqCredentialS.l0 k l0 l1 0) else (some false)
theorem laws_eqCredentialS.mono_l : ∀ k, (∀ y0 y1 y2, LeO (laws_eqCredentialS.l0 k y0 y1 y2) (laws_eqCredentialS.l0 (k + 1) y0 y1 y2))
  | 0 => fun _ _ _ r h => by simp [laws_eqCredentialS.l0] at h
  | k + 1 => by
    have ih0 := laws_eqCredentialS.mono_l k
    · intro y0 y1 y2
      unfold laws_eqCredentialS.l0
      repeat' first
      | (with_reducible exact ih0 _ _ _)
      | (with_reducible exact LeO.refl _)
      | (with_reducible exact LeO.none _)
      | (with_reducible refine LeO.ite ?_ ?_)
      | (with_reducible refine LeO.bind ?_ (fun _ => ?_))
      | exact ih0 _ _ _
      | exact LeO.none _
      | refine LeO.ite ?_ ?_
      | refine LeO.bind ?_ (fun _ => ?_)
theorem laws_eqCredentialS.mono : ∀ a0 a1 k, LeO (laws_eqCredentialS.f k a0 a1) (laws_eqCredentialS.f (k + 1) a0 a1) := by
  intro a0 a1 k
  have ih0 := laws_eqCredentialS.mono_l k
  unfold laws_eqCredentialS.f
  repeat' first
      | (with_reducible exact ih0 _ _ _)
      | (with_reducible exact LeO.refl _)
      | (with_reducible exact LeO.none _)
      | (with_reducible refine LeO.ite ?_ ?_)
      | (with_reducible refine LeO.bind ?_ (fun _ => ?_))
      | exact ih0 _ _ _
      | exact LeO.none _
      | refine LeO.ite ?_ ?_
      | refine LeO.bind ?_ (fun _ => ?_)
def laws_eqCredentialS.T6 : Bool × List (List Nat × List Nat) := (true, [([], []), ([], []), ([0, 1], [0, 1]), ([2], [2]), ([], []), ([], []), ([4, 5], [4, 5]), ([6], [6]), ([3, 7], [3, 7]), ([8], [8])])
def laws_eqCredentialS.B6 : List Nat := [0, 0, 3, 7, 0, 0, 48, 112, 255, 511]
theorem laws_eqCredentialS.tab6 : rtab .any (opsOf Try.f51 6) = laws_eqCredentialS.T6 := by kernel_rfl
theorem laws_eqCredentialS.bits6 : waitsOk laws_eqCredentialS.T6.2 laws_eqCredentialS.B6 = true := by kernel_rfl
set_option maxHeartbeats 8000000 in
set_option maxRecDepth 100000 in
theorem laws_eqCredentialS.calls (k : Nat) (A0 : Option Addr) (c0 : Nat) (l0 : List (S83)) (A1 : Option Addr) (c1 : Nat) (l1 : List (S83)) (r : Bool) (w : World) (hr0 : Kd.C k83 w A0 l0.length l0) (hc0 : l0.length ≤ c0) (hr1 : Kd.C k83 w A1 l1.length l1) (hc1 : l1.length ≤ c1) (h : laws_eqCredentialS.f k l0 l1 = some r) :
    Calls Try.prog 51 #[.slice A0 l0.length c0, .slice A1 l1.length c1] w fun e w' => e = .returned (.bool r) ∧ Below w.heap.size w w' := by
 have hu83 := Try.underlying83; have HR0 := Aside0.mk hr0; have HC0 := Aside0.mk hc0; clear hr0 hc0; have HR1 := Aside0.mk hr1; have HC1 := Aside0.mk hc1; clear hr1 hc1
 have HB := Aside0.mk (Below.refl w.heap.size w)
 have H : (if (l0.length : Int) = (l1.length : Int) then (laws_eqCredentialS.l0 k l0 l1 0) else (some false)) = some r := h
 clear h
 by_cases c3 : (l0.length : Int) = (l1.length : Int)
 ·rw [if_pos c3] at H
  have c3b0 : ((l0.length : Int) == (l1.length : Int)) = true := beq_iff_eq.mpr c3
  have c3b1 : ((l0.length : Int) != (l1.length : Int)) = false := bne_eq_false_iff_eq.mpr c3
  have c3b2 : (l0.length == l1.length) = true := by first | simpa using c3 | (simp at c3 ⊢; omega)
  clear c3
  have H' := Aside0.mk H
  clear H
  go_enter Try.func51, Try.ntmps51
  go_wp2
  go_loopg [5] k (fun kq v5 w' => ∃ (x5_1 : Int), v5 = .int .i64 x5_1 ∧ Aside0 (laws_eqCredentialS.l0 kq l0 l1 x5_1 = some r) ∧ Aside0 (kq ≤ k) ∧ Aside0 (Below w.heap.size w w'))
  case atStart => exact ⟨(0), (by first | rfl | simp | simp [*]), H', ⟨Nat.le_refl _⟩, ⟨Cmp.g HB.out⟩⟩
  case round =>
   clear H'
   (try clear c1); (try clear p2); (try clear c3); (try clear c3b0); (try clear c3b1); (try clear c3b2)
   obtain ⟨x5_1, rfl, HA, HK1, HB⟩ := hrel
   cases gk with
   | zero => exact absurd HA.out (by simp [laws_eqCredentialS.l0])
   | succ k1 =>
    have H := HA.out; clear HA
    simp only [laws_eqCredentialS.l0] at H
    by_cases c4 : x5_1 < (l0.length : Int)
    ·rw [if_pos c4] at H
     have c4b0 : decide (x5_1 < (l0.length : Int)) = true := decide_eq_true c4
     clear c4
     by_cases c5 : 0 ≤ x5_1
     ·rw [if_pos c5] at H; have c5b0 : decide (0 ≤ x5_1) = true := decide_eq_true c5; clear c5
      by_cases c6 : x5_1 < (l1.length : Int)
      ·rw [if_pos c6] at H
       have c6b0 : decide (x5_1 < (l1.length : Int)) = true := decide_eq_true c6
       clear c6; replace H := Option.bind_eq_some_iff.mp H; obtain ⟨t184, A70, H⟩ := H; (try dsimp only at H); have A7 := Aside0.mk A70; clear A70
       by_cases c8 : t184 = true
       ·subst c8; rw [if_pos rfl] at H
        have H' := Aside0.mk H
        clear H
        try go_wp2
        have n0_ := Aside0.mk (below_drew1 HB.out); clear HB; have HB := n0_; clear n0_
        have p182 : 0 ≤ (x5_1 : Int) := of_decide_eq_true Cmp.d
        have q182 : x5_1 < (l0.length : Int) := of_decide_eq_true Cmp.d
        obtain ⟨ad182, e182, hx182_0, hx182_1, hx182_2, hx182_3⟩ := at_T83 HR0.out x5_1 p182 q182
        have hw182_3 := hx182_3; have hw182_2 := hx182_2; have hw182_1 := hx182_1; have hw182_0 := hx182_0; cases e182
        replace hx182_0 := (HB.out.cell (World.block_lt_of_cell? w _ hx182_0)).trans hx182_0
        replace hx182_1 := (HB.out.cell (World.block_lt_of_cell? w _ hx182_1)).trans hx182_1
        replace hx182_2 := (HB.out.cell (World.block_lt_of_cell? w _ hx182_2)).trans hx182_2
        replace hx182_3 := (HB.out.cell (World.block_lt_of_cell? w _ hx182_3)).trans hx182_3
        replace p182 := eq_true p182; replace q182 := eq_true q182
        have p183 : 0 ≤ (x5_1 : Int) := of_decide_eq_true Cmp.d
        have q183 : x5_1 < (l1.length : Int) := of_decide_eq_true Cmp.d
        obtain ⟨ad183, e183, hx183_0, hx183_1, hx183_2, hx183_3⟩ := at_T83 HR1.out x5_1 p183 q183
        have hw183_3 := hx183_3; have hw183_2 := hx183_2; have hw183_1 := hx183_1; have hw183_0 := hx183_0; cases e183
        replace hx183_0 := (HB.out.cell (World.block_lt_of_cell? w _ hx183_0)).trans hx183_0
        replace hx183_1 := (HB.out.cell (World.block_lt_of_cell? w _ hx183_1)).trans hx183_1
        replace hx183_2 := (HB.out.cell (World.block_lt_of_cell? w _ hx183_2)).trans hx183_2
        replace hx183_3 := (HB.out.cell (World.block_lt_of_cell? w _ hx183_3)).trans hx183_3
        replace p183 := eq_true p183; replace q183 := eq_true q183
        refine start_ (n := 10) (S := fun w' => w'.cell? (ad182.add ((x5_1).toNat * 4)) = some (.int .i64 ((rd_T83 l0 x5_1).f0)) ∧ w'.cell? ⟨(ad182.add ((x5_1).toNat * 4)).block, (ad182.add ((x5_1).toNat * 4)).off + 1, none⟩ = some (.int .i64 ((rd_T83 l0 x5_1).f1)) ∧ w'.cell? ⟨(ad182.add ((x5_1).toNat * 4)).block, (ad182.add ((x5_1).toNat * 4)).off + 2, none⟩ = some (.int .i64 ((rd_T83 l0 x5_1).f2)) ∧ w'.cell? ⟨(ad182.add ((x5_1).toNat * 4)).block, (ad182.add ((x5_1).toNat * 4)).off + 3, none⟩ = some (.bool ((rd_T83 l0 x5_1).f3)) ∧ w'.cell? (ad183.add ((x5_1).toNat * 4)) = some (.int .i64 ((rd_T83 l1 x5_1).f0)) ∧ w'.cell? ⟨(ad183.add ((x5_1).toNat * 4)).block, (ad183.add ((x5_1).toNat * 4)).off + 1, none⟩ = some (.int .i64 ((rd_T83 l1 x5_1).f1)) ∧ w'.cell? ⟨(ad183.add ((x5_1).toNat * 4)).block, (ad183.add ((x5_1).toNat * 4)).off + 2, none⟩ = some (.int .i64 ((rd_T83 l1 x5_1).f2)) ∧ w'.cell? ⟨(ad183.add ((x5_1).toNat * 4)).block, (ad183.add ((x5_1).toNat * 4)).off + 3, none⟩ = some (.bool ((rd_T83 l1 x5_1).f3))) (ds := []) (Cmp.bm 0 10) (by kernel_rfl) rfl rfl ⟨((HB.out.cell (World.block_lt_of_cell? w _ hw182_0)).trans hw182_0), ((HB.out.cell (World.block_lt_of_cell? w _ hw182_1)).trans hw182_1), ((HB.out.cell (World.block_lt_of_cell? w _ hw182_2)).trans hw182_2), ((HB.out.cell (World.block_lt_of_cell? w _ hw182_3)).trans hw182_3), ((HB.out.cell (World.block_lt_of_cell? w _ hw183_0)).trans hw183_0), ((HB.out.cell (World.block_lt_of_cell? w _ hw183_1)).trans hw183_1), ((HB.out.cell (World.block_lt_of_cell? w _ hw183_2)).trans hw183_2), ((HB.out.cell (World.block_lt_of_cell? w _ hw183_3)).trans hw183_3)⟩ (fun hHeld => ?_); refine with_tabW laws_eqCredentialS.tab6 laws_eqCredentialS.bits6 (fun HT_ HW_ => ?_)
        generalize wr.drew = w9 at HB hx182_0 hx182_1 hx182_2 hx182_3 hx183_0 hx183_1 hx183_2 hx183_3 hHeld ⊢
        refine Cmp.pu HT_ 0 17 (Cmp.bm 1 9) ?_; refine Cmp.pu HT_ 1 18 (Cmp.bm 2 8) ?_; refine Cmp.pu HT_ 2 19 (Cmp.bm 3 7) ?_; refine Cmp.pu HT_ 4 21 (Cmp.bb 10 23) ?_; refine Cmp.pu HT_ 5 22 (Cmp.bb 10 55) ?_; refine Cmp.pu HT_ 6 23 (Cmp.bb 10 119) ?_; refine Cmp.tk HT_ HW_ hHeld 3 20 (Cmp.bm 7 3) ?_; refine Cmp.tk HT_ HW_ hHeld 7 24 (Cmp.bm 8 2) ?_
        refine one_ (i := 8) (N := some 25) (Cmp.bm 9 1) rfl rfl (one_of HT_.out (by kernel_rfl)) (by decide) (fun K hK => ?_)
        refine goes_ Try.func85 (by kernel_rfl) rfl #[.agg #[.int .i64 ((rd_T83 l0 x5_1).f0), .int .i64 ((rd_T83 l0 x5_1).f1), .int .i64 ((rd_T83 l0 x5_1).f2), .bool ((rd_T83 l0 x5_1).f3)], .agg #[.int .i64 ((rd_T83 l1 x5_1).f0), .int .i64 ((rd_T83 l1 x5_1).f1), .int .i64 ((rd_T83 l1 x5_1).f2), .bool ((rd_T83 l1 x5_1).f3)]] (by rfl) rfl rfl Cmp.q ?_
        with_reducible refine (laws_eqCredential.calls ((rd_T83 l0 x5_1).f0) ((rd_T83 l0 x5_1).f1) ((rd_T83 l0 x5_1).f2) ((rd_T83 l0 x5_1).f3) ((rd_T83 l1 x5_1).f0) ((rd_T83 l1 x5_1).f1) ((rd_T83 l1 x5_1).f2) ((rd_T83 l1 x5_1).f3) true _ A7.out).mono ?_
        rintro e w10 ⟨rfl, hb⟩; refine ⟨_, rfl, ?_⟩
        have n0_ := Aside0.mk (below_step (Cmp.g HB.out) hb)
        clear HB; have HB := n0_; clear n0_; (try clear hb); (try clear hb2); (try clear hk); (try clear hi)
        refine hK.out _ _ ⟨((HB.out.cell (World.block_lt_of_cell? w _ hw182_0)).trans hw182_0), ((HB.out.cell (World.block_lt_of_cell? w _ hw182_1)).trans hw182_1), ((HB.out.cell (World.block_lt_of_cell? w _ hw182_2)).trans hw182_2), ((HB.out.cell (World.block_lt_of_cell? w _ hw182_3)).trans hw182_3), ((HB.out.cell (World.block_lt_of_cell? w _ hw183_0)).trans hw183_0), ((HB.out.cell (World.block_lt_of_cell? w _ hw183_1)).trans hw183_1), ((HB.out.cell (World.block_lt_of_cell? w _ hw183_2)).trans hw183_2), ((HB.out.cell (World.block_lt_of_cell? w _ hw183_3)).trans hw183_3)⟩ (fun hHeld => ?_)
        clear hK K
        refine norm_ (a' := ?_) ?_ ?_
        rotate_left
        ·show Act.put _ (some 25) _ = _
         simp only [Act.put, Cmp.s, Cmp.z, Cmp.c, i64_w, i32_w]; rfl
        refine Cmp.pu HT_ 9 26 (Cmp.bm 10 0) ?_
        refine done_ (done_of HT_.out (by kernel_rfl)) ?_
        try go_wp2
        go_roundg k1
        case measure => have := HK1.out; omega
        case rel => exact ⟨(wrap64 (x5_1 + 1)), (by first | rfl | simp | simp [*]), H', ⟨by have := HK1.out; omega⟩, ⟨Cmp.g HB.out⟩⟩
       ·replace c8 := Bool.eq_false_iff.mpr c8
        subst c8
        have H1 : (some false) = some r := by rw [if_neg (show ¬ (false = true) by decide)] at H; exact H
        clear H; have H := H1; clear H1
        obtain rfl := Option.some.inj H
        try go_wp2
        have n0_ := Aside0.mk (below_drew1 HB.out); clear HB; have HB := n0_; clear n0_
        have p182 : 0 ≤ (x5_1 : Int) := of_decide_eq_true Cmp.d
        have q182 : x5_1 < (l0.length : Int) := of_decide_eq_true Cmp.d
        obtain ⟨ad182, e182, hx182_0, hx182_1, hx182_2, hx182_3⟩ := at_T83 HR0.out x5_1 p182 q182
        have hw182_3 := hx182_3; have hw182_2 := hx182_2; have hw182_1 := hx182_1; have hw182_0 := hx182_0; cases e182
        replace hx182_0 := (HB.out.cell (World.block_lt_of_cell? w _ hx182_0)).trans hx182_0
        replace hx182_1 := (HB.out.cell (World.block_lt_of_cell? w _ hx182_1)).trans hx182_1
        replace hx182_2 := (HB.out.cell (World.block_lt_of_cell? w _ hx182_2)).trans hx182_2
        replace hx182_3 := (HB.out.cell (World.block_lt_of_cell? w _ hx182_3)).trans hx182_3
        replace p182 := eq_true p182; replace q182 := eq_true q182
        have p183 : 0 ≤ (x5_1 : Int) := of_decide_eq_true Cmp.d
        have q183 : x5_1 < (l1.length : Int) := of_decide_eq_true Cmp.d
        obtain ⟨ad183, e183, hx183_0, hx183_1, hx183_2, hx183_3⟩ := at_T83 HR1.out x5_1 p183 q183
        have hw183_3 := hx183_3; have hw183_2 := hx183_2; have hw183_1 := hx183_1; have hw183_0 := hx183_0; cases e183
        replace hx183_0 := (HB.out.cell (World.block_lt_of_cell? w _ hx183_0)).trans hx183_0
        replace hx183_1 := (HB.out.cell (World.block_lt_of_cell? w _ hx183_1)).trans hx183_1
        replace hx183_2 := (HB.out.cell (World.block_lt_of_cell? w _ hx183_2)).trans hx183_2
        replace hx183_3 := (HB.out.cell (World.block_lt_of_cell? w _ hx183_3)).trans hx183_3
        replace p183 := eq_true p183; replace q183 := eq_true q183
        refine start_ (n := 10) (S := fun w' => w'.cell? (ad182.add ((x5_1).toNat * 4)) = some (.int .i64 ((rd_T83 l0 x5_1).f0)) ∧ w'.cell? ⟨(ad182.add ((x5_1).toNat * 4)).block, (ad182.add ((x5_1).toNat * 4)).off + 1, none⟩ = some (.int .i64 ((rd_T83 l0 x5_1).f1)) ∧ w'.cell? ⟨(ad182.add ((x5_1).toNat * 4)).block, (ad182.add ((x5_1).toNat * 4)).off + 2, none⟩ = some (.int .i64 ((rd_T83 l0 x5_1).f2)) ∧ w'.cell? ⟨(ad182.add ((x5_1).toNat * 4)).block, (ad182.add ((x5_1).toNat * 4)).off + 3, none⟩ = some (.bool ((rd_T83 l0 x5_1).f3)) ∧ w'.cell? (ad183.add ((x5_1).toNat * 4)) = some (.int .i64 ((rd_T83 l1 x5_1).f0)) ∧ w'.cell? ⟨(ad183.add ((x5_1).toNat * 4)).block, (ad183.add ((x5_1).toNat * 4)).off + 1, none⟩ = some (.int .i64 ((rd_T83 l1 x5_1).f1)) ∧ w'.cell? ⟨(ad183.add ((x5_1).toNat * 4)).block, (ad183.add ((x5_1).toNat * 4)).off + 2, none⟩ = some (.int .i64 ((rd_T83 l1 x5_1).f2)) ∧ w'.cell? ⟨(ad183.add ((x5_1).toNat * 4)).block, (ad183.add ((x5_1).toNat * 4)).off + 3, none⟩ = some (.bool ((rd_T83 l1 x5_1).f3))) (ds := []) (Cmp.bm 0 10) (by kernel_rfl) rfl rfl ⟨((HB.out.cell (World.block_lt_of_cell? w _ hw182_0)).trans hw182_0), ((HB.out.cell (World.block_lt_of_cell? w _ hw182_1)).trans hw182_1), ((HB.out.cell (World.block_lt_of_cell? w _ hw182_2)).trans hw182_2), ((HB.out.cell (World.block_lt_of_cell? w _ hw182_3)).trans hw182_3), ((HB.out.cell (World.block_lt_of_cell? w _ hw183_0)).trans hw183_0), ((HB.out.cell (World.block_lt_of_cell? w _ hw183_1)).trans hw183_1), ((HB.out.cell (World.block_lt_of_cell? w _ hw183_2)).trans hw183_2), ((HB.out.cell (World.block_lt_of_cell? w _ hw183_3)).trans hw183_3)⟩ (fun hHeld => ?_); refine with_tabW laws_eqCredentialS.tab6 laws_eqCredentialS.bits6 (fun HT_ HW_ => ?_)
        generalize wr.drew = w11 at HB hx182_0 hx182_1 hx182_2 hx182_3 hx183_0 hx183_1 hx183_2 hx183_3 hHeld ⊢
        refine Cmp.pu HT_ 0 17 (Cmp.bm 1 9) ?_; refine Cmp.pu HT_ 1 18 (Cmp.bm 2 8) ?_; refine Cmp.pu HT_ 2 19 (Cmp.bm 3 7) ?_; refine Cmp.pu HT_ 4 21 (Cmp.bb 10 23) ?_; refine Cmp.pu HT_ 5 22 (Cmp.bb 10 55) ?_; refine Cmp.pu HT_ 6 23 (Cmp.bb 10 119) ?_; refine Cmp.tk HT_ HW_ hHeld 3 20 (Cmp.bm 7 3) ?_; refine Cmp.tk HT_ HW_ hHeld 7 24 (Cmp.bm 8 2) ?_
        refine one_ (i := 8) (N := some 25) (Cmp.bm 9 1) rfl rfl (one_of HT_.out (by kernel_rfl)) (by decide) (fun K hK => ?_)
        refine goes_ Try.func85 (by kernel_rfl) rfl #[.agg #[.int .i64 ((rd_T83 l0 x5_1).f0), .int .i64 ((rd_T83 l0 x5_1).f1), .int .i64 ((rd_T83 l0 x5_1).f2), .bool ((rd_T83 l0 x5_1).f3)], .agg #[.int .i64 ((rd_T83 l1 x5_1).f0), .int .i64 ((rd_T83 l1 x5_1).f1), .int .i64 ((rd_T83 l1 x5_1).f2), .bool ((rd_T83 l1 x5_1).f3)]] (by rfl) rfl rfl Cmp.q ?_
        with_reducible refine (laws_eqCredential.calls ((rd_T83 l0 x5_1).f0) ((rd_T83 l0 x5_1).f1) ((rd_T83 l0 x5_1).f2) ((rd_T83 l0 x5_1).f3) ((rd_T83 l1 x5_1).f0) ((rd_T83 l1 x5_1).f1) ((rd_T83 l1 x5_1).f2) ((rd_T83 l1 x5_1).f3) false _ A7.out).mono ?_
        rintro e w12 ⟨rfl, hb⟩; refine ⟨_, rfl, ?_⟩
        have n0_ := Aside0.mk (below_step (Cmp.g HB.out) hb)
        clear HB; have HB := n0_; clear n0_; (try clear hb); (try clear hb2); (try clear hk); (try clear hi)
        refine hK.out _ _ ⟨((HB.out.cell (World.block_lt_of_cell? w _ hw182_0)).trans hw182_0), ((HB.out.cell (World.block_lt_of_cell? w _ hw182_1)).trans hw182_1), ((HB.out.cell (World.block_lt_of_cell? w _ hw182_2)).trans hw182_2), ((HB.out.cell (World.block_lt_of_cell? w _ hw182_3)).trans hw182_3), ((HB.out.cell (World.block_lt_of_cell? w _ hw183_0)).trans hw183_0), ((HB.out.cell (World.block_lt_of_cell? w _ hw183_1)).trans hw183_1), ((HB.out.cell (World.block_lt_of_cell? w _ hw183_2)).trans hw183_2), ((HB.out.cell (World.block_lt_of_cell? w _ hw183_3)).trans hw183_3)⟩ (fun hHeld => ?_)
        clear hK K
        refine norm_ (a' := ?_) ?_ ?_
        rotate_left
        ·show Act.put _ (some 25) _ = _
         simp only [Act.put, Cmp.s, Cmp.z, Cmp.c, i64_w, i32_w]; rfl
        refine Cmp.pu HT_ 9 26 (Cmp.bm 10 0) ?_
        refine done_ (done_of HT_.out (by kernel_rfl)) ?_
        try go_wp2
        go_ret
        exact ⟨by first | rfl | (simp [errW_none, errW_some] <;> rfl) | (simp [*, errW_none, errW_some] <;> rfl), Cmp.g HB.out⟩
      ·rw [if_neg c6] at H; exact absurd H (by simp)
     ·rw [if_neg c5] at H; exact absurd H (by simp)
    ·rw [if_neg c4] at H
     have c4b0 : decide (x5_1 < (l0.length : Int)) = false := decide_eq_false c4
     clear c4
     obtain rfl := Option.some.inj H
     go_wp2
     go_ret
     exact ⟨by first | rfl | (simp [errW_none, errW_some] <;> rfl) | (simp [*, errW_none, errW_some] <;> rfl), Cmp.g HB.out⟩
 ·rw [if_neg c3] at H
  have c3b0 : ((l0.length : Int) == (l1.length : Int)) = false := beq_eq_false_iff_ne.mpr c3
  have c3b1 : ((l0.length : Int) != (l1.length : Int)) = true := bne_iff_ne.mpr c3
  have c3b2 : (l0.length == l1.length) = false := by first | simpa using c3 | (simp at c3 ⊢; omega)
  obtain rfl := Option.some.inj H
  go_enter Try.func51, Try.ntmps51
  go_wp2
  go_ret
  exact ⟨by first | rfl | (simp [errW_none, errW_some] <;> rfl) | (simp [*, errW_none, errW_some] <;> rfl), Cmp.g HB.out⟩

/-! ### laws_eqAccount: function 13 -/
def laws_eqAccount.f (k : Nat) (a0_0 : Int) (a0_1 : Int) (l0_2 : List (S83)) (a1_0 : Int) (a1_1 : Int) (l1_2 : List (S83)) : Option (Bool) := if a0_0 = a1_0 then (if a0_1 = a1_1 then ((laws_eqCredentialS.f k l0_2 l1_2).bind fun t187 => (if t187 = true then (some true) else (some false))) else (some false)) else (some false)
theorem laws_eqAccount.mono : ∀ a0 a1 a2 a3 a4 a5 k, LeO (laws_eqAccount.f k a0 a1 a2 a3 a4 a5) (laws_eqAccount.f (k + 1) a0 a1 a2 a3 a4 a5) := by
  intro a0 a1 a2 a3 a4 a5 k
  unfold laws_eqAccount.f
  repeat' first
      | (with_reducible exact laws_eqCredentialS.mono _ _ _)
      | (with_reducible exact LeO.refl _)
      | (with_reducible exact LeO.none _)
      | (with_reducible refine LeO.ite ?_ ?_)
      | (with_reducible refine LeO.bind ?_ (fun _ => ?_))
      | exact laws_eqCredentialS.mono _ _ _
      | exact LeO.none _
      | refine LeO.ite ?_ ?_
      | refine LeO.bind ?_ (fun _ => ?_)
set_option maxHeartbeats 8000000 in
set_option maxRecDepth 100000 in
theorem laws_eqAccount.calls (k : Nat) (a0_0 : Int) (a0_1 : Int) (A0_2 : Option Addr) (c0_2 : Nat) (l0_2 : List (S83)) (a1_0 : Int) (a1_1 : Int) (A1_2 : Option Addr) (c1_2 : Nat) (l1_2 : List (S83)) (r : Bool) (w : World) (hr0_2 : Kd.C k83 w A0_2 l0_2.length l0_2) (hc0_2 : l0_2.length ≤ c0_2) (hr1_2 : Kd.C k83 w A1_2 l1_2.length l1_2) (hc1_2 : l1_2.length ≤ c1_2) (h : laws_eqAccount.f k a0_0 a0_1 l0_2 a1_0 a1_1 l1_2 = some r) :
    Calls Try.prog 13 #[.agg #[.int .i64 a0_0, .int .i64 a0_1, .slice A0_2 l0_2.length c0_2], .agg #[.int .i64 a1_0, .int .i64 a1_1, .slice A1_2 l1_2.length c1_2]] w fun e w' => e = .returned (.bool r) ∧ Below w.heap.size w w' := by
 have hu28 := Try.underlying28; have HR0_2 := Aside0.mk hr0_2; have HC0_2 := Aside0.mk hc0_2; clear hr0_2 hc0_2; have HR1_2 := Aside0.mk hr1_2; have HC1_2 := Aside0.mk hc1_2; clear hr1_2 hc1_2
 have HB := Aside0.mk (Below.refl w.heap.size w)
 have H : (if a0_0 = a1_0 then (if a0_1 = a1_1 then ((laws_eqCredentialS.f k l0_2 l1_2).bind fun t187 => (if t187 = true then (some true) else (some false))) else (some false)) else (some false)) = some r := h
 clear h
 by_cases c3 : a0_0 = a1_0
 ·rw [if_pos c3] at H; have c3b0 : (a0_0 == a1_0) = true := beq_iff_eq.mpr c3; have c3b1 : (a0_0 != a1_0) = false := bne_eq_false_iff_eq.mpr c3; clear c3
  by_cases c4 : a0_1 = a1_1
  ·rw [if_pos c4] at H; have c4b0 : (a0_1 == a1_1) = true := beq_iff_eq.mpr c4; have c4b1 : (a0_1 != a1_1) = false := bne_eq_false_iff_eq.mpr c4; clear c4; replace H := Option.bind_eq_some_iff.mp H; obtain ⟨t187, A50, H⟩ := H; (try dsimp only at H); have A5 := Aside0.mk A50; clear A50
   by_cases c6 : t187 = true
   ·subst c6; rw [if_pos rfl] at H
    obtain rfl := Option.some.inj H
    go_enter Try.func13, Try.ntmps13
    go_wp2_with (first | ((with_reducible refine gate_dst (N := 2) rfl ?_); refine box_event (by rfl) (N := 2) (by rfl) (cs := #[.int .i64 a0_0, .int .i64 a0_1, .slice A0_2 l0_2.length c0_2]) (t := 28) (by first | (go_simp; done) | (go_simp; rfl)) ?_; intro gb185 hg w7 hbox hb; have n0_ := Aside0.mk (below_step (Cmp.g HB.out) hb); have n1_ := Aside0.mk (hbox); have n2_ := Aside0.mk ((by rw [hg]; exact (below_size (Cmp.g HB.out)) : w.heap.size ≤ gb185)); have n3_ := Aside0.mk ((by rw [hg]; exact (below_size (Cmp.g HB.out)) : w.heap.size ≤ gb185)); clear HB; have HB := n0_; have BK185 := n1_; have GW185 := n2_; have GE185 := n3_; clear n0_ n1_ n2_ n3_; clear hb hbox hg) | ((with_reducible refine gate_dst (N := 3) rfl ?_); refine box_event (by rfl) (N := 3) (by rfl) (cs := #[.int .i64 a1_0, .int .i64 a1_1, .slice A1_2 l1_2.length c1_2]) (t := 28) (by first | (go_simp; done) | (go_simp; rfl)) ?_; intro gb186 hg w8 hbox hb; have n0_ := Aside0.mk (blk_below (Cmp.b BK185.out) hb); have n1_ := Aside0.mk (below_step (Cmp.g HB.out) hb); have n2_ := Aside0.mk (hbox); have n3_ := Aside0.mk ((by rw [hg]; exact (below_size (Cmp.g HB.out)) : w.heap.size ≤ gb186)); have n4_ := Aside0.mk ((by rw [hg]; exact (below_size (Cmp.g HB.out)) : w.heap.size ≤ gb186)); have n5_ := Aside0.mk ((by rw [hg]; exact Nat.ne_of_lt (blk_lt (Cmp.b BK185.out)) : gb185 ≠ gb186)); have n6_ := Aside0.mk ((by rw [hg]; exact Nat.ne_of_gt (blk_lt (Cmp.b BK185.out)) : gb186 ≠ gb185)); clear BK185; clear HB; have BK185 := n0_; have HB := n1_; have BK186 := n2_; have GW186 := n3_; have GE186 := n4_; have NB185_186 := n5_; have NB186_185 := n6_; clear n0_ n1_ n2_ n3_ n4_ n5_ n6_; clear hb hbox hg; have hnb9 := NB185_186.out; have hnc9 := NB186_185.out; have hcz10_0 : w8.cell? ⟨gb185, 0, none⟩ = some (.int .i64 a0_0) := (blk_cell BK185.out 0).trans rfl; have hcz10_1 : w8.cell? ⟨gb185, 1, none⟩ = some (.int .i64 a0_1) := (blk_cell BK185.out 1).trans rfl; have hcz10_2 : w8.cell? ⟨gb185, 2, none⟩ = some (.slice A0_2 l0_2.length c0_2) := (blk_cell BK185.out 2).trans rfl; have hfz10_0 := blk_frozen BK185.out 0; have hfz10_1 := blk_frozen BK185.out 1; have hfz10_2 := blk_frozen BK185.out 2; have hcz11_0 : w8.cell? ⟨gb186, 0, none⟩ = some (.int .i64 a1_0) := (blk_cell BK186.out 0).trans rfl; have hcz11_1 : w8.cell? ⟨gb186, 1, none⟩ = some (.int .i64 a1_1) := (blk_cell BK186.out 1).trans rfl; have hcz11_2 : w8.cell? ⟨gb186, 2, none⟩ = some (.slice A1_2 l1_2.length c1_2) := (blk_cell BK186.out 2).trans rfl; have hfz11_0 := blk_frozen BK186.out 0; have hfz11_1 := blk_frozen BK186.out 1; have hfz11_2 := blk_frozen BK186.out 2) | ((with_reducible refine gate_callee (f := 51) rfl ?_); refine goesL_ (some 19) rfl rfl Try.func51 (by kernel_rfl) rfl #[.slice A0_2 l0_2.length c0_2, .slice A1_2 l1_2.length c1_2] rfl Cmp.q ?_; (with_reducible refine (laws_eqCredentialS.calls k _ _ l0_2 _ _ l1_2 true _ ?side1 ?side2 ?side3 ?side4 A5.out).mono ?_); (case side1 => exact Cmp.rc (Kd.C_below HR0_2.out HB.out)); (case side2 => exact HC0_2.out); (case side3 => exact Cmp.rc (Kd.C_below HR1_2.out HB.out)); (case side4 => exact HC1_2.out); rintro e w12 ⟨rfl, hb⟩; refine ⟨_, rfl, ?_⟩; have n0_ := Aside0.mk (blk_below (Cmp.b BK185.out) hb); have n1_ := Aside0.mk (blk_below (Cmp.b BK186.out) hb); have n2_ := Aside0.mk (below_step (Cmp.g HB.out) hb); clear BK185; clear BK186; clear HB; have BK185 := n0_; have BK186 := n1_; have HB := n2_; clear n0_ n1_ n2_; (try clear hb); (try clear hb2); (try clear hk); (try clear hi)))
    go_ret
    exact ⟨by first | rfl | (simp [errW_none, errW_some] <;> rfl) | (simp [*, errW_none, errW_some] <;> rfl), Cmp.g HB.out⟩
   ·replace c6 := Bool.eq_false_iff.mpr c6
    subst c6
    have H1 : (some false) = some r := by rw [if_neg (show ¬ (false = true) by decide)] at H; exact H
    clear H; have H := H1; clear H1
    obtain rfl := Option.some.inj H
    go_enter Try.func13, Try.ntmps13
    go_wp2_with (first | ((with_reducible refine gate_dst (N := 2) rfl ?_); refine box_event (by rfl) (N := 2) (by rfl) (cs := #[.int .i64 a0_0, .int .i64 a0_1, .slice A0_2 l0_2.length c0_2]) (t := 28) (by first | (go_simp; done) | (go_simp; rfl)) ?_; intro gb185 hg w13 hbox hb; have n0_ := Aside0.mk (below_step (Cmp.g HB.out) hb); have n1_ := Aside0.mk (hbox); have n2_ := Aside0.mk ((by rw [hg]; exact (below_size (Cmp.g HB.out)) : w.heap.size ≤ gb185)); have n3_ := Aside0.mk ((by rw [hg]; exact (below_size (Cmp.g HB.out)) : w.heap.size ≤ gb185)); clear HB; have HB := n0_; have BK185 := n1_; have GW185 := n2_; have GE185 := n3_; clear n0_ n1_ n2_ n3_; clear hb hbox hg) | ((with_reducible refine gate_dst (N := 3) rfl ?_); refine box_event (by rfl) (N := 3) (by rfl) (cs := #[.int .i64 a1_0, .int .i64 a1_1, .slice A1_2 l1_2.length c1_2]) (t := 28) (by first | (go_simp; done) | (go_simp; rfl)) ?_; intro gb186 hg w14 hbox hb; have n0_ := Aside0.mk (blk_below (Cmp.b BK185.out) hb); have n1_ := Aside0.mk (below_step (Cmp.g HB.out) hb); have n2_ := Aside0.mk (hbox); have n3_ := Aside0.mk ((by rw [hg]; exact (below_size (Cmp.g HB.out)) : w.heap.size ≤ gb186)); have n4_ := Aside0.mk ((by rw [hg]; exact (below_size (Cmp.g HB.out)) : w.heap.size ≤ gb186)); have n5_ := Aside0.mk ((by rw [hg]; exact Nat.ne_of_lt (blk_lt (Cmp.b BK185.out)) : gb185 ≠ gb186)); have n6_ := Aside0.mk ((by rw [hg]; exact Nat.ne_of_gt (blk_lt (Cmp.b BK185.out)) : gb186 ≠ gb185)); clear BK185; clear HB; have BK185 := n0_; have HB := n1_; have BK186 := n2_; have GW186 := n3_; have GE186 := n4_; have NB185_186 := n5_; have NB186_185 := n6_; clear n0_ n1_ n2_ n3_ n4_ n5_ n6_; clear hb hbox hg; have hnb15 := NB185_186.out; have hnc15 := NB186_185.out; have hcz16_0 : w14.cell? ⟨gb185, 0, none⟩ = some (.int .i64 a0_0) := (blk_cell BK185.out 0).trans rfl; have hcz16_1 : w14.cell? ⟨gb185, 1, none⟩ = some (.int .i64 a0_1) := (blk_cell BK185.out 1).trans rfl; have hcz16_2 : w14.cell? ⟨gb185, 2, none⟩ = some (.slice A0_2 l0_2.length c0_2) := (blk_cell BK185.out 2).trans rfl; have hfz16_0 := blk_frozen BK185.out 0; have hfz16_1 := blk_frozen BK185.out 1; have hfz16_2 := blk_frozen BK185.out 2; have hcz17_0 : w14.cell? ⟨gb186, 0, none⟩ = some (.int .i64 a1_0) := (blk_cell BK186.out 0).trans rfl; have hcz17_1 : w14.cell? ⟨gb186, 1, none⟩ = some (.int .i64 a1_1) := (blk_cell BK186.out 1).trans rfl; have hcz17_2 : w14.cell? ⟨gb186, 2, none⟩ = some (.slice A1_2 l1_2.length c1_2) := (blk_cell BK186.out 2).trans rfl; have hfz17_0 := blk_frozen BK186.out 0; have hfz17_1 := blk_frozen BK186.out 1; have hfz17_2 := blk_frozen BK186.out 2) | ((with_reducible refine gate_callee (f := 51) rfl ?_); refine goesL_ (some 19) rfl rfl Try.func51 (by kernel_rfl) rfl #[.slice A0_2 l0_2.length c0_2, .slice A1_2 l1_2.length c1_2] rfl Cmp.q ?_; (with_reducible refine (laws_eqCredentialS.calls k _ _ l0_2 _ _ l1_2 false _ ?side1 ?side2 ?side3 ?side4 A5.out).mono ?_); (case side1 => exact Cmp.rc (Kd.C_below HR0_2.out HB.out)); (case side2 => exact HC0_2.out); (case side3 => exact Cmp.rc (Kd.C_below HR1_2.out HB.out)); (case side4 => exact HC1_2.out); rintro e w18 ⟨rfl, hb⟩; refine ⟨_, rfl, ?_⟩; have n0_ := Aside0.mk (blk_below (Cmp.b BK185.out) hb); have n1_ := Aside0.mk (blk_below (Cmp.b BK186.out) hb); have n2_ := Aside0.mk (below_step (Cmp.g HB.out) hb); clear BK185; clear BK186; clear HB; have BK185 := n0_; have BK186 := n1_; have HB := n2_; clear n0_ n1_ n2_; (try clear hb); (try clear hb2); (try clear hk); (try clear hi)))
    go_ret
    exact ⟨by first | rfl | (simp [errW_none, errW_some] <;> rfl) | (simp [*, errW_none, errW_some] <;> rfl), Cmp.g HB.out⟩
  ·rw [if_neg c4] at H; have c4b0 : (a0_1 == a1_1) = false := beq_eq_false_iff_ne.mpr c4; have c4b1 : (a0_1 != a1_1) = true := bne_iff_ne.mpr c4
   obtain rfl := Option.some.inj H
   go_enter Try.func13, Try.ntmps13
   go_wp2_with (first | ((with_reducible refine gate_dst (N := 2) rfl ?_); refine box_event (by rfl) (N := 2) (by rfl) (cs := #[.int .i64 a0_0, .int .i64 a0_1, .slice A0_2 l0_2.length c0_2]) (t := 28) (by first | (go_simp; done) | (go_simp; rfl)) ?_; intro gb185 hg w19 hbox hb; have n0_ := Aside0.mk (below_step (Cmp.g HB.out) hb); have n1_ := Aside0.mk (hbox); have n2_ := Aside0.mk ((by rw [hg]; exact (below_size (Cmp.g HB.out)) : w.heap.size ≤ gb185)); have n3_ := Aside0.mk ((by rw [hg]; exact (below_size (Cmp.g HB.out)) : w.heap.size ≤ gb185)); clear HB; have HB := n0_; have BK185 := n1_; have GW185 := n2_; have GE185 := n3_; clear n0_ n1_ n2_ n3_; clear hb hbox hg) | ((with_reducible refine gate_dst (N := 3) rfl ?_); refine box_event (by rfl) (N := 3) (by rfl) (cs := #[.int .i64 a1_0, .int .i64 a1_1, .slice A1_2 l1_2.length c1_2]) (t := 28) (by first | (go_simp; done) | (go_simp; rfl)) ?_; intro gb186 hg w20 hbox hb; have n0_ := Aside0.mk (blk_below (Cmp.b BK185.out) hb); have n1_ := Aside0.mk (below_step (Cmp.g HB.out) hb); have n2_ := Aside0.mk (hbox); have n3_ := Aside0.mk ((by rw [hg]; exact (below_size (Cmp.g HB.out)) : w.heap.size ≤ gb186)); have n4_ := Aside0.mk ((by rw [hg]; exact (below_size (Cmp.g HB.out)) : w.heap.size ≤ gb186)); have n5_ := Aside0.mk ((by rw [hg]; exact Nat.ne_of_lt (blk_lt (Cmp.b BK185.out)) : gb185 ≠ gb186)); have n6_ := Aside0.mk ((by rw [hg]; exact Nat.ne_of_gt (blk_lt (Cmp.b BK185.out)) : gb186 ≠ gb185)); clear BK185; clear HB; have BK185 := n0_; have HB := n1_; have BK186 := n2_; have GW186 := n3_; have GE186 := n4_; have NB185_186 := n5_; have NB186_185 := n6_; clear n0_ n1_ n2_ n3_ n4_ n5_ n6_; clear hb hbox hg; have hnb21 := NB185_186.out; have hnc21 := NB186_185.out; have hcz22_0 : w20.cell? ⟨gb185, 0, none⟩ = some (.int .i64 a0_0) := (blk_cell BK185.out 0).trans rfl; have hcz22_1 : w20.cell? ⟨gb185, 1, none⟩ = some (.int .i64 a0_1) := (blk_cell BK185.out 1).trans rfl; have hcz22_2 : w20.cell? ⟨gb185, 2, none⟩ = some (.slice A0_2 l0_2.length c0_2) := (blk_cell BK185.out 2).trans rfl; have hfz22_0 := blk_frozen BK185.out 0; have hfz22_1 := blk_frozen BK185.out 1; have hfz22_2 := blk_frozen BK185.out 2; have hcz23_0 : w20.cell? ⟨gb186, 0, none⟩ = some (.int .i64 a1_0) := (blk_cell BK186.out 0).trans rfl; have hcz23_1 : w20.cell? ⟨gb186, 1, none⟩ = some (.int .i64 a1_1) := (blk_cell BK186.out 1).trans rfl; have hcz23_2 : w20.cell? ⟨gb186, 2, none⟩ = some (.slice A1_2 l1_2.length c1_2) := (blk_cell BK186.out 2).trans rfl; have hfz23_0 := blk_frozen BK186.out 0; have hfz23_1 := blk_frozen BK186.out 1; have hfz23_2 := blk_frozen BK186.out 2))
   go_ret
   exact ⟨by first | rfl | (simp [errW_none, errW_some] <;> rfl) | (simp [*, errW_none, errW_some] <;> rfl), Cmp.g HB.out⟩
 ·rw [if_neg c3] at H; have c3b0 : (a0_0 == a1_0) = false := beq_eq_false_iff_ne.mpr c3; have c3b1 : (a0_0 != a1_0) = true := bne_iff_ne.mpr c3
  obtain rfl := Option.some.inj H
  go_enter Try.func13, Try.ntmps13
  go_wp2_with (first | ((with_reducible refine gate_dst (N := 2) rfl ?_); refine box_event (by rfl) (N := 2) (by rfl) (cs := #[.int .i64 a0_0, .int .i64 a0_1, .slice A0_2 l0_2.length c0_2]) (t := 28) (by first | (go_simp; done) | (go_simp; rfl)) ?_; intro gb185 hg w24 hbox hb; have n0_ := Aside0.mk (below_step (Cmp.g HB.out) hb); have n1_ := Aside0.mk (hbox); have n2_ := Aside0.mk ((by rw [hg]; exact (below_size (Cmp.g HB.out)) : w.heap.size ≤ gb185)); have n3_ := Aside0.mk ((by rw [hg]; exact (below_size (Cmp.g HB.out)) : w.heap.size ≤ gb185)); clear HB; have HB := n0_; have BK185 := n1_; have GW185 := n2_; have GE185 := n3_; clear n0_ n1_ n2_ n3_; clear hb hbox hg) | ((with_reducible refine gate_dst (N := 3) rfl ?_); refine box_event (by rfl) (N := 3) (by rfl) (cs := #[.int .i64 a1_0, .int .i64 a1_1, .slice A1_2 l1_2.length c1_2]) (t := 28) (by first | (go_simp; done) | (go_simp; rfl)) ?_; intro gb186 hg w25 hbox hb; have n0_ := Aside0.mk (blk_below (Cmp.b BK185.out) hb); have n1_ := Aside0.mk (below_step (Cmp.g HB.out) hb); have n2_ := Aside0.mk (hbox); have n3_ := Aside0.mk ((by rw [hg]; exact (below_size (Cmp.g HB.out)) : w.heap.size ≤ gb186)); have n4_ := Aside0.mk ((by rw [hg]; exact (below_size (Cmp.g HB.out)) : w.heap.size ≤ gb186)); have n5_ := Aside0.mk ((by rw [hg]; exact Nat.ne_of_lt (blk_lt (Cmp.b BK185.out)) : gb185 ≠ gb186)); have n6_ := Aside0.mk ((by rw [hg]; exact Nat.ne_of_gt (blk_lt (Cmp.b BK185.out)) : gb186 ≠ gb185)); clear BK185; clear HB; have BK185 := n0_; have HB := n1_; have BK186 := n2_; have GW186 := n3_; have GE186 := n4_; have NB185_186 := n5_; have NB186_185 := n6_; clear n0_ n1_ n2_ n3_ n4_ n5_ n6_; clear hb hbox hg; have hnb26 := NB185_186.out; have hnc26 := NB186_185.out; have hcz27_0 : w25.cell? ⟨gb185, 0, none⟩ = some (.int .i64 a0_0) := (blk_cell BK185.out 0).trans rfl; have hcz27_1 : w25.cell? ⟨gb185, 1, none⟩ = some (.int .i64 a0_1) := (blk_cell BK185.out 1).trans rfl; have hcz27_2 : w25.cell? ⟨gb185, 2, none⟩ = some (.slice A0_2 l0_2.length c0_2) := (blk_cell BK185.out 2).trans rfl; have hfz27_0 := blk_frozen BK185.out 0; have hfz27_1 := blk_frozen BK185.out 1; have hfz27_2 := blk_frozen BK185.out 2; have hcz28_0 : w25.cell? ⟨gb186, 0, none⟩ = some (.int .i64 a1_0) := (blk_cell BK186.out 0).trans rfl; have hcz28_1 : w25.cell? ⟨gb186, 1, none⟩ = some (.int .i64 a1_1) := (blk_cell BK186.out 1).trans rfl; have hcz28_2 : w25.cell? ⟨gb186, 2, none⟩ = some (.slice A1_2 l1_2.length c1_2) := (blk_cell BK186.out 2).trans rfl; have hfz28_0 := blk_frozen BK186.out 0; have hfz28_1 := blk_frozen BK186.out 1; have hfz28_2 := blk_frozen BK186.out 2))
  go_ret
  exact ⟨by first | rfl | (simp [errW_none, errW_some] <;> rfl) | (simp [*, errW_none, errW_some] <;> rfl), Cmp.g HB.out⟩

/-! ### laws_eqAccountS: function 70 -/
def laws_eqAccountS.l0 : Nat → List (S28) → List (S28) → Int → Option (Bool)
  | 0, _, _, _ => none
  | k + 1, x0, x1, x5 => if x5 < (x0.length : Int) then (if 0 ≤ x5 then (if x5 < (x1.length : Int) then ((laws_eqAccount.f k ((rd_T28 x0 x5).f0) ((rd_T28 x0 x5).f1) ((rd_T28 x0 x5).f2) ((rd_T28 x1 x5).f0) ((rd_T28 x1 x5).f1) ((rd_T28 x1 x5).f2)).bind fun t190 => (if t190 = true then (laws_eqAccountS.l0 k x0 x1 (wrap64 (x5 + 1))) else (some false))) else (none)) else (none)) else (some true)
def laws_eqAccountS.f (k : Nat) (l0 : List (S28)) (l1 : List (S28)) : Option (Bool) := if (l0.length : Int) = (l1.length : Int) then (laws_eqAccountS.l0 k l0 l1 0) else (some false)
theorem laws_eqAccountS.mono_l : ∀ k, (∀ y0 y1 y2, LeO (laws_eqAccountS.l0 k y0 y1 y2) (laws_eqAccountS.l0 (k + 1) y0 y1 y2))
  | 0 => fun _ _ _ r h => by simp [laws_eqAccountS.l0] at h
  | k + 1 => by
    have ih0 := laws_eqAccountS.mono_l k
    · intro y0 y1 y2
      unfold laws_eqAccountS.l0
      repeat' first
      | (with_reducible exact ih0 _ _ _)
      | (with_reducible exact laws_eqAccount.mono _ _ _ _ _ _ _)
      | (with_reducible exact LeO.refl _)
      | (with_reducible exact LeO.none _)
      | (with_reducible refine LeO.ite ?_ ?_)
      | (with_reducible refine LeO.bind ?_ (fun _ => ?_))
      | exact ih0 _ _ _
      | exact laws_eqAccount.mono _ _ _ _ _ _ _
      | exact LeO.none _
      | refine LeO.ite ?_ ?_
      | refine LeO.bind ?_ (fun _ => ?_)
theorem laws_eqAccountS.mono : ∀ a0 a1 k, LeO (laws_eqAccountS.f k a0 a1) (laws_eqAccountS.f (k + 1) a0 a1) := by
  intro a0 a1 k
  have ih0 := laws_eqAccountS.mono_l k
  unfold laws_eqAccountS.f
  repeat' first
      | (with_reducible exact ih0 _ _ _)
      | (with_reducible exact laws_eqAccount.mono _ _ _ _ _ _ _)
      | (with_reducible exact LeO.refl _)
      | (with_reducible exact LeO.none _)
      | (with_reducible refine LeO.ite ?_ ?_)
      | (with_reducible refine LeO.bind ?_ (fun _ => ?_))
      | exact ih0 _ _ _
      | exact laws_eqAccount.mono _ _ _ _ _ _ _
      | exact LeO.none _
      | refine LeO.ite ?_ ?_
      | refine LeO.bind ?_ (fun _ => ?_)
def laws_eqAccountS.T6 : Bool × List (List Nat × List Nat) := (true, [([], []), ([], []), ([0, 1], [0, 1]), ([2], [2]), ([], []), ([], []), ([4, 5], [4, 5]), ([6], [6]), ([3, 7], [3, 7]), ([8], [8])])
def laws_eqAccountS.B6 : List Nat := [0, 0, 3, 7, 0, 0, 48, 112, 255, 511]
theorem laws_eqAccountS.tab6 : rtab .any (opsOf Try.f70 6) = laws_eqAccountS.T6 := by kernel_rfl
theorem laws_eqAccountS.bits6 : waitsOk laws_eqAccountS.T6.2 laws_eqAccountS.B6 = true := by kernel_rfl
set_option maxHeartbeats 8000000 in
set_option maxRecDepth 100000 in
theorem laws_eqAccountS.calls (k : Nat) (A0 : Option Addr) (c0 : Nat) (l0 : List (S28)) (A1 : Option Addr) (c1 : Nat) (l1 : List (S28)) (r : Bool) (w : World) (hr0 : Kd.C k28 w A0 l0.length l0) (hc0 : l0.length ≤ c0) (hr1 : Kd.C k28 w A1 l1.length l1) (hc1 : l1.length ≤ c1) (h : laws_eqAccountS.f k l0 l1 = some r) :
    Calls Try.prog 70 #[.slice A0 l0.length c0, .slice A1 l1.length c1] w fun e w' => e = .returned (.bool r) ∧ Below w.heap.size w w' := by
 have hu28 := Try.underlying28; have HR0 := Aside0.mk hr0; have HC0 := Aside0.mk hc0; clear hr0 hc0; have HR1 := Aside0.mk hr1; have HC1 := Aside0.mk hc1; clear hr1 hc1
 have HB := Aside0.mk (Below.refl w.heap.size w)
 have H : (if (l0.length : Int) = (l1.length : Int) then (laws_eqAccountS.l0 k l0 l1 0) else (some false)) = some r := h
 clear h
 by_cases c3 : (l0.length : Int) = (l1.length : Int)
 ·rw [if_pos c3] at H
  have c3b0 : ((l0.length : Int) == (l1.length : Int)) = true := beq_iff_eq.mpr c3
  have c3b1 : ((l0.length : Int) != (l1.length : Int)) = false := bne_eq_false_iff_eq.mpr c3
  have c3b2 : (l0.length == l1.length) = true := by first | simpa using c3 | (simp at c3 ⊢; omega)
  clear c3
  have H' := Aside0.mk H
  clear H
  go_enter Try.func70, Try.ntmps70
  go_wp2
  go_loopg [5] k (fun kq v5 w' => ∃ (x5_1 : Int), v5 = .int .i64 x5_1 ∧ Aside0 (laws_eqAccountS.l0 kq l0 l1 x5_1 = some r) ∧ Aside0 (kq ≤ k) ∧ Aside0 (Below w.heap.size w w'))
  case atStart => exact ⟨(0), (by first | rfl | simp | simp [*]), H', ⟨Nat.le_refl _⟩, ⟨Cmp.g HB.out⟩⟩
  case round =>
   clear H'
   (try clear c1); (try clear p2); (try clear c3); (try clear c3b0); (try clear c3b1); (try clear c3b2)
   obtain ⟨x5_1, rfl, HA, HK1, HB⟩ := hrel
   cases gk with
   | zero => exact absurd HA.out (by simp [laws_eqAccountS.l0])
   | succ k1 =>
    have H := HA.out; clear HA
    simp only [laws_eqAccountS.l0] at H
    by_cases c4 : x5_1 < (l0.length : Int)
    ·rw [if_pos c4] at H
     have c4b0 : decide (x5_1 < (l0.length : Int)) = true := decide_eq_true c4
     clear c4
     by_cases c5 : 0 ≤ x5_1
     ·rw [if_pos c5] at H; have c5b0 : decide (0 ≤ x5_1) = true := decide_eq_true c5; clear c5
      by_cases c6 : x5_1 < (l1.length : Int)
      ·rw [if_pos c6] at H
       have c6b0 : decide (x5_1 < (l1.length : Int)) = true := decide_eq_true c6
       clear c6; replace H := Option.bind_eq_some_iff.mp H; obtain ⟨t190, A70, H⟩ := H; (try dsimp only at H); have A7 := Aside0.mk A70; clear A70
       by_cases c8 : t190 = true
       ·subst c8; rw [if_pos rfl] at H
        have H' := Aside0.mk H
        clear H
        try go_wp2
        have n0_ := Aside0.mk (below_drew1 HB.out); clear HB; have HB := n0_; clear n0_
        have p188 : 0 ≤ (x5_1 : Int) := of_decide_eq_true Cmp.d
        have q188 : x5_1 < (l0.length : Int) := of_decide_eq_true Cmp.d
        obtain ⟨ad188, A188_2, c188_2, e188, hx188_0, hx188_1, hx188_2, hl188_2, hi188_2⟩ := at_T28 HR0.out x5_1 p188 q188
        have hw188_2 := hx188_2; have hw188_1 := hx188_1; have hw188_0 := hx188_0; cases e188
        replace hx188_0 := (HB.out.cell (World.block_lt_of_cell? w _ hx188_0)).trans hx188_0
        replace hx188_1 := (HB.out.cell (World.block_lt_of_cell? w _ hx188_1)).trans hx188_1
        replace hx188_2 := (HB.out.cell (World.block_lt_of_cell? w _ hx188_2)).trans hx188_2
        have HR188_2 := Aside0.mk hi188_2; have HC188_2 := Aside0.mk hl188_2; clear hi188_2 hl188_2; replace p188 := eq_true p188; replace q188 := eq_true q188
        have p189 : 0 ≤ (x5_1 : Int) := of_decide_eq_true Cmp.d
        have q189 : x5_1 < (l1.length : Int) := of_decide_eq_true Cmp.d
        obtain ⟨ad189, A189_2, c189_2, e189, hx189_0, hx189_1, hx189_2, hl189_2, hi189_2⟩ := at_T28 HR1.out x5_1 p189 q189
        have hw189_2 := hx189_2; have hw189_1 := hx189_1; have hw189_0 := hx189_0; cases e189
        replace hx189_0 := (HB.out.cell (World.block_lt_of_cell? w _ hx189_0)).trans hx189_0
        replace hx189_1 := (HB.out.cell (World.block_lt_of_cell? w _ hx189_1)).trans hx189_1
        replace hx189_2 := (HB.out.cell (World.block_lt_of_cell? w _ hx189_2)).trans hx189_2
        have HR189_2 := Aside0.mk hi189_2; have HC189_2 := Aside0.mk hl189_2; clear hi189_2 hl189_2; replace p189 := eq_true p189; replace q189 := eq_true q189
        refine start_ (n := 10) (S := fun w' => w'.cell? (ad188.add ((x5_1).toNat * 3)) = some (.int .i64 ((rd_T28 l0 x5_1).f0)) ∧ w'.cell? ⟨(ad188.add ((x5_1).toNat * 3)).block, (ad188.add ((x5_1).toNat * 3)).off + 1, none⟩ = some (.int .i64 ((rd_T28 l0 x5_1).f1)) ∧ w'.cell? ⟨(ad188.add ((x5_1).toNat * 3)).block, (ad188.add ((x5_1).toNat * 3)).off + 2, none⟩ = some (.slice A188_2 ((rd_T28 l0 x5_1).f2).length c188_2) ∧ w'.cell? (ad189.add ((x5_1).toNat * 3)) = some (.int .i64 ((rd_T28 l1 x5_1).f0)) ∧ w'.cell? ⟨(ad189.add ((x5_1).toNat * 3)).block, (ad189.add ((x5_1).toNat * 3)).off + 1, none⟩ = some (.int .i64 ((rd_T28 l1 x5_1).f1)) ∧ w'.cell? ⟨(ad189.add ((x5_1).toNat * 3)).block, (ad189.add ((x5_1).toNat * 3)).off + 2, none⟩ = some (.slice A189_2 ((rd_T28 l1 x5_1).f2).length c189_2)) (ds := []) (Cmp.bm 0 10) (by kernel_rfl) rfl rfl ⟨((HB.out.cell (World.block_lt_of_cell? w _ hw188_0)).trans hw188_0), ((HB.out.cell (World.block_lt_of_cell? w _ hw188_1)).trans hw188_1), ((HB.out.cell (World.block_lt_of_cell? w _ hw188_2)).trans hw188_2), ((HB.out.cell (World.block_lt_of_cell? w _ hw189_0)).trans hw189_0), ((HB.out.cell (World.block_lt_of_cell? w _ hw189_1)).trans hw189_1), ((HB.out.cell (World.block_lt_of_cell? w _ hw189_2)).trans hw189_2)⟩ (fun hHeld => ?_); refine with_tabW laws_eqAccountS.tab6 laws_eqAccountS.bits6 (fun HT_ HW_ => ?_)
        generalize wr.drew = w9 at HB HR188_2 HR189_2 hx188_0 hx188_1 hx188_2 hx189_0 hx189_1 hx189_2 hHeld ⊢
        refine Cmp.pu HT_ 0 17 (Cmp.bm 1 9) ?_; refine Cmp.pu HT_ 1 18 (Cmp.bm 2 8) ?_; refine Cmp.pu HT_ 2 19 (Cmp.bm 3 7) ?_; refine Cmp.pu HT_ 4 21 (Cmp.bb 10 23) ?_; refine Cmp.pu HT_ 5 22 (Cmp.bb 10 55) ?_; refine Cmp.pu HT_ 6 23 (Cmp.bb 10 119) ?_; refine Cmp.tk HT_ HW_ hHeld 3 20 (Cmp.bm 7 3) ?_; refine Cmp.tk HT_ HW_ hHeld 7 24 (Cmp.bm 8 2) ?_
        refine one_ (i := 8) (N := some 25) (Cmp.bm 9 1) rfl rfl (one_of HT_.out (by kernel_rfl)) (by decide) (fun K hK => ?_)
        refine goes_ Try.func13 (by kernel_rfl) rfl #[.agg #[.int .i64 ((rd_T28 l0 x5_1).f0), .int .i64 ((rd_T28 l0 x5_1).f1), .slice A188_2 ((rd_T28 l0 x5_1).f2).length c188_2], .agg #[.int .i64 ((rd_T28 l1 x5_1).f0), .int .i64 ((rd_T28 l1 x5_1).f1), .slice A189_2 ((rd_T28 l1 x5_1).f2).length c189_2]] (by rfl) rfl rfl Cmp.q ?_
        with_reducible refine (laws_eqAccount.calls k1 ((rd_T28 l0 x5_1).f0) ((rd_T28 l0 x5_1).f1) _ _ ((rd_T28 l0 x5_1).f2) ((rd_T28 l1 x5_1).f0) ((rd_T28 l1 x5_1).f1) _ _ ((rd_T28 l1 x5_1).f2) true _ ?side1 ?side2 ?side3 ?side4 A7.out).mono ?_
        (case side1 => exact Cmp.rc (Kd.C_below HR188_2.out HB.out))
        (case side2 => exact HC188_2.out)
        (case side3 => exact Cmp.rc (Kd.C_below HR189_2.out HB.out))
        (case side4 => exact HC189_2.out)
        rintro e w10 ⟨rfl, hb⟩; refine ⟨_, rfl, ?_⟩
        have n0_ := Aside0.mk (below_step (Cmp.g HB.out) hb)
        clear HB; have HB := n0_; clear n0_; (try clear hb); (try clear hb2); (try clear hk); (try clear hi)
        refine hK.out _ _ ⟨((HB.out.cell (World.block_lt_of_cell? w _ hw188_0)).trans hw188_0), ((HB.out.cell (World.block_lt_of_cell? w _ hw188_1)).trans hw188_1), ((HB.out.cell (World.block_lt_of_cell? w _ hw188_2)).trans hw188_2), ((HB.out.cell (World.block_lt_of_cell? w _ hw189_0)).trans hw189_0), ((HB.out.cell (World.block_lt_of_cell? w _ hw189_1)).trans hw189_1), ((HB.out.cell (World.block_lt_of_cell? w _ hw189_2)).trans hw189_2)⟩ (fun hHeld => ?_)
        clear hK K
        refine norm_ (a' := ?_) ?_ ?_
        rotate_left
        ·show Act.put _ (some 25) _ = _
         simp only [Act.put, Cmp.s, Cmp.z, Cmp.c, i64_w, i32_w]; rfl
        refine Cmp.pu HT_ 9 26 (Cmp.bm 10 0) ?_
        refine done_ (done_of HT_.out (by kernel_rfl)) ?_
        try go_wp2
        go_roundg k1
        case measure => have := HK1.out; omega
        case rel => exact ⟨(wrap64 (x5_1 + 1)), (by first | rfl | simp | simp [*]), H', ⟨by have := HK1.out; omega⟩, ⟨Cmp.g HB.out⟩⟩
       ·replace c8 := Bool.eq_false_iff.mpr c8
        subst c8
        have H1 : (some false) = some r := by rw [if_neg (show ¬ (false = true) by decide)] at H; exact H
        clear H; have H := H1; clear H1
        obtain rfl := Option.some.inj H
        try go_wp2
        have n0_ := Aside0.mk (below_drew1 HB.out); clear HB; have HB := n0_; clear n0_
        have p188 : 0 ≤ (x5_1 : Int) := of_decide_eq_true Cmp.d
        have q188 : x5_1 < (l0.length : Int) := of_decide_eq_true Cmp.d
        obtain ⟨ad188, A188_2, c188_2, e188, hx188_0, hx188_1, hx188_2, hl188_2, hi188_2⟩ := at_T28 HR0.out x5_1 p188 q188
        have hw188_2 := hx188_2; have hw188_1 := hx188_1; have hw188_0 := hx188_0; cases e188
        replace hx188_0 := (HB.out.cell (World.block_lt_of_cell? w _ hx188_0)).trans hx188_0
        replace hx188_1 := (HB.out.cell (World.block_lt_of_cell? w _ hx188_1)).trans hx188_1
        replace hx188_2 := (HB.out.cell (World.block_lt_of_cell? w _ hx188_2)).trans hx188_2
        have HR188_2 := Aside0.mk hi188_2; have HC188_2 := Aside0.mk hl188_2; clear hi188_2 hl188_2; replace p188 := eq_true p188; replace q188 := eq_true q188
        have p189 : 0 ≤ (x5_1 : Int) := of_decide_eq_true Cmp.d
        have q189 : x5_1 < (l1.length : Int) := of_decide_eq_true Cmp.d
        obtain ⟨ad189, A189_2, c189_2, e189, hx189_0, hx189_1, hx189_2, hl189_2, hi189_2⟩ := at_T28 HR1.out x5_1 p189 q189
        have hw189_2 := hx189_2; have hw189_1 := hx189_1; have hw189_0 := hx189_0; cases e189
        replace hx189_0 := (HB.out.cell (World.block_lt_of_cell? w _ hx189_0)).trans hx189_0
        replace hx189_1 := (HB.out.cell (World.block_lt_of_cell? w _ hx189_1)).trans hx189_1
        replace hx189_2 := (HB.out.cell (World.block_lt_of_cell? w _ hx189_2)).trans hx189_2
        have HR189_2 := Aside0.mk hi189_2; have HC189_2 := Aside0.mk hl189_2; clear hi189_2 hl189_2; replace p189 := eq_true p189; replace q189 := eq_true q189
        refine start_ (n := 10) (S := fun w' => w'.cell? (ad188.add ((x5_1).toNat * 3)) = some (.int .i64 ((rd_T28 l0 x5_1).f0)) ∧ w'.cell? ⟨(ad188.add ((x5_1).toNat * 3)).block, (ad188.add ((x5_1).toNat * 3)).off + 1, none⟩ = some (.int .i64 ((rd_T28 l0 x5_1).f1)) ∧ w'.cell? ⟨(ad188.add ((x5_1).toNat * 3)).block, (ad188.add ((x5_1).toNat * 3)).off + 2, none⟩ = some (.slice A188_2 ((rd_T28 l0 x5_1).f2).length c188_2) ∧ w'.cell? (ad189.add ((x5_1).toNat * 3)) = some (.int .i64 ((rd_T28 l1 x5_1).f0)) ∧ w'.cell? ⟨(ad189.add ((x5_1).toNat * 3)).block, (ad189.add ((x5_1).toNat * 3)).off + 1, none⟩ = some (.int .i64 ((rd_T28 l1 x5_1).f1)) ∧ w'.cell? ⟨(ad189.add ((x5_1).toNat * 3)).block, (ad189.add ((x5_1).toNat * 3)).off + 2, none⟩ = some (.slice A189_2 ((rd_T28 l1 x5_1).f2).length c189_2)) (ds := []) (Cmp.bm 0 10) (by kernel_rfl) rfl rfl ⟨((HB.out.cell (World.block_lt_of_cell? w _ hw188_0)).trans hw188_0), ((HB.out.cell (World.block_lt_of_cell? w _ hw188_1)).trans hw188_1), ((HB.out.cell (World.block_lt_of_cell? w _ hw188_2)).trans hw188_2), ((HB.out.cell (World.block_lt_of_cell? w _ hw189_0)).trans hw189_0), ((HB.out.cell (World.block_lt_of_cell? w _ hw189_1)).trans hw189_1), ((HB.out.cell (World.block_lt_of_cell? w _ hw189_2)).trans hw189_2)⟩ (fun hHeld => ?_); refine with_tabW laws_eqAccountS.tab6 laws_eqAccountS.bits6 (fun HT_ HW_ => ?_)
        generalize wr.drew = w11 at HB HR188_2 HR189_2 hx188_0 hx188_1 hx188_2 hx189_0 hx189_1 hx189_2 hHeld ⊢
        refine Cmp.pu HT_ 0 17 (Cmp.bm 1 9) ?_; refine Cmp.pu HT_ 1 18 (Cmp.bm 2 8) ?_; refine Cmp.pu HT_ 2 19 (Cmp.bm 3 7) ?_; refine Cmp.pu HT_ 4 21 (Cmp.bb 10 23) ?_; refine Cmp.pu HT_ 5 22 (Cmp.bb 10 55) ?_; refine Cmp.pu HT_ 6 23 (Cmp.bb 10 119) ?_; refine Cmp.tk HT_ HW_ hHeld 3 20 (Cmp.bm 7 3) ?_; refine Cmp.tk HT_ HW_ hHeld 7 24 (Cmp.bm 8 2) ?_
        refine one_ (i := 8) (N := some 25) (Cmp.bm 9 1) rfl rfl (one_of HT_.out (by kernel_rfl)) (by decide) (fun K hK => ?_)
        refine goes_ Try.func13 (by kernel_rfl) rfl #[.agg #[.int .i64 ((rd_T28 l0 x5_1).f0), .int .i64 ((rd_T28 l0 x5_1).f1), .slice A188_2 ((rd_T28 l0 x5_1).f2).length c188_2], .agg #[.int .i64 ((rd_T28 l1 x5_1).f0), .int .i64 ((rd_T28 l1 x5_1).f1), .slice A189_2 ((rd_T28 l1 x5_1).f2).length c189_2]] (by rfl) rfl rfl Cmp.q ?_
        with_reducible refine (laws_eqAccount.calls k1 ((rd_T28 l0 x5_1).f0) ((rd_T28 l0 x5_1).f1) _ _ ((rd_T28 l0 x5_1).f2) ((rd_T28 l1 x5_1).f0) ((rd_T28 l1 x5_1).f1) _ _ ((rd_T28 l1 x5_1).f2) false _ ?side1 ?side2 ?side3 ?side4 A7.out).mono ?_
        (case side1 => exact Cmp.rc (Kd.C_below HR188_2.out HB.out))
        (case side2 => exact HC188_2.out)
        (case side3 => exact Cmp.rc (Kd.C_below HR189_2.out HB.out))
        (case side4 => exact HC189_2.out)
        rintro e w12 ⟨rfl, hb⟩; refine ⟨_, rfl, ?_⟩
        have n0_ := Aside0.mk (below_step (Cmp.g HB.out) hb)
        clear HB; have HB := n0_; clear n0_; (try clear hb); (try clear hb2); (try clear hk); (try clear hi)
        refine hK.out _ _ ⟨((HB.out.cell (World.block_lt_of_cell? w _ hw188_0)).trans hw188_0), ((HB.out.cell (World.block_lt_of_cell? w _ hw188_1)).trans hw188_1), ((HB.out.cell (World.block_lt_of_cell? w _ hw188_2)).trans hw188_2), ((HB.out.cell (World.block_lt_of_cell? w _ hw189_0)).trans hw189_0), ((HB.out.cell (World.block_lt_of_cell? w _ hw189_1)).trans hw189_1), ((HB.out.cell (World.block_lt_of_cell? w _ hw189_2)).trans hw189_2)⟩ (fun hHeld => ?_)
        clear hK K
        refine norm_ (a' := ?_) ?_ ?_
        rotate_left
        ·show Act.put _ (some 25) _ = _
         simp only [Act.put, Cmp.s, Cmp.z, Cmp.c, i64_w, i32_w]; rfl
        refine Cmp.pu HT_ 9 26 (Cmp.bm 10 0) ?_
        refine done_ (done_of HT_.out (by kernel_rfl)) ?_
        try go_wp2
        go_ret
        exact ⟨by first | rfl | (simp [errW_none, errW_some] <;> rfl) | (simp [*, errW_none, errW_some] <;> rfl), Cmp.g HB.out⟩
      ·rw [if_neg c6] at H; exact absurd H (by simp)
     ·rw [if_neg c5] at H; exact absurd H (by simp)
    ·rw [if_neg c4] at H
     have c4b0 : decide (x5_1 < (l0.length : Int)) = false := decide_eq_false c4
     clear c4
     obtain rfl := Option.some.inj H
     go_wp2
     go_ret
     exact ⟨by first | rfl | (simp [errW_none, errW_some] <;> rfl) | (simp [*, errW_none, errW_some] <;> rfl), Cmp.g HB.out⟩
 ·rw [if_neg c3] at H
  have c3b0 : ((l0.length : Int) == (l1.length : Int)) = false := beq_eq_false_iff_ne.mpr c3
  have c3b1 : ((l0.length : Int) != (l1.length : Int)) = true := bne_iff_ne.mpr c3
  have c3b2 : (l0.length == l1.length) = false := by first | simpa using c3 | (simp at c3 ⊢; omega)
  obtain rfl := Option.some.inj H
  go_enter Try.func70, Try.ntmps70
  go_wp2
  go_ret
  exact ⟨by first | rfl | (simp [errW_none, errW_some] <;> rfl) | (simp [*, errW_none, errW_some] <;> rfl), Cmp.g HB.out⟩

end Go.Proofs.Ytoffbjjkegeccaa.PFnExactFindAccount

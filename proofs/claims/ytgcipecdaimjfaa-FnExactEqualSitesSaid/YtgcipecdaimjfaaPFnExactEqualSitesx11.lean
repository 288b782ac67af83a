/- Printed functions of the program, out of print.sh, told more shortly. No condition. -/
import Derived.Test.YtgcipecdaimjfaaCmp
import Derived.Test.YtgcipecdaimjfaaPFnExactEqualSitesx0
import Derived.Test.YtgcipecdaimjfaaPFnExactEqualSitesx10
namespace Go.Proofs.Ytgcipecdaimjfaa.PFnExactEqualSites
open Go.Proofs.Ytgcipecdaimjfaa
open Go.RowKit Go.Proofs.YtgcipecdaimjfaaW.PrintWords Go.Proofs.YtgcipecdaimjfaaW.PrintLast Go.Proofs.YtgcipecdaimjfaaW.PrintMore
attribute [local go_sem] max2_int min2_int max_two min_two max_three min_three max_four min_four   -- for this text's walks alone
set_option linter.unusedVariables false
set_option linter.unusedSimpArgs false

/-! ### laws_eqAccountS: function 79 -/
def laws_eqAccountS.l0 : Nat → List (S26) → List (S26) → Int → Option (Bool)
  | 0, _, _, _ => none
  | k + 1, x0, x1, x5 => if x5 < (x0.length : Int) then (if 0 ≤ x5 then (if x5 < (x1.length : Int) then ((laws_eqAccount.f k ((rd_T26 x0 x5).f0) ((rd_T26 x0 x5).f1) ((rd_T26 x0 x5).f2) ((rd_T26 x1 x5).f0) ((rd_T26 x1 x5).f1) ((rd_T26 x1 x5).f2)).bind fun t219 => (if t219 = true then (laws_eqAccountS.l0 k x0 x1 (wrap64 (x5 + 1))) else (some false))) else (none)) else (none)) else (some true)
def laws_eqAccountS.f (k : Nat) (l0 : List (S26)) (l1 : List (S26)) : Option (Bool) := if (l0.length : Int) = (l1.length : Int) then (laws_eqAccountS.l0 k l0 l1 0) else (some false)
theorem laws_eqAccountS.mono_l : ∀ k, (∀ y0 y1 y2, LeO (laws_eqAccountS.l0 k y0 y1 y2) (laws_eqAccountS.l0 (k + 1) y0 y1 y2))
  | 0 => fun _ _ _ r h => by simp [laws_eqAccountS.l0] at h
  | k + 1 => by
    have ih0 := laws_eqAccountS.mono_l k
    · intro y0 y1 y2
      unfold laws_eqAccountS.l0
      repeat' first
      | (with_reducible exact ih0 _ _ _)
      | (with_reducible exact laws_eqAccount.mono _ _ _ _ _ _ _)
      | (with_reducible exact LeO.refl _)
      | (with_reducible exact LeO.none _)
      | (with_reducible refine LeO.ite ?_ ?_)
      | (with_reducible refine LeO.bind ?_ (fun _ => ?_))
      | exact ih0 _ _ _
      | exact laws_eqAccount.mono _ _ _ _ _ _ _
      | exact LeO.none _
      | refine LeO.ite ?_ ?_
      | refine LeO.bind ?_ (fun _ => ?_)
theorem laws_eqAccountS.mono : ∀ a0 a1 k, LeO (laws_eqAccountS.f k a0 a1) (laws_eqAccountS.f (k + 1) a0 a1) := by
  intro a0 a1 k
  have ih0 := laws_eqAccountS.mono_l k
  unfold laws_eqAccountS.f
  repeat' first
      | (with_reducible exact ih0 _ _ _)
      | (with_reducible exact laws_eqAccount.mono _ _ _ _ _ _ _)
      | (with_reducible exact LeO.refl _)
      | (with_reducible exact LeO.none _)
      | (with_reducible refine LeO.ite ?_ ?_)
      | (with_reducible refine LeO.bind ?_ (fun _ => ?_))
      | exact ih0 _ _ _
      | exact laws_eqAccount.mono _ _ _ _ _ _ _
      | exact LeO.none _
      | refine LeO.ite ?_ ?_
      | refine LeO.bind ?_ (fun _ => ?_)
def laws_eqAccountS.T6 : Bool × List (List Nat × List Nat) := (true, [([], []), ([], []), ([0, 1], [0, 1]), ([2], [2]), ([], []), ([], []), ([4, 5], [4, 5]), ([6], [6]), ([3, 7], [3, 7]), ([8], [8])])
def laws_eqAccountS.B6 : List Nat := [0, 0, 3, 7, 0, 0, 48, 112, 255, 511]
theorem laws_eqAccountS.tab6 : rtab .any (opsOf Try.f79 6) = laws_eqAccountS.T6 := by kernel_rfl
theorem laws_eqAccountS.bits6 : waitsOk laws_eqAccountS.T6.2 laws_eqAccountS.B6 = true := by kernel_rfl
set_option maxHeartbeats 8000000 in
set_option maxRecDepth 100000 in
theorem laws_eqAccountS.calls (k : Nat) (A0 : Option Addr) (c0 : Nat) (l0 : List (S26)) (A1 : Option Addr) (c1 : Nat) (l1 : List (S26)) (r : Bool) (w : World) (hr0 : Kd.C k26 w A0 l0.length l0) (hc0 : l0.length ≤ c0) (hr1 : Kd.C k26 w A1 l1.length l1) (hc1 : l1.length ≤ c1) (h : laws_eqAccountS.f k l0 l1 = some r) :
    Calls Try.prog 79 #[.slice A0 l0.length c0, .slice A1 l1.length c1] w fun e w' => e = .returned (.bool r) ∧ Below w.heap.size w w' := by
 have hu26 := Try.underlying26; have HR0 := Aside0.mk hr0; have HC0 := Aside0.mk hc0; clear hr0 hc0; have HR1 := Aside0.mk hr1; have HC1 := Aside0.mk hc1; clear hr1 hc1
 have HB := Aside0.mk (Below.refl w.heap.size w)
 have H : (if (l0.length : Int) = (l1.length : Int) then (laws_eqAccountS.l0 k l0 l1 0) else (some false)) = some r := h
 clear h
 by_cases c3 : (l0.length : Int) = (l1.length : Int)
 ·rw [if_pos c3] at H
  have c3b0 : ((l0.length : Int) == (l1.length : Int)) = true := beq_iff_eq.mpr c3
  have c3b1 : ((l0.length : Int) != (l1.length : Int)) = false := bne_eq_false_iff_eq.mpr c3
  have c3b2 : (l0.length == l1.length) = true := by first | simpa using c3 | (simp at c3 ⊢; omega)
  clear c3
  have H' := Aside0.mk H
  clear H
  go_enter Try.func79, Try.ntmps79
  go_wp2
  go_loopg [5] k (fun kq v5 w' => ∃ (x5_1 : Int), v5 = .int .i64 x5_1 ∧ Aside0 (laws_eqAccountS.l0 kq l0 l1 x5_1 = some r) ∧ Aside0 (kq ≤ k) ∧ Aside0 (Below w.heap.size w w'))
  case atStart => exact ⟨(0), (by first | rfl | simp | simp [*]), H', ⟨Nat.le_refl _⟩, ⟨Cmp.g HB.out⟩⟩
  case round =>
   clear H'
   (try clear c1); (try clear p2); (try clear c3); (try clear c3b0); (try clear c3b1); (try clear c3b2)
   obtain ⟨x5_1, rfl, HA, HK1, HB⟩ := hrel
   cases gk with
   | zero => exact absurd HA.out (by simp [laws_eqAccountS.l0])
   | succ k1 =>
    have H := HA.out; clear HA
    simp only [laws_eqAccountS.l0] at H
    by_cases c4 : x5_1 < (l0.length : Int)
    ·rw [if_pos c4] at H
     have c4b0 : decide (x5_1 < (l0.length : Int)) = true := decide_eq_true c4
     clear c4
     by_cases c5 : 0 ≤ x5_1
     ·rw [if_pos c5] at H; have c5b0 : decide (0 ≤ x5_1) = true := decide_eq_true c5; clear c5
      by_cases c6 : x5_1 < (l1.length : Int)
      ·rw [if_pos c6] at H
       have c6b0 : decide (x5_1 < (l1.length : Int)) = true := decide_eq_true c6
       clear c6; replace H := Option.bind_eq_some_iff.mp H; obtain ⟨t219, A70, H⟩ := H; (try dsimp only at H); have A7 := Aside0.mk A70; clear A70
       by_cases c8 : t219 = true
       ·subst c8; rw [if_pos rfl] at H
        have H' := Aside0.mk H
        clear H
        try go_wp2
        have n0_ := Aside0.mk (below_drew1 HB.out); clear HB; have HB := n0_; clear n0_
        have p217 : 0 ≤ (x5_1 : Int) := of_decide_eq_true Cmp.d
        have q217 : x5_1 < (l0.length : Int) := of_decide_eq_true Cmp.d
        obtain ⟨ad217, A217_2, c217_2, e217, hx217_0, hx217_1, hx217_2, hl217_2, hi217_2⟩ := at_T26 HR0.out x5_1 p217 q217
        have hw217_2 := hx217_2; have hw217_1 := hx217_1; have hw217_0 := hx217_0; cases e217
        replace hx217_0 := (HB.out.cell (World.block_lt_of_cell? w _ hx217_0)).trans hx217_0
        replace hx217_1 := (HB.out.cell (World.block_lt_of_cell? w _ hx217_1)).trans hx217_1
        replace hx217_2 := (HB.out.cell (World.block_lt_of_cell? w _ hx217_2)).trans hx217_2
        have HR217_2 := Aside0.mk hi217_2; have HC217_2 := Aside0.mk hl217_2; clear hi217_2 hl217_2; replace p217 := eq_true p217; replace q217 := eq_true q217
        have p218 : 0 ≤ (x5_1 : Int) := of_decide_eq_true Cmp.d
        have q218 : x5_1 < (l1.length : Int) := of_decide_eq_true Cmp.d
        obtain ⟨ad218, A218_2, c218_2, e218, hx218_0, hx218_1, hx218_2, hl218_2, hi218_2⟩ := at_T26 HR1.out x5_1 p218 q218
        have hw218_2 := hx218_2; have hw218_1 := hx218_1; have hw218_0 := hx218_0; cases e218
        replace hx218_0 := (HB.out.cell (World.block_lt_of_cell? w _ hx218_0)).trans hx218_0
        replace hx218_1 := (HB.out.cell (World.block_lt_of_cell? w _ hx218_1)).trans hx218_1
        replace hx218_2 := (HB.out.cell (World.block_lt_of_cell? w _ hx218_2)).trans hx218_2
        have HR218_2 := Aside0.mk hi218_2; have HC218_2 := Aside0.mk hl218_2; clear hi218_2 hl218_2; replace p218 := eq_true p218; replace q218 := eq_true q218
        refine start_ (n := 10) (S := fun w' => w'.cell? (ad217.add ((x5_1).toNat * 3)) = some (.int .i64 ((rd_T26 l0 x5_1).f0)) ∧ w'.cell? ⟨(ad217.add ((x5_1).toNat * 3)).block, (ad217.add ((x5_1).toNat * 3)).off + 1, none⟩ = some (.int .i64 ((rd_T26 l0 x5_1).f1)) ∧ w'.cell? ⟨(ad217.add ((x5_1).toNat * 3)).block, (ad217.add ((x5_1).toNat * 3)).off + 2, none⟩ = some (.slice A217_2 ((rd_T26 l0 x5_1).f2).length c217_2) ∧ w'.cell? (ad218.add ((x5_1).toNat * 3)) = some (.int .i64 ((rd_T26 l1 x5_1).f0)) ∧ w'.cell? ⟨(ad218.add ((x5_1).toNat * 3)).block, (ad218.add ((x5_1).toNat * 3)).off + 1, none⟩ = some (.int .i64 ((rd_T26 l1 x5_1).f1)) ∧ w'.cell? ⟨(ad218.add ((x5_1).toNat * 3)).block, (ad218.add ((x5_1).toNat * 3)).off + 2, none⟩ = some (.slice A218_2 ((rd_T26 l1 x5_1).f2).length c218_2)) (ds := []) (Cmp.bm 0 10) (by kernel_rfl) rfl rfl ⟨((HB.out.cell (World.block_lt_of_cell? w _ hw217_0)).trans hw217_0), ((HB.out.cell (World.block_lt_of_cell? w _ hw217_1)).trans hw217_1), ((HB.out.cell (World.block_lt_of_cell? w _ hw217_2)).trans hw217_2), ((HB.out.cell (World.block_lt_of_cell? w _ hw218_0)).trans hw218_0), ((HB.out.cell (World.block_lt_of_cell? w _ hw218_1)).trans hw218_1), ((HB.out.cell (World.block_lt_of_cell? w _ hw218_2)).trans hw218_2)⟩ (fun hHeld => ?_); refine with_tabW laws_eqAccountS.tab6 laws_eqAccountS.bits6 (fun HT_ HW_ => ?_)
        generalize wr.drew = w9 at HB HR217_2 HR218_2 hx217_0 hx217_1 hx217_2 hx218_0 hx218_1 hx218_2 hHeld ⊢
        refine Cmp.pu HT_ 0 17 (Cmp.bm 1 9) ?_; refine Cmp.pu HT_ 1 18 (Cmp.bm 2 8) ?_; refine Cmp.pu HT_ 2 19 (Cmp.bm 3 7) ?_; refine Cmp.pu HT_ 4 21 (Cmp.bb 10 23) ?_; refine Cmp.pu HT_ 5 22 (Cmp.bb 10 55) ?_; refine Cmp.pu HT_ 6 23 (Cmp.bb 10 119) ?_; refine Cmp.tk HT_ HW_ hHeld 3 20 (Cmp.bm 7 3) ?_; refine Cmp.tk HT_ HW_ hHeld 7 24 (Cmp.bm 8 2) ?_
        refine one_ (i := 8) (N := some 25) (Cmp.bm 9 1) rfl rfl (one_of HT_.out (by kernel_rfl)) (by decide) (fun K hK => ?_)
        refine goes_ Try.func127 (by kernel_rfl) rfl #[.agg #[.int .i64 ((rd_T26 l0 x5_1).f0), .int .i64 ((rd_T26 l0 x5_1).f1), .slice A217_2 ((rd_T26 l0 x5_1).f2).length c217_2], .agg #[.int .i64 ((rd_T26 l1 x5_1).f0), .int .i64 ((rd_T26 l1 x5_1).f1), .slice A218_2 ((rd_T26 l1 x5_1).f2).length c218_2]] (by rfl) rfl rfl Cmp.q ?_
        with_reducible refine (laws_eqAccount.calls k1 ((rd_T26 l0 x5_1).f0) ((rd_T26 l0 x5_1).f1) _ _ ((rd_T26 l0 x5_1).f2) ((rd_T26 l1 x5_1).f0) ((rd_T26 l1 x5_1).f1) _ _ ((rd_T26 l1 x5_1).f2) true _ ?side1 ?side2 ?side3 ?side4 A7.out).mono ?_
        (case side1 => exact Cmp.rc (Kd.C_below HR217_2.out HB.out))
        (case side2 => exact HC217_2.out)
        (case side3 => exact Cmp.rc (Kd.C_below HR218_2.out HB.out))
        (case side4 => exact HC218_2.out)
        rintro e w10 ⟨rfl, hb⟩; refine ⟨_, rfl, ?_⟩
        have n0_ := Aside0.mk (below_step (Cmp.g HB.out) hb)
        clear HB; have HB := n0_; clear n0_; (try clear hb); (try clear hb2); (try clear hk); (try clear hi)
        refine hK.out _ _ ⟨((HB.out.cell (World.block_lt_of_cell? w _ hw217_0)).trans hw217_0), ((HB.out.cell (World.block_lt_of_cell? w _ hw217_1)).trans hw217_1), ((HB.out.cell (World.block_lt_of_cell? w _ hw217_2)).trans hw217_2), ((HB.out.cell (World.block_lt_of_cell? w _ hw218_0)).trans hw218_0), ((HB.out.cell (World.block_lt_of_cell? w _ hw218_1)).trans hw218_1), ((HB.out.cell (World.block_lt_of_cell? w _ hw218_2)).trans hw218_2)⟩ (fun hHeld => ?_)
        clear hK K
        refine norm_ (a' := ?_) ?_ ?_
        rotate_left
        ·show Act.put _ (some 25) _ = _
         simp only [Act.put, Cmp.s, Cmp.z, Cmp.c, i64_w, i32_w]; rfl
        refine Cmp.pu HT_ 9 26 (Cmp.bm 10 0) ?_
        refine done_ (done_of HT_.out (by kernel_rfl)) ?_
        try go_wp2
        go_roundg k1
        case measure => have := HK1.out; omega
        case rel => exact ⟨(wrap64 (x5_1 + 1)), (by first | rfl | simp | simp [*]), H', ⟨by have := HK1.out; omega⟩, ⟨Cmp.g HB.out⟩⟩
       ·replace c8 := Bool.eq_false_iff.mpr c8
        subst c8
        have H1 : (some false) = some r := by rw [if_neg (show ¬ (false = true) by decide)] at H; exact H
        clear H; have H := H1; clear H1
        obtain rfl := Option.some.inj H
        try go_wp2
        have n0_ := Aside0.mk (below_drew1 HB.out); clear HB; have HB := n0_; clear n0_
        have p217 : 0 ≤ (x5_1 : Int) := of_decide_eq_true Cmp.d
        have q217 : x5_1 < (l0.length : Int) := of_decide_eq_true Cmp.d
        obtain ⟨ad217, A217_2, c217_2, e217, hx217_0, hx217_1, hx217_2, hl217_2, hi217_2⟩ := at_T26 HR0.out x5_1 p217 q217
        have hw217_2 := hx217_2; have hw217_1 := hx217_1; have hw217_0 := hx217_0; cases e217
        replace hx217_0 := (HB.out.cell (World.block_lt_of_cell? w _ hx217_0)).trans hx217_0
        replace hx217_1 := (HB.out.cell (World.block_lt_of_cell? w _ hx217_1)).trans hx217_1
        replace hx217_2 := (HB.out.cell (World.block_lt_of_cell? w _ hx217_2)).trans hx217_2
        have HR217_2 := Aside0.mk hi217_2; have HC217_2 := Aside0.mk hl217_2; clear hi217_2 hl217_2; replace p217 := eq_true p217; replace q217 := eq_true q217
        have p218 : 0 ≤ (x5_1 : Int) := of_decide_eq_true Cmp.d
        have q218 : x5_1 < (l1.length : Int) := of_decide_eq_true Cmp.d
        obtain ⟨ad218, A218_2, c218_2, e218, hx218_0, hx218_1, hx218_2, hl218_2, hi218_2⟩ := at_T26 HR1.out x5_1 p218 q218
        have hw218_2 := hx218_2; have hw218_1 := hx218_1; have hw218_0 := hx218_0; cases e218
        replace hx218_0 := (HB.out.cell (World.block_lt_of_cell? w _ hx218_0)).trans hx218_0
        replace hx218_1 := (HB.out.cell (World.block_lt_of_cell? w _ hx218_1)).trans hx218_1
        replace hx218_2 := (HB.out.cell (World.block_lt_of_cell? w _ hx218_2)).trans hx218_2
        have HR218_2 := Aside0.mk hi218_2; have HC218_2 := Aside0.mk hl218_2; clear hi218_2 hl218_2; replace p218 := eq_true p218; replace q218 := eq_true q218
        refine start_ (n := 10) (S := fun w' => w'.cell? (ad217.add ((x5_1).toNat * 3)) = some (.int .i64 ((rd_T26 l0 x5_1).f0)) ∧ w'.cell? ⟨(ad217.add ((x5_1).toNat * 3)).block, (ad217.add ((x5_1).toNat * 3)).off + 1, none⟩ = some (.int .i64 ((rd_T26 l0 x5_1).f1)) ∧ w'.cell? ⟨(ad217.add ((x5_1).toNat * 3)).block, (ad217.add ((x5_1).toNat * 3)).off + 2, none⟩ = some (.slice A217_2 ((rd_T26 l0 x5_1).f2).length c217_2) ∧ w'.cell? (ad218.add ((x5_1).toNat * 3)) = some (.int .i64 ((rd_T26 l1 x5_1).f0)) ∧ w'.cell? ⟨(ad218.add ((x5_1).toNat * 3)).block, (ad218.add ((x5_1).toNat * 3)).off + 1, none⟩ = some (.int .i64 ((rd_T26 l1 x5_1).f1)) ∧ w'.cell? ⟨(ad218.add ((x5_1).toNat * 3)).block, (ad218.add ((x5_1).toNat * 3)).off + 2, none⟩ = some (.slice A218_2 ((rd_T26 l1 x5_1).f2).length c218_2)) (ds := []) (Cmp.bm 0 10) (by kernel_rfl) rfl rfl ⟨((HB.out.cell (World.block_lt_of_cell? w _ hw217_0)).trans hw217_0), ((HB.out.cell (World.block_lt_of_cell? w _ hw217_1)).trans hw217_1), ((HB.out.cell (World.block_lt_of_cell? w _ hw217_2)).trans hw217_2), ((HB.out.cell (World.block_lt_of_cell? w _ hw218_0)).trans hw218_0), ((HB.out.cell (World.block_lt_of_cell? w _ hw218_1)).trans hw218_1), ((HB.out.cell (World.block_lt_of_cell? w _ hw218_2)).trans hw218_2)⟩ (fun hHeld => ?_); refine with_tabW laws_eqAccountS.tab6 laws_eqAccountS.bits6 (fun HT_ HW_ => ?_)
        generalize wr.drew = w11 at HB HR217_2 HR218_2 hx217_0 hx217_1 hx217_2 hx218_0 hx218_1 hx218_2 hHeld ⊢
        refine Cmp.pu HT_ 0 17 (Cmp.bm 1 9) ?_; refine Cmp.pu HT_ 1 18 (Cmp.bm 2 8) ?_; refine Cmp.pu HT_ 2 19 (Cmp.bm 3 7) ?_; refine Cmp.pu HT_ 4 21 (Cmp.bb 10 23) ?_; refine Cmp.pu HT_ 5 22 (Cmp.bb 10 55) ?_; refine Cmp.pu HT_ 6 23 (Cmp.bb 10 119) ?_; refine Cmp.tk HT_ HW_ hHeld 3 20 (Cmp.bm 7 3) ?_; refine Cmp.tk HT_ HW_ hHeld 7 24 (Cmp.bm 8 2) ?_
        refine one_ (i := 8) (N := some 25) (Cmp.bm 9 1) rfl rfl (one_of HT_.out (by kernel_rfl)) (by decide) (fun K hK => ?_)
        refine goes_ Try.func127 (by kernel_rfl) rfl #[.agg #[.int .i64 ((rd_T26 l0 x5_1).f0), .int .i64 ((rd_T26 l0 x5_1).f1), .slice A217_2 ((rd_T26 l0 x5_1).f2).length c217_2], .agg #[.int .i64 ((rd_T26 l1 x5_1).f0), .int .i64 ((rd_T26 l1 x5_1).f1), .slice A218_2 ((rd_T26 l1 x5_1).f2).length c218_2]] (by rfl) rfl rfl Cmp.q ?_
        with_reducible refine (laws_eqAccount.calls k1 ((rd_T26 l0 x5_1).f0) ((rd_T26 l0 x5_1).f1) _ _ ((rd_T26 l0 x5_1).f2) ((rd_T26 l1 x5_1).f0) ((rd_T26 l1 x5_1).f1) _ _ ((rd_T26 l1 x5_1).f2) false _ ?side1 ?side2 ?side3 ?side4 A7.out).mono ?_
        (case side1 => exact Cmp.rc (Kd.C_below HR217_2.out HB.out))
        (case side2 => exact HC217_2.out)
        (case side3 => exact Cmp.rc (Kd.C_below HR218_2.out HB.out))
        (case side4 => exact HC218_2.out)
        rintro e w12 ⟨rfl, hb⟩; refine ⟨_, rfl, ?_⟩
        have n0_ := Aside0.mk (below_step (Cmp.g HB.out) hb)
        clear HB; have HB := n0_; clear n0_; (try clear hb); (try clear hb2); (try clear hk); (try clear hi)
        refine hK.out _ _ ⟨((HB.out.cell (World.block_lt_of_cell? w _ hw217_0)).trans hw217_0), ((HB.out.cell (World.block_lt_of_cell? w _ hw217_1)).trans hw217_1), ((HB.out.cell (World.block_lt_of_cell? w _ hw217_2)).trans hw217_2), ((HB.out.cell (World.block_lt_of_cell? w _ hw218_0)).trans hw218_0), ((HB.out.cell (World.block_lt_of_cell? w _ hw218_1)).trans hw218_1), ((HB.out.cell (World.block_lt_of_cell? w _ hw218_2)).trans hw218_2)⟩ (fun hHeld => ?_)
        clear hK K
        refine norm_ (a' := ?_) ?_ ?_
        rotate_left
        ·show Act.put _ (some 25) _ = _
         simp only [Act.put, Cmp.s, Cmp.z, Cmp.c, i64_w, i32_w]; rfl
        refine Cmp.pu HT_ 9 26 (Cmp.bm 10 0) ?_
        refine done_ (done_of HT_.out (by kernel_rfl)) ?_
        try go_wp2
        go_ret
        exact ⟨by first | rfl | (simp [errW_none, errW_some] <;> rfl) | (simp [*, errW_none, errW_some] <;> rfl), Cmp.g HB.out⟩
      ·rw [if_neg c6] at H; exact absurd H (by simp)
     ·rw [if_neg c5] at H; exact absurd H (by simp)
    ·rw [if_neg c4] at H
     have c4b0 : decide (x5_1 < (l0.length : Int)) = false := decide_eq_false c4
     clear c4
     obtain rfl := Option.some.inj H
     go_wp2
     go_ret
     exact ⟨by first | rfl | (simp [errW_none, errW_some] <;> rfl) | (simp [*, errW_none, errW_some] <;> rfl), Cmp.g HB.out⟩
 ·rw [if_neg c3] at H
  have c3b0 : ((l0.length : Int) == (l1.length : Int)) = false := beq_eq_false_iff_ne.mpr c3
  have c3b1 : ((l0.length : Int) != (l1.length : Int)) = true := bne_iff_ne.mpr c3
  have c3b2 : (l0.length == l1.length) = false := by first | simpa using c3 | (simp at c3 ⊢; omega)
  obtain rfl := Option.some.inj H
  go_enter Try.func79, Try.ntmps79
  go_wp2
  go_ret
  exact ⟨by first | rfl | (simp [errW_none, errW_some] <;> rfl) | (simp [*, errW_none, errW_some] <;> rfl), Cmp.g HB.out⟩

/-! ### laws_eqChallenge: function 159 -/
def laws_eqChallenge.f (a0_0 : Int) (a0_1 : Int) (a0_2 : Int) (a1_0 : Int) (a1_1 : Int) (a1_2 : Int) : Option (Bool) := if a0_0 = a1_0 then (if a0_1 = a1_1 then (if a0_2 = a1_2 then (some true) else (some false)) else (some false)) else (some false)
set_option maxHeartbeats 8000000 in
set_option maxRecDepth 100000 in
theorem laws_eqChallenge.calls (a0_0 : Int) (a0_1 : Int) (a0_2 : Int) (a1_0 : Int) (a1_1 : Int) (a1_2 : Int) (r : Bool) (w : World) (h : laws_eqChallenge.f a0_0 a0_1 a0_2 a1_0 a1_1 a1_2 = some r) :
    Calls Try.prog 159 #[.agg #[.int .i64 a0_0, .int .i64 a0_1, .int .i64 a0_2], .agg #[.int .i64 a1_0, .int .i64 a1_1, .int .i64 a1_2]] w fun e w' => e = .returned (.bool r) ∧ Below w.heap.size w w' := by
 have hu156 := Try.underlying156
 have HB := Aside0.mk (Below.refl w.heap.size w)
 have H : (if a0_0 = a1_0 then (if a0_1 = a1_1 then (if a0_2 = a1_2 then (some true) else (some false)) else (some false)) else (some false)) = some r := h
 clear h
 by_cases c3 : a0_0 = a1_0
 ·rw [if_pos c3] at H; have c3b0 : (a0_0 == a1_0) = true := beq_iff_eq.mpr c3; have c3b1 : (a0_0 != a1_0) = false := bne_eq_false_iff_eq.mpr c3; clear c3
  by_cases c4 : a0_1 = a1_1
  ·rw [if_pos c4] at H; have c4b0 : (a0_1 == a1_1) = true := beq_iff_eq.mpr c4; have c4b1 : (a0_1 != a1_1) = false := bne_eq_false_iff_eq.mpr c4; clear c4
   by_cases c5 : a0_2 = a1_2
   ·rw [if_pos c5] at H; have c5b0 : (a0_2 == a1_2) = true := beq_iff_eq.mpr c5; have c5b1 : (a0_2 != a1_2) = false := bne_eq_false_iff_eq.mpr c5; clear c5
    obtain rfl := Option.some.inj H
    go_enter Try.func159, Try.ntmps159
    go_wp2_with (first | ((with_reducible refine gate_dst (N := 2) rfl ?_); refine box_event (by rfl) (N := 2) (by rfl) (cs := #[.int .i64 a0_0, .int .i64 a0_1, .int .i64 a0_2]) (t := 156) (by first | (go_simp; done) | (go_simp; rfl)) ?_; intro gb220 hg w6 hbox hb; have n0_ := Aside0.mk (below_step (Cmp.g HB.out) hb); have n1_ := Aside0.mk (hbox); have n2_ := Aside0.mk ((by rw [hg]; exact (below_size (Cmp.g HB.out)) : w.heap.size ≤ gb220)); have n3_ := Aside0.mk ((by rw [hg]; exact (below_size (Cmp.g HB.out)) : w.heap.size ≤ gb220)); clear HB; have HB := n0_; have BK220 := n1_; have GW220 := n2_; have GE220 := n3_; clear n0_ n1_ n2_ n3_; clear hb hbox hg) | ((with_reducible refine gate_dst (N := 3) rfl ?_); refine box_event (by rfl) (N := 3) (by rfl) (cs := #[.int .i64 a1_0, .int .i64 a1_1, .int .i64 a1_2]) (t := 156) (by first | (go_simp; done) | (go_simp; rfl)) ?_; intro gb221 hg w7 hbox hb; have n0_ := Aside0.mk (blk_below (Cmp.b BK220.out) hb); have n1_ := Aside0.mk (below_step (Cmp.g HB.out) hb); have n2_ := Aside0.mk (hbox); have n3_ := Aside0.mk ((by rw [hg]; exact (below_size (Cmp.g HB.out)) : w.heap.size ≤ gb221)); have n4_ := Aside0.mk ((by rw [hg]; exact (below_size (Cmp.g HB.out)) : w.heap.size ≤ gb221)); have n5_ := Aside0.mk ((by rw [hg]; exact Nat.ne_of_lt (blk_lt (Cmp.b BK220.out)) : gb220 ≠ gb221)); have n6_ := Aside0.mk ((by rw [hg]; exact Nat.ne_of_gt (blk_lt (Cmp.b BK220.out)) : gb221 ≠ gb220)); clear BK220; clear HB; have BK220 := n0_; have HB := n1_; have BK221 := n2_; have GW221 := n3_; have GE221 := n4_; have NB220_221 := n5_; have NB221_220 := n6_; clear n0_ n1_ n2_ n3_ n4_ n5_ n6_; clear hb hbox hg; have hnb8 := NB220_221.out; have hnc8 := NB221_220.out; have hcz9_0 : w7.cell? ⟨gb220, 0, none⟩ = some (.int .i64 a0_0) := (blk_cell BK220.out 0).trans rfl; have hcz9_1 : w7.cell? ⟨gb220, 1, none⟩ = some (.int .i64 a0_1) := (blk_cell BK220.out 1).trans rfl; have hcz9_2 : w7.cell? ⟨gb220, 2, none⟩ = some (.int .i64 a0_2) := (blk_cell BK220.out 2).trans rfl; have hfz9_0 := blk_frozen BK220.out 0; have hfz9_1 := blk_frozen BK220.out 1; have hfz9_2 := blk_frozen BK220.out 2; have hcz10_0 : w7.cell? ⟨gb221, 0, none⟩ = some (.int .i64 a1_0) := (blk_cell BK221.out 0).trans rfl; have hcz10_1 : w7.cell? ⟨gb221, 1, none⟩ = some (.int .i64 a1_1) := (blk_cell BK221.out 1).trans rfl; have hcz10_2 : w7.cell? ⟨gb221, 2, none⟩ = some (.int .i64 a1_2) := (blk_cell BK221.out 2).trans rfl; have hfz10_0 := blk_frozen BK221.out 0; have hfz10_1 := blk_frozen BK221.out 1; have hfz10_2 := blk_frozen BK221.out 2))
    go_ret
    exact ⟨by first | rfl | (simp [errW_none, errW_some] <;> rfl) | (simp [*, errW_none, errW_some] <;> rfl), Cmp.g HB.out⟩
   ·rw [if_neg c5] at H; have c5b0 : (a0_2 == a1_2) = false := beq_eq_false_iff_ne.mpr c5; have c5b1 : (a0_2 != a1_2) = true := bne_iff_ne.mpr c5
    obtain rfl := Option.some.inj H
    go_enter Try.func159, Try.ntmps159
    go_wp2_with (first | ((with_reducible refine gate_dst (N := 2) rfl ?_); refine box_event (by rfl) (N := 2) (by rfl) (cs := #[.int .i64 a0_0, .int .i64 a0_1, .int .i64 a0_2]) (t := 156) (by first | (go_simp; done) | (go_simp; rfl)) ?_; intro gb220 hg w11 hbox hb; have n0_ := Aside0.mk (below_step (Cmp.g HB.out) hb); have n1_ := Aside0.mk (hbox); have n2_ := Aside0.mk ((by rw [hg]; exact (below_size (Cmp.g HB.out)) : w.heap.size ≤ gb220)); have n3_ := Aside0.mk ((by rw [hg]; exact (below_size (Cmp.g HB.out)) : w.heap.size ≤ gb220)); clear HB; have HB := n0_; have BK220 := n1_; have GW220 := n2_; have GE220 := n3_; clear n0_ n1_ n2_ n3_; clear hb hbox hg) | ((with_reducible refine gate_dst (N := 3) rfl ?_); refine box_event (by rfl) (N := 3) (by rfl) (cs := #[.int .i64 a1_0, .int .i64 a1_1, .int .i64 a1_2]) (t := 156) (by first | (go_simp; done) | (go_simp; rfl)) ?_; intro gb221 hg w12 hbox hb; have n0_ := Aside0.mk (blk_below (Cmp.b BK220.out) hb); have n1_ := Aside0.mk (below_step (Cmp.g HB.out) hb); have n2_ := Aside0.mk (hbox); have n3_ := Aside0.mk ((by rw [hg]; exact (below_size (Cmp.g HB.out)) : w.heap.size ≤ gb221)); have n4_ := Aside0.mk ((by rw [hg]; exact (below_size (Cmp.g HB.out)) : w.heap.size ≤ gb221)); have n5_ := Aside0.mk ((by rw [hg]; exact Nat.ne_of_lt (blk_lt (Cmp.b BK220.out)) : gb220 ≠ gb221)); have n6_ := Aside0.mk ((by rw [hg]; exact Nat.ne_of_gt (blk_lt (Cmp.b BK220.out)) : gb221 ≠ gb220)); clear BK220; clear HB; have BK220 := n0_; have HB := n1_; have BK221 := n2_; have GW221 := n3_; have GE221 := n4_; have NB220_221 := n5_; have NB221_220 := n6_; clear n0_ n1_ n2_ n3_ n4_ n5_ n6_; clear hb hbox hg; have hnb13 := NB220_221.out; have hnc13 := NB221_220.out; have hcz14_0 : w12.cell? ⟨gb220, 0, none⟩ = some (.int .i64 a0_0) := (blk_cell BK220.out 0).trans rfl; have hcz14_1 : w12.cell? ⟨gb220, 1, none⟩ = some (.int .i64 a0_1) := (blk_cell BK220.out 1).trans rfl; have hcz14_2 : w12.cell? ⟨gb220, 2, none⟩ = some (.int .i64 a0_2) := (blk_cell BK220.out 2).trans rfl; have hfz14_0 := blk_frozen BK220.out 0; have hfz14_1 := blk_frozen BK220.out 1; have hfz14_2 := blk_frozen BK220.out 2; have hcz15_0 : w12.cell? ⟨gb221, 0, none⟩ = some (.int .i64 a1_0) := (blk_cell BK221.out 0).trans rfl; have hcz15_1 : w12.cell? ⟨gb221, 1, none⟩ = some (.int .i64 a1_1) := (blk_cell BK221.out 1).trans rfl; have hcz15_2 : w12.cell? ⟨gb221, 2, none⟩ = some (.int .i64 a1_2) := (blk_cell BK221.out 2).trans rfl; have hfz15_0 := blk_frozen BK221.out 0; have hfz15_1 := blk_frozen BK221.out 1; have hfz15_2 := blk_frozen BK221.out 2))
    go_ret
    exact ⟨by first | rfl | (simp [errW_none, errW_some] <;> rfl) | (simp [*, errW_none, errW_some] <;> rfl), Cmp.g HB.out⟩
  ·rw [if_neg c4] at H; have c4b0 : (a0_1 == a1_1) = false := beq_eq_false_iff_ne.mpr c4; have c4b1 : (a0_1 != a1_1) = true := bne_iff_ne.mpr c4
   obtain rfl := Option.some.inj H
   go_enter Try.func159, Try.ntmps159
   go_wp2_with (first | ((with_reducible refine gate_dst (N := 2) rfl ?_); refine box_event (by rfl) (N := 2) (by rfl) (cs := #[.int .i64 a0_0, .int .i64 a0_1, .int .i64 a0_2]) (t := 156) (by first | (go_simp; done) | (go_simp; rfl)) ?_; intro gb220 hg w16 hbox hb; have n0_ := Aside0.mk (below_step (Cmp.g HB.out) hb); have n1_ := Aside0.mk (hbox); have n2_ := Aside0.mk ((by rw [hg]; exact (below_size (Cmp.g HB.out)) : w.heap.size ≤ gb220)); have n3_ := Aside0.mk ((by rw [hg]; exact (below_size (Cmp.g HB.out)) : w.heap.size ≤ gb220)); clear HB; have HB := n0_; have BK220 := n1_; have GW220 := n2_; have GE220 := n3_; clear n0_ n1_ n2_ n3_; clear hb hbox hg) | ((with_reducible refine gate_dst (N := 3) rfl ?_); refine box_event (by rfl) (N := 3) (by rfl) (cs := #[.int .i64 a1_0, .int .i64 a1_1, .int .i64 a1_2]) (t := 156) (by first | (go_simp; done) | (go_simp; rfl)) ?_; intro gb221 hg w17 hbox hb; have n0_ := Aside0.mk (blk_below (Cmp.b BK220.out) hb); have n1_ := Aside0.mk (below_step (Cmp.g HB.out) hb); have n2_ := Aside0.mk (hbox); have n3_ := Aside0.mk ((by rw [hg]; exact (below_size (Cmp.g HB.out)) : w.heap.size ≤ gb221)); have n4_ := Aside0.mk ((by rw [hg]; exact (below_size (Cmp.g HB.out)) : w.heap.size ≤ gb221)); have n5_ := Aside0.mk ((by rw [hg]; exact Nat.ne_of_lt (blk_lt (Cmp.b BK220.out)) : gb220 ≠ gb221)); have n6_ := Aside0.mk ((by rw [hg]; exact Nat.ne_of_gt (blk_lt (Cmp.b BK220.out)) : gb221 ≠ gb220)); clear BK220; clear HB; have BK220 := n0_; have HB := n1_; have BK221 := n2_; have GW221 := n3_; have GE221 := n4_; have NB220_221 := n5_; have NB221_220 := n6_; clear n0_ n1_ n2_ n3_ n4_ n5_ n6_; clear hb hbox hg; have hnb18 := NB220_221.out; have hnc18 := NB221_220.out; have hcz19_0 : w17.cell? ⟨gb220, 0, none⟩ = some (.int .i64 a0_0) := (blk_cell BK220.out 0).trans rfl; have hcz19_1 : w17.cell? ⟨gb220, 1, none⟩ = some (.int .i64 a0_1) := (blk_cell BK220.out 1).trans rfl; have hcz19_2 : w17.cell? ⟨gb220, 2, none⟩ = some (.int .i64 a0_2) := (blk_cell BK220.out 2).trans rfl; have hfz19_0 := blk_frozen BK220.out 0; have hfz19_1 := blk_frozen BK220.out 1; have hfz19_2 := blk_frozen BK220.out 2; have hcz20_0 : w17.cell? ⟨gb221, 0, none⟩ = some (.int .i64 a1_0) := (blk_cell BK221.out 0).trans rfl; have hcz20_1 : w17.cell? ⟨gb221, 1, none⟩ = some (.int .i64 a1_1) := (blk_cell BK221.out 1).trans rfl; have hcz20_2 : w17.cell? ⟨gb221, 2, none⟩ = some (.int .i64 a1_2) := (blk_cell BK221.out 2).trans rfl; have hfz20_0 := blk_frozen BK221.out 0; have hfz20_1 := blk_frozen BK221.out 1; have hfz20_2 := blk_frozen BK221.out 2))
   go_ret
   exact ⟨by first | rfl | (simp [errW_none, errW_some] <;> rfl) | (simp [*, errW_none, errW_some] <;> rfl), Cmp.g HB.out⟩
 ·rw [if_neg c3] at H; have c3b0 : (a0_0 == a1_0) = false := beq_eq_false_iff_ne.mpr c3; have c3b1 : (a0_0 != a1_0) = true := bne_iff_ne.mpr c3
  obtain rfl := Option.some.inj H
  go_enter Try.func159, Try.ntmps159
  go_wp2_with (first | ((with_reducible refine gate_dst (N := 2) rfl ?_); refine box_event (by rfl) (N := 2) (by rfl) (cs := #[.int .i64 a0_0, .int .i64 a0_1, .int .i64 a0_2]) (t := 156) (by first | (go_simp; done) | (go_simp; rfl)) ?_; intro gb220 hg w21 hbox hb; have n0_ := Aside0.mk (below_step (Cmp.g HB.out) hb); have n1_ := Aside0.mk (hbox); have n2_ := Aside0.mk ((by rw [hg]; exact (below_size (Cmp.g HB.out)) : w.heap.size ≤ gb220)); have n3_ := Aside0.mk ((by rw [hg]; exact (below_size (Cmp.g HB.out)) : w.heap.size ≤ gb220)); clear HB; have HB := n0_; have BK220 := n1_; have GW220 := n2_; have GE220 := n3_; clear n0_ n1_ n2_ n3_; clear hb hbox hg) | ((with_reducible refine gate_dst (N := 3) rfl ?_); refine box_event (by rfl) (N := 3) (by rfl) (cs := #[.int .i64 a1_0, .int .i64 a1_1, .int .i64 a1_2]) (t := 156) (by first | (go_simp; done) | (go_simp; rfl)) ?_; intro gb221 hg w22 hbox hb; have n0_ := Aside0.mk (blk_below (Cmp.b BK220.out) hb); have n1_ := Aside0.mk (below_step (Cmp.g HB.out) hb); have n2_ := Aside0.mk (hbox); have n3_ := Aside0.mk ((by rw [hg]; exact (below_size (Cmp.g HB.out)) : w.heap.size ≤ gb221)); have n4_ := Aside0.mk ((by rw [hg]; exact (below_size (Cmp.g HB.out)) : w.heap.size ≤ gb221)); have n5_ := Aside0.mk ((by rw [hg]; exact Nat.ne_of_lt (blk_lt (Cmp.b BK220.out)) : gb220 ≠ gb221)); have n6_ := Aside0.mk ((by rw [hg]; exact Nat.ne_of_gt (blk_lt (Cmp.b BK220.out)) : gb221 ≠ gb220)); clear BK220; clear HB; have BK220 := n0_; have HB := n1_; have BK221 := n2_; have GW221 := n3_; have GE221 := n4_; have NB220_221 := n5_; have NB221_220 := n6_; clear n0_ n1_ n2_ n3_ n4_ n5_ n6_; clear hb hbox hg; have hnb23 := NB220_221.out; have hnc23 := NB221_220.out; have hcz24_0 : w22.cell? ⟨gb220, 0, none⟩ = some (.int .i64 a0_0) := (blk_cell BK220.out 0).trans rfl; have hcz24_1 : w22.cell? ⟨gb220, 1, none⟩ = some (.int .i64 a0_1) := (blk_cell BK220.out 1).trans rfl; have hcz24_2 : w22.cell? ⟨gb220, 2, none⟩ = some (.int .i64 a0_2) := (blk_cell BK220.out 2).trans rfl; have hfz24_0 := blk_frozen BK220.out 0; have hfz24_1 := blk_frozen BK220.out 1; have hfz24_2 := blk_frozen BK220.out 2; have hcz25_0 : w22.cell? ⟨gb221, 0, none⟩ = some (.int .i64 a1_0) := (blk_cell BK221.out 0).trans rfl; have hcz25_1 : w22.cell? ⟨gb221, 1, none⟩ = some (.int .i64 a1_1) := (blk_cell BK221.out 1).trans rfl; have hcz25_2 : w22.cell? ⟨gb221, 2, none⟩ = some (.int .i64 a1_2) := (blk_cell BK221.out 2).trans rfl; have hfz25_0 := blk_frozen BK221.out 0; have hfz25_1 := blk_frozen BK221.out 1; have hfz25_2 := blk_frozen BK221.out 2))
  go_ret
  exact ⟨by first | rfl | (simp [errW_none, errW_some] <;> rfl) | (simp [*, errW_none, errW_some] <;> rfl), Cmp.g HB.out⟩

/-! ### laws_eqChallengeS: function 128 -/
def laws_eqChallengeS.l0 : Nat → List (S156) → List (S156) → Int → Option (Bool)
  | 0, _, _, _ => none
  | k + 1, x0, x1, x5 => if x5 < (x0.length : Int) then (if 0 ≤ x5 then (if x5 < (x1.length : Int) then ((laws_eqChallenge.f ((rd_T156 x0 x5).f0) ((rd_T156 x0 x5).f1) ((rd_T156 x0 x5).f2) ((rd_T156 x1 x5).f0) ((rd_T156 x1 x5).f1) ((rd_T156 x1 x5).f2)).bind fun t224 => (if t224 = true then (laws_eqChallengeS.l0 k x0 x1 (wrap64 (x5 + 1))) else (some false))) else (none)) else (none)) else (some true)
def laws_eqChallengeS.f (k : Nat) (l0 : List (S156)) (l1 : List (S156)) : Option (Bool) := if (l0.length : Int) = (l1.length : Int) then (laws_eqChallengeS.l0 k l0 l1 0) else (some false)
theorem laws_eqChallengeS.mono_l : ∀ k, (∀ y0 y1 y2, LeO (laws_eqChallengeS.l0 k y0 y1 y2) (laws_eqChallengeS.l0 (k + 1) y0 y1 y2))
  | 0 => fun _ _ _ r h => by simp [laws_eqChallengeS.l0] at h
  | k + 1 => by
    have ih0 := laws_eqChallengeS.mono_l k
    · intro y0 y1 y2
      unfold laws_eqChallengeS.l0
      repeat' first
      | (with_reducible exact ih0 _ _ _)
      | (with_reducible exact LeO.refl _)
      | (with_reducible exact LeO.none _)
      | (with_reducible refine LeO.ite ?_ ?_)
      | (with_reducible refine LeO.bind ?_ (fun _ => ?_))
      | exact ih0 _ _ _
      | exact LeO.none _
      | refine LeO.ite ?_ ?_
      | refine LeO.bind ?_ (fun _ => ?_)
theorem laws_eqChallengeS.mono : ∀ a0 a1 k, LeO (laws_eqChallengeS.f k a0 a1) (laws_eqChallengeS.f (k + 1) a0 a1) := by
  intro a0 a1 k
  have ih0 := laws_eqChallengeS.mono_l k
  unfold laws_eqChallengeS.f
  repeat' first
      | (with_reducible exact ih0 _ _ _)
      | (with_reducible exact LeO.refl _)
      | (with_reducible exact LeO.none _)
      | (with_reducible refine LeO.ite ?_ ?_)
      | (with_reducible refine LeO.bind ?_ (fun _ => ?_))
      | exact ih0 _ _ _
      | exact LeO.none _
      | refine LeO.ite ?_ ?_
      | refine LeO.bind ?_ (fun _ => ?_)
def laws_eqChallengeS.T6 : Bool × List (List Nat × List Nat) := (true, [([], []), ([], []), ([0, 1], [0, 1]), ([2], [2]), ([], []), ([], []), ([4, 5], [4, 5]), ([6], [6]), ([3, 7], [3, 7]), ([8], [8])])
def laws_eqChallengeS.B6 : List Nat := [0, 0, 3, 7, 0, 0, 48, 112, 255, 511]
theorem laws_eqChallengeS.tab6 : rtab .any (opsOf Try.f128 6) = laws_eqChallengeS.T6 := by kernel_rfl
theorem laws_eqChallengeS.bits6 : waitsOk laws_eqChallengeS.T6.2 laws_eqChallengeS.B6 = true := by kernel_rfl
set_option maxHeartbeats 8000000 in
set_option maxRecDepth 100000 in
theorem laws_eqChallengeS.calls (k : Nat) (A0 : Option Addr) (c0 : Nat) (l0 : List (S156)) (A1 : Option Addr) (c1 : Nat) (l1 : List (S156)) (r : Bool) (w : World) (hr0 : Kd.C k156 w A0 l0.length l0) (hc0 : l0.length ≤ c0) (hr1 : Kd.C k156 w A1 l1.length l1) (hc1 : l1.length ≤ c1) (h : laws_eqChallengeS.f k l0 l1 = some r) :
    Calls Try.prog 128 #[.slice A0 l0.length c0, .slice A1 l1.length c1] w fun e w' => e = .returned (.bool r) ∧ Below w.heap.size w w' := by
 have hu156 := Try.underlying156; have HR0 := Aside0.mk hr0; have HC0 := Aside0.mk hc0; clear hr0 hc0; have HR1 := Aside0.mk hr1; have HC1 := Aside0.mk hc1; clear hr1 hc1
 have HB := Aside0.mk (Below.refl w.heap.size w)
 have H : (if (l0.length : Int) = (l1.length : Int) then (laws_eqChallengeS.l0 k l0 l1 0) else (some false)) = some r := h
 clear h
 by_cases c3 : (l0.length : Int) = (l1.length : Int)
 ·rw [if_pos c3] at H
  have c3b0 : ((l0.length : Int) == (l1.length : Int)) = true := beq_iff_eq.mpr c3
  have c3b1 : ((l0.length : Int) != (l1.length : Int)) = false := bne_eq_false_iff_eq.mpr c3
  have c3b2 : (l0.length == l1.length) = true := by first | simpa using c3 | (simp at c3 ⊢; omega)
  clear c3
  have H' := Aside0.mk H
  clear H
  go_enter Try.func128, Try.ntmps128
  go_wp2
  go_loopg [5] k (fun kq v5 w' => ∃ (x5_1 : Int), v5 = .int .i64 x5_1 ∧ Aside0 (laws_eqChallengeS.l0 kq l0 l1 x5_1 = some r) ∧ Aside0 (kq ≤ k) ∧ Aside0 (Below w.heap.size w w'))
  case atStart => exact ⟨(0), (by first | rfl | simp | simp [*]), H', ⟨Nat.le_refl _⟩, ⟨Cmp.g HB.out⟩⟩
  case round =>
   clear H'
   (try clear c1); (try clear p2); (try clear c3); (try clear c3b0); (try clear c3b1); (try clear c3b2)
   obtain ⟨x5_1, rfl, HA, HK1, HB⟩ := hrel
   cases gk with
   | zero => exact absurd HA.out (by simp [laws_eqChallengeS.l0])
   | succ k1 =>
    have H := HA.out; clear HA
    simp only [laws_eqChallengeS.l0] at H
    by_cases c4 : x5_1 < (l0.length : Int)
    ·rw [if_pos c4] at H
     have c4b0 : decide (x5_1 < (l0.length : Int)) = true := decide_eq_true c4
     clear c4
     by_cases c5 : 0 ≤ x5_1
     ·rw [if_pos c5] at H; have c5b0 : decide (0 ≤ x5_1) = true := decide_eq_true c5; clear c5
      by_cases c6 : x5_1 < (l1.length : Int)
      ·rw [if_pos c6] at H
       have c6b0 : decide (x5_1 < (l1.length : Int)) = true := decide_eq_true c6
       clear c6; replace H := Option.bind_eq_some_iff.mp H; obtain ⟨t224, A70, H⟩ := H; (try dsimp only at H); have A7 := Aside0.mk A70; clear A70
       by_cases c8 : t224 = true
       ·subst c8; rw [if_pos rfl] at H
        have H' := Aside0.mk H
        clear H
        try go_wp2
        have n0_ := Aside0.mk (below_drew1 HB.out); clear HB; have HB := n0_; clear n0_
        have p222 : 0 ≤ (x5_1 : Int) := of_decide_eq_true Cmp.d
        have q222 : x5_1 < (l0.length : Int) := of_decide_eq_true Cmp.d
        obtain ⟨ad222, e222, hx222_0, hx222_1, hx222_2⟩ := at_T156 HR0.out x5_1 p222 q222
        have hw222_2 := hx222_2; have hw222_1 := hx222_1; have hw222_0 := hx222_0; cases e222
        replace hx222_0 := (HB.out.cell (World.block_lt_of_cell? w _ hx222_0)).trans hx222_0
        replace hx222_1 := (HB.out.cell (World.block_lt_of_cell? w _ hx222_1)).trans hx222_1
        replace hx222_2 := (HB.out.cell (World.block_lt_of_cell? w _ hx222_2)).trans hx222_2
        replace p222 := eq_true p222; replace q222 := eq_true q222
        have p223 : 0 ≤ (x5_1 : Int) := of_decide_eq_true Cmp.d
        have q223 : x5_1 < (l1.length : Int) := of_decide_eq_true Cmp.d
        obtain ⟨ad223, e223, hx223_0, hx223_1, hx223_2⟩ := at_T156 HR1.out x5_1 p223 q223
        have hw223_2 := hx223_2; have hw223_1 := hx223_1; have hw223_0 := hx223_0; cases e223
        replace hx223_0 := (HB.out.cell (World.block_lt_of_cell? w _ hx223_0)).trans hx223_0
        replace hx223_1 := (HB.out.cell (World.block_lt_of_cell? w _ hx223_1)).trans hx223_1
        replace hx223_2 := (HB.out.cell (World.block_lt_of_cell? w _ hx223_2)).trans hx223_2
        replace p223 := eq_true p223; replace q223 := eq_true q223
        refine start_ (n := 10) (S := fun w' => w'.cell? (ad222.add ((x5_1).toNat * 3)) = some (.int .i64 ((rd_T156 l0 x5_1).f0)) ∧ w'.cell? ⟨(ad222.add ((x5_1).toNat * 3)).block, (ad222.add ((x5_1).toNat * 3)).off + 1, none⟩ = some (.int .i64 ((rd_T156 l0 x5_1).f1)) ∧ w'.cell? ⟨(ad222.add ((x5_1).toNat * 3)).block, (ad222.add ((x5_1).toNat * 3)).off + 2, none⟩ = some (.int .i64 ((rd_T156 l0 x5_1).f2)) ∧ w'.cell? (ad223.add ((x5_1).toNat * 3)) = some (.int .i64 ((rd_T156 l1 x5_1).f0)) ∧ w'.cell? ⟨(ad223.add ((x5_1).toNat * 3)).block, (ad223.add ((x5_1).toNat * 3)).off + 1, none⟩ = some (.int .i64 ((rd_T156 l1 x5_1).f1)) ∧ w'.cell? ⟨(ad223.add ((x5_1).toNat * 3)).block, (ad223.add ((x5_1).toNat * 3)).off + 2, none⟩ = some (.int .i64 ((rd_T156 l1 x5_1).f2))) (ds := []) (Cmp.bm 0 10) (by kernel_rfl) rfl rfl ⟨((HB.out.cell (World.block_lt_of_cell? w _ hw222_0)).trans hw222_0), ((HB.out.cell (World.block_lt_of_cell? w _ hw222_1)).trans hw222_1), ((HB.out.cell (World.block_lt_of_cell? w _ hw222_2)).trans hw222_2), ((HB.out.cell (World.block_lt_of_cell? w _ hw223_0)).trans hw223_0), ((HB.out.cell (World.block_lt_of_cell? w _ hw223_1)).trans hw223_1), ((HB.out.cell (World.block_lt_of_cell? w _ hw223_2)).trans hw223_2)⟩ (fun hHeld => ?_); refine with_tabW laws_eqChallengeS.tab6 laws_eqChallengeS.bits6 (fun HT_ HW_ => ?_)
        generalize wr.drew = w9 at HB hx222_0 hx222_1 hx222_2 hx223_0 hx223_1 hx223_2 hHeld ⊢
        refine Cmp.pu HT_ 0 17 (Cmp.bm 1 9) ?_; refine Cmp.pu HT_ 1 18 (Cmp.bm 2 8) ?_; refine Cmp.pu HT_ 2 19 (Cmp.bm 3 7) ?_; refine Cmp.pu HT_ 4 21 (Cmp.bb 10 23) ?_; refine Cmp.pu HT_ 5 22 (Cmp.bb 10 55) ?_; refine Cmp.pu HT_ 6 23 (Cmp.bb 10 119) ?_; refine Cmp.tk HT_ HW_ hHeld 3 20 (Cmp.bm 7 3) ?_; refine Cmp.tk HT_ HW_ hHeld 7 24 (Cmp.bm 8 2) ?_
        refine one_ (i := 8) (N := some 25) (Cmp.bm 9 1) rfl rfl (one_of HT_.out (by kernel_rfl)) (by decide) (fun K hK => ?_)
        refine goes_ Try.func159 (by kernel_rfl) rfl #[.agg #[.int .i64 ((rd_T156 l0 x5_1).f0), .int .i64 ((rd_T156 l0 x5_1).f1), .int .i64 ((rd_T156 l0 x5_1).f2)], .agg #[.int .i64 ((rd_T156 l1 x5_1).f0), .int .i64 ((rd_T156 l1 x5_1).f1), .int .i64 ((rd_T156 l1 x5_1).f2)]] (by rfl) rfl rfl Cmp.q ?_
        with_reducible refine (laws_eqChallenge.calls ((rd_T156 l0 x5_1).f0) ((rd_T156 l0 x5_1).f1) ((rd_T156 l0 x5_1).f2) ((rd_T156 l1 x5_1).f0) ((rd_T156 l1 x5_1).f1) ((rd_T156 l1 x5_1).f2) true _ A7.out).mono ?_
        rintro e w10 ⟨rfl, hb⟩; refine ⟨_, rfl, ?_⟩
        have n0_ := Aside0.mk (below_step (Cmp.g HB.out) hb)
        clear HB; have HB := n0_; clear n0_; (try clear hb); (try clear hb2); (try clear hk); (try clear hi)
        refine hK.out _ _ ⟨((HB.out.cell (World.block_lt_of_cell? w _ hw222_0)).trans hw222_0), ((HB.out.cell (World.block_lt_of_cell? w _ hw222_1)).trans hw222_1), ((HB.out.cell (World.block_lt_of_cell? w _ hw222_2)).trans hw222_2), ((HB.out.cell (World.block_lt_of_cell? w _ hw223_0)).trans hw223_0), ((HB.out.cell (World.block_lt_of_cell? w _ hw223_1)).trans hw223_1), ((HB.out.cell (World.block_lt_of_cell? w _ hw223_2)).trans hw223_2)⟩ (fun hHeld => ?_)
        clear hK K
        refine norm_ (a' := ?_) ?_ ?_
        rotate_left
        ·show Act.put _ (some 25) _ = _
         simp only [Act.put, Cmp.s, Cmp.z, Cmp.c, i64_w, i32_w]; rfl
        refine Cmp.pu HT_ 9 26 (Cmp.bm 10 0) ?_
        refine done_ (done_of HT_.out (by kernel_rfl)) ?_
        try go_wp2
        go_roundg k1
        case measure => have := HK1.out; omega
        case rel => exact ⟨(wrap64 (x5_1 + 1)), (by first | rfl | simp | simp [*]), H', ⟨by have := HK1.out; omega⟩, ⟨Cmp.g HB.out⟩⟩
       ·replace c8 := Bool.eq_false_iff.mpr c8
        subst c8
        have H1 : (some false) = some r := by rw [if_neg (show ¬ (false = true) by decide)] at H; exact H
        clear H; have H := H1; clear H1
        obtain rfl := Option.some.inj H
        try go_wp2
        have n0_ := Aside0.mk (below_drew1 HB.out); clear HB; have HB := n0_; clear n0_
        have p222 : 0 ≤ (x5_1 : Int) := of_decide_eq_true Cmp.d
        have q222 : x5_1 < (l0.length : Int) := of_decide_eq_true Cmp.d
        obtain ⟨ad222, e222, hx222_0, hx222_1, hx222_2⟩ := at_T156 HR0.out x5_1 p222 q222
        have hw222_2 := hx222_2; have hw222_1 := hx222_1; have hw222_0 := hx222_0; cases e222
        replace hx222_0 := (HB.out.cell (World.block_lt_of_cell? w _ hx222_0)).trans hx222_0
        replace hx222_1 := (HB.out.cell (World.block_lt_of_cell? w _ hx222_1)).trans hx222_1
        replace hx222_2 := (HB.out.cell (World.block_lt_of_cell? w _ hx222_2)).trans hx222_2
        replace p222 := eq_true p222; replace q222 := eq_true q222
        have p223 : 0 ≤ (x5_1 : Int) := of_decide_eq_true Cmp.d
        have q223 : x5_1 < (l1.length : Int) := of_decide_eq_true Cmp.d
        obtain ⟨ad223, e223, hx223_0, hx223_1, hx223_2⟩ := at_T156 HR1.out x5_1 p223 q223
        have hw223_2 := hx223_2; have hw223_1 := hx223_1; have hw223_0 := hx223_0; cases e223
        replace hx223_0 := (HB.out.cell (World.block_lt_of_cell? w _ hx223_0)).trans hx223_0
        replace hx223_1 := (HB.out.cell (World.block_lt_of_cell? w _ hx223_1)).trans hx223_1
        replace hx223_2 := (HB.out.cell (World.block_lt_of_cell? w _ hx223_2)).trans hx223_2
        replace p223 := eq_true p223; replace q223 := eq_true q223
        refine start_ (n := 10) (S := fun w' => w'.cell? (ad222.add ((x5_1).toNat * 3)) = some (.int .i64 ((rd_T156 l0 x5_1).f0)) ∧ w'.cell? ⟨(ad222.add ((x5_1).toNat * 3)).block, (ad222.add ((x5_1).toNat * 3)).off + 1, none⟩ = some (.int .i64 ((rd_T156 l0 x5_1).f1)) ∧ w'.cell? ⟨(ad222.add ((x5_1).toNat * 3)).block, (ad222.add ((x5_1).toNat * 3)).off + 2, none⟩ = some (.int .i64 ((rd_T156 l0 x5_1).f2)) ∧ w'.cell? (ad223.add ((x5_1).toNat * 3)) = some (.int .i64 ((rd_T156 l1 x5_1).f0)) ∧ w'.cell? ⟨(ad223.add ((x5_1).toNat * 3)).block, (ad223.add ((x5_1).toNat * 3)).off + 1, none⟩ = some (.int .i64 ((rd_T156 l1 x5_1).f1)) ∧ w'.cell? ⟨(ad223.add ((x5_1).toNat * 3)).block, (ad223.add ((x5_1).toNat * 3)).off + 2, none⟩ = some (.int .i64 ((rd_T156 l1 x5_1).f2))) (ds := []) (Cmp.bm 0 10) (by kernel_rfl) rfl rfl ⟨((HB.out.cell (World.block_lt_of_cell? w _ hw222_0)).trans hw222_0), ((HB.out.cell (World.block_lt_of_cell? w _ hw222_1)).trans hw222_1), ((HB.out.cell (World.block_lt_of_cell? w _ hw222_2)).trans hw222_2), ((HB.out.cell (World.block_lt_of_cell? w _ hw223_0)).trans hw223_0), ((HB.out.cell (World.block_lt_of_cell? w _ hw223_1)).trans hw223_1), ((HB.out.cell (World.block_lt_of_cell? w _ hw223_2)).trans hw223_2)⟩ (fun hHeld => ?_); refine with_tabW laws_eqChallengeS.tab6 laws_eqChallengeS.bits6 (fun HT_ HW_ => ?_)
        generalize wr.drew = w11 at HB hx222_0 hx222_1 hx222_2 hx223_0 hx223_1 hx223_2 hHeld ⊢
        refine Cmp.pu HT_ 0 17 (Cmp.bm 1 9) ?_; refine Cmp.pu HT_ 1 18 (Cmp.bm 2 8) ?_; refine Cmp.pu HT_ 2 19 (Cmp.bm 3 7) ?_; refine Cmp.pu HT_ 4 21 (Cmp.bb 10 23) ?_; refine Cmp.pu HT_ 5 22 (Cmp.bb 10 55) ?_; refine Cmp.pu HT_ 6 23 (Cmp.bb 10 119) ?_; refine Cmp.tk HT_ HW_ hHeld 3 20 (Cmp.bm 7 3) ?_; refine Cmp.tk HT_ HW_ hHeld 7 24 (Cmp.bm 8 2) ?_
        refine one_ (i := 8) (N := some 25) (Cmp.bm 9 1) rfl rfl (one_of HT_.out (by kernel_rfl)) (by decide) (fun K hK => ?_)
        refine goes_ Try.func159 (by kernel_rfl) rfl #[.agg #[.int .i64 ((rd_T156 l0 x5_1).f0), .int .i64 ((rd_T156 l0 x5_1).f1), .int .i64 ((rd_T156 l0 x5_1).f2)], .agg #[.int .i64 ((rd_T156 l1 x5_1).f0), .int .i64 ((rd_T156 l1 x5_1).f1), .int .i64 ((rd_T156 l1 x5_1).f2)]] (by rfl) rfl rfl Cmp.q ?_
        with_reducible refine (laws_eqChallenge.calls ((rd_T156 l0 x5_1).f0) ((rd_T156 l0 x5_1).f1) ((rd_T156 l0 x5_1).f2) ((rd_T156 l1 x5_1).f0) ((rd_T156 l1 x5_1).f1) ((rd_T156 l1 x5_1).f2) false _ A7.out).mono ?_
        rintro e w12 ⟨rfl, hb⟩; refine ⟨_, rfl, ?_⟩
        have n0_ := Aside0.mk (below_step (Cmp.g HB.out) hb)
        clear HB; have HB := n0_; clear n0_; (try clear hb); (try clear hb2); (try clear hk); (try clear hi)
        refine hK.out _ _ ⟨((HB.out.cell (World.block_lt_of_cell? w _ hw222_0)).trans hw222_0), ((HB.out.cell (World.block_lt_of_cell? w _ hw222_1)).trans hw222_1), ((HB.out.cell (World.block_lt_of_cell? w _ hw222_2)).trans hw222_2), ((HB.out.cell (World.block_lt_of_cell? w _ hw223_0)).trans hw223_0), ((HB.out.cell (World.block_lt_of_cell? w _ hw223_1)).trans hw223_1), ((HB.out.cell (World.block_lt_of_cell? w _ hw223_2)).trans hw223_2)⟩ (fun hHeld => ?_)
        clear hK K
        refine norm_ (a' := ?_) ?_ ?_
        rotate_left
        ·show Act.put _ (some 25) _ = _
         simp only [Act.put, Cmp.s, Cmp.z, Cmp.c, i64_w, i32_w]; rfl
        refine Cmp.pu HT_ 9 26 (Cmp.bm 10 0) ?_
        refine done_ (done_of HT_.out (by kernel_rfl)) ?_
        try go_wp2
        go_ret
        exact ⟨by first | rfl | (simp [errW_none, errW_some] <;> rfl) | (simp [*, errW_none, errW_some] <;> rfl), Cmp.g HB.out⟩
      ·rw [if_neg c6] at H; exact absurd H (by simp)
     ·rw [if_neg c5] at H; exact absurd H (by simp)
    ·rw [if_neg c4] at H
     have c4b0 : decide (x5_1 < (l0.length : Int)) = false := decide_eq_false c4
     clear c4
     obtain rfl := Option.some.inj H
     go_wp2
     go_ret
     exact ⟨by first | rfl | (simp [errW_none, errW_some] <;> rfl) | (simp [*, errW_none, errW_some] <;> rfl), Cmp.g HB.out⟩
 ·rw [if_neg c3] at H
  have c3b0 : ((l0.length : Int) == (l1.length : Int)) = false := beq_eq_false_iff_ne.mpr c3
  have c3b1 : ((l0.length : Int) != (l1.length : Int)) = true := bne_iff_ne.mpr c3
  have c3b2 : (l0.length == l1.length) = false := by first | simpa using c3 | (simp at c3 ⊢; omega)
  obtain rfl := Option.some.inj H
  go_enter Try.func128, Try.ntmps128
  go_wp2
  go_ret
  exact ⟨by first | rfl | (simp [errW_none, errW_some] <;> rfl) | (simp [*, errW_none, errW_some] <;> rfl), Cmp.g HB.out⟩

end Go.Proofs.Ytgcipecdaimjfaa.PFnExactEqualSites

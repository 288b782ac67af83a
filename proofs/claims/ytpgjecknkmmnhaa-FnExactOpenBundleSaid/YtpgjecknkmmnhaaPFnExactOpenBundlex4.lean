/- Printed functions of the program, out of print.sh, told more shortly. No condition. -/
import Derived.Test.YtpgjecknkmmnhaaCmp
import Derived.Test.YtpgjecknkmmnhaaPFnExactOpenBundlex0
import Derived.Test.YtpgjecknkmmnhaaPFnExactOpenBundlex1
import Derived.Test.YtpgjecknkmmnhaaPFnExactOpenBundlex2
import Derived.Test.YtpgjecknkmmnhaaPFnExactOpenBundlex3
namespace Go.Proofs.Ytpgjecknkmmnhaa.PFnExactOpenBundle
open Go.Proofs.Ytpgjecknkmmnhaa
open Go.RowKit Go.Proofs.YtpgjecknkmmnhaaW.PrintWords Go.Proofs.YtpgjecknkmmnhaaW.PrintLast Go.Proofs.YtpgjecknkmmnhaaW.PrintMore
attribute [local go_sem] max2_int min2_int max_two min_two max_three min_three max_four min_four   -- for this text's walks alone
set_option linter.unusedVariables false
set_option linter.unusedSimpArgs false

/-! ### impl_DecodeBundle: function 24 -/
mutual
def impl_DecodeBundle.j0 : Nat → List Int → Int → Int → Bool → Option ((List (S94)) × Bool)
  | 0, _, _, _, _ => none
  | k + 1, x0, x4, x5, x23 => if x23 = true then (some (([] : List (S94)), false)) else ((impl_DecodeInts.f k x0 x5 (wrap64 (4 * x4))).bind fun bt125 => (if bt125.2.2 = true then (impl_DecodeBundle.j1 k x4 bt125.1 (bt125.2.1 != (x0.length : Int))) else (impl_DecodeBundle.j1 k x4 bt125.1 true)))
def impl_DecodeBundle.j1 : Nat → Int → List Int → Bool → Option ((List (S94)) × Bool)
  | 0, _, _, _ => none
  | k + 1, x4, x7, x41 => if x41 = true then (some (([] : List (S94)), false)) else (impl_DecodeBundle.l0 k x4 x7 0 ([] : List (S94)))
def impl_DecodeBundle.l0 : Nat → Int → List Int → Int → List (S94) → Option ((List (S94)) × Bool)
  | 0, _, _, _, _ => none
  | k + 1, x4, x7, x10, x131000 => if x10 < x4 then (if 0 ≤ (wrap64 (4 * x10)) then (if (wrap64 (4 * x10)) ≤ (x7.length : Int) then ((some (x7.drop ((wrap64 (4 * x10)) : Int).toNat : List Int)).bind fun y131 => (if 3 < (y131.length : Int) then (if (rd y131 3) > 1 then (some (([] : List (S94)), false)) else (if 0 < (y131.length : Int) then (if 1 < (y131.length : Int) then (if 2 < (y131.length : Int) then (if x131000.length < 4398046511104 then (impl_DecodeBundle.l0 k x4 x7 (wrap64 (x10 + 1)) (x131000 ++ [(⟨rd y131 0, rd y131 1, rd y131 2, ((rd y131 3) == 1)⟩ : S94)])) else (none)) else (none)) else (none)) else (none))) else (none))) else (none)) else (none)) else ((impl_IsBundle.f k x131000).bind fun t143 => (if t143 = true then (some (x131000, true)) else (some (([] : List (S94)), false))))
end
def impl_DecodeBundle.f (k : Nat) (l0 : List Int) : Option ((List (S94)) × Bool) := (impl_ReadUvarint.f k l0 0).bind fun bt122 => (if bt122.2.2 = true then (impl_DecodeBundle.j0 k l0 bt122.1 bt122.2.1 (decide (bt122.1 > 20))) else (impl_DecodeBundle.j0 k l0 bt122.1 bt122.2.1 true))
theorem impl_DecodeBundle.mono_l : ∀ k, (∀ y0 y1 y2 y3, LeO (impl_DecodeBundle.j0 k y0 y1 y2 y3) (impl_DecodeBundle.j0 (k + 1) y0 y1 y2 y3)) ∧ (∀ y0 y1 y2, LeO (impl_DecodeBundle.j1 k y0 y1 y2) (impl_DecodeBundle.j1 (k + 1) y0 y1 y2)) ∧ (∀ y0 y1 y2 y3, LeO (impl_DecodeBundle.l0 k y0 y1 y2 y3) (impl_DecodeBundle.l0 (k + 1) y0 y1 y2 y3))
  | 0 => ⟨fun _ _ _ _ r h => by simp [impl_DecodeBundle.j0] at h, fun _ _ _ r h => by simp [impl_DecodeBundle.j1] at h, fun _ _ _ _ r h => by simp [impl_DecodeBundle.l0] at h⟩
  | k + 1 => by
    obtain ⟨ih0, ih1, ih2⟩ := impl_DecodeBundle.mono_l k
    refine ⟨?_, ?_, ?_⟩
    · intro y0 y1 y2 y3
      unfold impl_DecodeBundle.j0
      repeat' first
      | (with_reducible exact ih0 _ _ _ _)
      | (with_reducible exact ih1 _ _ _)
      | (with_reducible exact ih2 _ _ _ _)
      | (with_reducible exact impl_DecodeInts.mono _ _ _ _)
      | (with_reducible exact impl_IsBundle.mono _ _)
      | (with_reducible exact impl_ReadUvarint.mono _ _ _)
      | (with_reducible exact LeO.refl _)
      | (with_reducible exact LeO.none _)
      | (with_reducible refine LeO.ite ?_ ?_)
      | (with_reducible refine LeO.bind ?_ (fun _ => ?_))
      | exact ih0 _ _ _ _
      | exact ih1 _ _ _
      | exact ih2 _ _ _ _
      | exact impl_DecodeInts.mono _ _ _ _
      | exact impl_IsBundle.mono _ _
      | exact impl_ReadUvarint.mono _ _ _
      | exact LeO.none _
      | refine LeO.ite ?_ ?_
      | refine LeO.bind ?_ (fun _ => ?_)
    · intro y0 y1 y2
      unfold impl_DecodeBundle.j1
      repeat' first
      | (with_reducible exact ih0 _ _ _ _)
      | (with_reducible exact ih1 _ _ _)
      | (with_reducible exact ih2 _ _ _ _)
      | (with_reducible exact impl_DecodeInts.mono _ _ _ _)
      | (with_reducible exact impl_IsBundle.mono _ _)
      | (with_reducible exact impl_ReadUvarint.mono _ _ _)
      | (with_reducible exact LeO.refl _)
      | (with_reducible exact LeO.none _)
      | (with_reducible refine LeO.ite ?_ ?_)
      | (with_reducible refine LeO.bind ?_ (fun _ => ?_))
      | exact ih0 _ _ _ _
      | exact ih1 _ _ _
      | exact ih2 _ _ _ _
      | exact impl_DecodeInts.mono _ _ _ _
      | exact impl_IsBundle.mono _ _
      | exact impl_ReadUvarint.mono _ _ _
      | exact LeO.none _
      | refine LeO.ite ?_ ?_
      | refine LeO.bind ?_ (fun _ => ?_)
    · intro y0 y1 y2 y3
      unfold impl_DecodeBundle.l0
      repeat' first
      | (with_reducible exact ih0 _ _ _ _)
      | (with_reducible exact ih1 _ _ _)
      | (with_reducible exact ih2 _ _ _ _)
      | (with_reducible exact impl_DecodeInts.mono _ _ _ _)
      | (with_reducible exact impl_IsBundle.mono _ _)
      | (with_reducible exact impl_ReadUvarint.mono _ _ _)
      | (with_reducible exact LeO.refl _)
      | (with_reducible exact LeO.none _)
      | (with_reducible refine LeO.ite ?_ ?_)
      | (with_reducible refine LeO.bind ?_ (fun _ => ?_))
      | exact ih0 _ _ _ _
      | exact ih1 _ _ _
      | exact ih2 _ _ _ _
      | exact impl_DecodeInts.mono _ _ _ _
      | exact impl_IsBundle.mono _ _
      | exact impl_ReadUvarint.mono _ _ _
      | exact LeO.none _
      | refine LeO.ite ?_ ?_
      | refine LeO.bind ?_ (fun _ => ?_)
theorem impl_DecodeBundle.mono : ∀ a0 k, LeO (impl_DecodeBundle.f k a0) (impl_DecodeBundle.f (k + 1) a0) := by
  intro a0 k
  obtain ⟨ih0, ih1, ih2⟩ := impl_DecodeBundle.mono_l k
  unfold impl_DecodeBundle.f
  repeat' first
      | (with_reducible exact ih0 _ _ _ _)
      | (with_reducible exact ih1 _ _ _)
      | (with_reducible exact ih2 _ _ _ _)
      | (with_reducible exact impl_DecodeInts.mono _ _ _ _)
      | (with_reducible exact impl_IsBundle.mono _ _)
      | (with_reducible exact impl_ReadUvarint.mono _ _ _)
      | (with_reducible exact LeO.refl _)
      | (with_reducible exact LeO.none _)
      | (with_reducible refine LeO.ite ?_ ?_)
      | (with_reducible refine LeO.bind ?_ (fun _ => ?_))
      | exact ih0 _ _ _ _
      | exact ih1 _ _ _
      | exact ih2 _ _ _ _
      | exact impl_DecodeInts.mono _ _ _ _
      | exact impl_IsBundle.mono _ _
      | exact impl_ReadUvarint.mono _ _ _
      | exact LeO.none _
      | refine LeO.ite ?_ ?_
      | refine LeO.bind ?_ (fun _ => ?_)
def impl_DecodeBundle.T14 : Bool × List (List Nat × List Nat) := (true, [([], []), ([0], [0]), ([], []), ([2], [2]), ([3], [3]), ([], []), ([5], [5]), ([6], [6]), ([], []), ([8], [8]), ([9], [9]), ([], []), ([11], [11]), ([12], [12]), ([13], [13]), ([4, 7, 10, 14], [4, 7, 10, 14]), ([15], [15]), ([1, 16], [1, 16]), ([0, 1, 2, 3, 4, 5, 6, 7, 8, 9, 10, 11, 12, 13, 14, 15, 16, 17], []), ([18, 17, 17, 0, 1, 2, 3, 4, 5, 6, 7, 8, 9, 10, 11, 12, 13, 14, 15, 16, 17], [17, 18])])
def impl_DecodeBundle.B14 : List Nat := [0, 1, 0, 4, 12, 0, 32, 96, 0, 256, 768, 0, 2048, 6144, 14336, 32764, 65532, 131071, 262143, 524287]
theorem impl_DecodeBundle.tab14 : rtab .any (opsOf Try.f24 14) = impl_DecodeBundle.T14 := by kernel_rfl
theorem impl_DecodeBundle.bits14 : waitsOk impl_DecodeBundle.T14.2 impl_DecodeBundle.B14 = true := by kernel_rfl
set_option maxHeartbeats 8000000 in
set_option maxRecDepth 100000 in
theorem impl_DecodeBundle.calls (k : Nat) (A0 : Option Addr) (c0 : Nat) (l0 : List Int) (r1 : List (S94)) (r2 : Bool) (w : World) (hr0 : Kd.C (Kd.int .u8) w A0 l0.length l0) (hc0 : l0.length ≤ c0) (h : impl_DecodeBundle.f k l0 = some (r1, r2)) :
    Calls Try.prog 24 #[.slice A0 l0.length c0] w fun e w' => ∃ v0_ : Value, e = .returned (.tuple #[.agg #[v0_], .bool r2]) ∧ Kd.R k94 94 w' w.heap.size (fun _ => True) v0_ r1 ∧ Below w.heap.size w w' := by
 have hu45 := Try.underlying45; have hu94 := Try.underlying94; have HR0 := Aside0.mk hr0; have HC0 := Aside0.mk hc0; clear hr0 hc0
 have HB := Aside0.mk (Below.refl w.heap.size w)
 have H : ((impl_ReadUvarint.f k l0 0).bind fun bt122 => (if bt122.2.2 = true then (impl_DecodeBundle.j0 k l0 bt122.1 bt122.2.1 (decide (bt122.1 > 20))) else (impl_DecodeBundle.j0 k l0 bt122.1 bt122.2.1 true))) = some (r1, r2) := h
 clear h; replace H := Option.bind_eq_some_iff.mp H; obtain ⟨⟨t122, t123, t124⟩, A20, H⟩ := H; (try dsimp only at H); have A2 := Aside0.mk A20; clear A20; have HC3 := Aside0.mk H; clear H
 go_enter Try.func24, Try.ntmps24
 go_upto_region 2 with (first | ((with_reducible refine gate_dst (N := 2) rfl ?_); (try (refine gate_guard (by rfl) ?_; dsimp only)); refine box_event ?hg (N := 2) ?hd (cs := #[.slice none 0 0]) (t := 45) ?hr ?_; (case hd => rfl); (case hg => rfl); (case hr => first | (go_simp; done) | (go_simp; rfl)); intro gb121 hg w4 hbox hb; have n0_ := Aside0.mk (below_step (Cmp.g HB.out) hb); have n1_ := Aside0.mk (hbox); have n2_ := Aside0.mk ((by rw [hg]; exact (below_size (Cmp.g HB.out)) : w.heap.size ≤ gb121)); have n3_ := Aside0.mk ((by rw [hg]; exact (below_size (Cmp.g HB.out)) : w.heap.size ≤ gb121)); clear HB; have HB := n0_; have BK121 := n1_; have GW121 := n2_; have GE121 := n3_; clear n0_ n1_ n2_ n3_; clear hb hbox hg) | ((with_reducible refine gate_callee (f := 72) rfl ?_); refine goesL_ (some 14) rfl rfl Try.func72 (by kernel_rfl) rfl #[.slice A0 l0.length c0, .int .i64 0] rfl Cmp.q ?_; (with_reducible refine (impl_ReadUvarint.calls k _ _ l0 0 t122 t123 t124 _ ?side1 ?side2 A2.out).mono ?_); (case side1 => exact Cmp.rc (Kd.C_below HR0.out HB.out)); (case side2 => exact HC0.out); rintro e w' ⟨rfl, ⟨nd, rfl⟩⟩; refine ⟨_, rfl, ?_⟩))
 (try simp only [Act.put, List.setIfInBounds_toArray, List.set_cons_zero, List.set_cons_succ])
 go_cut [23] (fun v23 wc => ∃ (kq : Nat) (x23_2 : Bool), v23 = .bool x23_2 ∧ Aside0 (impl_DecodeBundle.j0 kq l0 t122 t123 x23_2 = some (r1, r2)) ∧ Aside0 (kq ≤ k) ∧ Aside0 (wc.heap[gb121]? = some (.cells #[(.slice none 0 0)] 45 (0, 0))) ∧ Aside0 (Below w.heap.size w wc))
 case first =>
  have H := HC3.out; clear HC3
  by_cases c5 : t124 = true
  ·subst c5; rw [if_pos rfl] at H
   have H' := Aside0.mk H
   clear H
   go_wp2
   go_meet
   case rel => exact ⟨_, (decide (t122 > 20)), (by first | rfl | simp | simp [*]), H', ⟨by first | omega | exact Nat.le_refl _⟩, ⟨by (with_reducible repeat (first | refine blk_drewN ?_ _ | refine blk_drew ?_ | refine blk_alloc ?_ _)); exact BK121.out⟩, ⟨Cmp.g HB.out⟩⟩
  ·replace c5 := Bool.eq_false_iff.mpr c5
   subst c5
   have H1 : (impl_DecodeBundle.j0 k l0 t122 t123 true) = some (r1, r2) := by rw [if_neg (show ¬ (false = true) by decide)] at H; exact H
   clear H; have H := H1; clear H1
   have H' := Aside0.mk H
   clear H
   go_wp2
   go_meet
   case rel => exact ⟨_, (true), (by first | rfl | simp | simp [*]), H', ⟨by first | omega | exact Nat.le_refl _⟩, ⟨by (with_reducible repeat (first | refine blk_drewN ?_ _ | refine blk_drew ?_ | refine blk_alloc ?_ _)); exact BK121.out⟩, ⟨Cmp.g HB.out⟩⟩
 case rest =>
  clear HC3; (try clear c2); (try clear p2); (try clear c5)
  obtain ⟨kq, x23_2, rfl, HA, HJ2, BK121, HB⟩ := hcut
  cases kq with
  | zero => exact absurd HA.out (by simp [impl_DecodeBundle.j0])
  | succ kj2 =>
   have H := HA.out; clear HA
   simp only [impl_DecodeBundle.j0] at H
   by_cases c6 : x23_2 = true
   ·subst c6; rw [if_pos rfl] at H
    simp only [Option.some.injEq, Prod.mk.injEq] at H
    obtain ⟨rfl, rfl⟩ := H
    have hcz7_0 : wc.cell? ⟨gb121, 0, none⟩ = some (.slice none 0 0) := (blk_cell BK121.out 0).trans rfl
    have hfz7_0 := blk_frozen BK121.out 0
    go_wp2
    refine bodyPost_ret (results_ct rfl _ _ gb121 45 #[.slice none 0 0] (0, 0) _ rfl (by (with_reducible repeat (first | refine blk_drewN ?_ _ | refine blk_drew ?_ | refine blk_alloc ?_ _)); refine blk_put (cs := #[.slice none 0 0]) ?_ 0 _ rfl; (with_reducible repeat (first | refine blk_drewN ?_ _ | refine blk_drew ?_ | refine blk_alloc ?_ _)); exact BK121.out) Try.underlying45 rfl (by kernel_rfl)) rfl ?_
    exact ⟨_, by first | rfl | (simp [errW_none, errW_some] <;> rfl) | (simp [*, errW_none, errW_some] <;> rfl), by first | exact Kd.R_nil _ _ _ _ _ | exact Kd.N_nil _ _ _ _ _ | exact Kd.V_nil _ _ _ _ _ | exact Kd.Q_nil _ _ _ _ _ | exact Kd.S_nil _ _ _ _ _, Cmp.g HB.out⟩
   ·replace c6 := Bool.eq_false_iff.mpr c6
    subst c6
    have H1 : ((impl_DecodeInts.f kj2 l0 t123 (wrap64 (4 * t122))).bind fun bt125 => (if bt125.2.2 = true then (impl_DecodeBundle.j1 kj2 t122 bt125.1 (bt125.2.1 != (l0.length : Int))) else (impl_DecodeBundle.j1 kj2 t122 bt125.1 true))) = some (r1, r2) := by rw [if_neg (show ¬ (false = true) by decide)] at H; exact H
    clear H; have H := H1; clear H1; replace H := Option.bind_eq_some_iff.mp H; obtain ⟨⟨t125, t126, t127⟩, A80, H⟩ := H; (try dsimp only at H); have A8 := Aside0.mk A80; clear A80; have HC9 := Aside0.mk H; clear H
    go_upto_region 5 with (first | ((with_reducible refine gate_callee (f := 73) rfl ?_); refine goesL_ (some 30) rfl rfl Try.func73 (by kernel_rfl) rfl #[.slice A0 l0.length c0, .int .i64 t123, .int .i64 (wrap64 (4 * t122))] rfl Cmp.q ?_; (with_reducible refine (impl_DecodeInts.calls kj2 _ _ l0 t123 (wrap64 (4 * t122)) t125 t126 t127 _ ?side1 ?side2 A8.out).mono ?_); (case side1 => exact Cmp.rc (Kd.C_below HR0.out HB.out)); (case side2 => exact HC0.out); rintro e w10 ⟨v128, rfl, ho0, hb⟩; refine ⟨_, rfl, ?_⟩; have n0_ := Aside0.mk (Kd.R_lower ho0 (below_size (Cmp.g HB.out))); have n1_ := Aside0.mk (blk_below (Cmp.b BK121.out) hb); have n2_ := Aside0.mk (below_step (Cmp.g HB.out) hb); clear BK121; clear HB; have HO129 := n0_; have BK121 := n1_; have HB := n2_; clear n0_ n1_ n2_; (try clear hb); (try clear hb2); (try clear hk); (try clear hi); (try clear ho0)))
    (try simp only [Act.put, List.setIfInBounds_toArray, List.set_cons_zero, List.set_cons_succ])
    go_cut [41] (fun v41 wc => ∃ (kq : Nat) (x41_8 : Bool), v41 = .bool x41_8 ∧ Aside0 (impl_DecodeBundle.j1 kq t122 t125 x41_8 = some (r1, r2)) ∧ Aside0 (kq ≤ kj2) ∧ Aside0 (Kd.R (Kd.int .i64) 3 wc w.heap.size (fun _ => True) v128 t125) ∧ Aside0 (wc.heap[gb121]? = some (.cells #[(.slice none 0 0)] 45 (0, 0))) ∧ Aside0 (Below w.heap.size w wc))
    case first =>
     have H := HC9.out; clear HC9
     by_cases c11 : t127 = true
     ·subst c11; rw [if_pos rfl] at H
      have H' := Aside0.mk H
      clear H
      go_wp2
      go_meet
      case rel => exact ⟨_, ((t126 != (l0.length : Int))), (by first | rfl | simp | simp [*]), H', ⟨by have := HJ2.out; first | omega | exact Nat.le_refl _⟩, ⟨by (with_reducible repeat (first | apply Kd.R_alloc | apply Kd.R_drewN | apply Kd.R_drew)); exact HO129.out⟩, ⟨by (with_reducible repeat (first | refine blk_drewN ?_ _ | refine blk_drew ?_ | refine blk_alloc ?_ _)); exact BK121.out⟩, ⟨Cmp.g HB.out⟩⟩
     ·replace c11 := Bool.eq_false_iff.mpr c11
      subst c11
      have H1 : (impl_DecodeBundle.j1 kj2 t122 t125 true) = some (r1, r2) := by rw [if_neg (show ¬ (false = true) by decide)] at H; exact H
      clear H; have H := H1; clear H1
      have H' := Aside0.mk H
      clear H
      go_wp2
      go_meet
      case rel => exact ⟨_, (true), (by first | rfl | simp | simp [*]), H', ⟨by have := HJ2.out; first | omega | exact Nat.le_refl _⟩, ⟨by (with_reducible repeat (first | apply Kd.R_alloc | apply Kd.R_drewN | apply Kd.R_drew)); exact HO129.out⟩, ⟨by (with_reducible repeat (first | refine blk_drewN ?_ _ | refine blk_drew ?_ | refine blk_alloc ?_ _)); exact BK121.out⟩, ⟨Cmp.g HB.out⟩⟩
    case rest =>
     clear HC9; (try clear c1); (try clear c2); (try clear p2); (try clear c5); (try clear c6); (try clear p6); (try clear c7); (try clear c11); (try clear hcz7_0); (try clear hfz7_0); (try clear p2)
     obtain ⟨kq, x41_8, rfl, HA, HJ8, HO_7, BK121, HB⟩ := hcut
     cases kq with
     | zero => exact absurd HA.out (by simp [impl_DecodeBundle.j1])
     | succ kj8 =>
      have H := HA.out; clear HA
      simp only [impl_DecodeBundle.j1] at H
      by_cases c12 : x41_8 = true
      ·subst c12; rw [if_pos rfl] at H
       simp only [Option.some.injEq, Prod.mk.injEq] at H
       obtain ⟨rfl, rfl⟩ := H
       have hcz13_0 : wc.cell? ⟨gb121, 0, none⟩ = some (.slice none 0 0) := (blk_cell BK121.out 0).trans rfl
       have hfz13_0 := blk_frozen BK121.out 0
       go_wp2
       refine bodyPost_ret (results_ct rfl _ _ gb121 45 #[.slice none 0 0] (0, 0) _ rfl (by (with_reducible repeat (first | refine blk_drewN ?_ _ | refine blk_drew ?_ | refine blk_alloc ?_ _)); refine blk_put (cs := #[.slice none 0 0]) ?_ 0 _ rfl; (with_reducible repeat (first | refine blk_drewN ?_ _ | refine blk_drew ?_ | refine blk_alloc ?_ _)); exact BK121.out) Try.underlying45 rfl (by kernel_rfl)) rfl ?_
       exact ⟨_, by first | rfl | (simp [errW_none, errW_some] <;> rfl) | (simp [*, errW_none, errW_some] <;> rfl), by first | exact Kd.R_nil _ _ _ _ _ | exact Kd.N_nil _ _ _ _ _ | exact Kd.V_nil _ _ _ _ _ | exact Kd.Q_nil _ _ _ _ _ | exact Kd.S_nil _ _ _ _ _, Cmp.g HB.out⟩
      ·replace c12 := Bool.eq_false_iff.mpr c12
       subst c12
       have H1 : (impl_DecodeBundle.l0 kj8 t122 t125 0 ([] : List (S94))) = some (r1, r2) := by rw [if_neg (show ¬ (false = true) by decide)] at H; exact H
       clear H; have H := H1; clear H1
       have H' := Aside0.mk H
       clear H
       go_wp2_with (first | ((with_reducible refine gate_dst (N := 9) rfl ?_); (try (refine gate_guard (by rfl) ?_; dsimp only)); refine box_event ?hg (N := 9) ?hd (cs := #[.slice none 0 0]) (t := 45) ?hr ?_; (case hd => rfl); (case hg => rfl); (case hr => first | (go_simp; done) | (go_simp; rfl)); intro gb130 hg w14 hbox hb; have n0_ := Aside0.mk (Kd.R_below (Cmp.rr HO_7.out) hb); have n1_ := Aside0.mk (blk_below (Cmp.b BK121.out) hb); have n2_ := Aside0.mk (below_step (Cmp.g HB.out) hb); have n3_ := Aside0.mk (hbox); have n4_ := Aside0.mk ((by rw [hg]; exact (below_size (Cmp.g HB.out)) : w.heap.size ≤ gb130)); have n5_ := Aside0.mk ((by rw [hg]; exact (below_size (Cmp.g HB.out)) : w.heap.size ≤ gb130)); have n6_ := Aside0.mk ((by rw [hg]; exact Nat.ne_of_lt (blk_lt (Cmp.b BK121.out)) : gb121 ≠ gb130)); have n7_ := Aside0.mk ((by rw [hg]; exact Nat.ne_of_gt (blk_lt (Cmp.b BK121.out)) : gb130 ≠ gb121)); clear HO_7; clear BK121; clear HB; have HO_7 := n0_; have BK121 := n1_; have HB := n2_; have BK130 := n3_; have GW130 := n4_; have GE130 := n5_; have NB121_130 := n6_; have NB130_121 := n7_; clear n0_ n1_ n2_ n3_ n4_ n5_ n6_ n7_; clear hb hbox hg; have hnb15 := NB130_121.out; have hnc15 := NB121_130.out; have hcz16_0 : w14.cell? ⟨gb130, 0, none⟩ = some (.slice none 0 0) := (blk_cell BK130.out 0).trans rfl; have hfz16_0 := blk_frozen BK130.out 0))
       go_loopg [10] kj8 (fun kq v10 w' => ∃ (x10_3 : Int) (x131000_3 : List (S94)) (u131000 : Value), v10 = .int .i64 x10_3 ∧ Aside0 (impl_DecodeBundle.l0 kq t122 t125 x10_3 x131000_3 = some (r1, r2)) ∧ Aside0 (kq ≤ kj8) ∧ Aside0 (Kd.R (Kd.int .i64) 3 w' w.heap.size (fun _ => True) v128 t125) ∧ Aside0 (Kd.R k94 94 w' w.heap.size (fun _ => True) u131000 x131000_3) ∧ Aside0 (w'.heap[gb121]? = some (.cells #[(.slice none 0 0)] 45 (0, 0))) ∧ Aside0 (w'.heap[gb130]? = some (.cells #[u131000] 45 (0, 0))) ∧ Aside0 (Below w.heap.size w w'))
       case atStart => exact ⟨(0), (([] : List (S94))), (.slice none 0 0), (by first | rfl | simp | simp [*]), H', ⟨Nat.le_refl _⟩, ⟨by (with_reducible repeat (first | apply Kd.R_alloc | apply Kd.R_drewN | apply Kd.R_drew)); exact Kd.R_mono (Kd.R_far (p := ⟨gb130, 0, none⟩) (Kd.R_types HO_7.out BK130.out (by decide)) (fun _ hk => hk.2) (.slice none 0 0)) (fun _ hk => trivial)⟩, ⟨by first | exact Kd.R_nil _ _ _ _ _ | exact Kd.N_nil _ _ _ _ _ | exact Kd.V_nil _ _ _ _ _ | exact Kd.Q_nil _ _ _ _ _ | exact Kd.S_nil _ _ _ _ _⟩, ⟨by (with_reducible repeat (first | refine blk_drewN ?_ _ | refine blk_drew ?_ | refine blk_alloc ?_ _)); refine blk_far ?_ NB121_130.out _; (with_reducible repeat (first | refine blk_drewN ?_ _ | refine blk_drew ?_ | refine blk_alloc ?_ _)); exact BK121.out⟩, ⟨by (with_reducible repeat (first | refine blk_drewN ?_ _ | refine blk_drew ?_ | refine blk_alloc ?_ _)); refine blk_put (cs := #[.slice none 0 0]) ?_ 0 _ rfl; (with_reducible repeat (first | refine blk_drewN ?_ _ | refine blk_drew ?_ | refine blk_alloc ?_ _)); exact BK130.out⟩, ⟨Cmp.g HB.out⟩⟩
       case round =>
        clear H'
        (try clear c1); (try clear c2); (try clear p2); (try clear c5); (try clear c6); (try clear p6); (try clear c7); (try clear c11); (try clear c12); (try clear c15); (try clear hcz13_0); (try clear hcz16_0); (try clear hcz7_0); (try clear hfz13_0); (try clear hfz16_0); (try clear hfz7_0); (try clear p2); (try clear p6)
        obtain ⟨x10_3, x131000_3, u131000, rfl, HA, HK3, HO_7, HO_131000, BK121, BK130, HB⟩ := hrel
        cases gk with
        | zero => exact absurd HA.out (by simp [impl_DecodeBundle.l0])
        | succ k3 =>
         have H := HA.out; clear HA
         simp only [impl_DecodeBundle.l0] at H
         by_cases c17 : x10_3 < t122
         ·rw [if_pos c17] at H; have c17b0 : decide (x10_3 < t122) = true := decide_eq_true c17; clear c17
          obtain ⟨ji18, hji18⟩ : ∃ j_ : Int, (wrap64 (4 * x10_3)) = j_ := ⟨_, rfl⟩
          replace H : (if 0 ≤ (ji18) then (if (ji18) ≤ (t125.length : Int) then ((some (t125.drop ((ji18) : Int).toNat : List Int)).bind fun y131 => (if 3 < (y131.length : Int) then (if (rd y131 3) > 1 then (some (([] : List (S94)), false)) else (if 0 < (y131.length : Int) then (if 1 < (y131.length : Int) then (if 2 < (y131.length : Int) then (if x131000_3.length < 4398046511104 then (impl_DecodeBundle.l0 k3 t122 t125 (wrap64 (x10_3 + 1)) (x131000_3 ++ [(⟨rd y131 0, rd y131 1, rd y131 2, ((rd y131 3) == 1)⟩ : S94)])) else (none)) else (none)) else (none)) else (none))) else (none))) else (none)) else (none)) = some (r1, r2) := by first | (rw [hji18] at H; exact H) | (simp only [hji18] at H ⊢; exact H)
          have hji18w : (IntKind.i64.wrap (4 * x10_3)) = ji18 := (i64_w _).trans hji18
          by_cases c19 : 0 ≤ (ji18)
          ·rw [if_pos c19] at H
           have c19b0 := eq_true c19
           have c19b1 : decide (0 ≤ (ji18)) = true := decide_eq_true c19; clear c19
           by_cases c20 : (ji18) ≤ (t125.length : Int)
           ·rw [if_pos c20] at H
            have c20b0 := eq_true c20
            have c20b1 : decide ((ji18) ≤ (t125.length : Int)) = true := decide_eq_true c20
            clear c20
            obtain ⟨y131, hy131⟩ : ∃ y_ : List Int, y_ = (t125.drop ((ji18) : Int).toNat) := ⟨_, rfl⟩
            replace H : (if 3 < (y131.length : Int) then (if (rd y131 3) > 1 then (some (([] : List (S94)), false)) else (if 0 < (y131.length : Int) then (if 1 < (y131.length : Int) then (if 2 < (y131.length : Int) then (if x131000_3.length < 4398046511104 then (impl_DecodeBundle.l0 k3 t122 t125 (wrap64 (x10_3 + 1)) (x131000_3 ++ [(⟨rd y131 0, rd y131 1, rd y131 2, ((rd y131 3) == 1)⟩ : S94)])) else (none)) else (none)) else (none)) else (none))) else (none)) = some (r1, r2) := by first | (rw [hy131]; with_reducible exact H) | (have H2_ := (Option.bind_some _ _).symm.trans H; rw [hy131]; with_reducible exact H2_) | (have H2_ := (Option.bind_some _ _).symm.trans H; with_reducible exact H2_) | with_reducible exact H | (rw [hy131]; exact H) | exact H
            have Ny131 := Aside0.mk hy131; clear hy131
            by_cases c21 : 3 < (y131.length : Int)
            ·rw [if_pos c21] at H
             have c21b0 : decide (3 < (y131.length : Int)) = true := decide_eq_true c21
             have c21b1 : decide (3 < y131.length) = true := decide_eq_true (by omega)
             clear c21
             by_cases c22 : (rd y131 3) > 1
             ·rw [if_pos c22] at H; have c22b0 : decide (1 < (rd y131 3)) = true := decide_eq_true c22; clear c22
              simp only [Option.some.injEq, Prod.mk.injEq] at H
              obtain ⟨rfl, rfl⟩ := H
              obtain ⟨Ao24, co24, eo24⟩ := Kd.R_slice HO_7.out
              subst eo24
              have q23 : ((ji18) : Int) ≤ ((t125.length : Int) : Int) := of_decide_eq_true Cmp.d
              obtain ⟨i023, hi023, _, hsz23, _⟩ := info_parts info3
              have hroom23 : t125.length ≤ co24 := (Kd.R_reads' HO_7.out).2.1
              have hC23 : Kd.C (Kd.int .i64) _ Ao24 t125.length t125 := (Kd.R_reads' HO_7.out).2.2
              have q023 : (0 : Int) ≤ ((ji18) : Int) := of_decide_eq_true Cmp.d
              have hcut23 := cut_from (P := Try.prog) 32 3 .i64 Try.underlying32 hi023 1 hsz23 Ao24 t125.length co24 (ji18) q023 q23
              have hr23 := Kd.C_drop (m := ((ji18) : Int).toNat) (c := co24) hC23 (by omega) hroom23
              obtain ⟨A23, hA23⟩ : ∃ A1, A1 = (if co24 = ((ji18) : Int).toNat then Ao24 else (Ao24 : Option Addr).map (·.add (((ji18) : Int).toNat * 1))) := ⟨_, rfl⟩
              obtain ⟨c23, hc23⟩ : ∃ c1, c1 = co24 - ((ji18) : Int).toNat := ⟨_, rfl⟩
              have hy23 : y131.length = t125.length - ((ji18) : Int).toNat := (by rw [Ny131.out, List.length_drop] <;> omega)
              rw [show (t125).drop ((ji18) : Int).toNat = y131 from Ny131.out.symm] at hr23
              replace hr23 : Kd.C (Kd.int .i64) _ A23 y131.length y131 := (by rw [hA23]; exact hr23)
              rw [← hy23, ← hA23, ← hc23] at hcut23
              have HR134 := Aside0.mk hr23
              have HC134 := Aside0.mk (show y131.length ≤ c23 from by rw [hy23, hc23]; exact Nat.sub_le_sub_right hroom23 _)
              clear hr23 hC23 hroom23 hi023 hsz23 hc23; have KY23 := Aside0.mk hy23; have KA23 := Aside0.mk hA23; clear hy23 hA23
              have KL23 := Aside0.mk (show ((ji18) : Int).toNat ≤ t125.length from by omega)
              replace q23 := eq_true q23
              have p135 : 0 ≤ (3 : Int) := (by omega)
              have q135 : 3 < (y131.length : Int) := of_decide_eq_true Cmp.d
              obtain ⟨ad135, e135, hx135_0⟩ := Kd.at_int (by repeat (first | (with_reducible exact HR134.out) | (with_reducible refine Kd.C_alloc ?_ _) | (with_reducible refine Kd.C_drewN ?_ _) | (with_reducible refine Kd.C_drew ?_) | exact HR134.out)) 3 p135 q135
              cases e135
              (try simp only [show (3 : Int).toNat = 3 from rfl, Nat.reduceMul, Nat.reduceEqDiff, Go.Addr.add, ↓reduceIte] at hx135_0)
              have qi135 : (3 < y131.length) = True := eq_true (by omega)
              (try rw [show ((3 : Int)).toNat = 3 from rfl] at hx135_0)
              replace p135 := eq_true p135; replace q135 := eq_true q135; have hnb25 := NB121_130.out; have hnc25 := NB130_121.out
              have hcz26_0 : wr.cell? ⟨gb121, 0, none⟩ = some (.slice none 0 0) := (blk_cell BK121.out 0).trans rfl
              have hfz26_0 := blk_frozen BK121.out 0
              go_wp2
              refine bodyPost_ret (results_ct rfl _ _ gb121 45 #[.slice none 0 0] (0, 0) _ rfl (by (with_reducible repeat (first | refine blk_drewN ?_ _ | refine blk_drew ?_ | refine blk_alloc ?_ _)); refine blk_put (cs := #[.slice none 0 0]) ?_ 0 _ rfl; (with_reducible repeat (first | refine blk_drewN ?_ _ | refine blk_drew ?_ | refine blk_alloc ?_ _)); exact BK121.out) Try.underlying45 rfl (by kernel_rfl)) rfl ?_
              exact ⟨_, by first | rfl | (simp [errW_none, errW_some] <;> rfl) | (simp only [← hji18]; first | rfl | (simp [errW_none, errW_some] <;> rfl)) | (simp [*, errW_none, errW_some] <;> rfl), by first | exact Kd.R_nil _ _ _ _ _ | exact Kd.N_nil _ _ _ _ _ | exact Kd.V_nil _ _ _ _ _ | exact Kd.Q_nil _ _ _ _ _ | exact Kd.S_nil _ _ _ _ _, Cmp.g HB.out⟩
             ·rw [if_neg c22] at H; have c22b0 : decide (1 < (rd y131 3)) = false := decide_eq_false c22; clear c22
              by_cases c27 : 0 < (y131.length : Int)
              ·rw [if_pos c27] at H
               have c27b0 : decide (0 < (y131.length : Int)) = true := decide_eq_true c27
               have c27b1 : decide (0 < y131.length) = true := decide_eq_true (by omega)
               clear c27
               by_cases c28 : 1 < (y131.length : Int)
               ·rw [if_pos c28] at H
                have c28b0 : decide (1 < (y131.length : Int)) = true := decide_eq_true c28
                have c28b1 : decide (1 < y131.length) = true := decide_eq_true (by omega)
                clear c28
                by_cases c29 : 2 < (y131.length : Int)
                ·rw [if_pos c29] at H
                 have c29b0 : decide (2 < (y131.length : Int)) = true := decide_eq_true c29
                 have c29b1 : decide (2 < y131.length) = true := decide_eq_true (by omega)
                 clear c29
                 by_cases c30 : x131000_3.length < 4398046511104
                 ·rw [if_pos c30] at H; have LMc30 := Aside0.mk c30; clear c30
                  obtain ⟨y140, hy140⟩ : ∃ y_ : List (S94), y_ = (x131000_3 ++ [(⟨rd y131 0, rd y131 1, rd y131 2, ((rd y131 3) == 1)⟩ : S94)]) := ⟨_, rfl⟩
                  replace H : (impl_DecodeBundle.l0 k3 t122 t125 (wrap64 (x10_3 + 1)) y140) = some (r1, r2) := by first | (rw [hy140]; with_reducible exact H) | (have H2_ := (Option.bind_some _ _).symm.trans H; rw [hy140]; with_reducible exact H2_) | (have H2_ := (Option.bind_some _ _).symm.trans H; with_reducible exact H2_) | with_reducible exact H | (rw [hy140]; exact H) | exact H
                  have Ny140 := Aside0.mk hy140; clear hy140
                  have H' := Aside0.mk H
                  clear H
                  obtain ⟨Ao32, co32, eo32⟩ := Kd.R_slice HO_7.out
                  subst eo32
                  have q31 : ((ji18) : Int) ≤ ((t125.length : Int) : Int) := of_decide_eq_true Cmp.d
                  obtain ⟨i031, hi031, _, hsz31, _⟩ := info_parts info3
                  have hroom31 : t125.length ≤ co32 := (Kd.R_reads' HO_7.out).2.1
                  have hC31 : Kd.C (Kd.int .i64) _ Ao32 t125.length t125 := (Kd.R_reads' HO_7.out).2.2
                  have q031 : (0 : Int) ≤ ((ji18) : Int) := of_decide_eq_true Cmp.d
                  have hcut31 := cut_from (P := Try.prog) 32 3 .i64 Try.underlying32 hi031 1 hsz31 Ao32 t125.length co32 (ji18) q031 q31
                  have hr31 := Kd.C_drop (m := ((ji18) : Int).toNat) (c := co32) hC31 (by omega) hroom31
                  obtain ⟨A31, hA31⟩ : ∃ A1, A1 = (if co32 = ((ji18) : Int).toNat then Ao32 else (Ao32 : Option Addr).map (·.add (((ji18) : Int).toNat * 1))) := ⟨_, rfl⟩
                  obtain ⟨c31, hc31⟩ : ∃ c1, c1 = co32 - ((ji18) : Int).toNat := ⟨_, rfl⟩
                  have hy31 : y131.length = t125.length - ((ji18) : Int).toNat := (by rw [Ny131.out, List.length_drop] <;> omega)
                  rw [show (t125).drop ((ji18) : Int).toNat = y131 from Ny131.out.symm] at hr31
                  replace hr31 : Kd.C (Kd.int .i64) _ A31 y131.length y131 := (by rw [hA31]; exact hr31)
                  rw [← hy31, ← hA31, ← hc31] at hcut31
                  have HR134 := Aside0.mk hr31
                  have HC134 := Aside0.mk (show y131.length ≤ c31 from by rw [hy31, hc31]; exact Nat.sub_le_sub_right hroom31 _)
                  clear hr31 hC31 hroom31 hi031 hsz31 hc31; have KY31 := Aside0.mk hy31; have KA31 := Aside0.mk hA31; clear hy31 hA31
                  have KL31 := Aside0.mk (show ((ji18) : Int).toNat ≤ t125.length from by omega)
                  replace q31 := eq_true q31
                  have p135 : 0 ≤ (3 : Int) := (by omega)
                  have q135 : 3 < (y131.length : Int) := of_decide_eq_true Cmp.d
                  obtain ⟨ad135, e135, hx135_0⟩ := Kd.at_int (by repeat (first | (with_reducible exact HR134.out) | (with_reducible refine Kd.C_alloc ?_ _) | (with_reducible refine Kd.C_drewN ?_ _) | (with_reducible refine Kd.C_drew ?_) | exact HR134.out)) 3 p135 q135
                  cases e135
                  (try simp only [show (3 : Int).toNat = 3 from rfl, Nat.reduceMul, Nat.reduceEqDiff, Go.Addr.add, ↓reduceIte] at hx135_0)
                  have qi135 : (3 < y131.length) = True := eq_true (by omega)
                  (try rw [show ((3 : Int)).toNat = 3 from rfl] at hx135_0)
                  replace p135 := eq_true p135; replace q135 := eq_true q135
                  try go_wp2
                  have n0_ := Aside0.mk (Kd.R_drew HO_7.out); have n1_ := Aside0.mk (Kd.R_drew HO_131000.out); have n2_ := Aside0.mk (blk_drew BK121.out); have n3_ := Aside0.mk (blk_drew BK130.out); have n4_ := Aside0.mk (Kd.C_drew HR134.out); have n5_ := Aside0.mk (below_drew1 HB.out); clear HO_7; clear HO_131000; clear BK121; clear BK130; clear HR134; clear HB; have HO_7 := n0_; have HO_131000 := n1_; have BK121 := n2_; have BK130 := n3_; have HR134 := n4_; have HB := n5_; clear n0_ n1_ n2_ n3_ n4_ n5_
                  have p136 : 0 ≤ (0 : Int) := (by omega)
                  have q136 : 0 < (y131.length : Int) := of_decide_eq_true Cmp.d
                  obtain ⟨ad136, e136, hx136_0⟩ := Kd.at_int (by repeat (first | (with_reducible exact HR134.out) | (with_reducible refine Kd.C_alloc ?_ _) | (with_reducible refine Kd.C_drewN ?_ _) | (with_reducible refine Kd.C_drew ?_) | exact HR134.out)) 0 p136 q136
                  obtain rfl : ad135 = ad136 := (by injection e136)
                  have qi136 : (0 < y131.length) = True := eq_true (by omega)
                  (try rw [show ((0 : Int)).toNat = 0 from rfl] at hx136_0)
                  (try rw [Addr.add_zero'] at hx136_0)
                  replace p136 := eq_true p136; replace q136 := eq_true q136
                  have p137 : 0 ≤ (1 : Int) := (by omega)
                  have q137 : 1 < (y131.length : Int) := of_decide_eq_true Cmp.d
                  obtain ⟨ad137, e137, hx137_0⟩ := Kd.at_int (by repeat (first | (with_reducible exact HR134.out) | (with_reducible refine Kd.C_alloc ?_ _) | (with_reducible refine Kd.C_drewN ?_ _) | (with_reducible refine Kd.C_drew ?_) | exact HR134.out)) 1 p137 q137
                  obtain rfl : ad135 = ad137 := (by injection e137)
                  (try simp only [show (1 : Int).toNat = 1 from rfl, Nat.reduceMul, Nat.reduceEqDiff, Go.Addr.add, ↓reduceIte] at hx137_0)
                  have qi137 : (1 < y131.length) = True := eq_true (by omega)
                  (try rw [show ((1 : Int)).toNat = 1 from rfl] at hx137_0)
                  replace p137 := eq_true p137; replace q137 := eq_true q137
                  have p138 : 0 ≤ (2 : Int) := (by omega)
                  have q138 : 2 < (y131.length : Int) := of_decide_eq_true Cmp.d
                  obtain ⟨ad138, e138, hx138_0⟩ := Kd.at_int (by repeat (first | (with_reducible exact HR134.out) | (with_reducible refine Kd.C_alloc ?_ _) | (with_reducible refine Kd.C_drewN ?_ _) | (with_reducible refine Kd.C_drew ?_) | exact HR134.out)) 2 p138 q138
                  obtain rfl : ad135 = ad138 := (by injection e138)
                  (try simp only [show (2 : Int).toNat = 2 from rfl, Nat.reduceMul, Nat.reduceEqDiff, Go.Addr.add, ↓reduceIte] at hx138_0)
                  have qi138 : (2 < y131.length) = True := eq_true (by omega)
                  (try rw [show ((2 : Int)).toNat = 2 from rfl] at hx138_0)
                  replace p138 := eq_true p138; replace q138 := eq_true q138
                  have p139 : 0 ≤ (3 : Int) := (by omega)
                  have q139 : 3 < (y131.length : Int) := of_decide_eq_true Cmp.d
                  obtain ⟨ad139, e139, hx139_0⟩ := Kd.at_int (by repeat (first | (with_reducible exact HR134.out) | (with_reducible refine Kd.C_alloc ?_ _) | (with_reducible refine Kd.C_drewN ?_ _) | (with_reducible refine Kd.C_drew ?_) | exact HR134.out)) 3 p139 q139
                  obtain rfl : ad135 = ad139 := (by injection e139)
                  (try simp only [show (3 : Int).toNat = 3 from rfl, Nat.reduceMul, Nat.reduceEqDiff, Go.Addr.add, ↓reduceIte] at hx139_0)
                  have qi139 : (3 < y131.length) = True := eq_true (by omega)
                  (try rw [show ((3 : Int)).toNat = 3 from rfl] at hx139_0)
                  replace p139 := eq_true p139; replace q139 := eq_true q139
                  refine start_ (n := 20) (S := fun w' => w'.cell? ⟨gb130, 0, none⟩ = some (u131000) ∧ w'.cell? ad135 = some (.int .i64 (rd y131 0)) ∧ w'.cell? ⟨ad135.block, ad135.off + 1, none⟩ = some (.int .i64 (rd y131 1)) ∧ w'.cell? ⟨ad135.block, ad135.off + 2, none⟩ = some (.int .i64 (rd y131 2)) ∧ w'.cell? ⟨ad135.block, ad135.off + 3, none⟩ = some (.int .i64 (rd y131 3))) (ds := [17, 19]) (Cmp.bm 0 20) (by kernel_rfl) rfl rfl ⟨(blk_cell BK130.out 0).trans rfl, hx136_0, hx137_0, hx138_0, hx139_0⟩ (fun hHeld => ?_); refine with_tabW impl_DecodeBundle.tab14 impl_DecodeBundle.bits14 (fun HT_ HW_ => ?_)
                  generalize wr.drew = w33 at HO_7 HO_131000 BK121 BK130 HR134 HB hx136_0 hx137_0 hx138_0 hx139_0 hHeld ⊢
                  refine Cmp.pu HT_ 0 58 (Cmp.bm 1 19) ?_; refine Cmp.pu HT_ 2 60 (Cmp.bb 20 5) ?_; refine Cmp.pu HT_ 3 61 (Cmp.bb 20 13) ?_; refine Cmp.pu HT_ 5 63 (Cmp.bb 20 45) ?_; refine Cmp.pu HT_ 6 64 (Cmp.bb 20 109) ?_; refine Cmp.pu HT_ 8 66 (Cmp.bb 20 365) ?_; refine Cmp.pu HT_ 9 67 (Cmp.bb 20 877) ?_; refine Cmp.pu HT_ 11 69 (Cmp.bb 20 2925) ?_; refine Cmp.pu HT_ 12 70 (Cmp.bb 20 7021) ?_; refine Cmp.tk HT_ HW_ hHeld 1 59 (Cmp.bb 20 7023) ?_; refine Cmp.tk HT_ HW_ hHeld 4 62 (Cmp.bb 20 7039) ?_; refine Cmp.tk HT_ HW_ hHeld 7 65 (Cmp.bb 20 7167) ?_; refine Cmp.tk HT_ HW_ hHeld 10 68 (Cmp.bm 13 7) ?_; refine Cmp.tk HT_ HW_ hHeld 13 71 (Cmp.bm 14 6) ?_; refine Cmp.pu HT_ 14 72 (Cmp.bm 15 5) ?_; refine Cmp.pu HT_ 15 73 (Cmp.bm 16 4) ?_
                  refine one_ (i := 16) (N := some 74) (Cmp.bm 17 3) rfl rfl (one_of HT_.out (by kernel_rfl)) (by decide) (fun K hK => ?_)
                  refine value_ (w1 := ?_) (v := ?_) (by rfl) rfl ?_ ?_
                  rotate_left 2
                  ·go_simp
                   constructor
                   ·rfl
                   ·rfl
                  refine hK.out _ _ ⟨(blk_cell (blk_alloc BK130.out _) 0).trans rfl, (World.cell?_alloc_lt _ _ _ (World.block_lt_of_cell? _ _ (hHeld.2.1))).trans (hHeld.2.1), (World.cell?_alloc_lt _ _ _ (World.block_lt_of_cell? _ _ (hHeld.2.2.1))).trans (hHeld.2.2.1), (World.cell?_alloc_lt _ _ _ (World.block_lt_of_cell? _ _ (hHeld.2.2.2.1))).trans (hHeld.2.2.2.1), (World.cell?_alloc_lt _ _ _ (World.block_lt_of_cell? _ _ (hHeld.2.2.2.2))).trans (hHeld.2.2.2.2)⟩ (fun hHeld => ?_)
                  clear hK K
                  refine norm_ (a' := ?_) ?_ ?_
                  rotate_left
                  ·show Act.put _ (some 74) _ = _
                   simp only [Act.put, Cmp.s, Cmp.z, Cmp.c, i64_w, i32_w]; rfl
                  refine last_ (i := 17) (N := some 75) (Cmp.bm 18 2) rfl rfl (one_of HT_.out (by kernel_rfl)) (by decide) (fun K hK => ?_)
                  refine Kd.R_append_step k94 (w0 := w) w.heap.size (by rfl) (.tmp 59) (.tmp 74) 43 94 (.agg #[(.int .i64 0), (.int .i64 0), (.int .i64 0), (.bool false)]) 32 rfl Try.underlying43 info94 rfl (by decide) (by omega) u131000 x131000_3 (⟨rd y131 0, rd y131 1, rd y131 2, ((rd y131 3) == 1)⟩ : S94) [.int .i64 (rd y131 0), .int .i64 (rd y131 1), .int .i64 (rd y131 2), .bool ((rd y131 3) == 1)] (fun _ => True) (fun _ => False) rfl rfl ?aP (fun _ hk => hk.elim) ?aF ?aO ?aB ?aS ?aL ?_
                  (case aP => exact k94_mkM _ _ _ (⟨rd y131 0, rd y131 1, rd y131 2, ((rd y131 3) == 1)⟩ : S94))
                  (case aB => exact (Cmp.g HB.out))
                  (case aF => exact (fun _ _ => trivial))
                  (case aO => exact (Cmp.rr HO_131000.out))
                  (case aS => exact (below_size (Cmp.g HB.out)))
                  (case aL => have := LMc30.out; omega)
                  intro v141 w34 ho hb hg hat
                  rw [← Ny140.out] at ho
                  have n0_ := Aside0.mk (Kd.R_over' (Cmp.rr HO_7.out) (Kd.R_typed (Cmp.rr HO_131000.out)) (by decide) hg)
                  have n1_ := Aside0.mk (blk_grown (g := gb121) (o := .cells #[.slice none 0 0] 45 (0, 0)) (Cmp.b BK121.out) hg (Kd.R_ne HO_131000.out BK121.out (by decide)))
                  have n2_ := Aside0.mk (blk_grown (g := gb130) (o := .cells #[u131000] 45 (0, 0)) (Cmp.b BK130.out) hg (Kd.R_ne HO_131000.out BK130.out (by decide)))
                  have n3_ := Aside0.mk (hb)
                  have n4_ := Aside0.mk ((show Kd.C (Kd.int .i64) w34 (some ad135) y131.length y131 from by rw [Ny131.out, KA31.out]; exact Kd.C_drop (m := ((ji18) : Int).toNat) (c := co32) ((Kd.R_reads' (Kd.R_over' (Cmp.rr HO_7.out) (Kd.R_typed (Cmp.rr HO_131000.out)) (by decide) hg)).2.2) KL31.out ((Kd.R_reads' (Kd.R_over' (Cmp.rr HO_7.out) (Kd.R_typed (Cmp.rr HO_131000.out)) (by decide) hg)).2.1)))
                  have n5_ := Aside0.mk (ho)
                  clear HO_7; clear BK121; clear BK130; clear HB; clear HR134; clear HO_131000; have HO_7 := n0_; have BK121 := n1_; have BK130 := n2_; have HB := n3_; have HR134 := n4_; have HO142 := n5_; clear n0_ n1_ n2_ n3_ n4_ n5_; clear ho hb hg hat
                  obtain ⟨Ao35, co35, eo35⟩ := Kd.R_slice HO142.out
                  (first | subst eo35 | (injection eo35 with f1_ f2_ f3_; have f4_ := f1_.symm; have f5_ := f3_.symm; clear f1_ f2_ f3_; subst f4_; subst f5_))
                  refine hK.out _ _ ?_
                  clear hK K
                  refine norm_ (a' := ?_) ?_ ?_
                  rotate_left
                  ·show Act.put _ (some 75) _ = _
                   simp only [Act.put, Cmp.s, Cmp.z, Cmp.c, i64_w, i32_w]; rfl
                  refine Cmp.pu HT_ 18 76 (Cmp.bm 19 1) ?_
                  refine last_ (i := 19) (N := none) (Cmp.bm 20 0) rfl rfl (one_of HT_.out (by kernel_rfl)) (by decide) (fun K hK => ?_)
                  have hs36 : w34.cell? ⟨gb130, 0, none⟩ = some (u131000) := (blk_cell BK130.out 0).trans rfl
                  have hfs36 := blk_frozen BK130.out 0; have hns36_0 := NB121_130.out; have hms36_0 := NB130_121.out
                  refine skip_ (w1 := ?_) (by rfl) rfl ?_ ?_
                  rotate_left
                  ·go_simp; rfl
                  refine hK.out _ _ ?_
                  clear hK K
                  refine done_ (done_of HT_.out (by kernel_rfl)) ?_
                  try go_wp2
                  go_roundg k3
                  case measure => have := HJ2.out; have := HJ8.out; have := HK3.out; omega
                  case rel => exact ⟨(wrap64 (x10_3 + 1)), (y140), (.slice Ao35 y140.length co35), (by first | rfl | simp | simp [*]), H', ⟨by have := HJ2.out; have := HJ8.out; have := HK3.out; omega⟩, ⟨by (with_reducible repeat (first | apply Kd.R_alloc | apply Kd.R_drewN | apply Kd.R_drew)); exact Kd.R_mono (Kd.R_far (p := ⟨gb130, 0, none⟩) (Kd.R_types HO_7.out BK130.out (by decide)) (fun _ hk => hk.2) (.slice Ao35 y140.length co35)) (fun _ hk => trivial)⟩, ⟨by (with_reducible repeat (first | apply Kd.R_alloc | apply Kd.R_drewN | apply Kd.R_drew)); exact Kd.R_mono (Kd.R_far (p := ⟨gb130, 0, none⟩) (Kd.R_types HO142.out BK130.out (by decide)) (fun _ hk => hk.2) (.slice Ao35 y140.length co35)) (fun _ hk => trivial)⟩, ⟨by (with_reducible repeat (first | refine blk_drewN ?_ _ | refine blk_drew ?_ | refine blk_alloc ?_ _)); refine blk_far ?_ NB121_130.out _; (with_reducible repeat (first | refine blk_drewN ?_ _ | refine blk_drew ?_ | refine blk_alloc ?_ _)); exact BK121.out⟩, ⟨by (with_reducible repeat (first | refine blk_drewN ?_ _ | refine blk_drew ?_ | refine blk_alloc ?_ _)); refine blk_put (cs := #[u131000]) ?_ 0 _ rfl; (with_reducible repeat (first | refine blk_drewN ?_ _ | refine blk_drew ?_ | refine blk_alloc ?_ _)); exact BK130.out⟩, ⟨Cmp.g HB.out⟩⟩
                 ·rw [if_neg c30] at H; exact absurd H (by simp)
                ·rw [if_neg c29] at H; exact absurd H (by simp)
               ·rw [if_neg c28] at H; exact absurd H (by simp)
              ·rw [if_neg c27] at H; exact absurd H (by simp)
            ·rw [if_neg c21] at H; exact absurd H (by simp)
           ·rw [if_neg c20] at H; exact absurd H (by simp)
          ·rw [if_neg c19] at H; exact absurd H (by simp)
         ·rw [if_neg c17] at H; have c17b0 : decide (x10_3 < t122) = false := decide_eq_false c17; clear c17; replace H := Option.bind_eq_some_iff.mp H; obtain ⟨t143, A370, H⟩ := H; (try dsimp only at H); have A37 := Aside0.mk A370; clear A370
          by_cases c38 : t143 = true
          ·subst c38; rw [if_pos rfl] at H
           simp only [Option.some.injEq, Prod.mk.injEq] at H
           obtain ⟨rfl, rfl⟩ := H; have hnb39 := NB130_121.out; have hnc39 := NB121_130.out
           have hcz40_0 : wr.cell? ⟨gb130, 0, none⟩ = some (u131000) := (blk_cell BK130.out 0).trans rfl
           have hfz40_0 := blk_frozen BK130.out 0
           obtain ⟨Ao41, co41, eo41⟩ := Kd.R_slice HO_131000.out
           subst eo41
           go_wp2_with (first | ((with_reducible refine gate_callee (f := 61) rfl ?_); refine goesL_ (some 78) rfl rfl Try.func61 (by kernel_rfl) rfl #[.agg #[.slice Ao41 x131000_3.length co41]] rfl Cmp.q ?_; (with_reducible refine (impl_IsBundle.calls k3 _ _ x131000_3 true _ ?side1 ?side2 A37.out).mono ?_); (case side1 => exact Cmp.rc (Kd.R_reads' HO_131000.out).2.2); (case side2 => exact (Kd.R_reads' HO_131000.out).2.1); rintro e w42 ⟨rfl, hb⟩; refine ⟨_, rfl, ?_⟩; have n0_ := Aside0.mk (Kd.R_below (Cmp.rr HO_7.out) hb); have n1_ := Aside0.mk (Kd.R_below (Cmp.rr HO_131000.out) hb); have n2_ := Aside0.mk (blk_below (Cmp.b BK121.out) hb); have n3_ := Aside0.mk (blk_below (Cmp.b BK130.out) hb); have n4_ := Aside0.mk (below_step (Cmp.g HB.out) hb); clear HO_7; clear HO_131000; clear BK121; clear BK130; clear HB; have HO_7 := n0_; have HO_131000 := n1_; have BK121 := n2_; have BK130 := n3_; have HB := n4_; clear n0_ n1_ n2_ n3_ n4_; (try clear hb); (try clear hb2); (try clear hk); (try clear hi); have hcz43_0 : w42.cell? ⟨gb130, 0, none⟩ = some (.slice Ao41 x131000_3.length co41) := (blk_cell BK130.out 0).trans rfl; have hfz43_0 := blk_frozen BK130.out 0; have hcz44_0 : w42.cell? ⟨gb121, 0, none⟩ = some (.slice none 0 0) := (blk_cell BK121.out 0).trans rfl; have hfz44_0 := blk_frozen BK121.out 0))
           refine bodyPost_ret (results_ct rfl _ _ gb121 45 #[.slice Ao41 x131000_3.length co41] (0, 0) _ rfl (by (with_reducible repeat (first | refine blk_drewN ?_ _ | refine blk_drew ?_ | refine blk_alloc ?_ _)); refine blk_put (cs := #[.slice none 0 0]) ?_ 0 _ rfl; (with_reducible repeat (first | refine blk_drewN ?_ _ | refine blk_drew ?_ | refine blk_alloc ?_ _)); exact BK121.out) Try.underlying45 rfl (by kernel_rfl)) rfl ?_
           exact ⟨_, by first | rfl | (simp [errW_none, errW_some] <;> rfl) | (simp [*, errW_none, errW_some] <;> rfl), by (with_reducible repeat (first | apply Kd.R_alloc | apply Kd.R_drewN | apply Kd.R_drew)); exact Kd.R_mono (Kd.R_far (p := ⟨gb121, 0, none⟩) (Kd.R_types HO_131000.out BK121.out (by decide)) (fun _ hk => hk.2) (.slice Ao41 x131000_3.length co41)) (fun _ hk => trivial), Cmp.g HB.out⟩
          ·replace c38 := Bool.eq_false_iff.mpr c38
           subst c38
           have H1 : (some (([] : List (S94)), false)) = some (r1, r2) := by rw [if_neg (show ¬ (false = true) by decide)] at H; exact H
           clear H; have H := H1; clear H1
           simp only [Option.some.injEq, Prod.mk.injEq] at H
           obtain ⟨rfl, rfl⟩ := H; have hnb45 := NB130_121.out; have hnc45 := NB121_130.out
           have hcz46_0 : wr.cell? ⟨gb130, 0, none⟩ = some (u131000) := (blk_cell BK130.out 0).trans rfl
           have hfz46_0 := blk_frozen BK130.out 0
           obtain ⟨Ao47, co47, eo47⟩ := Kd.R_slice HO_131000.out
           subst eo47
           go_wp2_with (first | ((with_reducible refine gate_callee (f := 61) rfl ?_); refine goesL_ (some 78) rfl rfl Try.func61 (by kernel_rfl) rfl #[.agg #[.slice Ao47 x131000_3.length co47]] rfl Cmp.q ?_; (with_reducible refine (impl_IsBundle.calls k3 _ _ x131000_3 false _ ?side1 ?side2 A37.out).mono ?_); (case side1 => exact Cmp.rc (Kd.R_reads' HO_131000.out).2.2); (case side2 => exact (Kd.R_reads' HO_131000.out).2.1); rintro e w48 ⟨rfl, hb⟩; refine ⟨_, rfl, ?_⟩; have n0_ := Aside0.mk (Kd.R_below (Cmp.rr HO_7.out) hb); have n1_ := Aside0.mk (Kd.R_below (Cmp.rr HO_131000.out) hb); have n2_ := Aside0.mk (blk_below (Cmp.b BK121.out) hb); have n3_ := Aside0.mk (blk_below (Cmp.b BK130.out) hb); have n4_ := Aside0.mk (below_step (Cmp.g HB.out) hb); clear HO_7; clear HO_131000; clear BK121; clear BK130; clear HB; have HO_7 := n0_; have HO_131000 := n1_; have BK121 := n2_; have BK130 := n3_; have HB := n4_; clear n0_ n1_ n2_ n3_ n4_; (try clear hb); (try clear hb2); (try clear hk); (try clear hi); have hcz49_0 : w48.cell? ⟨gb121, 0, none⟩ = some (.slice none 0 0) := (blk_cell BK121.out 0).trans rfl; have hfz49_0 := blk_frozen BK121.out 0))
           refine bodyPost_ret (results_ct rfl _ _ gb121 45 #[.slice none 0 0] (0, 0) _ rfl (by (with_reducible repeat (first | refine blk_drewN ?_ _ | refine blk_drew ?_ | refine blk_alloc ?_ _)); refine blk_put (cs := #[.slice none 0 0]) ?_ 0 _ rfl; (with_reducible repeat (first | refine blk_drewN ?_ _ | refine blk_drew ?_ | refine blk_alloc ?_ _)); exact BK121.out) Try.underlying45 rfl (by kernel_rfl)) rfl ?_
           exact ⟨_, by first | rfl | (simp [errW_none, errW_some] <;> rfl) | (simp [*, errW_none, errW_some] <;> rfl), by first | exact Kd.R_nil _ _ _ _ _ | exact Kd.N_nil _ _ _ _ _ | exact Kd.V_nil _ _ _ _ _ | exact Kd.Q_nil _ _ _ _ _ | exact Kd.S_nil _ _ _ _ _, Cmp.g HB.out⟩

/-! ### impl_IsValidKey: function 59 -/
def impl_IsValidKey.f (a0 : Int) : Option (Bool) := (impl_InRange.f a0 1 2147483646).bind fun t144 => (some t144)
set_option maxHeartbeats 8000000 in
set_option maxRecDepth 100000 in
theorem impl_IsValidKey.calls (a0 : Int) (r : Bool) (w : World) (h : impl_IsValidKey.f a0 = some r) :
    Calls Try.prog 59 #[.int .i64 a0] w fun e w' => e = .returned (.bool r) ∧ Drawn0 w w' := by
 have H : ((impl_InRange.f a0 1 2147483646).bind fun t144 => (some t144)) = some r := h
 clear h; replace H := Option.bind_eq_some_iff.mp H; obtain ⟨t144, A20, H⟩ := H; (try dsimp only at H); have A2 := Aside0.mk A20; clear A20
 obtain rfl := Option.some.inj H
 go_enter Try.func59, Try.ntmps59
 go_wp2_with (first | ((with_reducible refine gate_callee (f := 60) rfl ?_); refine goesL_ (some 4) rfl rfl Try.func60 (by kernel_rfl) rfl #[.int .i64 a0, .int .i64 1, .int .i64 2147483646] rfl Cmp.q ?_; (with_reducible refine (impl_InRange.calls a0 1 2147483646 t144 _ A2.out).mono ?_); rintro e w' ⟨rfl, ⟨nd, rfl⟩⟩; refine ⟨_, rfl, ?_⟩))
 go_ret
 exact ⟨by first | rfl | (simp; done) | (simp [*]; done), by repeat (first | exact Drawn0.refl _ | apply Drawn0.step)⟩

/-! ### impl_Mod: function 112 -/
def impl_Mod.j0 : Nat → Int → Int → Bool → Option (Int)
  | 0, _, _, _ => none
  | k + 1, x0, x1, x11 => if x11 = true then (some 0) else (if x1 = 0 then (none) else (if (Int.tmod x0 x1) < 0 then (some (wrap64 ((Int.tmod x0 x1) + x1))) else (some (Int.tmod x0 x1))))
def impl_Mod.f (k : Nat) (a0 : Int) (a1 : Int) : Option (Int) := if a1 < 1 then (impl_Mod.j0 k a0 a1 true) else (impl_Mod.j0 k a0 a1 (decide (a1 > 1000000000000)))
theorem impl_Mod.mono_l : ∀ k, (∀ y0 y1 y2, LeO (impl_Mod.j0 k y0 y1 y2) (impl_Mod.j0 (k + 1) y0 y1 y2))
  | 0 => fun _ _ _ r h => by simp [impl_Mod.j0] at h
  | k + 1 => by
    have ih0 := impl_Mod.mono_l k
    · intro y0 y1 y2
      unfold impl_Mod.j0
      repeat' first
      | (with_reducible exact ih0 _ _ _)
      | (with_reducible exact LeO.refl _)
      | (with_reducible exact LeO.none _)
      | (with_reducible refine LeO.ite ?_ ?_)
      | (with_reducible refine LeO.bind ?_ (fun _ => ?_))
      | exact ih0 _ _ _
      | exact LeO.none _
      | refine LeO.ite ?_ ?_
      | refine LeO.bind ?_ (fun _ => ?_)
theorem impl_Mod.mono : ∀ a0 a1 k, LeO (impl_Mod.f k a0 a1) (impl_Mod.f (k + 1) a0 a1) := by
  intro a0 a1 k
  have ih0 := impl_Mod.mono_l k
  unfold impl_Mod.f
  repeat' first
      | (with_reducible exact ih0 _ _ _)
      | (with_reducible exact LeO.refl _)
      | (with_reducible exact LeO.none _)
      | (with_reducible refine LeO.ite ?_ ?_)
      | (with_reducible refine LeO.bind ?_ (fun _ => ?_))
      | exact ih0 _ _ _
      | exact LeO.none _
      | refine LeO.ite ?_ ?_
      | refine LeO.bind ?_ (fun _ => ?_)
set_option maxHeartbeats 8000000 in
set_option maxRecDepth 100000 in
theorem impl_Mod.calls (k : Nat) (a0 : Int) (a1 : Int) (r : Int) (w : World) (h : impl_Mod.f k a0 a1 = some r) :
    Calls Try.prog 112 #[.int .i64 a0, .int .i64 a1] w fun e w' => e = .returned (.int .i64 r) ∧ Drawn0 w w' := by
 have H : (if a1 < 1 then (impl_Mod.j0 k a0 a1 true) else (impl_Mod.j0 k a0 a1 (decide (a1 > 1000000000000)))) = some r := h
 clear h; have HC3 := Aside0.mk H; clear H
 go_enter Try.func112, Try.ntmps112
 go_upto_region 1 with (fail)
 go_cut [11] (fun v11 wc => ∃ (kq : Nat) (x11_2 : Bool), v11 = .bool x11_2 ∧ Aside0 (impl_Mod.j0 kq a0 a1 x11_2 = some r) ∧ Aside0 (kq ≤ k) ∧ Drawn0 w wc)
 case first =>
  have H := HC3.out; clear HC3
  by_cases c4 : a1 < 1
  ·rw [if_pos c4] at H; have c4b0 : decide (a1 < 1) = true := decide_eq_true c4; clear c4
   (first | rw [c4b0] | (simp only [i64_w, i32_w]; rw [c4b0]) | skip)
   have H' := Aside0.mk H
   clear H
   go_wp2
   go_meet
   case rel => exact ⟨_, (true), (by first | rfl | simp | simp [*]), H', ⟨by first | omega | exact Nat.le_refl _⟩, by repeat (first | exact Drawn0.refl _ | apply Drawn0.step)⟩
  ·rw [if_neg c4] at H; have c4b0 : decide (a1 < 1) = false := decide_eq_false c4; clear c4
   (first | rw [c4b0] | (simp only [i64_w, i32_w]; rw [c4b0]) | skip)
   have H' := Aside0.mk H
   clear H
   go_wp2
   go_meet
   case rel => exact ⟨_, (decide (a1 > 1000000000000)), (by first | rfl | simp | simp [*]), H', ⟨by first | omega | exact Nat.le_refl _⟩, by repeat (first | exact Drawn0.refl _ | apply Drawn0.step)⟩
 case rest =>
  clear HC3; (try clear c1); (try clear p2); (try clear c4); (try clear c4b0)
  obtain ⟨kq, x11_2, rfl, HA, HJ2, ⟨mc2, rfl⟩⟩ := hcut
  cases kq with
  | zero => exact absurd HA.out (by simp [impl_Mod.j0])
  | succ kj2 =>
   have H := HA.out; clear HA
   simp only [impl_Mod.j0] at H
   by_cases c5 : x11_2 = true
   ·subst c5; rw [if_pos rfl] at H
    obtain rfl := Option.some.inj H
    go_wp2
    go_ret
    exact ⟨by first | rfl | (simp; done) | (simp [*]; done), by repeat (first | exact Drawn0.refl _ | apply Drawn0.step)⟩
   ·replace c5 := Bool.eq_false_iff.mpr c5
    subst c5
    have H1 : (if a1 = 0 then (none) else (if (Int.tmod a0 a1) < 0 then (some (wrap64 ((Int.tmod a0 a1) + a1))) else (some (Int.tmod a0 a1)))) = some r := by rw [if_neg (show ¬ (false = true) by decide)] at H; exact H
    clear H; have H := H1; clear H1
    by_cases c6 : a1 = 0
    ·rw [if_pos c6] at H; exact absurd H (by simp)
    ·rw [if_neg c6] at H; have c6b0 : (a1 == 0) = false := beq_eq_false_iff_ne.mpr c6; have c6b1 : (a1 != 0) = true := bne_iff_ne.mpr c6
     by_cases c7 : (Int.tmod a0 a1) < 0
     ·rw [if_pos c7] at H; have c7b0 : decide ((Int.tmod a0 a1) < 0) = true := decide_eq_true c7; clear c7
      obtain rfl := Option.some.inj H
      go_wp2
      go_ret
      exact ⟨by first | rfl | (simp; done) | (simp [*]; done), by repeat (first | exact Drawn0.refl _ | apply Drawn0.step)⟩
     ·rw [if_neg c7] at H; have c7b0 : decide ((Int.tmod a0 a1) < 0) = false := decide_eq_false c7; clear c7
      obtain rfl := Option.some.inj H
      go_wp2
      go_ret
      exact ⟨by first | rfl | (simp; done) | (simp [*]; done), by repeat (first | exact Drawn0.refl _ | apply Drawn0.step)⟩

end Go.Proofs.Ytpgjecknkmmnhaa.PFnExactOpenBundle

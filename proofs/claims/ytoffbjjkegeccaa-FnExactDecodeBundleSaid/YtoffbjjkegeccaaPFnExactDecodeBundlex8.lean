/- Printed functions of the program, out of print.sh, told more shortly. No condition. -/
import Derived.Test.YtoffbjjkegeccaaCmp
import Derived.Test.YtoffbjjkegeccaaPFnExactDecodeBundlex0
import Derived.Test.YtoffbjjkegeccaaPFnExactDecodeBundlex6
import Derived.Test.YtoffbjjkegeccaaPFnExactDecodeBundlex7
namespace Go.Proofs.Ytoffbjjkegeccaa.PFnExactDecodeBundle
open Go.Proofs.Ytoffbjjkegeccaa
open Go.RowKit Go.Proofs.YtoffbjjkegeccaaW.PrintWords Go.Proofs.YtoffbjjkegeccaaW.PrintLast Go.Proofs.YtoffbjjkegeccaaW.PrintMore
attribute [local go_sem] max2_int min2_int max_two min_two max_three min_three max_four min_four   -- for this text's walks alone
set_option linter.unusedVariables false
set_option linter.unusedSimpArgs false

/-! ### impl_DecodeBundle: function 37 -/
mutual
def impl_DecodeBundle.j0 : Nat → List Int → Int → Int → Bool → Option ((List (S49)) × Bool)
  | 0, _, _, _, _ => none
  | k + 1, x0, x4, x5, x23 => if x23 = true then (some (([] : List (S49)), false)) else ((impl_DecodeInts.f k x0 x5 (wrap64 (4 * x4))).bind fun bt227 => (if bt227.2.2 = true then (impl_DecodeBundle.j1 k x4 bt227.1 (bt227.2.1 != (x0.length : Int))) else (impl_DecodeBundle.j1 k x4 bt227.1 true)))
def impl_DecodeBundle.j1 : Nat → Int → List Int → Bool → Option ((List (S49)) × Bool)
  | 0, _, _, _ => none
  | k + 1, x4, x7, x41 => if x41 = true then (some (([] : List (S49)), false)) else (impl_DecodeBundle.l0 k x4 x7 0 ([] : List (S49)))
def impl_DecodeBundle.l0 : Nat → Int → List Int → Int → List (S49) → Option ((List (S49)) × Bool)
  | 0, _, _, _, _ => none
  | k + 1, x4, x7, x10, x233000 => if x10 < x4 then (if 0 ≤ (wrap64 (4 * x10)) then (if (wrap64 (4 * x10)) ≤ (x7.length : Int) then ((some (x7.drop ((wrap64 (4 * x10)) : Int).toNat : List Int)).bind fun y233 => (if 3 < (y233.length : Int) then (if (rd y233 3) > 1 then (some (([] : List (S49)), false)) else (if 0 < (y233.length : Int) then (if 1 < (y233.length : Int) then (if 2 < (y233.length : Int) then (if x233000.length < 4398046511104 then (impl_DecodeBundle.l0 k x4 x7 (wrap64 (x10 + 1)) (x233000 ++ [(⟨rd y233 0, rd y233 1, rd y233 2, ((rd y233 3) == 1)⟩ : S49)])) else (none)) else (none)) else (none)) else (none))) else (none))) else (none)) else (none)) else ((impl_IsBundle.f k x233000).bind fun t245 => (if t245 = true then (some (x233000, true)) else (some (([] : List (S49)), false))))
end
def impl_DecodeBundle.f (k : Nat) (l0 : List Int) : Option ((List (S49)) × Bool) := (impl_ReadUvarint.f k l0 0).bind fun bt224 => (if bt224.2.2 = true then (impl_DecodeBundle.j0 k l0 bt224.1 bt224.2.1 (decide (bt224.1 > 20))) else (impl_DecodeBundle.j0 k l0 bt224.1 bt224.2.1 true))
theorem impl_DecodeBundle.mono_l : ∀ k, (∀ y0 y1 y2 y3, LeO (impl_DecodeBundle.j0 k y0 y1 y2 y3) (impl_DecodeBundle.j0 (k + 1) y0 y1 y2 y3)) ∧ (∀ y0 y1 y2, LeO (impl_DecodeBundle.j1 k y0 y1 y2) (impl_DecodeBundle.j1 (k + 1) y0 y1 y2)) ∧ (∀ y0 y1 y2 y3, LeO (impl_DecodeBundle.l0 k y0 y1 y2 y3) (impl_DecodeBundle.l0 (k + 1) y0 y1 y2 y3))
  | 0 => ⟨fun _ _ _ _ r h => by simp [impl_DecodeBundle.j0] at h, fun _ _ _ r h => by simp [impl_DecodeBundle.j1] at h, fun _ _ _ _ r h => by simp [impl_DecodeBundle.l0] at h⟩
  | k + 1 => by
    obtain ⟨ih0, ih1, ih2⟩ := impl_DecodeBundle.mono_l k
    refine ⟨?_, ?_, ?_⟩
    · intro y0 y1 y2 y3
      unfold impl_DecodeBundle.j0
      repeat' first
      | (with_reducible exact ih0 _ _ _ _)
      | (with_reducible exact ih1 _ _ _)
      | (with_reducible exact ih2 _ _ _ _)
      | (with_reducible exact impl_DecodeInts.mono _ _ _ _)
      | (with_reducible exact impl_IsBundle.mono _ _)
      | (with_reducible exact impl_ReadUvarint.mono _ _ _)
      | (with_reducible exact LeO.refl _)
      | (with_reducible exact LeO.none _)
      | (with_reducible refine LeO.ite ?_ ?_)
      | (with_reducible refine LeO.bind ?_ (fun _ => ?_))
      | exact ih0 _ _ _ _
      | exact ih1 _ _ _
      | exact ih2 _ _ _ _
      | exact impl_DecodeInts.mono _ _ _ _
      | exact impl_IsBundle.mono _ _
      | exact impl_ReadUvarint.mono _ _ _
      | exact LeO.none _
      | refine LeO.ite ?_ ?_
      | refine LeO.bind ?_ (fun _ => ?_)
    · intro y0 y1 y2
      unfold impl_DecodeBundle.j1
      repeat' first
      | (with_reducible exact ih0 _ _ _ _)
      | (with_reducible exact ih1 _ _ _)
      | (with_reducible exact ih2 _ _ _ _)
      | (with_reducible exact impl_DecodeInts.mono _ _ _ _)
      | (with_reducible exact impl_IsBundle.mono _ _)
      | (with_reducible exact impl_ReadUvarint.mono _ _ _)
      | (with_reducible exact LeO.refl _)
      | (with_reducible exact LeO.none _)
      | (with_reducible refine LeO.ite ?_ ?_)
      | (with_reducible refine LeO.bind ?_ (fun _ => ?_))
      | exact ih0 _ _ _ _
      | exact ih1 _ _ _
      | exact ih2 _ _ _ _
      | exact impl_DecodeInts.mono _ _ _ _
      | exact impl_IsBundle.mono _ _
      | exact impl_ReadUvarint.mono _ _ _
      | exact LeO.none _
      | refine LeO.ite ?_ ?_
      | refine LeO.bind ?_ (fun _ => ?_)
    · intro y0 y1 y2 y3
      unfold impl_DecodeBundle.l0
      repeat' first
      | (with_reducible exact ih0 _ _ _ _)
      | (with_reducible exact ih1 _ _ _)
      | (with_reducible exact ih2 _ _ _ _)
      | (with_reducible exact impl_DecodeInts.mono _ _ _ _)
      | (with_reducible exact impl_IsBundle.mono _ _)
      | (with_reducible exact impl_ReadUvarint.mono _ _ _)
      | (with_reducible exact LeO.refl _)
      | (with_reducible exact LeO.none _)
      | (with_reducible refine LeO.ite ?_ ?_)
      | (with_reducible refine LeO.bind ?_ (fun _ => ?_))
      | exact ih0 _ _ _ _
      | exact ih1 _ _ _
      | exact ih2 _ _ _ _
      | exact impl_DecodeInts.mono _ _ _ _
      | exact impl_IsBundle.mono _ _
      | exact impl_ReadUvarint.mono _ _ _
      | exact LeO.none _
      | refine LeO.ite ?_ ?_
      | refine LeO.bind ?_ (fun _ => ?_)
theorem impl_DecodeBundle.mono : ∀ a0 k, LeO (impl_DecodeBundle.f k a0) (impl_DecodeBundle.f (k + 1) a0) := by
  intro a0 k
  obtain ⟨ih0, ih1, ih2⟩ := impl_DecodeBundle.mono_l k
  unfold impl_DecodeBundle.f
  repeat' first
      | (with_reducible exact ih0 _ _ _ _)
      | (with_reducible exact ih1 _ _ _)
      | (with_reducible exact ih2 _ _ _ _)
      | (with_reducible exact impl_DecodeInts.mono _ _ _ _)
      | (with_reducible exact impl_IsBundle.mono _ _)
      | (with_reducible exact impl_ReadUvarint.mono _ _ _)
      | (with_reducible exact LeO.refl _)
      | (with_reducible exact LeO.none _)
      | (with_reducible refine LeO.ite ?_ ?_)
      | (with_reducible refine LeO.bind ?_ (fun _ => ?_))
      | exact ih0 _ _ _ _
      | exact ih1 _ _ _
      | exact ih2 _ _ _ _
      | exact impl_DecodeInts.mono _ _ _ _
      | exact impl_IsBundle.mono _ _
      | exact impl_ReadUvarint.mono _ _ _
      | exact LeO.none _
      | refine LeO.ite ?_ ?_
      | refine LeO.bind ?_ (fun _ => ?_)
def impl_DecodeBundle.T14 : Bool × List (List Nat × List Nat) := (true, [([], []), ([0], [0]), ([], []), ([2], [2]), ([3], [3]), ([], []), ([5], [5]), ([6], [6]), ([], []), ([8], [8]), ([9], [9]), ([], []), ([11], [11]), ([12], [12]), ([13], [13]), ([4, 7, 10, 14], [4, 7, 10, 14]), ([15], [15]), ([1, 16], [1, 16]), ([0, 1, 2, 3, 4, 5, 6, 7, 8, 9, 10, 11, 12, 13, 14, 15, 16, 17], []), ([18, 17, 17, 0, 1, 2, 3, 4, 5, 6, 7, 8, 9, 10, 11, 12, 13, 14, 15, 16, 17], [17, 18])])
def impl_DecodeBundle.B14 : List Nat := [0, 1, 0, 4, 12, 0, 32, 96, 0, 256, 768, 0, 2048, 6144, 14336, 32764, 65532, 131071, 262143, 524287]
theorem impl_DecodeBundle.tab14 : rtab .any (opsOf Try.f37 14) = impl_DecodeBundle.T14 := by kernel_rfl
theorem impl_DecodeBundle.bits14 : waitsOk impl_DecodeBundle.T14.2 impl_DecodeBundle.B14 = true := by kernel_rfl
set_option maxHeartbeats 8000000 in
set_option maxRecDepth 100000 in
theorem impl_DecodeBundle.calls (k : Nat) (A0 : Option Addr) (c0 : Nat) (l0 : List Int) (r1 : List (S49)) (r2 : Bool) (w : World) (hr0 : Kd.C (Kd.int .u8) w A0 l0.length l0) (hc0 : l0.length ≤ c0) (h : impl_DecodeBundle.f k l0 = some (r1, r2)) :
    Calls Try.prog 37 #[.slice A0 l0.length c0] w fun e w' => ∃ v0_ : Value, e = .returned (.tuple #[.agg #[v0_], .bool r2]) ∧ Kd.R k49 49 w' w.heap.size (fun _ => True) v0_ r1 ∧ Below w.heap.size w w' := by
 have hu41 := Try.underlying41; have hu49 := Try.underlying49; have HR0 := Aside0.mk hr0; have HC0 := Aside0.mk hc0; clear hr0 hc0
 have HB := Aside0.mk (Below.refl w.heap.size w)
 have H : ((impl_ReadUvarint.f k l0 0).bind fun bt224 => (if bt224.2.2 = true then (impl_DecodeBundle.j0 k l0 bt224.1 bt224.2.1 (decide (bt224.1 > 20))) else (impl_DecodeBundle.j0 k l0 bt224.1 bt224.2.1 true))) = some (r1, r2) := h
 clear h; replace H := Option.bind_eq_some_iff.mp H; obtain ⟨⟨t224, t225, t226⟩, A20, H⟩ := H; (try dsimp only at H); have A2 := Aside0.mk A20; clear A20; have HC3 := Aside0.mk H; clear H
 go_enter Try.func37, Try.ntmps37
 go_upto_region 2 with (first | ((with_reducible refine gate_dst (N := 2) rfl ?_); (try (refine gate_guard (by rfl) ?_; dsimp only)); refine box_event (by rfl) (N := 2) (by rfl) (cs := #[.slice none 0 0]) (t := 41) (by first | (go_simp; done) | (go_simp; rfl)) ?_; intro gb223 hg w4 hbox hb; have n0_ := Aside0.mk (below_step (Cmp.g HB.out) hb); have n1_ := Aside0.mk (hbox); have n2_ := Aside0.mk ((by rw [hg]; exact (below_size (Cmp.g HB.out)) : w.heap.size ≤ gb223)); have n3_ := Aside0.mk ((by rw [hg]; exact (below_size (Cmp.g HB.out)) : w.heap.size ≤ gb223)); clear HB; have HB := n0_; have BK223 := n1_; have GW223 := n2_; have GE223 := n3_; clear n0_ n1_ n2_ n3_; clear hb hbox hg) | ((with_reducible refine gate_callee (f := 77) rfl ?_); refine goesL_ (some 14) rfl rfl Try.func77 (by kernel_rfl) rfl #[.slice A0 l0.length c0, .int .i64 0] rfl Cmp.q ?_; (with_reducible refine (impl_ReadUvarint.calls k _ _ l0 0 t224 t225 t226 _ ?side1 ?side2 A2.out).mono ?_); (case side1 => exact Cmp.rc (Kd.C_below HR0.out HB.out)); (case side2 => exact HC0.out); rintro e w' ⟨rfl, ⟨nd, rfl⟩⟩; refine ⟨_, rfl, ?_⟩))
 (try simp only [Act.put, List.setIfInBounds_toArray, List.set_cons_zero, List.set_cons_succ])
 go_cut [23] (fun v23 wc => ∃ (kq : Nat) (x23_2 : Bool), v23 = .bool x23_2 ∧ Aside0 (impl_DecodeBundle.j0 kq l0 t224 t225 x23_2 = some (r1, r2)) ∧ Aside0 (kq ≤ k) ∧ Aside0 (wc.heap[gb223]? = some (.cells #[(.slice none 0 0)] 41 (0, 0))) ∧ Aside0 (Below w.heap.size w wc))
 case first =>
  have H := HC3.out; clear HC3
  by_cases c5 : t226 = true
  ·subst c5; rw [if_pos rfl] at H
   have H' := Aside0.mk H
   clear H
   go_wp2
   go_meet
   case rel => exact ⟨_, (decide (t224 > 20)), (by first | rfl | simp | simp [*]), H', ⟨by first | omega | exact Nat.le_refl _⟩, ⟨by refine Cmp.b ?_; exact BK223.out⟩, ⟨Cmp.g HB.out⟩⟩
  ·replace c5 := Bool.eq_false_iff.mpr c5
   subst c5
   have H1 : (impl_DecodeBundle.j0 k l0 t224 t225 true) = some (r1, r2) := by rw [if_neg (show ¬ (false = true) by decide)] at H; exact H
   clear H; have H := H1; clear H1
   have H' := Aside0.mk H
   clear H
   go_wp2
   go_meet
   case rel => exact ⟨_, (true), (by first | rfl | simp | simp [*]), H', ⟨by first | omega | exact Nat.le_refl _⟩, ⟨by refine Cmp.b ?_; exact BK223.out⟩, ⟨Cmp.g HB.out⟩⟩
 case rest =>
  clear HC3; (try clear p2); (try clear c3); (try clear c5)
  obtain ⟨kq, x23_2, rfl, HA, HJ2, BK223, HB⟩ := hcut
  cases kq with
  | zero => exact absurd HA.out (by simp [impl_DecodeBundle.j0])
  | succ kj2 =>
   have H := HA.out; clear HA
   simp only [impl_DecodeBundle.j0] at H
   by_cases c6 : x23_2 = true
   ·subst c6; rw [if_pos rfl] at H
    simp only [Option.some.injEq, Prod.mk.injEq] at H
    obtain ⟨rfl, rfl⟩ := H
    have hcz7_0 : wc.cell? ⟨gb223, 0, none⟩ = some (.slice none 0 0) := (blk_cell BK223.out 0).trans rfl
    have hfz7_0 := blk_frozen BK223.out 0
    go_wp2
    refine bodyPost_ret (results_ct rfl _ _ gb223 41 #[.slice none 0 0] (0, 0) _ rfl (by refine Cmp.b ?_; refine blk_put (cs := #[.slice none 0 0]) ?_ 0 _ rfl; refine Cmp.b ?_; exact BK223.out) Try.underlying41 rfl (by kernel_rfl)) rfl ?_
    exact ⟨_, by first | rfl | (simp [errW_none, errW_some] <;> rfl) | (simp [*, errW_none, errW_some] <;> rfl), by first | exact Kd.R_nil _ _ _ _ _ | exact Kd.N_nil _ _ _ _ _ | exact Kd.V_nil _ _ _ _ _ | exact Kd.Q_nil _ _ _ _ _ | exact Kd.S_nil _ _ _ _ _, Cmp.g HB.out⟩
   ·replace c6 := Bool.eq_false_iff.mpr c6
    subst c6
    have H1 : ((impl_DecodeInts.f kj2 l0 t225 (wrap64 (4 * t224))).bind fun bt227 => (if bt227.2.2 = true then (impl_DecodeBundle.j1 kj2 t224 bt227.1 (bt227.2.1 != (l0.length : Int))) else (impl_DecodeBundle.j1 kj2 t224 bt227.1 true))) = some (r1, r2) := by rw [if_neg (show ¬ (false = true) by decide)] at H; exact H
    clear H; have H := H1; clear H1; replace H := Option.bind_eq_some_iff.mp H; obtain ⟨⟨t227, t228, t229⟩, A80, H⟩ := H; (try dsimp only at H); have A8 := Aside0.mk A80; clear A80; have HC9 := Aside0.mk H; clear H
    go_upto_region 5 with (first | ((with_reducible refine gate_callee (f := 78) rfl ?_); refine goesL_ (some 30) rfl rfl Try.func78 (by kernel_rfl) rfl #[.slice A0 l0.length c0, .int .i64 t225, .int .i64 (wrap64 (4 * t224))] rfl Cmp.q ?_; (with_reducible refine (impl_DecodeInts.calls kj2 _ _ l0 t225 (wrap64 (4 * t224)) t227 t228 t229 _ ?side1 ?side2 A8.out).mono ?_); (case side1 => exact Cmp.rc (Kd.C_below HR0.out HB.out)); (case side2 => exact HC0.out); rintro e w10 ⟨v230, rfl, ho0, hb⟩; refine ⟨_, rfl, ?_⟩; have n0_ := Aside0.mk (Kd.R_lower ho0 (below_size (Cmp.g HB.out))); have n1_ := Aside0.mk (blk_below (Cmp.b BK223.out) hb); have n2_ := Aside0.mk (below_step (Cmp.g HB.out) hb); clear BK223; clear HB; have HO231 := n0_; have BK223 := n1_; have HB := n2_; clear n0_ n1_ n2_; (try clear hb); (try clear hb2); (try clear hk); (try clear hi); (try clear ho0)))
    (try simp only [Act.put, List.setIfInBounds_toArray, List.set_cons_zero, List.set_cons_succ])
    go_cut [41] (fun v41 wc => ∃ (kq : Nat) (x41_8 : Bool), v41 = .bool x41_8 ∧ Aside0 (impl_DecodeBundle.j1 kq t224 t227 x41_8 = some (r1, r2)) ∧ Aside0 (kq ≤ kj2) ∧ Aside0 (Kd.R (Kd.int .i64) 3 wc w.heap.size (fun _ => True) v230 t227) ∧ Aside0 (wc.heap[gb223]? = some (.cells #[(.slice none 0 0)] 41 (0, 0))) ∧ Aside0 (Below w.heap.size w wc))
    case first =>
     have H := HC9.out; clear HC9
     by_cases c11 : t229 = true
     ·subst c11; rw [if_pos rfl] at H
      have H' := Aside0.mk H
      clear H
      go_wp2
      go_meet
      case rel => exact ⟨_, ((t228 != (l0.length : Int))), (by first | rfl | simp | simp [*]), H', ⟨by have := HJ2.out; first | omega | exact Nat.le_refl _⟩, ⟨by refine Cmp.rr ?_; exact HO231.out⟩, ⟨by refine Cmp.b ?_; exact BK223.out⟩, ⟨Cmp.g HB.out⟩⟩
     ·replace c11 := Bool.eq_false_iff.mpr c11
      subst c11
      have H1 : (impl_DecodeBundle.j1 kj2 t224 t227 true) = some (r1, r2) := by rw [if_neg (show ¬ (false = true) by decide)] at H; exact H
      clear H; have H := H1; clear H1
      have H' := Aside0.mk H
      clear H
      go_wp2
      go_meet
      case rel => exact ⟨_, (true), (by first | rfl | simp | simp [*]), H', ⟨by have := HJ2.out; first | omega | exact Nat.le_refl _⟩, ⟨by refine Cmp.rr ?_; exact HO231.out⟩, ⟨by refine Cmp.b ?_; exact BK223.out⟩, ⟨Cmp.g HB.out⟩⟩
    case rest =>
     clear HC9; (try clear c1); (try clear p2); (try clear c3); (try clear c5); (try clear c6); (try clear p6); (try clear c7); (try clear c11); (try clear hcz7_0); (try clear hfz7_0); (try clear p2)
     obtain ⟨kq, x41_8, rfl, HA, HJ8, HO_7, BK223, HB⟩ := hcut
     cases kq with
     | zero => exact absurd HA.out (by simp [impl_DecodeBundle.j1])
     | succ kj8 =>
      have H := HA.out; clear HA
      simp only [impl_DecodeBundle.j1] at H
      by_cases c12 : x41_8 = true
      ·subst c12; rw [if_pos rfl] at H
       simp only [Option.some.injEq, Prod.mk.injEq] at H
       obtain ⟨rfl, rfl⟩ := H
       have hcz13_0 : wc.cell? ⟨gb223, 0, none⟩ = some (.slice none 0 0) := (blk_cell BK223.out 0).trans rfl
       have hfz13_0 := blk_frozen BK223.out 0
       go_wp2
       refine bodyPost_ret (results_ct rfl _ _ gb223 41 #[.slice none 0 0] (0, 0) _ rfl (by refine Cmp.b ?_; refine blk_put (cs := #[.slice none 0 0]) ?_ 0 _ rfl; refine Cmp.b ?_; exact BK223.out) Try.underlying41 rfl (by kernel_rfl)) rfl ?_
       exact ⟨_, by first | rfl | (simp [errW_none, errW_some] <;> rfl) | (simp [*, errW_none, errW_some] <;> rfl), by first | exact Kd.R_nil _ _ _ _ _ | exact Kd.N_nil _ _ _ _ _ | exact Kd.V_nil _ _ _ _ _ | exact Kd.Q_nil _ _ _ _ _ | exact Kd.S_nil _ _ _ _ _, Cmp.g HB.out⟩
      ·replace c12 := Bool.eq_false_iff.mpr c12
       subst c12
       have H1 : (impl_DecodeBundle.l0 kj8 t224 t227 0 ([] : List (S49))) = some (r1, r2) := by rw [if_neg (show ¬ (false = true) by decide)] at H; exact H
       clear H; have H := H1; clear H1
       have H' := Aside0.mk H
       clear H
       go_wp2_with (first | ((with_reducible refine gate_dst (N := 9) rfl ?_); (try (refine gate_guard (by rfl) ?_; dsimp only)); refine box_event (by rfl) (N := 9) (by rfl) (cs := #[.slice none 0 0]) (t := 41) (by first | (go_simp; done) | (go_simp; rfl)) ?_; intro gb232 hg w14 hbox hb; have n0_ := Aside0.mk (Kd.R_below (Cmp.rr HO_7.out) hb); have n1_ := Aside0.mk (blk_below (Cmp.b BK223.out) hb); have n2_ := Aside0.mk (below_step (Cmp.g HB.out) hb); have n3_ := Aside0.mk (hbox); have n4_ := Aside0.mk ((by rw [hg]; exact (below_size (Cmp.g HB.out)) : w.heap.size ≤ gb232)); have n5_ := Aside0.mk ((by rw [hg]; exact (below_size (Cmp.g HB.out)) : w.heap.size ≤ gb232)); have n6_ := Aside0.mk ((by rw [hg]; exact Nat.ne_of_lt (blk_lt (Cmp.b BK223.out)) : gb223 ≠ gb232)); have n7_ := Aside0.mk ((by rw [hg]; exact Nat.ne_of_gt (blk_lt (Cmp.b BK223.out)) : gb232 ≠ gb223)); clear HO_7; clear BK223; clear HB; have HO_7 := n0_; have BK223 := n1_; have HB := n2_; have BK232 := n3_; have GW232 := n4_; have GE232 := n5_; have NB223_232 := n6_; have NB232_223 := n7_; clear n0_ n1_ n2_ n3_ n4_ n5_ n6_ n7_; clear hb hbox hg; have hnb15 := NB232_223.out; have hnc15 := NB223_232.out; have hcz16_0 : w14.cell? ⟨gb232, 0, none⟩ = some (.slice none 0 0) := (blk_cell BK232.out 0).trans rfl; have hfz16_0 := blk_frozen BK232.out 0))
       go_loopg [10] kj8 (fun kq v10 w' => ∃ (x10_3 : Int) (x233000_3 : List (S49)) (u233000 : Value), v10 = .int .i64 x10_3 ∧ Aside0 (impl_DecodeBundle.l0 kq t224 t227 x10_3 x233000_3 = some (r1, r2)) ∧ Aside0 (kq ≤ kj8) ∧ Aside0 (Kd.R (Kd.int .i64) 3 w' w.heap.size (fun _ => True) v230 t227) ∧ Aside0 (Kd.R k49 49 w' w.heap.size (fun _ => True) u233000 x233000_3) ∧ Aside0 (w'.heap[gb223]? = some (.cells #[(.slice none 0 0)] 41 (0, 0))) ∧ Aside0 (w'.heap[gb232]? = some (.cells #[u233000] 41 (0, 0))) ∧ Aside0 (Below w.heap.size w w'))
       case atStart => exact ⟨(0), (([] : List (S49))), (.slice none 0 0), (by first | rfl | simp | simp [*]), H', ⟨Nat.le_refl _⟩, ⟨by refine Cmp.rr ?_; exact Kd.R_mono (Kd.R_far (p := ⟨gb232, 0, none⟩) (Kd.R_types HO_7.out BK232.out (by decide)) (fun _ hk => hk.2) (.slice none 0 0)) (fun _ hk => trivial)⟩, ⟨by first | exact Kd.R_nil _ _ _ _ _ | exact Kd.N_nil _ _ _ _ _ | exact Kd.V_nil _ _ _ _ _ | exact Kd.Q_nil _ _ _ _ _ | exact Kd.S_nil _ _ _ _ _⟩, ⟨by refine Cmp.b ?_; refine blk_far ?_ NB223_232.out _; refine Cmp.b ?_; exact BK223.out⟩, ⟨by refine Cmp.b ?_; refine blk_put (cs := #[.slice none 0 0]) ?_ 0 _ rfl; refine Cmp.b ?_; exact BK232.out⟩, ⟨Cmp.g HB.out⟩⟩
       case round =>
        clear H'
        (try clear c1); (try clear p2); (try clear c3); (try clear c5); (try clear c6); (try clear p6); (try clear c7); (try clear c11); (try clear c12); (try clear c15); (try clear hcz13_0); (try clear hcz16_0); (try clear hcz7_0); (try clear hfz13_0); (try clear hfz16_0); (try clear hfz7_0); (try clear p2); (try clear p6)
        obtain ⟨x10_3, x233000_3, u233000, rfl, HA, HK3, HO_7, HO_233000, BK223, BK232, HB⟩ := hrel
        cases gk with
        | zero => exact absurd HA.out (by simp [impl_DecodeBundle.l0])
        | succ k3 =>
         have H := HA.out; clear HA
         simp only [impl_DecodeBundle.l0] at H
         by_cases c17 : x10_3 < t224
         ·rw [if_pos c17] at H; have c17b0 : decide (x10_3 < t224) = true := decide_eq_true c17; clear c17
          obtain ⟨ji18, hji18⟩ : ∃ j_ : Int, (wrap64 (4 * x10_3)) = j_ := ⟨_, rfl⟩
          replace H : (if 0 ≤ (ji18) then (if (ji18) ≤ (t227.length : Int) then ((some (t227.drop ((ji18) : Int).toNat : List Int)).bind fun y233 => (if 3 < (y233.length : Int) then (if (rd y233 3) > 1 then (some (([] : List (S49)), false)) else (if 0 < (y233.length : Int) then (if 1 < (y233.length : Int) then (if 2 < (y233.length : Int) then (if x233000_3.length < 4398046511104 then (impl_DecodeBundle.l0 k3 t224 t227 (wrap64 (x10_3 + 1)) (x233000_3 ++ [(⟨rd y233 0, rd y233 1, rd y233 2, ((rd y233 3) == 1)⟩ : S49)])) else (none)) else (none)) else (none)) else (none))) else (none))) else (none)) else (none)) = some (r1, r2) := by first | (rw [hji18] at H; exact H) | (simp only [hji18] at H ⊢; exact H)
          have hji18w : (IntKind.i64.wrap (4 * x10_3)) = ji18 := (i64_w _).trans hji18
          by_cases c19 : 0 ≤ (ji18)
          ·rw [if_pos c19] at H
           have c19b0 := eq_true c19
           have c19b1 : decide (0 ≤ (ji18)) = true := decide_eq_true c19; clear c19
           by_cases c20 : (ji18) ≤ (t227.length : Int)
           ·rw [if_pos c20] at H
            have c20b0 := eq_true c20
            have c20b1 : decide ((ji18) ≤ (t227.length : Int)) = true := decide_eq_true c20
            clear c20
            obtain ⟨y233, hy233⟩ : ∃ y_ : List Int, y_ = (t227.drop ((ji18) : Int).toNat) := ⟨_, rfl⟩
            replace H : (if 3 < (y233.length : Int) then (if (rd y233 3) > 1 then (some (([] : List (S49)), false)) else (if 0 < (y233.length : Int) then (if 1 < (y233.length : Int) then (if 2 < (y233.length : Int) then (if x233000_3.length < 4398046511104 then (impl_DecodeBundle.l0 k3 t224 t227 (wrap64 (x10_3 + 1)) (x233000_3 ++ [(⟨rd y233 0, rd y233 1, rd y233 2, ((rd y233 3) == 1)⟩ : S49)])) else (none)) else (none)) else (none)) else (none))) else (none)) = some (r1, r2) := by first | (rw [hy233]; with_reducible exact H) | (have H2_ := (Option.bind_some _ _).symm.trans H; rw [hy233]; with_reducible exact H2_) | (have H2_ := (Option.bind_some _ _).symm.trans H; with_reducible exact H2_) | with_reducible exact H | (rw [hy233]; exact H) | exact H
            have Ny233 := Aside0.mk hy233; clear hy233
            by_cases c21 : 3 < (y233.length : Int)
            ·rw [if_pos c21] at H
             have c21b0 : decide (3 < (y233.length : Int)) = true := decide_eq_true c21
             have c21b1 : decide (3 < y233.length) = true := decide_eq_true (by omega)
             clear c21
             by_cases c22 : (rd y233 3) > 1
             ·rw [if_pos c22] at H; have c22b0 : decide (1 < (rd y233 3)) = true := decide_eq_true c22; clear c22
              simp only [Option.some.injEq, Prod.mk.injEq] at H
              obtain ⟨rfl, rfl⟩ := H
              obtain ⟨Ao24, co24, eo24⟩ := Kd.R_slice HO_7.out
              subst eo24
              have q23 : ((ji18) : Int) ≤ ((t227.length : Int) : Int) := of_decide_eq_true Cmp.d
              obtain ⟨i023, hi023, _, hsz23, _⟩ := info_parts info3
              have hroom23 : t227.length ≤ co24 := (Kd.R_reads' HO_7.out).2.1
              have hC23 : Kd.C (Kd.int .i64) _ Ao24 t227.length t227 := (Kd.R_reads' HO_7.out).2.2
              have q023 : (0 : Int) ≤ ((ji18) : Int) := of_decide_eq_true Cmp.d
              have hcut23 := cut_from (P := Try.prog) 56 3 .i64 Try.underlying56 hi023 1 hsz23 Ao24 t227.length co24 (ji18) q023 q23
              have hr23 := Kd.C_drop (m := ((ji18) : Int).toNat) (c := co24) hC23 (by omega) hroom23
              obtain ⟨A23, hA23⟩ : ∃ A1, A1 = (if co24 = ((ji18) : Int).toNat then Ao24 else (Ao24 : Option Addr).map (·.add (((ji18) : Int).toNat * 1))) := ⟨_, rfl⟩
              obtain ⟨c23, hc23⟩ : ∃ c1, c1 = co24 - ((ji18) : Int).toNat := ⟨_, rfl⟩
              have hy23 : y233.length = t227.length - ((ji18) : Int).toNat := (by rw [Ny233.out, List.length_drop] <;> omega)
              rw [show (t227).drop ((ji18) : Int).toNat = y233 from Ny233.out.symm] at hr23
              replace hr23 : Kd.C (Kd.int .i64) _ A23 y233.length y233 := (by rw [hA23]; exact hr23)
              rw [← hy23, ← hA23, ← hc23] at hcut23
              have HR236 := Aside0.mk hr23
              have HC236 := Aside0.mk (show y233.length ≤ c23 from by rw [hy23, hc23]; exact Nat.sub_le_sub_right hroom23 _)
              clear hr23 hC23 hroom23 hi023 hsz23 hc23; have KY23 := Aside0.mk hy23; have KA23 := Aside0.mk hA23; clear hy23 hA23
              have KL23 := Aside0.mk (show ((ji18) : Int).toNat ≤ t227.length from by omega)
              replace q23 := eq_true q23
              have p237 : 0 ≤ (3 : Int) := (by omega)
              have q237 : 3 < (y233.length : Int) := of_decide_eq_true Cmp.d
              obtain ⟨ad237, e237, hx237_0⟩ := Kd.at_int (by repeat (first | (with_reducible exact HR236.out) | (with_reducible refine Kd.C_alloc ?_ _) | (with_reducible refine Kd.C_drewN ?_ _) | (with_reducible refine Kd.C_drew ?_) | exact HR236.out)) 3 p237 q237
              cases e237
              (try simp only [show (3 : Int).toNat = 3 from rfl, Nat.reduceMul, Nat.reduceEqDiff, Go.Addr.add, ↓reduceIte] at hx237_0)
              have qi237 : (3 < y233.length) = True := eq_true (by omega)
              (try rw [show ((3 : Int)).toNat = 3 from rfl] at hx237_0)
              replace p237 := eq_true p237; replace q237 := eq_true q237; have hnb25 := NB223_232.out; have hnc25 := NB232_223.out
              have hcz26_0 : wr.cell? ⟨gb223, 0, none⟩ = some (.slice none 0 0) := (blk_cell BK223.out 0).trans rfl
              have hfz26_0 := blk_frozen BK223.out 0
              go_wp2
              refine bodyPost_ret (results_ct rfl _ _ gb223 41 #[.slice none 0 0] (0, 0) _ rfl (by refine Cmp.b ?_; refine blk_put (cs := #[.slice none 0 0]) ?_ 0 _ rfl; refine Cmp.b ?_; exact BK223.out) Try.underlying41 rfl (by kernel_rfl)) rfl ?_
              exact ⟨_, by first | rfl | (simp [errW_none, errW_some] <;> rfl) | (simp only [← hji18]; first | rfl | (simp [errW_none, errW_some] <;> rfl)) | (simp [*, errW_none, errW_some] <;> rfl), by first | exact Kd.R_nil _ _ _ _ _ | exact Kd.N_nil _ _ _ _ _ | exact Kd.V_nil _ _ _ _ _ | exact Kd.Q_nil _ _ _ _ _ | exact Kd.S_nil _ _ _ _ _, Cmp.g HB.out⟩
             ·rw [if_neg c22] at H; have c22b0 : decide (1 < (rd y233 3)) = false := decide_eq_false c22; clear c22
              by_cases c27 : 0 < (y233.length : Int)
              ·rw [if_pos c27] at H
               have c27b0 : decide (0 < (y233.length : Int)) = true := decide_eq_true c27
               have c27b1 : decide (0 < y233.length) = true := decide_eq_true (by omega)
               clear c27
               by_cases c28 : 1 < (y233.length : Int)
               ·rw [if_pos c28] at H
                have c28b0 : decide (1 < (y233.length : Int)) = true := decide_eq_true c28
                have c28b1 : decide (1 < y233.length) = true := decide_eq_true (by omega)
                clear c28
                by_cases c29 : 2 < (y233.length : Int)
                ·rw [if_pos c29] at H
                 have c29b0 : decide (2 < (y233.length : Int)) = true := decide_eq_true c29
                 have c29b1 : decide (2 < y233.length) = true := decide_eq_true (by omega)
                 clear c29
                 by_cases c30 : x233000_3.length < 4398046511104
                 ·rw [if_pos c30] at H; have LMc30 := Aside0.mk c30; clear c30
                  obtain ⟨y242, hy242⟩ : ∃ y_ : List (S49), y_ = (x233000_3 ++ [(⟨rd y233 0, rd y233 1, rd y233 2, ((rd y233 3) == 1)⟩ : S49)]) := ⟨_, rfl⟩
                  replace H : (impl_DecodeBundle.l0 k3 t224 t227 (wrap64 (x10_3 + 1)) y242) = some (r1, r2) := by first | (rw [hy242]; with_reducible exact H) | (have H2_ := (Option.bind_some _ _).symm.trans H; rw [hy242]; with_reducible exact H2_) | (have H2_ := (Option.bind_some _ _).symm.trans H; with_reducible exact H2_) | with_reducible exact H | (rw [hy242]; exact H) | exact H
                  have Ny242 := Aside0.mk hy242; clear hy242
                  have H' := Aside0.mk H
                  clear H
                  obtain ⟨Ao32, co32, eo32⟩ := Kd.R_slice HO_7.out
                  subst eo32
                  have q31 : ((ji18) : Int) ≤ ((t227.length : Int) : Int) := of_decide_eq_true Cmp.d
                  obtain ⟨i031, hi031, _, hsz31, _⟩ := info_parts info3
                  have hroom31 : t227.length ≤ co32 := (Kd.R_reads' HO_7.out).2.1
                  have hC31 : Kd.C (Kd.int .i64) _ Ao32 t227.length t227 := (Kd.R_reads' HO_7.out).2.2
                  have q031 : (0 : Int) ≤ ((ji18) : Int) := of_decide_eq_true Cmp.d
                  have hcut31 := cut_from (P := Try.prog) 56 3 .i64 Try.underlying56 hi031 1 hsz31 Ao32 t227.length co32 (ji18) q031 q31
                  have hr31 := Kd.C_drop (m := ((ji18) : Int).toNat) (c := co32) hC31 (by omega) hroom31
                  obtain ⟨A31, hA31⟩ : ∃ A1, A1 = (if co32 = ((ji18) : Int).toNat then Ao32 else (Ao32 : Option Addr).map (·.add (((ji18) : Int).toNat * 1))) := ⟨_, rfl⟩
                  obtain ⟨c31, hc31⟩ : ∃ c1, c1 = co32 - ((ji18) : Int).toNat := ⟨_, rfl⟩
                  have hy31 : y233.length = t227.length - ((ji18) : Int).toNat := (by rw [Ny233.out, List.length_drop] <;> omega)
                  rw [show (t227).drop ((ji18) : Int).toNat = y233 from Ny233.out.symm] at hr31
                  replace hr31 : Kd.C (Kd.int .i64) _ A31 y233.length y233 := (by rw [hA31]; exact hr31)
                  rw [← hy31, ← hA31, ← hc31] at hcut31
                  have HR236 := Aside0.mk hr31
                  have HC236 := Aside0.mk (show y233.length ≤ c31 from by rw [hy31, hc31]; exact Nat.sub_le_sub_right hroom31 _)
                  clear hr31 hC31 hroom31 hi031 hsz31 hc31; have KY31 := Aside0.mk hy31; have KA31 := Aside0.mk hA31; clear hy31 hA31
                  have KL31 := Aside0.mk (show ((ji18) : Int).toNat ≤ t227.length from by omega)
                  replace q31 := eq_true q31
                  have p237 : 0 ≤ (3 : Int) := (by omega)
                  have q237 : 3 < (y233.length : Int) := of_decide_eq_true Cmp.d
                  obtain ⟨ad237, e237, hx237_0⟩ := Kd.at_int (by repeat (first | (with_reducible exact HR236.out) | (with_reducible refine Kd.C_alloc ?_ _) | (with_reducible refine Kd.C_drewN ?_ _) | (with_reducible refine Kd.C_drew ?_) | exact HR236.out)) 3 p237 q237
                  cases e237
                  (try simp only [show (3 : Int).toNat = 3 from rfl, Nat.reduceMul, Nat.reduceEqDiff, Go.Addr.add, ↓reduceIte] at hx237_0)
                  have qi237 : (3 < y233.length) = True := eq_true (by omega)
                  (try rw [show ((3 : Int)).toNat = 3 from rfl] at hx237_0)
                  replace p237 := eq_true p237; replace q237 := eq_true q237
                  try go_wp2
                  have n0_ := Aside0.mk (Kd.R_drew HO_7.out); have n1_ := Aside0.mk (Kd.R_drew HO_233000.out); have n2_ := Aside0.mk (blk_drew BK223.out); have n3_ := Aside0.mk (blk_drew BK232.out); have n4_ := Aside0.mk (Kd.C_drew HR236.out); have n5_ := Aside0.mk (below_drew1 HB.out); clear HO_7; clear HO_233000; clear BK223; clear BK232; clear HR236; clear HB; have HO_7 := n0_; have HO_233000 := n1_; have BK223 := n2_; have BK232 := n3_; have HR236 := n4_; have HB := n5_; clear n0_ n1_ n2_ n3_ n4_ n5_
                  have p238 : 0 ≤ (0 : Int) := (by omega)
                  have q238 : 0 < (y233.length : Int) := of_decide_eq_true Cmp.d
                  obtain ⟨ad238, e238, hx238_0⟩ := Kd.at_int (by repeat (first | (with_reducible exact HR236.out) | (with_reducible refine Kd.C_alloc ?_ _) | (with_reducible refine Kd.C_drewN ?_ _) | (with_reducible refine Kd.C_drew ?_) | exact HR236.out)) 0 p238 q238
                  obtain rfl : ad237 = ad238 := (by injection e238)
                  have qi238 : (0 < y233.length) = True := eq_true (by omega)
                  (try rw [show ((0 : Int)).toNat = 0 from rfl] at hx238_0)
                  (try rw [Addr.add_zero'] at hx238_0)
                  replace p238 := eq_true p238; replace q238 := eq_true q238
                  have p239 : 0 ≤ (1 : Int) := (by omega)
                  have q239 : 1 < (y233.length : Int) := of_decide_eq_true Cmp.d
                  obtain ⟨ad239, e239, hx239_0⟩ := Kd.at_int (by repeat (first | (with_reducible exact HR236.out) | (with_reducible refine Kd.C_alloc ?_ _) | (with_reducible refine Kd.C_drewN ?_ _) | (with_reducible refine Kd.C_drew ?_) | exact HR236.out)) 1 p239 q239
                  obtain rfl : ad237 = ad239 := (by injection e239)
                  (try simp only [show (1 : Int).toNat = 1 from rfl, Nat.reduceMul, Nat.reduceEqDiff, Go.Addr.add, ↓reduceIte] at hx239_0)
                  have qi239 : (1 < y233.length) = True := eq_true (by omega)
                  (try rw [show ((1 : Int)).toNat = 1 from rfl] at hx239_0)
                  replace p239 := eq_true p239; replace q239 := eq_true q239
                  have p240 : 0 ≤ (2 : Int) := (by omega)
                  have q240 : 2 < (y233.length : Int) := of_decide_eq_true Cmp.d
                  obtain ⟨ad240, e240, hx240_0⟩ := Kd.at_int (by repeat (first | (with_reducible exact HR236.out) | (with_reducible refine Kd.C_alloc ?_ _) | (with_reducible refine Kd.C_drewN ?_ _) | (with_reducible refine Kd.C_drew ?_) | exact HR236.out)) 2 p240 q240
                  obtain rfl : ad237 = ad240 := (by injection e240)
                  (try simp only [show (2 : Int).toNat = 2 from rfl, Nat.reduceMul, Nat.reduceEqDiff, Go.Addr.add, ↓reduceIte] at hx240_0)
                  have qi240 : (2 < y233.length) = True := eq_true (by omega)
                  (try rw [show ((2 : Int)).toNat = 2 from rfl] at hx240_0)
                  replace p240 := eq_true p240; replace q240 := eq_true q240
                  have p241 : 0 ≤ (3 : Int) := (by omega)
                  have q241 : 3 < (y233.length : Int) := of_decide_eq_true Cmp.d
                  obtain ⟨ad241, e241, hx241_0⟩ := Kd.at_int (by repeat (first | (with_reducible exact HR236.out) | (with_reducible refine Kd.C_alloc ?_ _) | (with_reducible refine Kd.C_drewN ?_ _) | (with_reducible refine Kd.C_drew ?_) | exact HR236.out)) 3 p241 q241
                  obtain rfl : ad237 = ad241 := (by injection e241)
                  (try simp only [show (3 : Int).toNat = 3 from rfl, Nat.reduceMul, Nat.reduceEqDiff, Go.Addr.add, ↓reduceIte] at hx241_0)
                  have qi241 : (3 < y233.length) = True := eq_true (by omega)
                  (try rw [show ((3 : Int)).toNat = 3 from rfl] at hx241_0)
                  replace p241 := eq_true p241; replace q241 := eq_true q241
                  refine start_ (n := 20) (S := fun w' => w'.cell? ⟨gb232, 0, none⟩ = some (u233000) ∧ w'.cell? ad237 = some (.int .i64 (rd y233 0)) ∧ w'.cell? ⟨ad237.block, ad237.off + 1, none⟩ = some (.int .i64 (rd y233 1)) ∧ w'.cell? ⟨ad237.block, ad237.off + 2, none⟩ = some (.int .i64 (rd y233 2)) ∧ w'.cell? ⟨ad237.block, ad237.off + 3, none⟩ = some (.int .i64 (rd y233 3))) (ds := [17, 19]) (Cmp.bm 0 20) (by kernel_rfl) rfl rfl ⟨(blk_cell BK232.out 0).trans rfl, hx238_0, hx239_0, hx240_0, hx241_0⟩ (fun hHeld => ?_); refine with_tabW impl_DecodeBundle.tab14 impl_DecodeBundle.bits14 (fun HT_ HW_ => ?_)
                  generalize wr.drew = w33 at HO_7 HO_233000 BK223 BK232 HR236 HB hx238_0 hx239_0 hx240_0 hx241_0 hHeld ⊢
                  refine Cmp.pu HT_ 0 58 (Cmp.bm 1 19) ?_; refine Cmp.pu HT_ 2 60 (Cmp.bb 20 5) ?_; refine Cmp.pu HT_ 3 61 (Cmp.bb 20 13) ?_; refine Cmp.pu HT_ 5 63 (Cmp.bb 20 45) ?_; refine Cmp.pu HT_ 6 64 (Cmp.bb 20 109) ?_; refine Cmp.pu HT_ 8 66 (Cmp.bb 20 365) ?_; refine Cmp.pu HT_ 9 67 (Cmp.bb 20 877) ?_; refine Cmp.pu HT_ 11 69 (Cmp.bb 20 2925) ?_; refine Cmp.pu HT_ 12 70 (Cmp.bb 20 7021) ?_; refine Cmp.tk HT_ HW_ hHeld 1 59 (Cmp.bb 20 7023) ?_; refine Cmp.tk HT_ HW_ hHeld 4 62 (Cmp.bb 20 7039) ?_; refine Cmp.tk HT_ HW_ hHeld 7 65 (Cmp.bb 20 7167) ?_; refine Cmp.tk HT_ HW_ hHeld 10 68 (Cmp.bm 13 7) ?_; refine Cmp.tk HT_ HW_ hHeld 13 71 (Cmp.bm 14 6) ?_; refine Cmp.pu HT_ 14 72 (Cmp.bm 15 5) ?_; refine Cmp.pu HT_ 15 73 (Cmp.bm 16 4) ?_
                  refine one_ (i := 16) (N := some 74) (Cmp.bm 17 3) rfl rfl (one_of HT_.out (by kernel_rfl)) (by decide) (fun K hK => ?_)
                  refine value_ (w1 := ?_) (v := ?_) (by rfl) rfl ?_ ?_
                  rotate_left 2
                  ·go_simp
                   constructor
                   ·rfl
                   ·rfl
                  refine hK.out _ _ ⟨(blk_cell (blk_alloc BK232.out _) 0).trans rfl, (World.cell?_alloc_lt _ _ _ (World.block_lt_of_cell? _ _ (hHeld.2.1))).trans (hHeld.2.1), (World.cell?_alloc_lt _ _ _ (World.block_lt_of_cell? _ _ (hHeld.2.2.1))).trans (hHeld.2.2.1), (World.cell?_alloc_lt _ _ _ (World.block_lt_of_cell? _ _ (hHeld.2.2.2.1))).trans (hHeld.2.2.2.1), (World.cell?_alloc_lt _ _ _ (World.block_lt_of_cell? _ _ (hHeld.2.2.2.2))).trans (hHeld.2.2.2.2)⟩ (fun hHeld => ?_)
                  clear hK K
                  refine norm_ (a' := ?_) ?_ ?_
                  rotate_left
                  ·show Act.put _ (some 74) _ = _
                   simp only [Act.put, Cmp.s, Cmp.z, Cmp.c, i64_w, i32_w]; rfl
                  refine last_ (i := 17) (N := some 75) (Cmp.bm 18 2) rfl rfl (one_of HT_.out (by kernel_rfl)) (by decide) (fun K hK => ?_)
                  refine Kd.R_append_step k49 (w0 := w) w.heap.size (by rfl) (.tmp 59) (.tmp 74) 39 49 (.agg #[(.int .i64 0), (.int .i64 0), (.int .i64 0), (.bool false)]) 32 rfl Try.underlying39 info49 rfl (by decide) (by omega) u233000 x233000_3 (⟨rd y233 0, rd y233 1, rd y233 2, ((rd y233 3) == 1)⟩ : S49) [.int .i64 (rd y233 0), .int .i64 (rd y233 1), .int .i64 (rd y233 2), .bool ((rd y233 3) == 1)] (fun _ => True) (fun _ => False) rfl rfl ?aP (fun _ hk => hk.elim) ?aF ?aO ?aB ?aS ?aL ?_
                  (case aP => exact k49_mkM _ _ _ (⟨rd y233 0, rd y233 1, rd y233 2, ((rd y233 3) == 1)⟩ : S49))
                  (case aB => exact (Cmp.g HB.out))
                  (case aF => exact (fun _ _ => trivial))
                  (case aO => exact (Cmp.rr HO_233000.out))
                  (case aS => exact (below_size (Cmp.g HB.out)))
                  (case aL => have := LMc30.out; omega)
                  intro v243 w34 ho hb hg hat
                  rw [← Ny242.out] at ho
                  have n0_ := Aside0.mk (Kd.R_over' (Cmp.rr HO_7.out) (Kd.R_typed (Cmp.rr HO_233000.out)) (by decide) hg)
                  have n1_ := Aside0.mk (blk_grown (g := gb223) (o := .cells #[.slice none 0 0] 41 (0, 0)) (Cmp.b BK223.out) hg (Kd.R_ne HO_233000.out BK223.out (by decide)))
                  have n2_ := Aside0.mk (blk_grown (g := gb232) (o := .cells #[u233000] 41 (0, 0)) (Cmp.b BK232.out) hg (Kd.R_ne HO_233000.out BK232.out (by decide)))
                  have n3_ := Aside0.mk (hb)
                  have n4_ := Aside0.mk ((show Kd.C (Kd.int .i64) w34 (some ad237) y233.length y233 from by rw [Ny233.out, KA31.out]; exact Kd.C_drop (m := ((ji18) : Int).toNat) (c := co32) ((Kd.R_reads' (Kd.R_over' (Cmp.rr HO_7.out) (Kd.R_typed (Cmp.rr HO_233000.out)) (by decide) hg)).2.2) KL31.out ((Kd.R_reads' (Kd.R_over' (Cmp.rr HO_7.out) (Kd.R_typed (Cmp.rr HO_233000.out)) (by decide) hg)).2.1)))
                  have n5_ := Aside0.mk (ho)
                  clear HO_7; clear BK223; clear BK232; clear HB; clear HR236; clear HO_233000; have HO_7 := n0_; have BK223 := n1_; have BK232 := n2_; have HB := n3_; have HR236 := n4_; have HO244 := n5_; clear n0_ n1_ n2_ n3_ n4_ n5_; clear ho hb hg hat
                  obtain ⟨Ao35, co35, eo35⟩ := Kd.R_slice HO244.out
                  (first | subst eo35 | (injection eo35 with f1_ f2_ f3_; have f4_ := f1_.symm; have f5_ := f3_.symm; clear f1_ f2_ f3_; subst f4_; subst f5_))
                  refine hK.out _ _ ?_
                  clear hK K
                  refine norm_ (a' := ?_) ?_ ?_
                  rotate_left
                  ·show Act.put _ (some 75) _ = _
                   simp only [Act.put, Cmp.s, Cmp.z, Cmp.c, i64_w, i32_w]; rfl
                  refine Cmp.pu HT_ 18 76 (Cmp.bm 19 1) ?_
                  refine last_ (i := 19) (N := none) (Cmp.bm 20 0) rfl rfl (one_of HT_.out (by kernel_rfl)) (by decide) (fun K hK => ?_)
                  have hs36 : w34.cell? ⟨gb232, 0, none⟩ = some (u233000) := (blk_cell BK232.out 0).trans rfl
                  have hfs36 := blk_frozen BK232.out 0; have hns36_0 := NB223_232.out; have hms36_0 := NB232_223.out
                  refine skip_ (w1 := ?_) (by rfl) rfl ?_ ?_
                  rotate_left
                  ·go_simp; rfl
                  refine hK.out _ _ ?_
                  clear hK K
                  refine done_ (done_of HT_.out (by kernel_rfl)) ?_
                  try go_wp2
                  go_roundg k3
                  case measure => have := HJ2.out; have := HJ8.out; have := HK3.out; omega
                  case rel => exact ⟨(wrap64 (x10_3 + 1)), (y242), (.slice Ao35 y242.length co35), (by first | rfl | simp | simp [*]), H', ⟨by have := HJ2.out; have := HJ8.out; have := HK3.out; omega⟩, ⟨by refine Cmp.rr ?_; exact Kd.R_mono (Kd.R_far (p := ⟨gb232, 0, none⟩) (Kd.R_types HO_7.out BK232.out (by decide)) (fun _ hk => hk.2) (.slice Ao35 y242.length co35)) (fun _ hk => trivial)⟩, ⟨by refine Cmp.rr ?_; exact Kd.R_mono (Kd.R_far (p := ⟨gb232, 0, none⟩) (Kd.R_types HO244.out BK232.out (by decide)) (fun _ hk => hk.2) (.slice Ao35 y242.length co35)) (fun _ hk => trivial)⟩, ⟨by refine Cmp.b ?_; refine blk_far ?_ NB223_232.out _; refine Cmp.b ?_; exact BK223.out⟩, ⟨by refine Cmp.b ?_; refine blk_put (cs := #[u233000]) ?_ 0 _ rfl; refine Cmp.b ?_; exact BK232.out⟩, ⟨Cmp.g HB.out⟩⟩
                 ·rw [if_neg c30] at H; exact absurd H (by simp)
                ·rw [if_neg c29] at H; exact absurd H (by simp)
               ·rw [if_neg c28] at H; exact absurd H (by simp)
              ·rw [if_neg c27] at H; exact absurd H (by simp)
            ·rw [if_neg c21] at H; exact absurd H (by simp)
           ·rw [if_neg c20] at H; exact absurd H (by simp)
          ·rw [if_neg c19] at H; exact absurd H (by simp)
         ·rw [if_neg c17] at H; have c17b0 : decide (x10_3 < t224) = false := decide_eq_false c17; clear c17; replace H := Option.bind_eq_some_iff.mp H; obtain ⟨t245, A370, H⟩ := H; (try dsimp only at H); have A37 := Aside0.mk A370; clear A370
          by_cases c38 : t245 = true
          ·subst c38; rw [if_pos rfl] at H
           simp only [Option.some.injEq, Prod.mk.injEq] at H
           obtain ⟨rfl, rfl⟩ := H; have hnb39 := NB232_223.out; have hnc39 := NB223_232.out
           have hcz40_0 : wr.cell? ⟨gb232, 0, none⟩ = some (u233000) := (blk_cell BK232.out 0).trans rfl
           have hfz40_0 := blk_frozen BK232.out 0
           obtain ⟨Ao41, co41, eo41⟩ := Kd.R_slice HO_233000.out
           subst eo41
           go_wp2_with (first | ((with_reducible refine gate_callee (f := 57) rfl ?_); refine goesL_ (some 78) rfl rfl Try.func57 (by kernel_rfl) rfl #[.agg #[.slice Ao41 x233000_3.length co41]] rfl Cmp.q ?_; (with_reducible refine (impl_IsBundle.calls k3 _ _ x233000_3 true _ ?side1 ?side2 A37.out).mono ?_); (case side1 => exact Cmp.rc (Kd.R_reads' HO_233000.out).2.2); (case side2 => exact (Kd.R_reads' HO_233000.out).2.1); rintro e w42 ⟨rfl, hb⟩; refine ⟨_, rfl, ?_⟩; have n0_ := Aside0.mk (Kd.R_below (Cmp.rr HO_7.out) hb); have n1_ := Aside0.mk (Kd.R_below (Cmp.rr HO_233000.out) hb); have n2_ := Aside0.mk (blk_below (Cmp.b BK223.out) hb); have n3_ := Aside0.mk (blk_below (Cmp.b BK232.out) hb); have n4_ := Aside0.mk (below_step (Cmp.g HB.out) hb); clear HO_7; clear HO_233000; clear BK223; clear BK232; clear HB; have HO_7 := n0_; have HO_233000 := n1_; have BK223 := n2_; have BK232 := n3_; have HB := n4_; clear n0_ n1_ n2_ n3_ n4_; (try clear hb); (try clear hb2); (try clear hk); (try clear hi); have hcz43_0 : w42.cell? ⟨gb232, 0, none⟩ = some (.slice Ao41 x233000_3.length co41) := (blk_cell BK232.out 0).trans rfl; have hfz43_0 := blk_frozen BK232.out 0; have hcz44_0 : w42.cell? ⟨gb223, 0, none⟩ = some (.slice none 0 0) := (blk_cell BK223.out 0).trans rfl; have hfz44_0 := blk_frozen BK223.out 0))
           refine bodyPost_ret (results_ct rfl _ _ gb223 41 #[.slice Ao41 x233000_3.length co41] (0, 0) _ rfl (by refine Cmp.b ?_; refine blk_put (cs := #[.slice none 0 0]) ?_ 0 _ rfl; refine Cmp.b ?_; exact BK223.out) Try.underlying41 rfl (by kernel_rfl)) rfl ?_
           exact ⟨_, by first | rfl | (simp [errW_none, errW_some] <;> rfl) | (simp [*, errW_none, errW_some] <;> rfl), by refine Cmp.rr ?_; exact Kd.R_mono (Kd.R_far (p := ⟨gb223, 0, none⟩) (Kd.R_types HO_233000.out BK223.out (by decide)) (fun _ hk => hk.2) (.slice Ao41 x233000_3.length co41)) (fun _ hk => trivial), Cmp.g HB.out⟩
          ·replace c38 := Bool.eq_false_iff.mpr c38
           subst c38
           have H1 : (some (([] : List (S49)), false)) = some (r1, r2) := by rw [if_neg (show ¬ (false = true) by decide)] at H; exact H
           clear H; have H := H1; clear H1
           simp only [Option.some.injEq, Prod.mk.injEq] at H
           obtain ⟨rfl, rfl⟩ := H; have hnb45 := NB232_223.out; have hnc45 := NB223_232.out
           have hcz46_0 : wr.cell? ⟨gb232, 0, none⟩ = some (u233000) := (blk_cell BK232.out 0).trans rfl
           have hfz46_0 := blk_frozen BK232.out 0
           obtain ⟨Ao47, co47, eo47⟩ := Kd.R_slice HO_233000.out
           subst eo47
           go_wp2_with (first | ((with_reducible refine gate_callee (f := 57) rfl ?_); refine goesL_ (some 78) rfl rfl Try.func57 (by kernel_rfl) rfl #[.agg #[.slice Ao47 x233000_3.length co47]] rfl Cmp.q ?_; (with_reducible refine (impl_IsBundle.calls k3 _ _ x233000_3 false _ ?side1 ?side2 A37.out).mono ?_); (case side1 => exact Cmp.rc (Kd.R_reads' HO_233000.out).2.2); (case side2 => exact (Kd.R_reads' HO_233000.out).2.1); rintro e w48 ⟨rfl, hb⟩; refine ⟨_, rfl, ?_⟩; have n0_ := Aside0.mk (Kd.R_below (Cmp.rr HO_7.out) hb); have n1_ := Aside0.mk (Kd.R_below (Cmp.rr HO_233000.out) hb); have n2_ := Aside0.mk (blk_below (Cmp.b BK223.out) hb); have n3_ := Aside0.mk (blk_below (Cmp.b BK232.out) hb); have n4_ := Aside0.mk (below_step (Cmp.g HB.out) hb); clear HO_7; clear HO_233000; clear BK223; clear BK232; clear HB; have HO_7 := n0_; have HO_233000 := n1_; have BK223 := n2_; have BK232 := n3_; have HB := n4_; clear n0_ n1_ n2_ n3_ n4_; (try clear hb); (try clear hb2); (try clear hk); (try clear hi); have hcz49_0 : w48.cell? ⟨gb223, 0, none⟩ = some (.slice none 0 0) := (blk_cell BK223.out 0).trans rfl; have hfz49_0 := blk_frozen BK223.out 0))
           refine bodyPost_ret (results_ct rfl _ _ gb223 41 #[.slice none 0 0] (0, 0) _ rfl (by refine Cmp.b ?_; refine blk_put (cs := #[.slice none 0 0]) ?_ 0 _ rfl; refine Cmp.b ?_; exact BK223.out) Try.underlying41 rfl (by kernel_rfl)) rfl ?_
           exact ⟨_, by first | rfl | (simp [errW_none, errW_some] <;> rfl) | (simp [*, errW_none, errW_some] <;> rfl), by first | exact Kd.R_nil _ _ _ _ _ | exact Kd.N_nil _ _ _ _ _ | exact Kd.V_nil _ _ _ _ _ | exact Kd.Q_nil _ _ _ _ _ | exact Kd.S_nil _ _ _ _ _, Cmp.g HB.out⟩

/-! ### laws_eqEntry: function 94 -/
def laws_eqEntry.f (a0_0 : Int) (a0_1 : Int) (a0_2 : Int) (a0_3 : Bool) (a1_0 : Int) (a1_1 : Int) (a1_2 : Int) (a1_3 : Bool) : Option (Bool) := if a0_0 = a1_0 then (if a0_1 = a1_1 then (if a0_2 = a1_2 then (if (a0_3 != a1_3) = true then (some false) else (some true)) else (some false)) else (some false)) else (some false)
set_option maxHeartbeats 8000000 in
set_option maxRecDepth 100000 in
theorem laws_eqEntry.calls (a0_0 : Int) (a0_1 : Int) (a0_2 : Int) (a0_3 : Bool) (a1_0 : Int) (a1_1 : Int) (a1_2 : Int) (a1_3 : Bool) (r : Bool) (w : World) (h : laws_eqEntry.f a0_0 a0_1 a0_2 a0_3 a1_0 a1_1 a1_2 a1_3 = some r) :
    Calls Try.prog 94 #[.agg #[.int .i64 a0_0, .int .i64 a0_1, .int .i64 a0_2, .bool a0_3], .agg #[.int .i64 a1_0, .int .i64 a1_1, .int .i64 a1_2, .bool a1_3]] w fun e w' => e = .returned (.bool r) ∧ Below w.heap.size w w' := by
 have hu49 := Try.underlying49
 have HB := Aside0.mk (Below.refl w.heap.size w)
 have H : (if a0_0 = a1_0 then (if a0_1 = a1_1 then (if a0_2 = a1_2 then (if (a0_3 != a1_3) = true then (some false) else (some true)) else (some false)) else (some false)) else (some false)) = some r := h
 clear h
 by_cases c3 : a0_0 = a1_0
 ·rw [if_pos c3] at H; have c3b0 : (a0_0 == a1_0) = true := beq_iff_eq.mpr c3; have c3b1 : (a0_0 != a1_0) = false := bne_eq_false_iff_eq.mpr c3; clear c3
  by_cases c4 : a0_1 = a1_1
  ·rw [if_pos c4] at H; have c4b0 : (a0_1 == a1_1) = true := beq_iff_eq.mpr c4; have c4b1 : (a0_1 != a1_1) = false := bne_eq_false_iff_eq.mpr c4; clear c4
   by_cases c5 : a0_2 = a1_2
   ·rw [if_pos c5] at H; have c5b0 : (a0_2 == a1_2) = true := beq_iff_eq.mpr c5; have c5b1 : (a0_2 != a1_2) = false := bne_eq_false_iff_eq.mpr c5; clear c5
    by_cases c6 : (a0_3 != a1_3) = true
    ·rw [if_pos c6] at H
     have c6b0 : (a0_3 != a1_3) = true := c6
     (try (have c6b1 : decide (a0_3 = a1_3) = false := by simpa using c6))
     (try (have c6b2 : (a0_3 == a1_3) = false := by simpa using c6))
     (try (have c6b3 : ¬ (a0_3 = a1_3) := by simpa using c6))
     clear c6
     obtain rfl := Option.some.inj H
     go_enter Try.func94, Try.ntmps94
     go_wp2_with (first | ((with_reducible refine gate_dst (N := 2) rfl ?_); refine box_event (by rfl) (N := 2) (by rfl) (cs := #[.int .i64 a0_0, .int .i64 a0_1, .int .i64 a0_2, .bool a0_3]) (t := 49) (by first | (go_simp; done) | (go_simp; rfl)) ?_; intro gb246 hg w7 hbox hb; have n0_ := Aside0.mk (below_step (Cmp.g HB.out) hb); have n1_ := Aside0.mk (hbox); have n2_ := Aside0.mk ((by rw [hg]; exact (below_size (Cmp.g HB.out)) : w.heap.size ≤ gb246)); have n3_ := Aside0.mk ((by rw [hg]; exact (below_size (Cmp.g HB.out)) : w.heap.size ≤ gb246)); clear HB; have HB := n0_; have BK246 := n1_; have GW246 := n2_; have GE246 := n3_; clear n0_ n1_ n2_ n3_; clear hb hbox hg) | ((with_reducible refine gate_dst (N := 3) rfl ?_); refine box_event (by rfl) (N := 3) (by rfl) (cs := #[.int .i64 a1_0, .int .i64 a1_1, .int .i64 a1_2, .bool a1_3]) (t := 49) (by first | (go_simp; done) | (go_simp; rfl)) ?_; intro gb247 hg w8 hbox hb; have n0_ := Aside0.mk (blk_below (Cmp.b BK246.out) hb); have n1_ := Aside0.mk (below_step (Cmp.g HB.out) hb); have n2_ := Aside0.mk (hbox); have n3_ := Aside0.mk ((by rw [hg]; exact (below_size (Cmp.g HB.out)) : w.heap.size ≤ gb247)); have n4_ := Aside0.mk ((by rw [hg]; exact (below_size (Cmp.g HB.out)) : w.heap.size ≤ gb247)); have n5_ := Aside0.mk ((by rw [hg]; exact Nat.ne_of_lt (blk_lt (Cmp.b BK246.out)) : gb246 ≠ gb247)); have n6_ := Aside0.mk ((by rw [hg]; exact Nat.ne_of_gt (blk_lt (Cmp.b BK246.out)) : gb247 ≠ gb246)); clear BK246; clear HB; have BK246 := n0_; have HB := n1_; have BK247 := n2_; have GW247 := n3_; have GE247 := n4_; have NB246_247 := n5_; have NB247_246 := n6_; clear n0_ n1_ n2_ n3_ n4_ n5_ n6_; clear hb hbox hg; have hnb9 := NB246_247.out; have hnc9 := NB247_246.out; have hcz10_0 : w8.cell? ⟨gb246, 0, none⟩ = some (.int .i64 a0_0) := (blk_cell BK246.out 0).trans rfl; have hcz10_1 : w8.cell? ⟨gb246, 1, none⟩ = some (.int .i64 a0_1) := (blk_cell BK246.out 1).trans rfl; have hcz10_2 : w8.cell? ⟨gb246, 2, none⟩ = some (.int .i64 a0_2) := (blk_cell BK246.out 2).trans rfl; have hcz10_3 : w8.cell? ⟨gb246, 3, none⟩ = some (.bool a0_3) := (blk_cell BK246.out 3).trans rfl; have hfz10_0 := blk_frozen BK246.out 0; have hfz10_1 := blk_frozen BK246.out 1; have hfz10_2 := blk_frozen BK246.out 2; have hfz10_3 := blk_frozen BK246.out 3; have hcz11_0 : w8.cell? ⟨gb247, 0, none⟩ = some (.int .i64 a1_0) := (blk_cell BK247.out 0).trans rfl; have hcz11_1 : w8.cell? ⟨gb247, 1, none⟩ = some (.int .i64 a1_1) := (blk_cell BK247.out 1).trans rfl; have hcz11_2 : w8.cell? ⟨gb247, 2, none⟩ = some (.int .i64 a1_2) := (blk_cell BK247.out 2).trans rfl; have hcz11_3 : w8.cell? ⟨gb247, 3, none⟩ = some (.bool a1_3) := (blk_cell BK247.out 3).trans rfl; have hfz11_0 := blk_frozen BK247.out 0; have hfz11_1 := blk_frozen BK247.out 1; have hfz11_2 := blk_frozen BK247.out 2; have hfz11_3 := blk_frozen BK247.out 3))
     go_ret
     exact ⟨by first | rfl | (simp [errW_none, errW_some] <;> rfl) | (simp [*, errW_none, errW_some] <;> rfl), Cmp.g HB.out⟩
    ·rw [if_neg c6] at H
     have c6b0 : (a0_3 != a1_3) = false := by simpa using c6
     (try (have c6b1 : decide (a0_3 = a1_3) = true := by simpa using c6))
     (try (have c6b2 : (a0_3 == a1_3) = true := by simpa using c6))
     clear c6
     obtain rfl := Option.some.inj H
     go_enter Try.func94, Try.ntmps94
     go_wp2_with (first | ((with_reducible refine gate_dst (N := 2) rfl ?_); refine box_event (by rfl) (N := 2) (by rfl) (cs := #[.int .i64 a0_0, .int .i64 a0_1, .int .i64 a0_2, .bool a0_3]) (t := 49) (by first | (go_simp; done) | (go_simp; rfl)) ?_; intro gb246 hg w12 hbox hb; have n0_ := Aside0.mk (below_step (Cmp.g HB.out) hb); have n1_ := Aside0.mk (hbox); have n2_ := Aside0.mk ((by rw [hg]; exact (below_size (Cmp.g HB.out)) : w.heap.size ≤ gb246)); have n3_ := Aside0.mk ((by rw [hg]; exact (below_size (Cmp.g HB.out)) : w.heap.size ≤ gb246)); clear HB; have HB := n0_; have BK246 := n1_; have GW246 := n2_; have GE246 := n3_; clear n0_ n1_ n2_ n3_; clear hb hbox hg) | ((with_reducible refine gate_dst (N := 3) rfl ?_); refine box_event (by rfl) (N := 3) (by rfl) (cs := #[.int .i64 a1_0, .int .i64 a1_1, .int .i64 a1_2, .bool a1_3]) (t := 49) (by first | (go_simp; done) | (go_simp; rfl)) ?_; intro gb247 hg w13 hbox hb; have n0_ := Aside0.mk (blk_below (Cmp.b BK246.out) hb); have n1_ := Aside0.mk (below_step (Cmp.g HB.out) hb); have n2_ := Aside0.mk (hbox); have n3_ := Aside0.mk ((by rw [hg]; exact (below_size (Cmp.g HB.out)) : w.heap.size ≤ gb247)); have n4_ := Aside0.mk ((by rw [hg]; exact (below_size (Cmp.g HB.out)) : w.heap.size ≤ gb247)); have n5_ := Aside0.mk ((by rw [hg]; exact Nat.ne_of_lt (blk_lt (Cmp.b BK246.out)) : gb246 ≠ gb247)); have n6_ := Aside0.mk ((by rw [hg]; exact Nat.ne_of_gt (blk_lt (Cmp.b BK246.out)) : gb247 ≠ gb246)); clear BK246; clear HB; have BK246 := n0_; have HB := n1_; have BK247 := n2_; have GW247 := n3_; have GE247 := n4_; have NB246_247 := n5_; have NB247_246 := n6_; clear n0_ n1_ n2_ n3_ n4_ n5_ n6_; clear hb hbox hg; have hnb14 := NB246_247.out; have hnc14 := NB247_246.out; have hcz15_0 : w13.cell? ⟨gb246, 0, none⟩ = some (.int .i64 a0_0) := (blk_cell BK246.out 0).trans rfl; have hcz15_1 : w13.cell? ⟨gb246, 1, none⟩ = some (.int .i64 a0_1) := (blk_cell BK246.out 1).trans rfl; have hcz15_2 : w13.cell? ⟨gb246, 2, none⟩ = some (.int .i64 a0_2) := (blk_cell BK246.out 2).trans rfl; have hcz15_3 : w13.cell? ⟨gb246, 3, none⟩ = some (.bool a0_3) := (blk_cell BK246.out 3).trans rfl; have hfz15_0 := blk_frozen BK246.out 0; have hfz15_1 := blk_frozen BK246.out 1; have hfz15_2 := blk_frozen BK246.out 2; have hfz15_3 := blk_frozen BK246.out 3; have hcz16_0 : w13.cell? ⟨gb247, 0, none⟩ = some (.int .i64 a1_0) := (blk_cell BK247.out 0).trans rfl; have hcz16_1 : w13.cell? ⟨gb247, 1, none⟩ = some (.int .i64 a1_1) := (blk_cell BK247.out 1).trans rfl; have hcz16_2 : w13.cell? ⟨gb247, 2, none⟩ = some (.int .i64 a1_2) := (blk_cell BK247.out 2).trans rfl; have hcz16_3 : w13.cell? ⟨gb247, 3, none⟩ = some (.bool a1_3) := (blk_cell BK247.out 3).trans rfl; have hfz16_0 := blk_frozen BK247.out 0; have hfz16_1 := blk_frozen BK247.out 1; have hfz16_2 := blk_frozen BK247.out 2; have hfz16_3 := blk_frozen BK247.out 3))
     go_ret
     exact ⟨by first | rfl | (simp [errW_none, errW_some] <;> rfl) | (simp [*, errW_none, errW_some] <;> rfl), Cmp.g HB.out⟩
   ·rw [if_neg c5] at H; have c5b0 : (a0_2 == a1_2) = false := beq_eq_false_iff_ne.mpr c5; have c5b1 : (a0_2 != a1_2) = true := bne_iff_ne.mpr c5
    obtain rfl := Option.some.inj H
    go_enter Try.func94, Try.ntmps94
    go_wp2_with (first | ((with_reducible refine gate_dst (N := 2) rfl ?_); refine box_event (by rfl) (N := 2) (by rfl) (cs := #[.int .i64 a0_0, .int .i64 a0_1, .int .i64 a0_2, .bool a0_3]) (t := 49) (by first | (go_simp; done) | (go_simp; rfl)) ?_; intro gb246 hg w17 hbox hb; have n0_ := Aside0.mk (below_step (Cmp.g HB.out) hb); have n1_ := Aside0.mk (hbox); have n2_ := Aside0.mk ((by rw [hg]; exact (below_size (Cmp.g HB.out)) : w.heap.size ≤ gb246)); have n3_ := Aside0.mk ((by rw [hg]; exact (below_size (Cmp.g HB.out)) : w.heap.size ≤ gb246)); clear HB; have HB := n0_; have BK246 := n1_; have GW246 := n2_; have GE246 := n3_; clear n0_ n1_ n2_ n3_; clear hb hbox hg) | ((with_reducible refine gate_dst (N := 3) rfl ?_); refine box_event (by rfl) (N := 3) (by rfl) (cs := #[.int .i64 a1_0, .int .i64 a1_1, .int .i64 a1_2, .bool a1_3]) (t := 49) (by first | (go_simp; done) | (go_simp; rfl)) ?_; intro gb247 hg w18 hbox hb; have n0_ := Aside0.mk (blk_below (Cmp.b BK246.out) hb); have n1_ := Aside0.mk (below_step (Cmp.g HB.out) hb); have n2_ := Aside0.mk (hbox); have n3_ := Aside0.mk ((by rw [hg]; exact (below_size (Cmp.g HB.out)) : w.heap.size ≤ gb247)); have n4_ := Aside0.mk ((by rw [hg]; exact (below_size (Cmp.g HB.out)) : w.heap.size ≤ gb247)); have n5_ := Aside0.mk ((by rw [hg]; exact Nat.ne_of_lt (blk_lt (Cmp.b BK246.out)) : gb246 ≠ gb247)); have n6_ := Aside0.mk ((by rw [hg]; exact Nat.ne_of_gt (blk_lt (Cmp.b BK246.out)) : gb247 ≠ gb246)); clear BK246; clear HB; have BK246 := n0_; have HB := n1_; have BK247 := n2_; have GW247 := n3_; have GE247 := n4_; have NB246_247 := n5_; have NB247_246 := n6_; clear n0_ n1_ n2_ n3_ n4_ n5_ n6_; clear hb hbox hg; have hnb19 := NB246_247.out; have hnc19 := NB247_246.out; have hcz20_0 : w18.cell? ⟨gb246, 0, none⟩ = some (.int .i64 a0_0) := (blk_cell BK246.out 0).trans rfl; have hcz20_1 : w18.cell? ⟨gb246, 1, none⟩ = some (.int .i64 a0_1) := (blk_cell BK246.out 1).trans rfl; have hcz20_2 : w18.cell? ⟨gb246, 2, none⟩ = some (.int .i64 a0_2) := (blk_cell BK246.out 2).trans rfl; have hcz20_3 : w18.cell? ⟨gb246, 3, none⟩ = some (.bool a0_3) := (blk_cell BK246.out 3).trans rfl; have hfz20_0 := blk_frozen BK246.out 0; have hfz20_1 := blk_frozen BK246.out 1; have hfz20_2 := blk_frozen BK246.out 2; have hfz20_3 := blk_frozen BK246.out 3; have hcz21_0 : w18.cell? ⟨gb247, 0, none⟩ = some (.int .i64 a1_0) := (blk_cell BK247.out 0).trans rfl; have hcz21_1 : w18.cell? ⟨gb247, 1, none⟩ = some (.int .i64 a1_1) := (blk_cell BK247.out 1).trans rfl; have hcz21_2 : w18.cell? ⟨gb247, 2, none⟩ = some (.int .i64 a1_2) := (blk_cell BK247.out 2).trans rfl; have hcz21_3 : w18.cell? ⟨gb247, 3, none⟩ = some (.bool a1_3) := (blk_cell BK247.out 3).trans rfl; have hfz21_0 := blk_frozen BK247.out 0; have hfz21_1 := blk_frozen BK247.out 1; have hfz21_2 := blk_frozen BK247.out 2; have hfz21_3 := blk_frozen BK247.out 3))
    go_ret
    exact ⟨by first | rfl | (simp [errW_none, errW_some] <;> rfl) | (simp [*, errW_none, errW_some] <;> rfl), Cmp.g HB.out⟩
  ·rw [if_neg c4] at H; have c4b0 : (a0_1 == a1_1) = false := beq_eq_false_iff_ne.mpr c4; have c4b1 : (a0_1 != a1_1) = true := bne_iff_ne.mpr c4
   obtain rfl := Option.some.inj H
   go_enter Try.func94, Try.ntmps94
   go_wp2_with (first | ((with_reducible refine gate_dst (N := 2) rfl ?_); refine box_event (by rfl) (N := 2) (by rfl) (cs := #[.int .i64 a0_0, .int .i64 a0_1, .int .i64 a0_2, .bool a0_3]) (t := 49) (by first | (go_simp; done) | (go_simp; rfl)) ?_; intro gb246 hg w22 hbox hb; have n0_ := Aside0.mk (below_step (Cmp.g HB.out) hb); have n1_ := Aside0.mk (hbox); have n2_ := Aside0.mk ((by rw [hg]; exact (below_size (Cmp.g HB.out)) : w.heap.size ≤ gb246)); have n3_ := Aside0.mk ((by rw [hg]; exact (below_size (Cmp.g HB.out)) : w.heap.size ≤ gb246)); clear HB; have HB := n0_; have BK246 := n1_; have GW246 := n2_; have GE246 := n3_; clear n0_ n1_ n2_ n3_; clear hb hbox hg) | ((with_reducible refine gate_dst (N := 3) rfl ?_); refine box_event (by rfl) (N := 3) (by rfl) (cs := #[.int .i64 a1_0, .int .i64 a1_1, .int .i64 a1_2, .bool a1_3]) (t := 49) (by first | (go_simp; done) | (go_simp; rfl)) ?_; intro gb247 hg w23 hbox hb; have n0_ := Aside0.mk (blk_below (Cmp.b BK246.out) hb); have n1_ := Aside0.mk (below_step (Cmp.g HB.out) hb); have n2_ := Aside0.mk (hbox); have n3_ := Aside0.mk ((by rw [hg]; exact (below_size (Cmp.g HB.out)) : w.heap.size ≤ gb247)); have n4_ := Aside0.mk ((by rw [hg]; exact (below_size (Cmp.g HB.out)) : w.heap.size ≤ gb247)); have n5_ := Aside0.mk ((by rw [hg]; exact Nat.ne_of_lt (blk_lt (Cmp.b BK246.out)) : gb246 ≠ gb247)); have n6_ := Aside0.mk ((by rw [hg]; exact Nat.ne_of_gt (blk_lt (Cmp.b BK246.out)) : gb247 ≠ gb246)); clear BK246; clear HB; have BK246 := n0_; have HB := n1_; have BK247 := n2_; have GW247 := n3_; have GE247 := n4_; have NB246_247 := n5_; have NB247_246 := n6_; clear n0_ n1_ n2_ n3_ n4_ n5_ n6_; clear hb hbox hg; have hnb24 := NB246_247.out; have hnc24 := NB247_246.out; have hcz25_0 : w23.cell? ⟨gb246, 0, none⟩ = some (.int .i64 a0_0) := (blk_cell BK246.out 0).trans rfl; have hcz25_1 : w23.cell? ⟨gb246, 1, none⟩ = some (.int .i64 a0_1) := (blk_cell BK246.out 1).trans rfl; have hcz25_2 : w23.cell? ⟨gb246, 2, none⟩ = some (.int .i64 a0_2) := (blk_cell BK246.out 2).trans rfl; have hcz25_3 : w23.cell? ⟨gb246, 3, none⟩ = some (.bool a0_3) := (blk_cell BK246.out 3).trans rfl; have hfz25_0 := blk_frozen BK246.out 0; have hfz25_1 := blk_frozen BK246.out 1; have hfz25_2 := blk_frozen BK246.out 2; have hfz25_3 := blk_frozen BK246.out 3; have hcz26_0 : w23.cell? ⟨gb247, 0, none⟩ = some (.int .i64 a1_0) := (blk_cell BK247.out 0).trans rfl; have hcz26_1 : w23.cell? ⟨gb247, 1, none⟩ = some (.int .i64 a1_1) := (blk_cell BK247.out 1).trans rfl; have hcz26_2 : w23.cell? ⟨gb247, 2, none⟩ = some (.int .i64 a1_2) := (blk_cell BK247.out 2).trans rfl; have hcz26_3 : w23.cell? ⟨gb247, 3, none⟩ = some (.bool a1_3) := (blk_cell BK247.out 3).trans rfl; have hfz26_0 := blk_frozen BK247.out 0; have hfz26_1 := blk_frozen BK247.out 1; have hfz26_2 := blk_frozen BK247.out 2; have hfz26_3 := blk_frozen BK247.out 3))
   go_ret
   exact ⟨by first | rfl | (simp [errW_none, errW_some] <;> rfl) | (simp [*, errW_none, errW_some] <;> rfl), Cmp.g HB.out⟩
 ·rw [if_neg c3] at H; have c3b0 : (a0_0 == a1_0) = false := beq_eq_false_iff_ne.mpr c3; have c3b1 : (a0_0 != a1_0) = true := bne_iff_ne.mpr c3
  obtain rfl := Option.some.inj H
  go_enter Try.func94, Try.ntmps94
  go_wp2_with (first | ((with_reducible refine gate_dst (N := 2) rfl ?_); refine box_event (by rfl) (N := 2) (by rfl) (cs := #[.int .i64 a0_0, .int .i64 a0_1, .int .i64 a0_2, .bool a0_3]) (t := 49) (by first | (go_simp; done) | (go_simp; rfl)) ?_; intro gb246 hg w27 hbox hb; have n0_ := Aside0.mk (below_step (Cmp.g HB.out) hb); have n1_ := Aside0.mk (hbox); have n2_ := Aside0.mk ((by rw [hg]; exact (below_size (Cmp.g HB.out)) : w.heap.size ≤ gb246)); have n3_ := Aside0.mk ((by rw [hg]; exact (below_size (Cmp.g HB.out)) : w.heap.size ≤ gb246)); clear HB; have HB := n0_; have BK246 := n1_; have GW246 := n2_; have GE246 := n3_; clear n0_ n1_ n2_ n3_; clear hb hbox hg) | ((with_reducible refine gate_dst (N := 3) rfl ?_); refine box_event (by rfl) (N := 3) (by rfl) (cs := #[.int .i64 a1_0, .int .i64 a1_1, .int .i64 a1_2, .bool a1_3]) (t := 49) (by first | (go_simp; done) | (go_simp; rfl)) ?_; intro gb247 hg w28 hbox hb; have n0_ := Aside0.mk (blk_below (Cmp.b BK246.out) hb); have n1_ := Aside0.mk (below_step (Cmp.g HB.out) hb); have n2_ := Aside0.mk (hbox); have n3_ := Aside0.mk ((by rw [hg]; exact (below_size (Cmp.g HB.out)) : w.heap.size ≤ gb247)); have n4_ := Aside0.mk ((by rw [hg]; exact (below_size (Cmp.g HB.out)) : w.heap.size ≤ gb247)); have n5_ := Aside0.mk ((by rw [hg]; exact Nat.ne_of_lt (blk_lt (Cmp.b BK246.out)) : gb246 ≠ gb247)); have n6_ := Aside0.mk ((by rw [hg]; exact Nat.ne_of_gt (blk_lt (Cmp.b BK246.out)) : gb247 ≠ gb246)); clear BK246; clear HB; have BK246 := n0_; have HB := n1_; have BK247 := n2_; have GW247 := n3_; have GE247 := n4_; have NB246_247 := n5_; have NB247_246 := n6_; clear n0_ n1_ n2_ n3_ n4_ n5_ n6_; clear hb hbox hg; have hnb29 := NB246_247.out; have hnc29 := NB247_246.out; have hcz30_0 : w28.cell? ⟨gb246, 0, none⟩ = some (.int .i64 a0_0) := (blk_cell BK246.out 0).trans rfl; have hcz30_1 : w28.cell? ⟨gb246, 1, none⟩ = some (.int .i64 a0_1) := (blk_cell BK246.out 1).trans rfl; have hcz30_2 : w28.cell? ⟨gb246, 2, none⟩ = some (.int .i64 a0_2) := (blk_cell BK246.out 2).trans rfl; have hcz30_3 : w28.cell? ⟨gb246, 3, none⟩ = some (.bool a0_3) := (blk_cell BK246.out 3).trans rfl; have hfz30_0 := blk_frozen BK246.out 0; have hfz30_1 := blk_frozen BK246.out 1; have hfz30_2 := blk_frozen BK246.out 2; have hfz30_3 := blk_frozen BK246.out 3; have hcz31_0 : w28.cell? ⟨gb247, 0, none⟩ = some (.int .i64 a1_0) := (blk_cell BK247.out 0).trans rfl; have hcz31_1 : w28.cell? ⟨gb247, 1, none⟩ = some (.int .i64 a1_1) := (blk_cell BK247.out 1).trans rfl; have hcz31_2 : w28.cell? ⟨gb247, 2, none⟩ = some (.int .i64 a1_2) := (blk_cell BK247.out 2).trans rfl; have hcz31_3 : w28.cell? ⟨gb247, 3, none⟩ = some (.bool a1_3) := (blk_cell BK247.out 3).trans rfl; have hfz31_0 := blk_frozen BK247.out 0; have hfz31_1 := blk_frozen BK247.out 1; have hfz31_2 := blk_frozen BK247.out 2; have hfz31_3 := blk_frozen BK247.out 3))
  go_ret
  exact ⟨by first | rfl | (simp [errW_none, errW_some] <;> rfl) | (simp [*, errW_none, errW_some] <;> rfl), Cmp.g HB.out⟩

end Go.Proofs.Ytoffbjjkegeccaa.PFnExactDecodeBundle

/- Printed functions of the program, out of print.sh, told more shortly. No condition. -/
import Derived.Test.YtoffbjjkegeccaaCmp
import Derived.Test.YtoffbjjkegeccaaPFnExactDecodeBundlex0
import Derived.Test.YtoffbjjkegeccaaPFnExactDecodeBundlex2
import Derived.Test.YtoffbjjkegeccaaPFnExactDecodeBundlex3
import Derived.Test.YtoffbjjkegeccaaPFnExactDecodeBundlex4
namespace Go.Proofs.Ytoffbjjkegeccaa.PFnExactDecodeBundle
open Go.Proofs.Ytoffbjjkegeccaa
open Go.RowKit Go.Proofs.YtoffbjjkegeccaaW.PrintWords Go.Proofs.YtoffbjjkegeccaaW.PrintLast Go.Proofs.YtoffbjjkegeccaaW.PrintMore
attribute [local go_sem] max2_int min2_int max_two min_two max_three min_three max_four min_four   -- for this text's walks alone
set_option linter.unusedVariables false
set_option linter.unusedSimpArgs false

/-! ### spec_DecodeBundle: function 35 -/
mutual
def spec_DecodeBundle.j0 : Nat → List Int → Int → Int → Bool → Option ((List (S49)) × Bool)
  | 0, _, _, _, _ => none
  | k + 1, x0, x4, x5, x24 => if x24 = true then (some (([] : List (S49)), false)) else (spec_DecodeBundle.l0 k x0 x4 x5 0 ([] : List (S49)))
def spec_DecodeBundle.l0 : Nat → List Int → Int → Int → Int → List (S49) → Option ((List (S49)) × Bool)
  | 0, _, _, _, _, _ => none
  | k + 1, x0, x4, x5, x8, x180000 => if x8 < x4 then ((spec_DecodeInts.f k x0 x5 4).bind fun bt181 => (if bt181.2.2 = true then (if 0 < (bt181.1.length : Int) then (if 1 < (bt181.1.length : Int) then (if 2 < (bt181.1.length : Int) then (if 3 < (bt181.1.length : Int) then (if x180000.length < 4398046511104 then (spec_DecodeBundle.l0 k x0 x4 bt181.2.1 (wrap64 (x8 + 1)) (x180000 ++ [(⟨rd bt181.1 0, rd bt181.1 1, rd bt181.1 2, ((rd bt181.1 3) == 1)⟩ : S49)])) else (none)) else (none)) else (none)) else (none)) else (none)) else (some (([] : List (S49)), false)))) else ((spec_IsBundle.f k x180000).bind fun t193 => (if t193 = true then ((spec_EncodeBundle.f k x180000).bind fun t194 => ((spec_EqualBytes.f t194 x0).bind fun t197 => (if t197 = true then (some (x180000, true)) else (some (([] : List (S49)), false))))) else (some (([] : List (S49)), false))))
end
def spec_DecodeBundle.f (k : Nat) (l0 : List Int) : Option ((List (S49)) × Bool) := (spec_ReadUvarint.f k l0 0).bind fun bt176 => (if bt176.2.2 = true then (spec_DecodeBundle.j0 k l0 bt176.1 bt176.2.1 (decide (bt176.1 > 20))) else (spec_DecodeBundle.j0 k l0 bt176.1 bt176.2.1 true))
theorem spec_DecodeBundle.mono_l : ∀ k, (∀ y0 y1 y2 y3, LeO (spec_DecodeBundle.j0 k y0 y1 y2 y3) (spec_DecodeBundle.j0 (k + 1) y0 y1 y2 y3)) ∧ (∀ y0 y1 y2 y3 y4, LeO (spec_DecodeBundle.l0 k y0 y1 y2 y3 y4) (spec_DecodeBundle.l0 (k + 1) y0 y1 y2 y3 y4))
  | 0 => ⟨fun _ _ _ _ r h => by simp [spec_DecodeBundle.j0] at h, fun _ _ _ _ _ r h => by simp [spec_DecodeBundle.l0] at h⟩
  | k + 1 => by
    obtain ⟨ih0, ih1⟩ := spec_DecodeBundle.mono_l k
    refine ⟨?_, ?_⟩
    · intro y0 y1 y2 y3
      unfold spec_DecodeBundle.j0
      repeat' first
      | (with_reducible exact ih0 _ _ _ _)
      | (with_reducible exact ih1 _ _ _ _ _)
      | (with_reducible exact spec_DecodeInts.mono _ _ _ _)
      | (with_reducible exact spec_EncodeBundle.mono _ _)
      | (with_reducible exact spec_IsBundle.mono _ _)
      | (with_reducible exact spec_ReadUvarint.mono _ _ _)
      | (with_reducible exact LeO.refl _)
      | (with_reducible exact LeO.none _)
      | (with_reducible refine LeO.ite ?_ ?_)
      | (with_reducible refine LeO.bind ?_ (fun _ => ?_))
      | exact ih0 _ _ _ _
      | exact ih1 _ _ _ _ _
      | exact spec_DecodeInts.mono _ _ _ _
      | exact spec_EncodeBundle.mono _ _
      | exact spec_IsBundle.mono _ _
      | exact spec_ReadUvarint.mono _ _ _
      | exact LeO.none _
      | refine LeO.ite ?_ ?_
      | refine LeO.bind ?_ (fun _ => ?_)
    · intro y0 y1 y2 y3 y4
      unfold spec_DecodeBundle.l0
      repeat' first
      | (with_reducible exact ih0 _ _ _ _)
      | (with_reducible exact ih1 _ _ _ _ _)
      | (with_reducible exact spec_DecodeInts.mono _ _ _ _)
      | (with_reducible exact spec_EncodeBundle.mono _ _)
      | (with_reducible exact spec_IsBundle.mono _ _)
      | (with_reducible exact spec_ReadUvarint.mono _ _ _)
      | (with_reducible exact LeO.refl _)
      | (with_reducible exact LeO.none _)
      | (with_reducible refine LeO.ite ?_ ?_)
      | (with_reducible refine LeO.bind ?_ (fun _ => ?_))
      | exact ih0 _ _ _ _
      | exact ih1 _ _ _ _ _
      | exact spec_DecodeInts.mono _ _ _ _
      | exact spec_EncodeBundle.mono _ _
      | exact spec_IsBundle.mono _ _
      | exact spec_ReadUvarint.mono _ _ _
      | exact LeO.none _
      | refine LeO.ite ?_ ?_
      | refine LeO.bind ?_ (fun _ => ?_)
theorem spec_DecodeBundle.mono : ∀ a0 k, LeO (spec_DecodeBundle.f k a0) (spec_DecodeBundle.f (k + 1) a0) := by
  intro a0 k
  obtain ⟨ih0, ih1⟩ := spec_DecodeBundle.mono_l k
  unfold spec_DecodeBundle.f
  repeat' first
      | (with_reducible exact ih0 _ _ _ _)
      | (with_reducible exact ih1 _ _ _ _ _)
      | (with_reducible exact spec_DecodeInts.mono _ _ _ _)
      | (with_reducible exact spec_EncodeBundle.mono _ _)
      | (with_reducible exact spec_IsBundle.mono _ _)
      | (with_reducible exact spec_ReadUvarint.mono _ _ _)
      | (with_reducible exact LeO.refl _)
      | (with_reducible exact LeO.none _)
      | (with_reducible refine LeO.ite ?_ ?_)
      | (with_reducible refine LeO.bind ?_ (fun _ => ?_))
      | exact ih0 _ _ _ _
      | exact ih1 _ _ _ _ _
      | exact spec_DecodeInts.mono _ _ _ _
      | exact spec_EncodeBundle.mono _ _
      | exact spec_IsBundle.mono _ _
      | exact spec_ReadUvarint.mono _ _ _
      | exact LeO.none _
      | refine LeO.ite ?_ ?_
      | refine LeO.bind ?_ (fun _ => ?_)
set_option maxHeartbeats 8000000 in
set_option maxRecDepth 100000 in
theorem spec_DecodeBundle.calls (k : Nat) (A0 : Option Addr) (c0 : Nat) (l0 : List Int) (r1 : List (S49)) (r2 : Bool) (w : World) (hr0 : Kd.C (Kd.int .u8) w A0 l0.length l0) (hc0 : l0.length ≤ c0) (h : spec_DecodeBundle.f k l0 = some (r1, r2)) :
    Calls Try.prog 35 #[.slice A0 l0.length c0] w fun e w' => ∃ v0_ : Value, e = .returned (.tuple #[.agg #[v0_], .bool r2]) ∧ Kd.R k49 49 w' w.heap.size (fun _ => True) v0_ r1 ∧ Below w.heap.size w w' := by
 have hu41 := Try.underlying41; have hu49 := Try.underlying49; have HR0 := Aside0.mk hr0; have HC0 := Aside0.mk hc0; clear hr0 hc0
 have HB := Aside0.mk (Below.refl w.heap.size w)
 have H : ((spec_ReadUvarint.f k l0 0).bind fun bt176 => (if bt176.2.2 = true then (spec_DecodeBundle.j0 k l0 bt176.1 bt176.2.1 (decide (bt176.1 > 20))) else (spec_DecodeBundle.j0 k l0 bt176.1 bt176.2.1 true))) = some (r1, r2) := h
 clear h; replace H := Option.bind_eq_some_iff.mp H; obtain ⟨⟨t176, t177, t178⟩, A20, H⟩ := H; (try dsimp only at H); have A2 := Aside0.mk A20; clear A20; have HC3 := Aside0.mk H; clear H
 go_enter Try.func35, Try.ntmps35
 go_upto_region 2 with (first | ((with_reducible refine gate_dst (N := 2) rfl ?_); refine box_event (by rfl) (N := 2) (by rfl) (cs := #[.slice none 0 0]) (t := 41) (by first | (go_simp; done) | (go_simp; rfl)) ?_; intro gb175 hg w4 hbox hb; have n0_ := Aside0.mk (below_step (Cmp.g HB.out) hb); have n1_ := Aside0.mk (hbox); have n2_ := Aside0.mk ((by rw [hg]; exact (below_size (Cmp.g HB.out)) : w.heap.size ≤ gb175)); have n3_ := Aside0.mk ((by rw [hg]; exact (below_size (Cmp.g HB.out)) : w.heap.size ≤ gb175)); clear HB; have HB := n0_; have BK175 := n1_; have GW175 := n2_; have GE175 := n3_; clear n0_ n1_ n2_ n3_; clear hb hbox hg) | ((with_reducible refine gate_callee (f := 73) rfl ?_); refine goesL_ (some 15) rfl rfl Try.func73 (by kernel_rfl) rfl #[.slice A0 l0.length c0, .int .i64 0] rfl Cmp.q ?_; (with_reducible refine (spec_ReadUvarint.calls k _ _ l0 0 t176 t177 t178 _ ?side1 ?side2 A2.out).mono ?_); (case side1 => exact Cmp.rc (Kd.C_below HR0.out HB.out)); (case side2 => exact HC0.out); rintro e w' ⟨rfl, ⟨nd, rfl⟩⟩; refine ⟨_, rfl, ?_⟩))
 (try simp only [Act.put, List.setIfInBounds_toArray, List.set_cons_zero, List.set_cons_succ])
 go_cut [24] (fun v24 wc => ∃ (kq : Nat) (x24_2 : Bool), v24 = .bool x24_2 ∧ Aside0 (spec_DecodeBundle.j0 kq l0 t176 t177 x24_2 = some (r1, r2)) ∧ Aside0 (kq ≤ k) ∧ Aside0 (wc.heap[gb175]? = some (.cells #[(.slice none 0 0)] 41 (0, 0))) ∧ Aside0 (Below w.heap.size w wc))
 case first =>
  have H := HC3.out; clear HC3
  by_cases c5 : t178 = true
  ·subst c5; rw [if_pos rfl] at H
   have H' := Aside0.mk H
   clear H
   go_wp2
   go_meet
   case rel => exact ⟨_, (decide (t176 > 20)), (by first | rfl | simp | simp [*]), H', ⟨by first | omega | exact Nat.le_refl _⟩, ⟨by refine Cmp.b ?_; exact BK175.out⟩, ⟨Cmp.g HB.out⟩⟩
  ·replace c5 := Bool.eq_false_iff.mpr c5
   subst c5
   have H1 : (spec_DecodeBundle.j0 k l0 t176 t177 true) = some (r1, r2) := by rw [if_neg (show ¬ (false = true) by decide)] at H; exact H
   clear H; have H := H1; clear H1
   have H' := Aside0.mk H
   clear H
   go_wp2
   go_meet
   case rel => exact ⟨_, (true), (by first | rfl | simp | simp [*]), H', ⟨by first | omega | exact Nat.le_refl _⟩, ⟨by refine Cmp.b ?_; exact BK175.out⟩, ⟨Cmp.g HB.out⟩⟩
 case rest =>
  clear HC3; (try clear p2); (try clear c3); (try clear c5)
  obtain ⟨kq, x24_2, rfl, HA, HJ2, BK175, HB⟩ := hcut
  cases kq with
  | zero => exact absurd HA.out (by simp [spec_DecodeBundle.j0])
  | succ kj2 =>
   have H := HA.out; clear HA
   simp only [spec_DecodeBundle.j0] at H
   by_cases c6 : x24_2 = true
   ·subst c6; rw [if_pos rfl] at H
    simp only [Option.some.injEq, Prod.mk.injEq] at H
    obtain ⟨rfl, rfl⟩ := H
    have hcz7_0 : wc.cell? ⟨gb175, 0, none⟩ = some (.slice none 0 0) := (blk_cell BK175.out 0).trans rfl
    have hfz7_0 := blk_frozen BK175.out 0
    go_wp2
    refine bodyPost_ret (results_ct rfl _ _ gb175 41 #[.slice none 0 0] (0, 0) _ rfl (by refine Cmp.b ?_; refine blk_put (cs := #[.slice none 0 0]) ?_ 0 _ rfl; refine Cmp.b ?_; exact BK175.out) Try.underlying41 rfl (by kernel_rfl)) rfl ?_
    exact ⟨_, by first | rfl | (simp [errW_none, errW_some] <;> rfl) | (simp [*, errW_none, errW_some] <;> rfl), by first | exact Kd.R_nil _ _ _ _ _ | exact Kd.N_nil _ _ _ _ _ | exact Kd.V_nil _ _ _ _ _ | exact Kd.Q_nil _ _ _ _ _ | exact Kd.S_nil _ _ _ _ _, Cmp.g HB.out⟩
   ·replace c6 := Bool.eq_false_iff.mpr c6
    subst c6
    have H1 : (spec_DecodeBundle.l0 kj2 l0 t176 t177 0 ([] : List (S49))) = some (r1, r2) := by rw [if_neg (show ¬ (false = true) by decide)] at H; exact H
    clear H; have H := H1; clear H1
    have H' := Aside0.mk H
    clear H
    go_wp2_with (first | ((with_reducible refine gate_dst (N := 7) rfl ?_); refine box_event (by rfl) (N := 7) (by rfl) (cs := #[.slice none 0 0]) (t := 41) (by first | (go_simp; done) | (go_simp; rfl)) ?_; intro gb179 hg w8 hbox hb; have n0_ := Aside0.mk (blk_below (Cmp.b BK175.out) hb); have n1_ := Aside0.mk (below_step (Cmp.g HB.out) hb); have n2_ := Aside0.mk (hbox); have n3_ := Aside0.mk ((by rw [hg]; exact (below_size (Cmp.g HB.out)) : w.heap.size ≤ gb179)); have n4_ := Aside0.mk ((by rw [hg]; exact (below_size (Cmp.g HB.out)) : w.heap.size ≤ gb179)); have n5_ := Aside0.mk ((by rw [hg]; exact Nat.ne_of_lt (blk_lt (Cmp.b BK175.out)) : gb175 ≠ gb179)); have n6_ := Aside0.mk ((by rw [hg]; exact Nat.ne_of_gt (blk_lt (Cmp.b BK175.out)) : gb179 ≠ gb175)); clear BK175; clear HB; have BK175 := n0_; have HB := n1_; have BK179 := n2_; have GW179 := n3_; have GE179 := n4_; have NB175_179 := n5_; have NB179_175 := n6_; clear n0_ n1_ n2_ n3_ n4_ n5_ n6_; clear hb hbox hg; have hnb9 := NB179_175.out; have hnc9 := NB175_179.out; have hcz10_0 : w8.cell? ⟨gb179, 0, none⟩ = some (.slice none 0 0) := (blk_cell BK179.out 0).trans rfl; have hfz10_0 := blk_frozen BK179.out 0))
    go_loopg [5, 8] kj2 (fun kq v5 v8 w' => ∃ (x5_2 : Int) (x8_2 : Int) (x180000_2 : List (S49)) (u180000 : Value), v5 = .int .i64 x5_2 ∧ v8 = .int .i64 x8_2 ∧ Aside0 (spec_DecodeBundle.l0 kq l0 t176 x5_2 x8_2 x180000_2 = some (r1, r2)) ∧ Aside0 (kq ≤ kj2) ∧ Aside0 (Kd.R k49 49 w' w.heap.size (fun _ => True) u180000 x180000_2) ∧ Aside0 (w'.heap[gb175]? = some (.cells #[(.slice none 0 0)] 41 (0, 0))) ∧ Aside0 (w'.heap[gb179]? = some (.cells #[u180000] 41 (0, 0))) ∧ Aside0 (Below w.heap.size w w'))
    case atStart => exact ⟨(t177), (0), (([] : List (S49))), (.slice none 0 0), (by first | rfl | simp | simp [*]), (by first | rfl | simp | simp [*]), H', ⟨Nat.le_refl _⟩, ⟨by first | exact Kd.R_nil _ _ _ _ _ | exact Kd.N_nil _ _ _ _ _ | exact Kd.V_nil _ _ _ _ _ | exact Kd.Q_nil _ _ _ _ _ | exact Kd.S_nil _ _ _ _ _⟩, ⟨by refine Cmp.b ?_; refine blk_far ?_ NB175_179.out _; refine Cmp.b ?_; exact BK175.out⟩, ⟨by refine Cmp.b ?_; refine blk_put (cs := #[.slice none 0 0]) ?_ 0 _ rfl; refine Cmp.b ?_; exact BK179.out⟩, ⟨Cmp.g HB.out⟩⟩
    case round =>
     clear H'
     (try clear p2); (try clear c3); (try clear c5); (try clear c6); (try clear c7); (try clear c9); (try clear hcz10_0); (try clear hcz7_0); (try clear hfz10_0); (try clear hfz7_0); (try clear p2)
     obtain ⟨x5_2, x8_2, x180000_2, u180000, rfl, rfl, HA, HK2, HO_180000, BK175, BK179, HB⟩ := hrel
     cases gk with
     | zero => exact absurd HA.out (by simp [spec_DecodeBundle.l0])
     | succ k2 =>
      have H := HA.out; clear HA
      simp only [spec_DecodeBundle.l0] at H
      by_cases c11 : x8_2 < t176
      ·rw [if_pos c11] at H; have c11b0 : decide (x8_2 < t176) = true := decide_eq_true c11; clear c11; replace H := Option.bind_eq_some_iff.mp H; obtain ⟨⟨t181, t182, t183⟩, A120, H⟩ := H; (try dsimp only at H); have A12 := Aside0.mk A120; clear A120
       by_cases c13 : t183 = true
       ·subst c13; rw [if_pos rfl] at H
        by_cases c14 : 0 < (t181.length : Int)
        ·rw [if_pos c14] at H
         have c14b0 : decide (0 < (t181.length : Int)) = true := decide_eq_true c14
         have c14b1 : decide (0 < t181.length) = true := decide_eq_true (by omega)
         clear c14
         by_cases c15 : 1 < (t181.length : Int)
         ·rw [if_pos c15] at H
          have c15b0 : decide (1 < (t181.length : Int)) = true := decide_eq_true c15
          have c15b1 : decide (1 < t181.length) = true := decide_eq_true (by omega)
          clear c15
          by_cases c16 : 2 < (t181.length : Int)
          ·rw [if_pos c16] at H
           have c16b0 : decide (2 < (t181.length : Int)) = true := decide_eq_true c16
           have c16b1 : decide (2 < t181.length) = true := decide_eq_true (by omega)
           clear c16
           by_cases c17 : 3 < (t181.length : Int)
           ·rw [if_pos c17] at H
            have c17b0 : decide (3 < (t181.length : Int)) = true := decide_eq_true c17
            have c17b1 : decide (3 < t181.length) = true := decide_eq_true (by omega)
            clear c17
            by_cases c18 : x180000_2.length < 4398046511104
            ·rw [if_pos c18] at H; have LMc18 := Aside0.mk c18; clear c18
             obtain ⟨y190, hy190⟩ : ∃ y_ : List (S49), y_ = (x180000_2 ++ [(⟨rd t181 0, rd t181 1, rd t181 2, ((rd t181 3) == 1)⟩ : S49)]) := ⟨_, rfl⟩
             replace H : (spec_DecodeBundle.l0 k2 l0 t176 t182 (wrap64 (x8_2 + 1)) y190) = some (r1, r2) := by first | (rw [hy190]; with_reducible exact H) | (have H2_ := (Option.bind_some _ _).symm.trans H; rw [hy190]; with_reducible exact H2_) | (have H2_ := (Option.bind_some _ _).symm.trans H; with_reducible exact H2_) | with_reducible exact H | (rw [hy190]; exact H) | exact H
             have Ny190 := Aside0.mk hy190; clear hy190
             have H' := Aside0.mk H
             clear H
             go_wp2_with (first | ((with_reducible refine gate_dst (N := 9) rfl ?_); refine box_event (by rfl) (N := 9) (by rfl) (cs := #[.int .i64 0, .int .i64 0, .int .i64 0, .bool false]) (t := 49) (by first | (go_simp; done) | (go_simp; rfl)) ?_; intro gb180 hg w19 hbox hb; have n0_ := Aside0.mk (Kd.R_below (Kd.R_elderB (Cmp.rr HO_180000.out) gb180 (Nat.le_of_eq hg.symm)) hb); have n1_ := Aside0.mk (blk_below (Cmp.b BK175.out) hb); have n2_ := Aside0.mk (blk_below (Cmp.b BK179.out) hb); have n3_ := Aside0.mk (below_step (Cmp.g HB.out) hb); have n4_ := Aside0.mk (hbox); have n5_ := Aside0.mk ((by rw [hg]; exact (below_size (Cmp.g HB.out)) : w.heap.size ≤ gb180)); have n6_ := Aside0.mk ((by rw [hg]; exact (below_size (Cmp.g HB.out)) : w.heap.size ≤ gb180)); have n7_ := Aside0.mk ((by rw [hg]; exact Nat.ne_of_lt (blk_lt (Cmp.b BK175.out)) : gb175 ≠ gb180)); have n8_ := Aside0.mk ((by rw [hg]; exact Nat.ne_of_gt (blk_lt (Cmp.b BK175.out)) : gb180 ≠ gb175)); have n9_ := Aside0.mk ((by rw [hg]; exact Nat.ne_of_lt (blk_lt (Cmp.b BK179.out)) : gb179 ≠ gb180)); have n10_ := Aside0.mk ((by rw [hg]; exact Nat.ne_of_gt (blk_lt (Cmp.b BK179.out)) : gb180 ≠ gb179)); clear HO_180000; clear BK175; clear BK179; clear HB; have HO_180000 := n0_; have BK175 := n1_; have BK179 := n2_; have HB := n3_; have BK180 := n4_; have GW180 := n5_; have GE180 := n6_; have NB175_180 := n7_; have NB180_175 := n8_; have NB179_180 := n9_; have NB180_179 := n10_; clear n0_ n1_ n2_ n3_ n4_ n5_ n6_ n7_ n8_ n9_ n10_; clear hb hbox hg; have hnb20 := NB180_175.out; have hnc20 := NB175_180.out; have hnb21 := NB180_179.out; have hnc21 := NB179_180.out; have hcz22_0 : w19.cell? ⟨gb180, 0, none⟩ = some (.int .i64 0) := (blk_cell BK180.out 0).trans rfl; have hcz22_1 : w19.cell? ⟨gb180, 1, none⟩ = some (.int .i64 0) := (blk_cell BK180.out 1).trans rfl; have hcz22_2 : w19.cell? ⟨gb180, 2, none⟩ = some (.int .i64 0) := (blk_cell BK180.out 2).trans rfl; have hcz22_3 : w19.cell? ⟨gb180, 3, none⟩ = some (.bool false) := (blk_cell BK180.out 3).trans rfl; have hfz22_0 := blk_frozen BK180.out 0; have hfz22_1 := blk_frozen BK180.out 1; have hfz22_2 := blk_frozen BK180.out 2; have hfz22_3 := blk_frozen BK180.out 3) | ((with_reducible refine gate_callee (f := 74) rfl ?_); refine goesL_ (some 36) rfl rfl Try.func74 (by kernel_rfl) rfl #[.slice A0 l0.length c0, .int .i64 x5_2, .int .i64 4] rfl Cmp.q ?_; (with_reducible refine (spec_DecodeInts.calls k2 _ _ l0 x5_2 4 t181 t182 true _ ?side1 ?side2 A12.out).mono ?_); (case side1 => exact Kd.C_below HR0.out (Cmp.g HB.out)); (case side2 => exact HC0.out); rintro e w23 ⟨v184, rfl, ho0, hb⟩; refine ⟨_, rfl, ?_⟩; have n0_ := Aside0.mk (Kd.R_below (by refine Cmp.rr ?_; exact (Kd.R_mono (Kd.R_far (p := ⟨gb180, 3, none⟩) (Kd.R_far (p := ⟨gb180, 2, none⟩) (Kd.R_far (p := ⟨gb180, 1, none⟩) (Kd.R_far (p := ⟨gb180, 0, none⟩) (Kd.R_mono HO_180000.out (fun k_ hk => (⟨hk, hk.2⟩ : _ ∧ k_ ≠ gb180))) (fun _ hk => hk.2) (.int .i64 0)) (fun _ hk => hk.2) (.int .i64 0)) (fun _ hk => hk.2) (.int .i64 0)) (fun _ hk => hk.2) (.bool false)) (fun _ h_ => h_.1))) hb); have n1_ := Aside0.mk (Kd.R_lower ho0 (below_size (Cmp.g HB.out))); have n2_ := Aside0.mk (blk_below (g := gb175) (o := .cells #[.slice none 0 0] 41 (0, 0)) (by refine Cmp.b ?_; refine blk_far ?_ NB175_180.out _; refine Cmp.b ?_; refine blk_far ?_ NB175_180.out _; refine Cmp.b ?_; refine blk_far ?_ NB175_180.out _; refine Cmp.b ?_; refine blk_far ?_ NB175_180.out _; refine Cmp.b ?_; exact BK175.out) hb); have n3_ := Aside0.mk (blk_below (g := gb179) (o := .cells #[u180000] 41 (0, 0)) (by refine Cmp.b ?_; refine blk_far ?_ NB179_180.out _; refine Cmp.b ?_; refine blk_far ?_ NB179_180.out _; refine Cmp.b ?_; refine blk_far ?_ NB179_180.out _; refine Cmp.b ?_; refine blk_far ?_ NB179_180.out _; refine Cmp.b ?_; exact BK179.out) hb); have n4_ := Aside0.mk (blk_below (g := gb180) (o := .cells #[.int .i64 0, .int .i64 0, .int .i64 0, .bool false] 49 (0, 0)) (by refine Cmp.b ?_; refine blk_put (cs := #[.int .i64 0, .int .i64 0, .int .i64 0, .bool false]) ?_ 3 _ rfl; refine Cmp.b ?_; refine blk_put (cs := #[.int .i64 0, .int .i64 0, .int .i64 0, .bool false]) ?_ 2 _ rfl; refine Cmp.b ?_; refine blk_put (cs := #[.int .i64 0, .int .i64 0, .int .i64 0, .bool false]) ?_ 1 _ rfl; refine Cmp.b ?_; refine blk_put (cs := #[.int .i64 0, .int .i64 0, .int .i64 0, .bool false]) ?_ 0 _ rfl; refine Cmp.b ?_; exact BK180.out) hb); have n5_ := Aside0.mk (below_step (Cmp.g HB.out) hb); clear HO_180000; clear BK175; clear BK179; clear BK180; clear HB; have HO_180000 := n0_; have HO185 := n1_; have BK175 := n2_; have BK179 := n3_; have BK180 := n4_; have HB := n5_; clear n0_ n1_ n2_ n3_ n4_ n5_; (try clear hb); (try clear hb2); (try clear hk); (try clear hi); (try clear ho0); obtain ⟨Ao24, co24, eo24⟩ := Kd.R_slice HO185.out; subst eo24; have p186 : 0 ≤ (0 : Int) := (by omega); have q186 : 0 < (t181.length : Int) := of_decide_eq_true Cmp.d; obtain ⟨ad186, e186, hx186_0⟩ := Kd.at_int (Kd.R_reads' HO185.out).2.2 0 p186 q186; cases e186; have qi186 : (0 < t181.length) = True := eq_true (by omega); (try rw [show ((0 : Int)).toNat = 0 from rfl] at hx186_0); (try rw [Addr.add_zero'] at hx186_0); replace p186 := eq_true p186; replace q186 := eq_true q186; have hcz25_0 : w23.cell? ⟨gb180, 0, none⟩ = some (.int .i64 0) := (blk_cell BK180.out 0).trans rfl; have hcz25_1 : w23.cell? ⟨gb180, 1, none⟩ = some (.int .i64 0) := (blk_cell BK180.out 1).trans rfl; have hcz25_2 : w23.cell? ⟨gb180, 2, none⟩ = some (.int .i64 0) := (blk_cell BK180.out 2).trans rfl; have hcz25_3 : w23.cell? ⟨gb180, 3, none⟩ = some (.bool false) := (blk_cell BK180.out 3).trans rfl; have hfz25_0 := blk_frozen BK180.out 0; have hfz25_1 := blk_frozen BK180.out 1; have hfz25_2 := blk_frozen BK180.out 2; have hfz25_3 := blk_frozen BK180.out 3; have p187 : 0 ≤ (1 : Int) := (by omega); have q187 : 1 < (t181.length : Int) := of_decide_eq_true Cmp.d; obtain ⟨ad187, e187, hx187_0⟩ := Kd.at_int (Kd.R_reads' HO185.out).2.2 1 p187 q187; obtain rfl : ad186 = ad187 := (by injection e187); (try simp only [show (1 : Int).toNat = 1 from rfl, Nat.reduceMul, Nat.reduceEqDiff, Go.Addr.add, ↓reduceIte] at hx187_0); have qi187 : (1 < t181.length) = True := eq_true (by omega); (try rw [show ((1 : Int)).toNat = 1 from rfl] at hx187_0); have hn187_0 : ad186.block ≠ gb180 := Kd.own_blk (Kd.R_ne HO185.out BK180.out (by decide)); replace hx187_0 := (cell_far (p := ⟨gb180, 0, none⟩) (by first | (rw [add_block]; exact hn187_0) | (show (Addr.add _ _).block ≠ _; rw [add_block]; exact hn187_0) | exact hn187_0) (.int .i64 (rd t181 0))).trans hx187_0; clear hn187_0; replace p187 := eq_true p187; replace q187 := eq_true q187; have p188 : 0 ≤ (2 : Int) := (by omega); have q188 : 2 < (t181.length : Int) := of_decide_eq_true Cmp.d; obtain ⟨ad188, e188, hx188_0⟩ := Kd.at_int (Kd.R_reads' HO185.out).2.2 2 p188 q188; obtain rfl : ad186 = ad188 := (by injection e188); (try simp only [show (2 : Int).toNat = 2 from rfl, Nat.reduceMul, Nat.reduceEqDiff, Go.Addr.add, ↓reduceIte] at hx188_0); have qi188 : (2 < t181.length) = True := eq_true (by omega); (try rw [show ((2 : Int)).toNat = 2 from rfl] at hx188_0); have hn188_0 : ad186.block ≠ gb180 := Kd.own_blk (Kd.R_ne HO185.out BK180.out (by decide)); have hn188_1 : ad186.block ≠ gb180 := Kd.own_blk (Kd.R_ne HO185.out BK180.out (by decide)); replace hx188_0 := (cell_far (p := ⟨gb180, 0, none⟩) (by first | (rw [add_block]; exact hn188_0) | (show (Addr.add _ _).block ≠ _; rw [add_block]; exact hn188_0) | exact hn188_0) (.int .i64 (rd t181 0))).trans hx188_0; replace hx188_0 := (cell_far (p := ⟨gb180, 1, none⟩) (by first | (rw [add_block]; exact hn188_1) | (show (Addr.add _ _).block ≠ _; rw [add_block]; exact hn188_1) | exact hn188_1) (.int .i64 (rd t181 1))).trans hx188_0; clear hn188_0; clear hn188_1; replace p188 := eq_true p188; replace q188 := eq_true q188; have p189 : 0 ≤ (3 : Int) := (by omega); have q189 : 3 < (t181.length : Int) := of_decide_eq_true Cmp.d; obtain ⟨ad189, e189, hx189_0⟩ := Kd.at_int (Kd.R_reads' HO185.out).2.2 3 p189 q189; obtain rfl : ad186 = ad189 := (by injection e189); (try simp only [show (3 : Int).toNat = 3 from rfl, Nat.reduceMul, Nat.reduceEqDiff, Go.Addr.add, ↓reduceIte] at hx189_0); have qi189 : (3 < t181.length) = True := eq_true (by omega); (try rw [show ((3 : Int)).toNat = 3 from rfl] at hx189_0); have hn189_0 : ad186.block ≠ gb180 := Kd.own_blk (Kd.R_ne HO185.out BK180.out (by decide)); have hn189_1 : ad186.block ≠ gb180 := Kd.own_blk (Kd.R_ne HO185.out BK180.out (by decide)); have hn189_2 : ad186.block ≠ gb180 := Kd.own_blk (Kd.R_ne HO185.out BK180.out (by decide)); replace hx189_0 := (cell_far (p := ⟨gb180, 0, none⟩) (by first | (rw [add_block]; exact hn189_0) | (show (Addr.add _ _).block ≠ _; rw [add_block]; exact hn189_0) | exact hn189_0) (.int .i64 (rd t181 0))).trans hx189_0; replace hx189_0 := (cell_far (p := ⟨gb180, 1, none⟩) (by first | (rw [add_block]; exact hn189_1) | (show (Addr.add _ _).block ≠ _; rw [add_block]; exact hn189_1) | exact hn189_1) (.int .i64 (rd t181 1))).trans hx189_0; replace hx189_0 := (cell_far (p := ⟨gb180, 2, none⟩) (by first | (rw [add_block]; exact hn189_2) | (show (Addr.add _ _).block ≠ _; rw [add_block]; exact hn189_2) | exact hn189_2) (.int .i64 (rd t181 2))).trans hx189_0; clear hn189_0; clear hn189_1; clear hn189_2; replace p189 := eq_true p189; replace q189 := eq_true q189; have hnb26 := NB179_175.out; have hnc26 := NB175_179.out; have hcz27_0 : w23.cell? ⟨gb179, 0, none⟩ = some (u180000) := (blk_cell BK179.out 0).trans rfl; have hfz27_0 := blk_frozen BK179.out 0) | ((with_reducible refine gate_builtin (b := .append) (xs := #[.tmp 61, .tmp 63]) rfl ?_); at_builtin; refine Kd.R_append k49 (w0 := w) w.heap.size rfl (.tmp 61) (.tmp 63) 39 49 (.agg #[(.int .i64 0), (.int .i64 0), (.int .i64 0), (.bool false)]) 32 rfl Try.underlying39 info49 rfl (by decide) (by omega) u180000 x180000_2 (⟨rd t181 0, rd t181 1, rd t181 2, ((rd t181 3) == 1)⟩ : S49) [.int .i64 (rd t181 0), .int .i64 (rd t181 1), .int .i64 (rd t181 2), .bool ((rd t181 3) == 1)] (fun k_ => k_ ≠ gb180) (fun _ => False) rfl (by first | (go_simp; done) | (go_simp; rfl)) ?aP (fun _ hk => hk.elim) ?aF ?aO ?aB ?aS ?aL ?_; (case aP => exact k49_mkM _ _ _ (⟨rd t181 0, rd t181 1, rd t181 2, ((rd t181 3) == 1)⟩ : S49)); (case aB => exact (Cmp.g HB.out)); (case aF => exact (fun k_ hk => Kd.freshB (g := gb180) (o := .cells #[.int .i64 (rd t181 0), .int .i64 (rd t181 1), .int .i64 (rd t181 2), .bool ((rd t181 3) == 1)] 49 (0, 0)) (by refine Cmp.b ?_; refine blk_put (cs := #[.int .i64 (rd t181 0), .int .i64 (rd t181 1), .int .i64 (rd t181 2), .bool false]) ?_ 3 _ rfl; refine Cmp.b ?_; refine blk_put (cs := #[.int .i64 (rd t181 0), .int .i64 (rd t181 1), .int .i64 0, .bool false]) ?_ 2 _ rfl; refine Cmp.b ?_; refine blk_put (cs := #[.int .i64 (rd t181 0), .int .i64 0, .int .i64 0, .bool false]) ?_ 1 _ rfl; refine Cmp.b ?_; refine blk_put (cs := #[.int .i64 0, .int .i64 0, .int .i64 0, .bool false]) ?_ 0 _ rfl; refine Cmp.b ?_; exact BK180.out) k_ hk)); (case aO => exact (by refine Cmp.rr ?_; exact Kd.R_mono (Kd.R_far (p := ⟨gb180, 3, none⟩) (Kd.R_far (p := ⟨gb180, 2, none⟩) (Kd.R_far (p := ⟨gb180, 1, none⟩) (Kd.R_far (p := ⟨gb180, 0, none⟩) (Kd.R_mono HO_180000.out (fun k_ hk => (⟨hk, hk.2⟩ : _ ∧ k_ ≠ gb180))) (fun _ hk => hk.2) (.int .i64 (rd t181 0))) (fun _ hk => hk.2) (.int .i64 (rd t181 1))) (fun _ hk => hk.2) (.int .i64 (rd t181 2))) (fun _ hk => hk.2) (.bool ((rd t181 3) == 1))) (fun _ hk => hk.1.2))); (case aS => exact (below_size (Cmp.g HB.out))); (case aL => have := LMc18.out; omega); intro v191 w28 ho hb hg hat; rw [← Ny190.out] at ho; have n0_ := Aside0.mk (blk_grown (g := gb175) (o := .cells #[.slice none 0 0] 41 (0, 0)) (by refine Cmp.b ?_; refine blk_far ?_ NB175_180.out _; refine Cmp.b ?_; refine blk_far ?_ NB175_180.out _; refine Cmp.b ?_; refine blk_far ?_ NB175_180.out _; refine Cmp.b ?_; refine blk_far ?_ NB175_180.out _; refine Cmp.b ?_; exact BK175.out) hg (Kd.R_ne HO_180000.out BK175.out (by decide))); have n1_ := Aside0.mk (blk_grown (g := gb179) (o := .cells #[u180000] 41 (0, 0)) (by refine Cmp.b ?_; refine blk_far ?_ NB179_180.out _; refine Cmp.b ?_; refine blk_far ?_ NB179_180.out _; refine Cmp.b ?_; refine blk_far ?_ NB179_180.out _; refine Cmp.b ?_; refine blk_far ?_ NB179_180.out _; refine Cmp.b ?_; exact BK179.out) hg (Kd.R_ne HO_180000.out BK179.out (by decide))); have n2_ := Aside0.mk (blk_grown (g := gb180) (o := .cells #[.int .i64 (rd t181 0), .int .i64 (rd t181 1), .int .i64 (rd t181 2), .bool ((rd t181 3) == 1)] 49 (0, 0)) (by refine Cmp.b ?_; refine blk_put (cs := #[.int .i64 (rd t181 0), .int .i64 (rd t181 1), .int .i64 (rd t181 2), .bool false]) ?_ 3 _ rfl; refine Cmp.b ?_; refine blk_put (cs := #[.int .i64 (rd t181 0), .int .i64 (rd t181 1), .int .i64 0, .bool false]) ?_ 2 _ rfl; refine Cmp.b ?_; refine blk_put (cs := #[.int .i64 (rd t181 0), .int .i64 0, .int .i64 0, .bool false]) ?_ 1 _ rfl; refine Cmp.b ?_; refine blk_put (cs := #[.int .i64 0, .int .i64 0, .int .i64 0, .bool false]) ?_ 0 _ rfl; refine Cmp.b ?_; exact BK180.out) hg (Kd.R_away HO_180000.out (fun _ hk => hk.2))); have n3_ := Aside0.mk (Kd.R_over' (by refine Cmp.rr ?_; exact (Kd.R_mono (Kd.R_far (p := ⟨gb180, 3, none⟩) (Kd.R_far (p := ⟨gb180, 2, none⟩) (Kd.R_far (p := ⟨gb180, 1, none⟩) (Kd.R_far (p := ⟨gb180, 0, none⟩) (Kd.R_types HO185.out BK180.out (by decide)) (fun _ hk => hk.2) (.int .i64 (rd t181 0))) (fun _ hk => hk.2) (.int .i64 (rd t181 1))) (fun _ hk => hk.2) (.int .i64 (rd t181 2))) (fun _ hk => hk.2) (.bool ((rd t181 3) == 1))) (fun _ h_ => h_.1))) (Kd.R_typed (by refine Cmp.rr ?_; exact (Kd.R_mono (Kd.R_far (p := ⟨gb180, 3, none⟩) (Kd.R_far (p := ⟨gb180, 2, none⟩) (Kd.R_far (p := ⟨gb180, 1, none⟩) (Kd.R_far (p := ⟨gb180, 0, none⟩) (Kd.R_mono HO_180000.out (fun k_ hk => (⟨hk, hk.2⟩ : _ ∧ k_ ≠ gb180))) (fun _ hk => hk.2) (.int .i64 (rd t181 0))) (fun _ hk => hk.2) (.int .i64 (rd t181 1))) (fun _ hk => hk.2) (.int .i64 (rd t181 2))) (fun _ hk => hk.2) (.bool ((rd t181 3) == 1))) (fun _ h_ => h_.1)))) (by decide) hg); have n4_ := Aside0.mk (hb); have n5_ := Aside0.mk (ho); clear BK175; clear BK179; clear BK180; clear HO185; clear HB; clear HO_180000; have BK175 := n0_; have BK179 := n1_; have BK180 := n2_; have HO185 := n3_; have HB := n4_; have HO192 := n5_; clear n0_ n1_ n2_ n3_ n4_ n5_; clear ho hb hg hat; obtain ⟨Ao29, co29, eo29⟩ := Kd.R_slice HO192.out; subst eo29; have hcz30_0 : w28.cell? ⟨gb179, 0, none⟩ = some (u180000) := (blk_cell BK179.out 0).trans rfl; have hfz30_0 := blk_frozen BK179.out 0))
             go_roundg k2
             case measure => have := HJ2.out; have := HK2.out; omega
             case rel => exact ⟨(t182), (wrap64 (x8_2 + 1)), (y190), (.slice Ao29 y190.length co29), (by first | rfl | simp | simp [*]), (by first | rfl | simp | simp [*]), H', ⟨by have := HJ2.out; have := HK2.out; omega⟩, ⟨by refine Cmp.rr ?_; exact Kd.R_mono (Kd.R_far (p := ⟨gb179, 0, none⟩) (Kd.R_types HO192.out BK179.out (by decide)) (fun _ hk => hk.2) (.slice Ao29 y190.length co29)) (fun _ hk => trivial)⟩, ⟨by refine Cmp.b ?_; refine blk_far ?_ NB175_179.out _; refine Cmp.b ?_; exact BK175.out⟩, ⟨by refine Cmp.b ?_; refine blk_put (cs := #[u180000]) ?_ 0 _ rfl; refine Cmp.b ?_; exact BK179.out⟩, ⟨Cmp.g HB.out⟩⟩
            ·rw [if_neg c18] at H; exact absurd H (by simp)
           ·rw [if_neg c17] at H; exact absurd H (by simp)
          ·rw [if_neg c16] at H; exact absurd H (by simp)
         ·rw [if_neg c15] at H; exact absurd H (by simp)
        ·rw [if_neg c14] at H; exact absurd H (by simp)
       ·replace c13 := Bool.eq_false_iff.mpr c13
        subst c13
        have H1 : (some (([] : List (S49)), false)) = some (r1, r2) := by rw [if_neg (show ¬ (false = true) by decide)] at H; exact H
        clear H; have H := H1; clear H1
        simp only [Option.some.injEq, Prod.mk.injEq] at H
        obtain ⟨rfl, rfl⟩ := H
        go_wp2_with (first | ((with_reducible refine gate_dst (N := 9) rfl ?_); refine box_event (by rfl) (N := 9) (by rfl) (cs := #[.int .i64 0, .int .i64 0, .int .i64 0, .bool false]) (t := 49) (by first | (go_simp; done) | (go_simp; rfl)) ?_; intro gb180 hg w31 hbox hb; have n0_ := Aside0.mk (Kd.R_below (Kd.R_elderB (Cmp.rr HO_180000.out) gb180 (Nat.le_of_eq hg.symm)) hb); have n1_ := Aside0.mk (blk_below (Cmp.b BK175.out) hb); have n2_ := Aside0.mk (blk_below (Cmp.b BK179.out) hb); have n3_ := Aside0.mk (below_step (Cmp.g HB.out) hb); have n4_ := Aside0.mk (hbox); have n5_ := Aside0.mk ((by rw [hg]; exact (below_size (Cmp.g HB.out)) : w.heap.size ≤ gb180)); have n6_ := Aside0.mk ((by rw [hg]; exact (below_size (Cmp.g HB.out)) : w.heap.size ≤ gb180)); have n7_ := Aside0.mk ((by rw [hg]; exact Nat.ne_of_lt (blk_lt (Cmp.b BK175.out)) : gb175 ≠ gb180)); have n8_ := Aside0.mk ((by rw [hg]; exact Nat.ne_of_gt (blk_lt (Cmp.b BK175.out)) : gb180 ≠ gb175)); have n9_ := Aside0.mk ((by rw [hg]; exact Nat.ne_of_lt (blk_lt (Cmp.b BK179.out)) : gb179 ≠ gb180)); have n10_ := Aside0.mk ((by rw [hg]; exact Nat.ne_of_gt (blk_lt (Cmp.b BK179.out)) : gb180 ≠ gb179)); clear HO_180000; clear BK175; clear BK179; clear HB; have HO_180000 := n0_; have BK175 := n1_; have BK179 := n2_; have HB := n3_; have BK180 := n4_; have GW180 := n5_; have GE180 := n6_; have NB175_180 := n7_; have NB180_175 := n8_; have NB179_180 := n9_; have NB180_179 := n10_; clear n0_ n1_ n2_ n3_ n4_ n5_ n6_ n7_ n8_ n9_ n10_; clear hb hbox hg; have hnb32 := NB180_175.out; have hnc32 := NB175_180.out; have hnb33 := NB180_179.out; have hnc33 := NB179_180.out; have hcz34_0 : w31.cell? ⟨gb180, 0, none⟩ = some (.int .i64 0) := (blk_cell BK180.out 0).trans rfl; have hcz34_1 : w31.cell? ⟨gb180, 1, none⟩ = some (.int .i64 0) := (blk_cell BK180.out 1).trans rfl; have hcz34_2 : w31.cell? ⟨gb180, 2, none⟩ = some (.int .i64 0) := (blk_cell BK180.out 2).trans rfl; have hcz34_3 : w31.cell? ⟨gb180, 3, none⟩ = some (.bool false) := (blk_cell BK180.out 3).trans rfl; have hfz34_0 := blk_frozen BK180.out 0; have hfz34_1 := blk_frozen BK180.out 1; have hfz34_2 := blk_frozen BK180.out 2; have hfz34_3 := blk_frozen BK180.out 3) | ((with_reducible refine gate_callee (f := 74) rfl ?_); refine goesL_ (some 36) rfl rfl Try.func74 (by kernel_rfl) rfl #[.slice A0 l0.length c0, .int .i64 x5_2, .int .i64 4] rfl Cmp.q ?_; (with_reducible refine (spec_DecodeInts.calls k2 _ _ l0 x5_2 4 t181 t182 false _ ?side1 ?side2 A12.out).mono ?_); (case side1 => exact Kd.C_below HR0.out (Cmp.g HB.out)); (case side2 => exact HC0.out); rintro e w35 ⟨v184, rfl, ho0, hb⟩; refine ⟨_, rfl, ?_⟩; have n0_ := Aside0.mk (Kd.R_below (by refine Cmp.rr ?_; exact (Kd.R_mono (Kd.R_far (p := ⟨gb180, 3, none⟩) (Kd.R_far (p := ⟨gb180, 2, none⟩) (Kd.R_far (p := ⟨gb180, 1, none⟩) (Kd.R_far (p := ⟨gb180, 0, none⟩) (Kd.R_mono HO_180000.out (fun k_ hk => (⟨hk, hk.2⟩ : _ ∧ k_ ≠ gb180))) (fun _ hk => hk.2) (.int .i64 0)) (fun _ hk => hk.2) (.int .i64 0)) (fun _ hk => hk.2) (.int .i64 0)) (fun _ hk => hk.2) (.bool false)) (fun _ h_ => h_.1))) hb); have n1_ := Aside0.mk (Kd.R_lower ho0 (below_size (Cmp.g HB.out))); have n2_ := Aside0.mk (blk_below (g := gb175) (o := .cells #[.slice none 0 0] 41 (0, 0)) (by refine Cmp.b ?_; refine blk_far ?_ NB175_180.out _; refine Cmp.b ?_; refine blk_far ?_ NB175_180.out _; refine Cmp.b ?_; refine blk_far ?_ NB175_180.out _; refine Cmp.b ?_; refine blk_far ?_ NB175_180.out _; refine Cmp.b ?_; exact BK175.out) hb); have n3_ := Aside0.mk (blk_below (g := gb179) (o := .cells #[u180000] 41 (0, 0)) (by refine Cmp.b ?_; refine blk_far ?_ NB179_180.out _; refine Cmp.b ?_; refine blk_far ?_ NB179_180.out _; refine Cmp.b ?_; refine blk_far ?_ NB179_180.out _; refine Cmp.b ?_; refine blk_far ?_ NB179_180.out _; refine Cmp.b ?_; exact BK179.out) hb); have n4_ := Aside0.mk (blk_below (g := gb180) (o := .cells #[.int .i64 0, .int .i64 0, .int .i64 0, .bool false] 49 (0, 0)) (by refine Cmp.b ?_; refine blk_put (cs := #[.int .i64 0, .int .i64 0, .int .i64 0, .bool false]) ?_ 3 _ rfl; refine Cmp.b ?_; refine blk_put (cs := #[.int .i64 0, .int .i64 0, .int .i64 0, .bool false]) ?_ 2 _ rfl; refine Cmp.b ?_; refine blk_put (cs := #[.int .i64 0, .int .i64 0, .int .i64 0, .bool false]) ?_ 1 _ rfl; refine Cmp.b ?_; refine blk_put (cs := #[.int .i64 0, .int .i64 0, .int .i64 0, .bool false]) ?_ 0 _ rfl; refine Cmp.b ?_; exact BK180.out) hb); have n5_ := Aside0.mk (below_step (Cmp.g HB.out) hb); clear HO_180000; clear BK175; clear BK179; clear BK180; clear HB; have HO_180000 := n0_; have HO185 := n1_; have BK175 := n2_; have BK179 := n3_; have BK180 := n4_; have HB := n5_; clear n0_ n1_ n2_ n3_ n4_ n5_; (try clear hb); (try clear hb2); (try clear hk); (try clear hi); (try clear ho0); have hnb36 := NB175_179.out; have hnc36 := NB179_175.out; have hcz37_0 : w35.cell? ⟨gb175, 0, none⟩ = some (.slice none 0 0) := (blk_cell BK175.out 0).trans rfl; have hfz37_0 := blk_frozen BK175.out 0))
        refine bodyPost_ret (results_ct rfl _ _ gb175 41 #[.slice none 0 0] (0, 0) _ rfl (by refine Cmp.b ?_; refine blk_put (cs := #[.slice none 0 0]) ?_ 0 _ rfl; refine Cmp.b ?_; exact BK175.out) Try.underlying41 rfl (by kernel_rfl)) rfl ?_
        exact ⟨_, by first | rfl | (simp [errW_none, errW_some] <;> rfl) | (simp [*, errW_none, errW_some] <;> rfl), by first | exact Kd.R_nil _ _ _ _ _ | exact Kd.N_nil _ _ _ _ _ | exact Kd.V_nil _ _ _ _ _ | exact Kd.Q_nil _ _ _ _ _ | exact Kd.S_nil _ _ _ _ _, Cmp.g HB.out⟩
      ·rw [if_neg c11] at H; have c11b0 : decide (x8_2 < t176) = false := decide_eq_false c11; clear c11; replace H := Option.bind_eq_some_iff.mp H; obtain ⟨t193, A380, H⟩ := H; (try dsimp only at H); have A38 := Aside0.mk A380; clear A380
       by_cases c39 : t193 = true
       ·subst c39; rw [if_pos rfl] at H; replace H := Option.bind_eq_some_iff.mp H; obtain ⟨t194, A400, H⟩ := H; (try dsimp only at H); have A40 := Aside0.mk A400; clear A400; replace H := Option.bind_eq_some_iff.mp H; obtain ⟨t197, A410, H⟩ := H; (try dsimp only at H); have A41 := Aside0.mk A410; clear A410
        by_cases c42 : t197 = true
        ·subst c42; rw [if_pos rfl] at H
         simp only [Option.some.injEq, Prod.mk.injEq] at H
         obtain ⟨rfl, rfl⟩ := H; have hnb43 := NB179_175.out; have hnc43 := NB175_179.out
         have hcz44_0 : wr.cell? ⟨gb179, 0, none⟩ = some (u180000) := (blk_cell BK179.out 0).trans rfl
         have hfz44_0 := blk_frozen BK179.out 0
         obtain ⟨Ao45, co45, eo45⟩ := Kd.R_slice HO_180000.out
         subst eo45
         go_wp2_with (first | ((with_reducible refine gate_callee (f := 60) rfl ?_); refine goesL_ (some 68) rfl rfl Try.func60 (by kernel_rfl) rfl #[.agg #[.slice Ao45 x180000_2.length co45]] rfl Cmp.q ?_; (with_reducible refine (spec_IsBundle.calls k2 _ _ x180000_2 true _ ?side1 ?side2 A38.out).mono ?_); (case side1 => exact Cmp.rc (Kd.R_reads' HO_180000.out).2.2); (case side2 => exact (Kd.R_reads' HO_180000.out).2.1); rintro e w46 ⟨rfl, hb⟩; refine ⟨_, rfl, ?_⟩; have n0_ := Aside0.mk (Kd.R_below (Cmp.rr HO_180000.out) hb); have n1_ := Aside0.mk (blk_below (Cmp.b BK175.out) hb); have n2_ := Aside0.mk (blk_below (Cmp.b BK179.out) hb); have n3_ := Aside0.mk (below_step (Cmp.g HB.out) hb); clear HO_180000; clear BK175; clear BK179; clear HB; have HO_180000 := n0_; have BK175 := n1_; have BK179 := n2_; have HB := n3_; clear n0_ n1_ n2_ n3_; (try clear hb); (try clear hb2); (try clear hk); (try clear hi); have hcz47_0 : w46.cell? ⟨gb179, 0, none⟩ = some (.slice Ao45 x180000_2.length co45) := (blk_cell BK179.out 0).trans rfl; have hfz47_0 := blk_frozen BK179.out 0) | (go_at_call 76; (with_reducible refine (spec_EncodeBundle.calls k2 _ _ x180000_2 t194 _ ?side1 ?side2 A40.out).mono ?_); (case side1 => exact Cmp.rc (Kd.R_reads' HO_180000.out).2.2); (case side2 => exact (Kd.R_reads' HO_180000.out).2.1); rintro e w48 ⟨v195, rfl, ho0, hb⟩; have n0_ := Aside0.mk (Kd.R_below (Cmp.rr HO_180000.out) hb); have n1_ := Aside0.mk (Kd.R_lower ho0 (below_size (Cmp.g HB.out))); have n2_ := Aside0.mk (blk_below (Cmp.b BK175.out) hb); have n3_ := Aside0.mk (blk_below (Cmp.b BK179.out) hb); have n4_ := Aside0.mk (below_step (Cmp.g HB.out) hb); clear HO_180000; clear BK175; clear BK179; clear HB; have HO_180000 := n0_; have HO196 := n1_; have BK175 := n2_; have BK179 := n3_; have HB := n4_; clear n0_ n1_ n2_ n3_ n4_; (try clear hb); (try clear hb2); (try clear hk); (try clear hi); (try clear ho0); obtain ⟨Ao49, co49, eo49⟩ := Kd.R_slice HO196.out; subst eo49) | (go_at_call 75; (with_reducible refine (spec_EqualBytes.calls _ _ t194 _ _ l0 true _ ?side1 ?side2 ?side3 ?side4 A41.out).mono ?_); (case side1 => exact Cmp.rc (Kd.R_reads' HO196.out).2.2); (case side2 => exact (Kd.R_reads' HO196.out).2.1); (case side3 => exact Cmp.rc (Kd.C_below HR0.out HB.out)); (case side4 => exact HC0.out); rintro e w' ⟨rfl, ⟨nd, rfl⟩⟩; (try (rw [drewN_self w48]; generalize hq_ : World.drewN w48 _ = w48; have n0_ : Aside0 (Kd.R (Kd.int .u8) 5 w48 w.heap.size (fun _ => True) (.slice Ao49 t194.length co49) t194) := ⟨by rw [← hq_]; exact (Cmp.rr HO196.out)⟩; have n1_ : Aside0 (Kd.R k49 49 w48 w.heap.size (fun _ => True) (.slice Ao45 x180000_2.length co45) x180000_2) := ⟨by rw [← hq_]; exact (Cmp.rr HO_180000.out)⟩; have n2_ : Aside0 (w48.heap[gb175]? = some (.cells #[.slice none 0 0] 41 (0, 0))) := ⟨by rw [← hq_]; exact (Cmp.b BK175.out)⟩; have n3_ : Aside0 (w48.heap[gb179]? = some (.cells #[.slice Ao45 x180000_2.length co45] 41 (0, 0))) := ⟨by rw [← hq_]; exact (Cmp.b BK179.out)⟩; have n4_ : Aside0 (Below w.heap.size w w48) := ⟨by rw [← hq_]; exact (Cmp.g HB.out)⟩; clear HO196 HO_180000 BK175 BK179 HB hq_; have HO196 := n0_; have HO_180000 := n1_; have BK175 := n2_; have BK179 := n3_; have HB := n4_; clear n0_ n1_ n2_ n3_ n4_)); have hcz50_0 : w48.cell? ⟨gb179, 0, none⟩ = some (.slice Ao45 x180000_2.length co45) := (blk_cell BK179.out 0).trans rfl; have hfz50_0 := blk_frozen BK179.out 0; have hcz51_0 : w48.cell? ⟨gb175, 0, none⟩ = some (.slice none 0 0) := (blk_cell BK175.out 0).trans rfl; have hfz51_0 := blk_frozen BK175.out 0))
         refine bodyPost_ret (results_ct rfl _ _ gb175 41 #[.slice Ao45 x180000_2.length co45] (0, 0) _ rfl (by refine Cmp.b ?_; refine blk_put (cs := #[.slice none 0 0]) ?_ 0 _ rfl; refine Cmp.b ?_; exact BK175.out) Try.underlying41 rfl (by kernel_rfl)) rfl ?_
         exact ⟨_, by first | rfl | (simp [errW_none, errW_some] <;> rfl) | (simp [*, errW_none, errW_some] <;> rfl), by refine Cmp.rr ?_; exact Kd.R_mono (Kd.R_far (p := ⟨gb175, 0, none⟩) (Kd.R_types HO_180000.out BK175.out (by decide)) (fun _ hk => hk.2) (.slice Ao45 x180000_2.length co45)) (fun _ hk => trivial), Cmp.g HB.out⟩
        ·replace c42 := Bool.eq_false_iff.mpr c42
         subst c42
         have H1 : (some (([] : List (S49)), false)) = some (r1, r2) := by rw [if_neg (show ¬ (false = true) by decide)] at H; exact H
         clear H; have H := H1; clear H1
         simp only [Option.some.injEq, Prod.mk.injEq] at H
         obtain ⟨rfl, rfl⟩ := H; have hnb52 := NB179_175.out; have hnc52 := NB175_179.out
         have hcz53_0 : wr.cell? ⟨gb179, 0, none⟩ = some (u180000) := (blk_cell BK179.out 0).trans rfl
         have hfz53_0 := blk_frozen BK179.out 0
         obtain ⟨Ao54, co54, eo54⟩ := Kd.R_slice HO_180000.out
         subst eo54
         go_wp2_with (first | ((with_reducible refine gate_callee (f := 60) rfl ?_); refine goesL_ (some 68) rfl rfl Try.func60 (by kernel_rfl) rfl #[.agg #[.slice Ao54 x180000_2.length co54]] rfl Cmp.q ?_; (with_reducible refine (spec_IsBundle.calls k2 _ _ x180000_2 true _ ?side1 ?side2 A38.out).mono ?_); (case side1 => exact Cmp.rc (Kd.R_reads' HO_180000.out).2.2); (case side2 => exact (Kd.R_reads' HO_180000.out).2.1); rintro e w55 ⟨rfl, hb⟩; refine ⟨_, rfl, ?_⟩; have n0_ := Aside0.mk (Kd.R_below (Cmp.rr HO_180000.out) hb); have n1_ := Aside0.mk (blk_below (Cmp.b BK175.out) hb); have n2_ := Aside0.mk (blk_below (Cmp.b BK179.out) hb); have n3_ := Aside0.mk (below_step (Cmp.g HB.out) hb); clear HO_180000; clear BK175; clear BK179; clear HB; have HO_180000 := n0_; have BK175 := n1_; have BK179 := n2_; have HB := n3_; clear n0_ n1_ n2_ n3_; (try clear hb); (try clear hb2); (try clear hk); (try clear hi); have hcz56_0 : w55.cell? ⟨gb179, 0, none⟩ = some (.slice Ao54 x180000_2.length co54) := (blk_cell BK179.out 0).trans rfl; have hfz56_0 := blk_frozen BK179.out 0) | (go_at_call 76; (with_reducible refine (spec_EncodeBundle.calls k2 _ _ x180000_2 t194 _ ?side1 ?side2 A40.out).mono ?_); (case side1 => exact Cmp.rc (Kd.R_reads' HO_180000.out).2.2); (case side2 => exact (Kd.R_reads' HO_180000.out).2.1); rintro e w57 ⟨v195, rfl, ho0, hb⟩; have n0_ := Aside0.mk (Kd.R_below (Cmp.rr HO_180000.out) hb); have n1_ := Aside0.mk (Kd.R_lower ho0 (below_size (Cmp.g HB.out))); have n2_ := Aside0.mk (blk_below (Cmp.b BK175.out) hb); have n3_ := Aside0.mk (blk_below (Cmp.b BK179.out) hb); have n4_ := Aside0.mk (below_step (Cmp.g HB.out) hb); clear HO_180000; clear BK175; clear BK179; clear HB; have HO_180000 := n0_; have HO196 := n1_; have BK175 := n2_; have BK179 := n3_; have HB := n4_; clear n0_ n1_ n2_ n3_ n4_; (try clear hb); (try clear hb2); (try clear hk); (try clear hi); (try clear ho0); obtain ⟨Ao58, co58, eo58⟩ := Kd.R_slice HO196.out; subst eo58) | (go_at_call 75; (with_reducible refine (spec_EqualBytes.calls _ _ t194 _ _ l0 false _ ?side1 ?side2 ?side3 ?side4 A41.out).mono ?_); (case side1 => exact Cmp.rc (Kd.R_reads' HO196.out).2.2); (case side2 => exact (Kd.R_reads' HO196.out).2.1); (case side3 => exact Cmp.rc (Kd.C_below HR0.out HB.out)); (case side4 => exact HC0.out); rintro e w' ⟨rfl, ⟨nd, rfl⟩⟩; (try (rw [drewN_self w57]; generalize hq_ : World.drewN w57 _ = w57; have n0_ : Aside0 (Kd.R (Kd.int .u8) 5 w57 w.heap.size (fun _ => True) (.slice Ao58 t194.length co58) t194) := ⟨by rw [← hq_]; exact (Cmp.rr HO196.out)⟩; have n1_ : Aside0 (Kd.R k49 49 w57 w.heap.size (fun _ => True) (.slice Ao54 x180000_2.length co54) x180000_2) := ⟨by rw [← hq_]; exact (Cmp.rr HO_180000.out)⟩; have n2_ : Aside0 (w57.heap[gb175]? = some (.cells #[.slice none 0 0] 41 (0, 0))) := ⟨by rw [← hq_]; exact (Cmp.b BK175.out)⟩; have n3_ : Aside0 (w57.heap[gb179]? = some (.cells #[.slice Ao54 x180000_2.length co54] 41 (0, 0))) := ⟨by rw [← hq_]; exact (Cmp.b BK179.out)⟩; have n4_ : Aside0 (Below w.heap.size w w57) := ⟨by rw [← hq_]; exact (Cmp.g HB.out)⟩; clear HO196 HO_180000 BK175 BK179 HB hq_; have HO196 := n0_; have HO_180000 := n1_; have BK175 := n2_; have BK179 := n3_; have HB := n4_; clear n0_ n1_ n2_ n3_ n4_)); have hcz59_0 : w57.cell? ⟨gb175, 0, none⟩ = some (.slice none 0 0) := (blk_cell BK175.out 0).trans rfl; have hfz59_0 := blk_frozen BK175.out 0))
         refine bodyPost_ret (results_ct rfl _ _ gb175 41 #[.slice none 0 0] (0, 0) _ rfl (by refine Cmp.b ?_; refine blk_put (cs := #[.slice none 0 0]) ?_ 0 _ rfl; refine Cmp.b ?_; exact BK175.out) Try.underlying41 rfl (by kernel_rfl)) rfl ?_
         exact ⟨_, by first | rfl | (simp [errW_none, errW_some] <;> rfl) | (simp [*, errW_none, errW_some] <;> rfl), by first | exact Kd.R_nil _ _ _ _ _ | exact Kd.N_nil _ _ _ _ _ | exact Kd.V_nil _ _ _ _ _ | exact Kd.Q_nil _ _ _ _ _ | exact Kd.S_nil _ _ _ _ _, Cmp.g HB.out⟩
       ·replace c39 := Bool.eq_false_iff.mpr c39
        subst c39
        have H1 : (some (([] : List (S49)), false)) = some (r1, r2) := by rw [if_neg (show ¬ (false = true) by decide)] at H; exact H
        clear H; have H := H1; clear H1
        simp only [Option.some.injEq, Prod.mk.injEq] at H
        obtain ⟨rfl, rfl⟩ := H; have hnb60 := NB179_175.out; have hnc60 := NB175_179.out
        have hcz61_0 : wr.cell? ⟨gb179, 0, none⟩ = some (u180000) := (blk_cell BK179.out 0).trans rfl
        have hfz61_0 := blk_frozen BK179.out 0
        obtain ⟨Ao62, co62, eo62⟩ := Kd.R_slice HO_180000.out
        subst eo62
        go_wp2_with (first | ((with_reducible refine gate_callee (f := 60) rfl ?_); refine goesL_ (some 68) rfl rfl Try.func60 (by kernel_rfl) rfl #[.agg #[.slice Ao62 x180000_2.length co62]] rfl Cmp.q ?_; (with_reducible refine (spec_IsBundle.calls k2 _ _ x180000_2 false _ ?side1 ?side2 A38.out).mono ?_); (case side1 => exact Cmp.rc (Kd.R_reads' HO_180000.out).2.2); (case side2 => exact (Kd.R_reads' HO_180000.out).2.1); rintro e w63 ⟨rfl, hb⟩; refine ⟨_, rfl, ?_⟩; have n0_ := Aside0.mk (Kd.R_below (Cmp.rr HO_180000.out) hb); have n1_ := Aside0.mk (blk_below (Cmp.b BK175.out) hb); have n2_ := Aside0.mk (blk_below (Cmp.b BK179.out) hb); have n3_ := Aside0.mk (below_step (Cmp.g HB.out) hb); clear HO_180000; clear BK175; clear BK179; clear HB; have HO_180000 := n0_; have BK175 := n1_; have BK179 := n2_; have HB := n3_; clear n0_ n1_ n2_ n3_; (try clear hb); (try clear hb2); (try clear hk); (try clear hi); have hcz64_0 : w63.cell? ⟨gb175, 0, none⟩ = some (.slice none 0 0) := (blk_cell BK175.out 0).trans rfl; have hfz64_0 := blk_frozen BK175.out 0))
        refine bodyPost_ret (results_ct rfl _ _ gb175 41 #[.slice none 0 0] (0, 0) _ rfl (by refine Cmp.b ?_; refine blk_put (cs := #[.slice none 0 0]) ?_ 0 _ rfl; refine Cmp.b ?_; exact BK175.out) Try.underlying41 rfl (by kernel_rfl)) rfl ?_
        exact ⟨_, by first | rfl | (simp [errW_none, errW_some] <;> rfl) | (simp [*, errW_none, errW_some] <;> rfl), by first | exact Kd.R_nil _ _ _ _ _ | exact Kd.N_nil _ _ _ _ _ | exact Kd.V_nil _ _ _ _ _ | exact Kd.Q_nil _ _ _ _ _ | exact Kd.S_nil _ _ _ _ _, Cmp.g HB.out⟩

/-! ### laws_toByteS: function 36 -/
def laws_toByteS.l0 : Nat → List Int → List Int → Int → Option (List Int)
  | 0, _, _, _ => none
  | k + 1, x0, x3, x4 => if x4 < (x0.length : Int) then (if 0 ≤ x4 then (if x4 < (x3.length : Int) then (laws_toByteS.l0 k x0 (x3.set (x4 : Int).toNat (rd x0 x4)) (wrap64 (x4 + 1))) else (none)) else (none)) else (some x3)
def laws_toByteS.f (k : Nat) (l0 : List Int) : Option (List Int) := if 0 ≤ (l0.length : Int) then (if ((l0.length : Int) : Int).toNat ≤ 281474976710656 then (laws_toByteS.l0 k l0 (List.replicate ((l0.length : Int) : Int).toNat 0) 0) else (none)) else (none)
theorem laws_toByteS.mono_l : ∀ k, (∀ y0 y1 y2, LeO (laws_toByteS.l0 k y0 y1 y2) (laws_toByteS.l0 (k + 1) y0 y1 y2))
  | 0 => fun _ _ _ r h => by simp [laws_toByteS.l0] at h
  | k + 1 => by
    have ih0 := laws_toByteS.mono_l k
    · intro y0 y1 y2
      unfold laws_toByteS.l0
      repeat' first
      | (with_reducible exact ih0 _ _ _)
      | (with_reducible exact LeO.refl _)
      | (with_reducible exact LeO.none _)
      | (with_reducible refine LeO.ite ?_ ?_)
      | (with_reducible refine LeO.bind ?_ (fun _ => ?_))
      | exact ih0 _ _ _
      | exact LeO.none _
      | refine LeO.ite ?_ ?_
      | refine LeO.bind ?_ (fun _ => ?_)
theorem laws_toByteS.mono : ∀ a0 k, LeO (laws_toByteS.f k a0) (laws_toByteS.f (k + 1) a0) := by
  intro a0 k
  have ih0 := laws_toByteS.mono_l k
  unfold laws_toByteS.f
  repeat' first
      | (with_reducible exact ih0 _ _ _)
      | (with_reducible exact LeO.refl _)
      | (with_reducible exact LeO.none _)
      | (with_reducible refine LeO.ite ?_ ?_)
      | (with_reducible refine LeO.bind ?_ (fun _ => ?_))
      | exact ih0 _ _ _
      | exact LeO.none _
      | refine LeO.ite ?_ ?_
      | refine LeO.bind ?_ (fun _ => ?_)
set_option maxHeartbeats 8000000 in
set_option maxRecDepth 100000 in
theorem laws_toByteS.calls (k : Nat) (A0 : Option Addr) (c0 : Nat) (l0 : List Int) (r : List Int) (w : World) (hr0 : Kd.C (Kd.int .u8) w A0 l0.length l0) (hc0 : l0.length ≤ c0) (h : laws_toByteS.f k l0 = some r) :
    Calls Try.prog 36 #[.slice A0 l0.length c0] w fun e w' => ∃ v0_ : Value, e = .returned (v0_) ∧ Kd.R (Kd.int .u8) 5 w' w.heap.size (fun _ => True) v0_ r ∧ Below w.heap.size w w' := by
 have HR0 := Aside0.mk hr0; have HC0 := Aside0.mk hc0; clear hr0 hc0
 have HB := Aside0.mk (Below.refl w.heap.size w)
 have H : (if 0 ≤ (l0.length : Int) then (if ((l0.length : Int) : Int).toNat ≤ 281474976710656 then (laws_toByteS.l0 k l0 (List.replicate ((l0.length : Int) : Int).toNat 0) 0) else (none)) else (none)) = some r := h
 clear h
 by_cases c2 : 0 ≤ (l0.length : Int)
 ·rw [if_pos c2] at H
  have c2b0 := eq_true c2
  have c2b1 : decide (0 ≤ (l0.length : Int)) = true := decide_eq_true c2
  clear c2
  by_cases c3 : ((l0.length : Int) : Int).toNat ≤ 281474976710656
  ·rw [if_pos c3] at H
   have c3b0 := eq_true c3
   have c3b1 : decide (((l0.length : Int) : Int).toNat ≤ 281474976710656) = true := decide_eq_true c3
   clear c3
   obtain ⟨y198, hy198⟩ : ∃ y_ : List Int, y_ = (List.replicate ((l0.length : Int) : Int).toNat 0) := ⟨_, rfl⟩
   replace H : (laws_toByteS.l0 k l0 y198 0) = some r := by first | (rw [hy198]; with_reducible exact H) | (have H2_ := (Option.bind_some _ _).symm.trans H; rw [hy198]; with_reducible exact H2_) | (have H2_ := (Option.bind_some _ _).symm.trans H; with_reducible exact H2_) | with_reducible exact H | (rw [hy198]; exact H) | exact H
   have Ny198 := Aside0.mk hy198; clear hy198
   have H' := Aside0.mk H
   clear H
   go_enter Try.func36, Try.ntmps36
   go_wp2_with (first | ((with_reducible refine gate_dst (N := 7) rfl ?_); refine Kd.R_make (Kd.int .u8) _ 5 rfl (N := 7) rfl 37 _ _ rfl (l0.length : Int) rfl rfl Try.underlying37 (.int .u8 0) 1 info5 rfl (by decide) (by omega) 0 (ok := fun _ => True) (okp := fun _ => True) rfl (fun _ hk => hk) trivial (of_decide_eq_true Cmp.d) (Nat.le_trans (Nat.mul_le_mul_right _ (of_decide_eq_true Cmp.d : (l0.length : Int).toNat ≤ 281474976710656)) (by omega)) (Below.refl _ _) (Nat.le_refl _) ?_; intro v199 w4 ho5 hb hg_ hnew_; clear hg_ hnew_; (first | rw [← Ny198.out] at ho5 | (simp only [Int.reduceToNat] at ho5; rw [← Ny198.out] at ho5)); have n0_ := Aside0.mk (Kd.R_lower ho5 (below_size (Cmp.g HB.out))); have n1_ := Aside0.mk (below_step (Cmp.g HB.out) hb); clear HB; have HO200 := n0_; have HB := n1_; clear n0_ n1_; clear hb ho5))
   go_loopg [4] k (fun kq v4 w' => ∃ (x3_1 : List Int) (x4_1 : Int), v4 = .int .i64 x4_1 ∧ Aside0 (laws_toByteS.l0 kq l0 x3_1 x4_1 = some r) ∧ Aside0 (kq ≤ k) ∧ Aside0 (Kd.R (Kd.int .u8) 5 w' w.heap.size (fun _ => True) v199 x3_1) ∧ Aside0 (Below w.heap.size w w'))
   case atStart => exact ⟨(y198), (0), (by first | rfl | simp | simp [*]), H', ⟨Nat.le_refl _⟩, ⟨by refine Cmp.rr ?_; exact HO200.out⟩, ⟨Cmp.g HB.out⟩⟩
   case round =>
    clear H'
    (try clear c2); (try clear c2b0); (try clear c2b1); (try clear p2); (try clear c3); (try clear c3b0); (try clear c3b1)
    obtain ⟨x3_1, x4_1, rfl, HA, HK1, HO_3, HB⟩ := hrel
    cases gk with
    | zero => exact absurd HA.out (by simp [laws_toByteS.l0])
    | succ k1 =>
     have H := HA.out; clear HA
     simp only [laws_toByteS.l0] at H
     by_cases c6 : x4_1 < (l0.length : Int)
     ·rw [if_pos c6] at H
      have c6b0 : decide (x4_1 < (l0.length : Int)) = true := decide_eq_true c6
      clear c6
      by_cases c7 : 0 ≤ x4_1
      ·rw [if_pos c7] at H; have c7b0 : decide (0 ≤ x4_1) = true := decide_eq_true c7; clear c7
       by_cases c8 : x4_1 < (x3_1.length : Int)
       ·rw [if_pos c8] at H
        have c8b0 : decide (x4_1 < (x3_1.length : Int)) = true := decide_eq_true c8
        clear c8
        obtain ⟨y202, hy202⟩ : ∃ y_ : List Int, y_ = (x3_1.set (x4_1 : Int).toNat (rd l0 x4_1)) := ⟨_, rfl⟩
        replace H : (laws_toByteS.l0 k1 l0 y202 (wrap64 (x4_1 + 1))) = some r := by first | (rw [hy202]; with_reducible exact H) | (have H2_ := (Option.bind_some _ _).symm.trans H; rw [hy202]; with_reducible exact H2_) | (have H2_ := (Option.bind_some _ _).symm.trans H; with_reducible exact H2_) | with_reducible exact H | (rw [hy202]; exact H) | exact H
        have Ny202 := Aside0.mk hy202; clear hy202
        have H' := Aside0.mk H
        clear H
        have p201 : 0 ≤ (x4_1 : Int) := of_decide_eq_true Cmp.d
        have q201 : x4_1 < (l0.length : Int) := of_decide_eq_true Cmp.d
        obtain ⟨ad201, e201, hx201_0⟩ := Kd.at_int HR0.out x4_1 p201 q201
        cases e201
        replace hx201_0 := (HB.out.cell (World.block_lt_of_cell? w _ hx201_0)).trans hx201_0
        replace p201 := eq_true p201; replace q201 := eq_true q201
        have p9 : 0 ≤ (x4_1 : Int) := of_decide_eq_true Cmp.d
        have q9 : (x4_1 : Int) < ((x3_1.length : Int) : Int) := of_decide_eq_true Cmp.d
        obtain ⟨go9, co9, eo9, gb9, gl9, cl9, HG9⟩ := Kd.R_form HO_3.out (by omega)
        (first | cases eo9 | (injection eo9 with ea_ en_ ec_; (first | subst ea_ | (injection ea_ with ea_; subst ea_)); subst ec_; clear en_))
        have GB9 := Aside0.mk gb9; have GG9 := Aside0.mk HG9; clear gb9 gl9 HG9
        obtain ⟨hx9_0, hf9_0⟩ := Kd.R_celln 0 HO_3.out (x4_1 : Int) p9 q9
        replace p9 := eq_true p9; replace q9 := eq_true q9
        have HP10 := Kd.R_putg HO_3.out (x4_1 : Int) (rd l0 x4_1)
        go_wp2_with (first | ((with_reducible refine gate_store (t := 5) (p := 20) rfl ?_); refine store_event (t := 5) (p := 20) (v := ?vo_w11) (w1 := (wr.setCell ⟨go9, (x4_1 : Int).toNat, none⟩ (.int .u8 (rd l0 x4_1)))) ?hg ?ho ?hn ?hr ?_; (case ho => rfl); (case hg => rfl); (case hn => rfl); (case hr => first | (go_simp; done) | (go_simp; rfl)); intro w11 hw; have hg : wr.grownBy w11 (some go9) := (by rw [hw]; exact HP10.2); have hp_ : Kd.R (Kd.int .u8) 5 w11 w.heap.size (fun _ => True) (.slice (some ⟨go9, 0, none⟩) x3_1.length co9) y202 := (by rw [hw, Ny202.out]; exact HP10.1); clear HP10; have n0_ := Aside0.mk (hp_); have n1_ := Aside0.mk ((by rw [hw]; exact below_set (HB.out) GB9.out : Below w.heap.size w w11)); clear HO_3; clear HB; have HO_3 := n0_; have HB := n1_; clear n0_ n1_; clear hg hw hp_))
        go_roundg k1
        case measure => have := HK1.out; omega
        case rel => exact ⟨(y202), (wrap64 (x4_1 + 1)), (by first | rfl | simp | simp [*]), H', ⟨by have := HK1.out; omega⟩, ⟨by refine Cmp.rr ?_; exact HO_3.out⟩, ⟨Cmp.g HB.out⟩⟩
       ·rw [if_neg c8] at H; exact absurd H (by simp)
      ·rw [if_neg c7] at H; exact absurd H (by simp)
     ·rw [if_neg c6] at H
      have c6b0 : decide (x4_1 < (l0.length : Int)) = false := decide_eq_false c6
      clear c6
      obtain rfl := Option.some.inj H
      go_wp2
      go_ret
      exact ⟨_, by first | rfl | (simp [errW_none, errW_some] <;> rfl) | (simp [*, errW_none, errW_some] <;> rfl), by refine Cmp.rr ?_; exact HO_3.out, Cmp.g HB.out⟩
  ·rw [if_neg c3] at H; exact absurd H (by simp)
 ·rw [if_neg c2] at H; exact absurd H (by simp)

/-! ### impl_InRange: function 50 -/
def impl_InRange.f (a0 : Int) (a1 : Int) (a2 : Int) : Option (Bool) := if a1 ≤ a0 then (some (decide (a0 ≤ a2))) else (some false)
set_option maxHeartbeats 8000000 in
set_option maxRecDepth 100000 in
theorem impl_InRange.calls (a0 : Int) (a1 : Int) (a2 : Int) (r : Bool) (w : World) (h : impl_InRange.f a0 a1 a2 = some r) :
    Calls Try.prog 50 #[.int .i64 a0, .int .i64 a1, .int .i64 a2] w fun e w' => e = .returned (.bool r) ∧ Drawn0 w w' := by
 have H : (if a1 ≤ a0 then (some (decide (a0 ≤ a2))) else (some false)) = some r := h
 clear h
 by_cases c4 : a1 ≤ a0
 ·rw [if_pos c4] at H; have c4b0 : decide (a1 ≤ a0) = true := decide_eq_true c4; clear c4
  obtain rfl := Option.some.inj H
  go_enter Try.func50, Try.ntmps50
  go_wp2
  go_ret
  exact ⟨by first | rfl | (simp; done) | (simp [*]; done), by repeat (first | exact Drawn0.refl _ | apply Drawn0.step)⟩
 ·rw [if_neg c4] at H; have c4b0 : decide (a1 ≤ a0) = false := decide_eq_false c4; clear c4
  obtain rfl := Option.some.inj H
  go_enter Try.func50, Try.ntmps50
  go_wp2
  go_ret
  exact ⟨by first | rfl | (simp; done) | (simp [*]; done), by repeat (first | exact Drawn0.refl _ | apply Drawn0.step)⟩

/-! ### impl_entryBefore: function 63 -/
def impl_entryBefore.f (a0_0 : Int) (a0_1 : Int) (a0_2 : Int) (a0_3 : Bool) (a1_0 : Int) (a1_1 : Int) (a1_2 : Int) (a1_3 : Bool) : Option (Bool) := if a0_0 < a1_0 then (some true) else (if a0_0 = a1_0 then (some (decide (a0_1 < a1_1))) else (some false))
set_option maxHeartbeats 8000000 in
set_option maxRecDepth 100000 in
theorem impl_entryBefore.calls (a0_0 : Int) (a0_1 : Int) (a0_2 : Int) (a0_3 : Bool) (a1_0 : Int) (a1_1 : Int) (a1_2 : Int) (a1_3 : Bool) (r : Bool) (w : World) (h : impl_entryBefore.f a0_0 a0_1 a0_2 a0_3 a1_0 a1_1 a1_2 a1_3 = some r) :
    Calls Try.prog 63 #[.agg #[.int .i64 a0_0, .int .i64 a0_1, .int .i64 a0_2, .bool a0_3], .agg #[.int .i64 a1_0, .int .i64 a1_1, .int .i64 a1_2, .bool a1_3]] w fun e w' => e = .returned (.bool r) ∧ Below w.heap.size w w' := by
 have hu49 := Try.underlying49
 have HB := Aside0.mk (Below.refl w.heap.size w)
 have H : (if a0_0 < a1_0 then (some true) else (if a0_0 = a1_0 then (some (decide (a0_1 < a1_1))) else (some false))) = some r := h
 clear h
 by_cases c3 : a0_0 < a1_0
 ·rw [if_pos c3] at H; have c3b0 : decide (a0_0 < a1_0) = true := decide_eq_true c3; clear c3
  obtain rfl := Option.some.inj H
  go_enter Try.func63, Try.ntmps63
  go_wp2_with (first | ((with_reducible refine gate_dst (N := 2) rfl ?_); refine box_event (by rfl) (N := 2) (by rfl) (cs := #[.int .i64 a0_0, .int .i64 a0_1, .int .i64 a0_2, .bool a0_3]) (t := 49) (by first | (go_simp; done) | (go_simp; rfl)) ?_; intro gb203 hg w4 hbox hb; have n0_ := Aside0.mk (below_step (Cmp.g HB.out) hb); have n1_ := Aside0.mk (hbox); have n2_ := Aside0.mk ((by rw [hg]; exact (below_size (Cmp.g HB.out)) : w.heap.size ≤ gb203)); have n3_ := Aside0.mk ((by rw [hg]; exact (below_size (Cmp.g HB.out)) : w.heap.size ≤ gb203)); clear HB; have HB := n0_; have BK203 := n1_; have GW203 := n2_; have GE203 := n3_; clear n0_ n1_ n2_ n3_; clear hb hbox hg) | ((with_reducible refine gate_dst (N := 3) rfl ?_); refine box_event (by rfl) (N := 3) (by rfl) (cs := #[.int .i64 a1_0, .int .i64 a1_1, .int .i64 a1_2, .bool a1_3]) (t := 49) (by first | (go_simp; done) | (go_simp; rfl)) ?_; intro gb204 hg w5 hbox hb; have n0_ := Aside0.mk (blk_below (Cmp.b BK203.out) hb); have n1_ := Aside0.mk (below_step (Cmp.g HB.out) hb); have n2_ := Aside0.mk (hbox); have n3_ := Aside0.mk ((by rw [hg]; exact (below_size (Cmp.g HB.out)) : w.heap.size ≤ gb204)); have n4_ := Aside0.mk ((by rw [hg]; exact (below_size (Cmp.g HB.out)) : w.heap.size ≤ gb204)); have n5_ := Aside0.mk ((by rw [hg]; exact Nat.ne_of_lt (blk_lt (Cmp.b BK203.out)) : gb203 ≠ gb204)); have n6_ := Aside0.mk ((by rw [hg]; exact Nat.ne_of_gt (blk_lt (Cmp.b BK203.out)) : gb204 ≠ gb203)); clear BK203; clear HB; have BK203 := n0_; have HB := n1_; have BK204 := n2_; have GW204 := n3_; have GE204 := n4_; have NB203_204 := n5_; have NB204_203 := n6_; clear n0_ n1_ n2_ n3_ n4_ n5_ n6_; clear hb hbox hg; have hnb6 := NB203_204.out; have hnc6 := NB204_203.out; have hcz7_0 : w5.cell? ⟨gb203, 0, none⟩ = some (.int .i64 a0_0) := (blk_cell BK203.out 0).trans rfl; have hcz7_1 : w5.cell? ⟨gb203, 1, none⟩ = some (.int .i64 a0_1) := (blk_cell BK203.out 1).trans rfl; have hcz7_2 : w5.cell? ⟨gb203, 2, none⟩ = some (.int .i64 a0_2) := (blk_cell BK203.out 2).trans rfl; have hcz7_3 : w5.cell? ⟨gb203, 3, none⟩ = some (.bool a0_3) := (blk_cell BK203.out 3).trans rfl; have hfz7_0 := blk_frozen BK203.out 0; have hfz7_1 := blk_frozen BK203.out 1; have hfz7_2 := blk_frozen BK203.out 2; have hfz7_3 := blk_frozen BK203.out 3; have hcz8_0 : w5.cell? ⟨gb204, 0, none⟩ = some (.int .i64 a1_0) := (blk_cell BK204.out 0).trans rfl; have hcz8_1 : w5.cell? ⟨gb204, 1, none⟩ = some (.int .i64 a1_1) := (blk_cell BK204.out 1).trans rfl; have hcz8_2 : w5.cell? ⟨gb204, 2, none⟩ = some (.int .i64 a1_2) := (blk_cell BK204.out 2).trans rfl; have hcz8_3 : w5.cell? ⟨gb204, 3, none⟩ = some (.bool a1_3) := (blk_cell BK204.out 3).trans rfl; have hfz8_0 := blk_frozen BK204.out 0; have hfz8_1 := blk_frozen BK204.out 1; have hfz8_2 := blk_frozen BK204.out 2; have hfz8_3 := blk_frozen BK204.out 3))
  go_ret
  exact ⟨by first | rfl | (simp [errW_none, errW_some] <;> rfl) | (simp [*, errW_none, errW_some] <;> rfl), Cmp.g HB.out⟩
 ·rw [if_neg c3] at H; have c3b0 : decide (a0_0 < a1_0) = false := decide_eq_false c3; clear c3
  by_cases c9 : a0_0 = a1_0
  ·rw [if_pos c9] at H; have c9b0 : (a0_0 == a1_0) = true := beq_iff_eq.mpr c9; have c9b1 : (a0_0 != a1_0) = false := bne_eq_false_iff_eq.mpr c9; clear c9
   obtain rfl := Option.some.inj H
   go_enter Try.func63, Try.ntmps63
   go_wp2_with (first | ((with_reducible refine gate_dst (N := 2) rfl ?_); refine box_event (by rfl) (N := 2) (by rfl) (cs := #[.int .i64 a0_0, .int .i64 a0_1, .int .i64 a0_2, .bool a0_3]) (t := 49) (by first | (go_simp; done) | (go_simp; rfl)) ?_; intro gb203 hg w10 hbox hb; have n0_ := Aside0.mk (below_step (Cmp.g HB.out) hb); have n1_ := Aside0.mk (hbox); have n2_ := Aside0.mk ((by rw [hg]; exact (below_size (Cmp.g HB.out)) : w.heap.size ≤ gb203)); have n3_ := Aside0.mk ((by rw [hg]; exact (below_size (Cmp.g HB.out)) : w.heap.size ≤ gb203)); clear HB; have HB := n0_; have BK203 := n1_; have GW203 := n2_; have GE203 := n3_; clear n0_ n1_ n2_ n3_; clear hb hbox hg) | ((with_reducible refine gate_dst (N := 3) rfl ?_); refine box_event (by rfl) (N := 3) (by rfl) (cs := #[.int .i64 a1_0, .int .i64 a1_1, .int .i64 a1_2, .bool a1_3]) (t := 49) (by first | (go_simp; done) | (go_simp; rfl)) ?_; intro gb204 hg w11 hbox hb; have n0_ := Aside0.mk (blk_below (Cmp.b BK203.out) hb); have n1_ := Aside0.mk (below_step (Cmp.g HB.out) hb); have n2_ := Aside0.mk (hbox); have n3_ := Aside0.mk ((by rw [hg]; exact (below_size (Cmp.g HB.out)) : w.heap.size ≤ gb204)); have n4_ := Aside0.mk ((by rw [hg]; exact (below_size (Cmp.g HB.out)) : w.heap.size ≤ gb204)); have n5_ := Aside0.mk ((by rw [hg]; exact Nat.ne_of_lt (blk_lt (Cmp.b BK203.out)) : gb203 ≠ gb204)); have n6_ := Aside0.mk ((by rw [hg]; exact Nat.ne_of_gt (blk_lt (Cmp.b BK203.out)) : gb204 ≠ gb203)); clear BK203; clear HB; have BK203 := n0_; have HB := n1_; have BK204 := n2_; have GW204 := n3_; have GE204 := n4_; have NB203_204 := n5_; have NB204_203 := n6_; clear n0_ n1_ n2_ n3_ n4_ n5_ n6_; clear hb hbox hg; have hnb12 := NB203_204.out; have hnc12 := NB204_203.out; have hcz13_0 : w11.cell? ⟨gb203, 0, none⟩ = some (.int .i64 a0_0) := (blk_cell BK203.out 0).trans rfl; have hcz13_1 : w11.cell? ⟨gb203, 1, none⟩ = some (.int .i64 a0_1) := (blk_cell BK203.out 1).trans rfl; have hcz13_2 : w11.cell? ⟨gb203, 2, none⟩ = some (.int .i64 a0_2) := (blk_cell BK203.out 2).trans rfl; have hcz13_3 : w11.cell? ⟨gb203, 3, none⟩ = some (.bool a0_3) := (blk_cell BK203.out 3).trans rfl; have hfz13_0 := blk_frozen BK203.out 0; have hfz13_1 := blk_frozen BK203.out 1; have hfz13_2 := blk_frozen BK203.out 2; have hfz13_3 := blk_frozen BK203.out 3; have hcz14_0 : w11.cell? ⟨gb204, 0, none⟩ = some (.int .i64 a1_0) := (blk_cell BK204.out 0).trans rfl; have hcz14_1 : w11.cell? ⟨gb204, 1, none⟩ = some (.int .i64 a1_1) := (blk_cell BK204.out 1).trans rfl; have hcz14_2 : w11.cell? ⟨gb204, 2, none⟩ = some (.int .i64 a1_2) := (blk_cell BK204.out 2).trans rfl; have hcz14_3 : w11.cell? ⟨gb204, 3, none⟩ = some (.bool a1_3) := (blk_cell BK204.out 3).trans rfl; have hfz14_0 := blk_frozen BK204.out 0; have hfz14_1 := blk_frozen BK204.out 1; have hfz14_2 := blk_frozen BK204.out 2; have hfz14_3 := blk_frozen BK204.out 3))
   go_ret
   exact ⟨by first | rfl | (simp [errW_none, errW_some] <;> rfl) | (simp [*, errW_none, errW_some] <;> rfl), Cmp.g HB.out⟩
  ·rw [if_neg c9] at H; have c9b0 : (a0_0 == a1_0) = false := beq_eq_false_iff_ne.mpr c9; have c9b1 : (a0_0 != a1_0) = true := bne_iff_ne.mpr c9
   obtain rfl := Option.some.inj H
   go_enter Try.func63, Try.ntmps63
   go_wp2_with (first | ((with_reducible refine gate_dst (N := 2) rfl ?_); refine box_event (by rfl) (N := 2) (by rfl) (cs := #[.int .i64 a0_0, .int .i64 a0_1, .int .i64 a0_2, .bool a0_3]) (t := 49) (by first | (go_simp; done) | (go_simp; rfl)) ?_; intro gb203 hg w15 hbox hb; have n0_ := Aside0.mk (below_step (Cmp.g HB.out) hb); have n1_ := Aside0.mk (hbox); have n2_ := Aside0.mk ((by rw [hg]; exact (below_size (Cmp.g HB.out)) : w.heap.size ≤ gb203)); have n3_ := Aside0.mk ((by rw [hg]; exact (below_size (Cmp.g HB.out)) : w.heap.size ≤ gb203)); clear HB; have HB := n0_; have BK203 := n1_; have GW203 := n2_; have GE203 := n3_; clear n0_ n1_ n2_ n3_; clear hb hbox hg) | ((with_reducible refine gate_dst (N := 3) rfl ?_); refine box_event (by rfl) (N := 3) (by rfl) (cs := #[.int .i64 a1_0, .int .i64 a1_1, .int .i64 a1_2, .bool a1_3]) (t := 49) (by first | (go_simp; done) | (go_simp; rfl)) ?_; intro gb204 hg w16 hbox hb; have n0_ := Aside0.mk (blk_below (Cmp.b BK203.out) hb); have n1_ := Aside0.mk (below_step (Cmp.g HB.out) hb); have n2_ := Aside0.mk (hbox); have n3_ := Aside0.mk ((by rw [hg]; exact (below_size (Cmp.g HB.out)) : w.heap.size ≤ gb204)); have n4_ := Aside0.mk ((by rw [hg]; exact (below_size (Cmp.g HB.out)) : w.heap.size ≤ gb204)); have n5_ := Aside0.mk ((by rw [hg]; exact Nat.ne_of_lt (blk_lt (Cmp.b BK203.out)) : gb203 ≠ gb204)); have n6_ := Aside0.mk ((by rw [hg]; exact Nat.ne_of_gt (blk_lt (Cmp.b BK203.out)) : gb204 ≠ gb203)); clear BK203; clear HB; have BK203 := n0_; have HB := n1_; have BK204 := n2_; have GW204 := n3_; have GE204 := n4_; have NB203_204 := n5_; have NB204_203 := n6_; clear n0_ n1_ n2_ n3_ n4_ n5_ n6_; clear hb hbox hg; have hnb17 := NB203_204.out; have hnc17 := NB204_203.out; have hcz18_0 : w16.cell? ⟨gb203, 0, none⟩ = some (.int .i64 a0_0) := (blk_cell BK203.out 0).trans rfl; have hcz18_1 : w16.cell? ⟨gb203, 1, none⟩ = some (.int .i64 a0_1) := (blk_cell BK203.out 1).trans rfl; have hcz18_2 : w16.cell? ⟨gb203, 2, none⟩ = some (.int .i64 a0_2) := (blk_cell BK203.out 2).trans rfl; have hcz18_3 : w16.cell? ⟨gb203, 3, none⟩ = some (.bool a0_3) := (blk_cell BK203.out 3).trans rfl; have hfz18_0 := blk_frozen BK203.out 0; have hfz18_1 := blk_frozen BK203.out 1; have hfz18_2 := blk_frozen BK203.out 2; have hfz18_3 := blk_frozen BK203.out 3; have hcz19_0 : w16.cell? ⟨gb204, 0, none⟩ = some (.int .i64 a1_0) := (blk_cell BK204.out 0).trans rfl; have hcz19_1 : w16.cell? ⟨gb204, 1, none⟩ = some (.int .i64 a1_1) := (blk_cell BK204.out 1).trans rfl; have hcz19_2 : w16.cell? ⟨gb204, 2, none⟩ = some (.int .i64 a1_2) := (blk_cell BK204.out 2).trans rfl; have hcz19_3 : w16.cell? ⟨gb204, 3, none⟩ = some (.bool a1_3) := (blk_cell BK204.out 3).trans rfl; have hfz19_0 := blk_frozen BK204.out 0; have hfz19_1 := blk_frozen BK204.out 1; have hfz19_2 := blk_frozen BK204.out 2; have hfz19_3 := blk_frozen BK204.out 3))
   go_ret
   exact ⟨by first | rfl | (simp [errW_none, errW_some] <;> rfl) | (simp [*, errW_none, errW_some] <;> rfl), Cmp.g HB.out⟩

end Go.Proofs.Ytoffbjjkegeccaa.PFnExactDecodeBundle

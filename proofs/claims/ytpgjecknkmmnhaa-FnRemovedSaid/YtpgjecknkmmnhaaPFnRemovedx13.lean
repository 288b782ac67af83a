/- Printed functions of the program, out of print.sh, told more shortly. No condition. -/
import Derived.Test.YtpgjecknkmmnhaaCmp
import Derived.Test.YtpgjecknkmmnhaaPFnRemovedx0
import Derived.Test.YtpgjecknkmmnhaaPFnRemovedx9
import Derived.Test.YtpgjecknkmmnhaaPFnRemovedx11
import Derived.Test.YtpgjecknkmmnhaaPFnRemovedx12
namespace Go.Proofs.Ytpgjecknkmmnhaa.PFnRemoved
open Go.Proofs.Ytpgjecknkmmnhaa
open Go.RowKit Go.Proofs.YtpgjecknkmmnhaaW.PrintWords Go.Proofs.YtpgjecknkmmnhaaW.PrintLast Go.Proofs.YtpgjecknkmmnhaaW.PrintMore
attribute [local go_sem] max2_int min2_int max_two min_two max_three min_three max_four min_four   -- for this text's walks alone
set_option linter.unusedVariables false
set_option linter.unusedSimpArgs false

/-! ### impl_AppendEntry: function 9 -/
def impl_AppendEntry.j0 : Nat → List (S74) → Int → Int → Bool → Int → Int → Int → Int → Option ((List (S74)) × Bool)
  | 0, _, _, _, _, _, _, _, _ => none
  | k + 1, x0, x1, x2, x19, x482000, x482001, x482002, x482003 => if x19 = true then ((impl_copyLog.f x0).bind fun t483 => (some (t483, false))) else ((impl_DevicePublic.f k x482000 x482001 x482002 x482003).bind fun t486 => ((impl_LogHead.f k x0).bind fun t487 => ((impl_EntryHash.f k (x0.length : Int) x1 x2 t486 t487 0).bind fun t489 => ((impl_SignAsDevice.f k x482000 x482001 x482002 x482003 (([t489] : List Int))).bind fun t493 => ((impl_copyLog.f x0).bind fun t494 => ((some (([(⟨(x0.length : Int), x1, x2, t486, t487, t493⟩ : S74)] : List (S74)) : List (S74))).bind fun y497 => (if t494.length + y497.length < 2932031007402 then ((some (t494 ++ y497 : List (S74))).bind fun y500 => ((impl_VerifyLog.f k y500).bind fun t503 => (if t503 = true then (some (y500, true)) else ((impl_copyLog.f x0).bind fun t504 => (some (t504, false)))))) else (none))))))))
def impl_AppendEntry.f (k : Nat) (l0 : List (S74)) (a1 : Int) (a2 : Int) (a3_0 : Int) (a3_1 : Int) (a3_2 : Int) (a3_3 : Int) : Option ((List (S74)) × Bool) := if (l0.length : Int) > 0 then ((impl_VerifyLog.f k l0).bind fun t482 => (impl_AppendEntry.j0 k l0 a1 a2 (!t482) a3_0 a3_1 a3_2 a3_3)) else (impl_AppendEntry.j0 k l0 a1 a2 false a3_0 a3_1 a3_2 a3_3)
theorem impl_AppendEntry.mono_l : ∀ k, (∀ y0 y1 y2 y3 y4 y5 y6 y7, LeO (impl_AppendEntry.j0 k y0 y1 y2 y3 y4 y5 y6 y7) (impl_AppendEntry.j0 (k + 1) y0 y1 y2 y3 y4 y5 y6 y7))
  | 0 => fun _ _ _ _ _ _ _ _ r h => by simp [impl_AppendEntry.j0] at h
  | k + 1 => by
    have ih0 := impl_AppendEntry.mono_l k
    · intro y0 y1 y2 y3 y4 y5 y6 y7
      unfold impl_AppendEntry.j0
      repeat' first
      | (with_reducible exact ih0 _ _ _ _ _ _ _ _)
      | (with_reducible exact impl_DevicePublic.mono _ _ _ _ _)
      | (with_reducible exact impl_EntryHash.mono _ _ _ _ _ _ _)
      | (with_reducible exact impl_LogHead.mono _ _)
      | (with_reducible exact impl_SignAsDevice.mono _ _ _ _ _ _)
      | (with_reducible exact impl_VerifyLog.mono _ _)
      | (with_reducible exact LeO.refl _)
      | (with_reducible exact LeO.none _)
      | (with_reducible refine LeO.ite ?_ ?_)
      | (with_reducible refine LeO.bind ?_ (fun _ => ?_))
      | exact ih0 _ _ _ _ _ _ _ _
      | exact impl_DevicePublic.mono _ _ _ _ _
      | exact impl_EntryHash.mono _ _ _ _ _ _ _
      | exact impl_LogHead.mono _ _
      | exact impl_SignAsDevice.mono _ _ _ _ _ _
      | exact impl_VerifyLog.mono _ _
      | exact LeO.none _
      | refine LeO.ite ?_ ?_
      | refine LeO.bind ?_ (fun _ => ?_)
theorem impl_AppendEntry.mono : ∀ a0 a1 a2 a3 a4 a5 a6 k, LeO (impl_AppendEntry.f k a0 a1 a2 a3 a4 a5 a6) (impl_AppendEntry.f (k + 1) a0 a1 a2 a3 a4 a5 a6) := by
  intro a0 a1 a2 a3 a4 a5 a6 k
  have ih0 := impl_AppendEntry.mono_l k
  unfold impl_AppendEntry.f
  repeat' first
      | (with_reducible exact ih0 _ _ _ _ _ _ _ _)
      | (with_reducible exact impl_DevicePublic.mono _ _ _ _ _)
      | (with_reducible exact impl_EntryHash.mono _ _ _ _ _ _ _)
      | (with_reducible exact impl_LogHead.mono _ _)
      | (with_reducible exact impl_SignAsDevice.mono _ _ _ _ _ _)
      | (with_reducible exact impl_VerifyLog.mono _ _)
      | (with_reducible exact LeO.refl _)
      | (with_reducible exact LeO.none _)
      | (with_reducible refine LeO.ite ?_ ?_)
      | (with_reducible refine LeO.bind ?_ (fun _ => ?_))
      | exact ih0 _ _ _ _ _ _ _ _
      | exact impl_DevicePublic.mono _ _ _ _ _
      | exact impl_EntryHash.mono _ _ _ _ _ _ _
      | exact impl_LogHead.mono _ _
      | exact impl_SignAsDevice.mono _ _ _ _ _ _
      | exact impl_VerifyLog.mono _ _
      | exact LeO.none _
      | refine LeO.ite ?_ ?_
      | refine LeO.bind ?_ (fun _ => ?_)
set_option maxHeartbeats 8000000 in
set_option maxRecDepth 100000 in
theorem impl_AppendEntry.calls (k : Nat) (A0 : Option Addr) (c0 : Nat) (l0 : List (S74)) (a1 : Int) (a2 : Int) (a3_0 : Int) (a3_1 : Int) (a3_2 : Int) (a3_3 : Int) (r1 : List (S74)) (r2 : Bool) (w : World) (hr0 : Kd.C k74 w A0 l0.length l0) (hc0 : l0.length ≤ c0) (h : impl_AppendEntry.f k l0 a1 a2 a3_0 a3_1 a3_2 a3_3 = some (r1, r2)) :
    Calls Try.prog 9 #[.slice A0 l0.length c0, .int .i64 a1, .int .i64 a2, .agg #[.int .i64 a3_0, .int .i64 a3_1, .int .i64 a3_2, .int .i64 a3_3]] w fun e w' => ∃ v0_ : Value, e = .returned (.tuple #[v0_, .bool r2]) ∧ Kd.R k74 74 w' w.heap.size (fun _ => True) v0_ r1 ∧ Below w.heap.size w w' := by
 have hu26 := Try.underlying26; have hu74 := Try.underlying74; have HR0 := Aside0.mk hr0; have HC0 := Aside0.mk hc0; clear hr0 hc0
 have HB := Aside0.mk (Below.refl w.heap.size w)
 have H : (if (l0.length : Int) > 0 then ((impl_VerifyLog.f k l0).bind fun t482 => (impl_AppendEntry.j0 k l0 a1 a2 (!t482) a3_0 a3_1 a3_2 a3_3)) else (impl_AppendEntry.j0 k l0 a1 a2 false a3_0 a3_1 a3_2 a3_3)) = some (r1, r2) := h
 clear h; have HC5 := Aside0.mk H; clear H
 go_enter Try.func9, Try.ntmps9
 go_upto_region 1 with (first | ((with_reducible refine gate_dst (N := 7) rfl ?_); refine box_event ?hg (N := 7) ?hd (cs := #[.int .i64 a3_0, .int .i64 a3_1, .int .i64 a3_2, .int .i64 a3_3]) (t := 26) ?hr ?_; (case hd => rfl); (case hg => rfl); (case hr => first | (go_simp; done) | (go_simp; rfl)); intro gb481 hg w6 hbox hb; have n0_ := Aside0.mk (below_step (Cmp.g HB.out) hb); have n1_ := Aside0.mk (hbox); have n2_ := Aside0.mk ((by rw [hg]; exact (below_size (Cmp.g HB.out)) : w.heap.size ≤ gb481)); have n3_ := Aside0.mk ((by rw [hg]; exact (below_size (Cmp.g HB.out)) : w.heap.size ≤ gb481)); clear HB; have HB := n0_; have BK481 := n1_; have GW481 := n2_; have GE481 := n3_; clear n0_ n1_ n2_ n3_; clear hb hbox hg))
 (try simp only [Act.put, List.setIfInBounds_toArray, List.set_cons_zero, List.set_cons_succ])
 go_cut [19] (fun v19 wc => ∃ (kq : Nat) (x19_4 : Bool), v19 = .bool x19_4 ∧ Aside0 (impl_AppendEntry.j0 kq l0 a1 a2 x19_4 a3_0 a3_1 a3_2 a3_3 = some (r1, r2)) ∧ Aside0 (kq ≤ k) ∧ Aside0 (wc.heap[gb481]? = some (.cells #[.int .i64 a3_0, .int .i64 a3_1, .int .i64 a3_2, .int .i64 a3_3] 26 (0, 0))) ∧ Aside0 (Below w.heap.size w wc))
 case first =>
  have H := HC5.out; clear HC5
  by_cases c7 : (l0.length : Int) > 0
  ·rw [if_pos c7] at H
   have c7b0 : decide (0 < (l0.length : Int)) = true := decide_eq_true c7
   have c7b1 : decide (0 < l0.length) = true := decide_eq_true (by omega)
   clear c7
   (first | rw [c7b0] | (simp only [i64_w, i32_w]; rw [c7b0]) | skip)
   replace H := Option.bind_eq_some_iff.mp H; obtain ⟨t482, A80, H⟩ := H; (try dsimp only at H); have A8 := Aside0.mk A80; clear A80
   have H' := Aside0.mk H
   clear H
   go_wp2_with (first | (go_at_call 43; (with_reducible refine (impl_VerifyLog.calls k _ _ l0 t482 _ ?side1 ?side2 A8.out).mono ?_); (case side1 => exact Cmp.rc (Kd.C_below HR0.out HB.out)); (case side2 => exact HC0.out); rintro e w9 ⟨rfl, hb⟩; have n0_ := Aside0.mk (blk_below (Cmp.b BK481.out) hb); have n1_ := Aside0.mk (below_step (Cmp.g HB.out) hb); clear BK481; clear HB; have BK481 := n0_; have HB := n1_; clear n0_ n1_; (try clear hb); (try clear hb2); (try clear hk); (try clear hi)))
   go_meet
   case rel => exact ⟨_, (!t482), (by first | rfl | simp | simp [*]), H', ⟨by first | omega | exact Nat.le_refl _⟩, ⟨by (with_reducible repeat (first | refine blk_drewN ?_ _ | refine blk_drew ?_ | refine blk_alloc ?_ _)); exact BK481.out⟩, ⟨Cmp.g HB.out⟩⟩
  ·rw [if_neg c7] at H
   have c7b0 : decide (0 < (l0.length : Int)) = false := decide_eq_false c7
   have c7b1 : decide (0 < l0.length) = false := decide_eq_false (by omega)
   clear c7
   (first | rw [c7b0] | (simp only [i64_w, i32_w]; rw [c7b0]) | skip)
   have H' := Aside0.mk H
   clear H
   go_wp2
   go_meet
   case rel => exact ⟨_, (false), (by first | rfl | simp | simp [*]), H', ⟨by first | omega | exact Nat.le_refl _⟩, ⟨by (with_reducible repeat (first | refine blk_drewN ?_ _ | refine blk_drew ?_ | refine blk_alloc ?_ _)); exact BK481.out⟩, ⟨Cmp.g HB.out⟩⟩
 case rest =>
  clear HC5; (try clear p2); (try clear c7); (try clear c7b0); (try clear c7b1); (try clear c9)
  obtain ⟨kq, x19_4, rfl, HA, HJ4, BK481, HB⟩ := hcut
  cases kq with
  | zero => exact absurd HA.out (by simp [impl_AppendEntry.j0])
  | succ kj4 =>
   have H := HA.out; clear HA
   simp only [impl_AppendEntry.j0] at H
   by_cases c10 : x19_4 = true
   ·subst c10; rw [if_pos rfl] at H; replace H := Option.bind_eq_some_iff.mp H; obtain ⟨t483, A110, H⟩ := H; (try dsimp only at H); have A11 := Aside0.mk A110; clear A110
    simp only [Option.some.injEq, Prod.mk.injEq] at H
    obtain ⟨rfl, rfl⟩ := H
    go_wp2_with (first | ((with_reducible refine gate_callee (f := 44) rfl ?_); refine goesL_ (some 21) rfl rfl Try.func44 (by kernel_rfl) rfl #[.slice A0 l0.length c0] rfl Cmp.q ?_; (with_reducible refine (impl_copyLog.calls _ _ l0 t483 _ ?side1 ?side2 A11.out).mono ?_); (case side1 => exact Cmp.rc (Kd.C_below HR0.out HB.out)); (case side2 => exact HC0.out); rintro e w12 ⟨v484, rfl, ho0, hb⟩; refine ⟨_, rfl, ?_⟩; have n0_ := Aside0.mk (Kd.R_lower ho0 (below_size (Cmp.g HB.out))); have n1_ := Aside0.mk (blk_below (Cmp.b BK481.out) hb); have n2_ := Aside0.mk (below_step (Cmp.g HB.out) hb); clear BK481; clear HB; have HO485 := n0_; have BK481 := n1_; have HB := n2_; clear n0_ n1_ n2_; (try clear hb); (try clear hb2); (try clear hk); (try clear hi); (try clear ho0)))
    go_ret2
    exact ⟨_, by first | rfl | (simp [errW_none, errW_some] <;> rfl) | (simp [*, errW_none, errW_some] <;> rfl), by (with_reducible repeat (first | apply Kd.R_alloc | apply Kd.R_drewN | apply Kd.R_drew)); exact HO485.out, Cmp.g HB.out⟩
   ·replace c10 := Bool.eq_false_iff.mpr c10
    subst c10
    have H1 : ((impl_DevicePublic.f kj4 a3_0 a3_1 a3_2 a3_3).bind fun t486 => ((impl_LogHead.f kj4 l0).bind fun t487 => ((impl_EntryHash.f kj4 (l0.length : Int) a1 a2 t486 t487 0).bind fun t489 => ((impl_SignAsDevice.f kj4 a3_0 a3_1 a3_2 a3_3 (([t489] : List Int))).bind fun t493 => ((impl_copyLog.f l0).bind fun t494 => ((some (([(⟨(l0.length : Int), a1, a2, t486, t487, t493⟩ : S74)] : List (S74)) : List (S74))).bind fun y497 => (if t494.length + y497.length < 2932031007402 then ((some (t494 ++ y497 : List (S74))).bind fun y500 => ((impl_VerifyLog.f kj4 y500).bind fun t503 => (if t503 = true then (some (y500, true)) else ((impl_copyLog.f l0).bind fun t504 => (some (t504, false)))))) else (none)))))))) = some (r1, r2) := by rw [if_neg (show ¬ (false = true) by decide)] at H; exact H
    clear H; have H := H1; clear H1; replace H := Option.bind_eq_some_iff.mp H; obtain ⟨t486, A130, H⟩ := H; (try dsimp only at H); have A13 := Aside0.mk A130; clear A130; replace H := Option.bind_eq_some_iff.mp H; obtain ⟨t487, A140, H⟩ := H; (try dsimp only at H); have A14 := Aside0.mk A140; clear A140; replace H := Option.bind_eq_some_iff.mp H; obtain ⟨t489, A150, H⟩ := H; (try dsimp only at H); have A15 := Aside0.mk A150; clear A150
    obtain ⟨y490, hy490⟩ : ∃ y_ : List Int, y_ = (([t489] : List Int)) := ⟨_, rfl⟩
    replace H : ((impl_SignAsDevice.f kj4 a3_0 a3_1 a3_2 a3_3 y490).bind fun t493 => ((impl_copyLog.f l0).bind fun t494 => ((some (([(⟨(l0.length : Int), a1, a2, t486, t487, t493⟩ : S74)] : List (S74)) : List (S74))).bind fun y497 => (if t494.length + y497.length < 2932031007402 then ((some (t494 ++ y497 : List (S74))).bind fun y500 => ((impl_VerifyLog.f kj4 y500).bind fun t503 => (if t503 = true then (some (y500, true)) else ((impl_copyLog.f l0).bind fun t504 => (some (t504, false)))))) else (none))))) = some (r1, r2) := by first | (rw [hy490]; with_reducible exact H) | (have H2_ := (Option.bind_some _ _).symm.trans H; rw [hy490]; with_reducible exact H2_) | (have H2_ := (Option.bind_some _ _).symm.trans H; with_reducible exact H2_) | with_reducible exact H | (rw [hy490]; exact H) | exact H
    have Ny490 := Aside0.mk hy490; clear hy490; replace H := Option.bind_eq_some_iff.mp H; obtain ⟨t493, A160, H⟩ := H; (try dsimp only at H); have A16 := Aside0.mk A160; clear A160; replace H := Option.bind_eq_some_iff.mp H; obtain ⟨t494, A170, H⟩ := H; (try dsimp only at H); have A17 := Aside0.mk A170; clear A170
    obtain ⟨y497, hy497⟩ : ∃ y_ : List (S74), y_ = (([(⟨(l0.length : Int), a1, a2, t486, t487, t493⟩ : S74)] : List (S74))) := ⟨_, rfl⟩
    replace H : (if t494.length + y497.length < 2932031007402 then ((some (t494 ++ y497 : List (S74))).bind fun y500 => ((impl_VerifyLog.f kj4 y500).bind fun t503 => (if t503 = true then (some (y500, true)) else ((impl_copyLog.f l0).bind fun t504 => (some (t504, false)))))) else (none)) = some (r1, r2) := by first | (rw [hy497]; with_reducible exact H) | (have H2_ := (Option.bind_some _ _).symm.trans H; rw [hy497]; with_reducible exact H2_) | (have H2_ := (Option.bind_some _ _).symm.trans H; with_reducible exact H2_) | with_reducible exact H | (rw [hy497]; exact H) | exact H
    have Ny497 := Aside0.mk hy497; clear hy497
    by_cases c18 : t494.length + y497.length < 2932031007402
    ·rw [if_pos c18] at H; have LMc18 := Aside0.mk c18; clear c18
     obtain ⟨y500, hy500⟩ : ∃ y_ : List (S74), y_ = (t494 ++ y497) := ⟨_, rfl⟩
     replace H : ((impl_VerifyLog.f kj4 y500).bind fun t503 => (if t503 = true then (some (y500, true)) else ((impl_copyLog.f l0).bind fun t504 => (some (t504, false))))) = some (r1, r2) := by first | (rw [hy500]; with_reducible exact H) | (have H2_ := (Option.bind_some _ _).symm.trans H; rw [hy500]; with_reducible exact H2_) | (have H2_ := (Option.bind_some _ _).symm.trans H; with_reducible exact H2_) | with_reducible exact H | (rw [hy500]; exact H) | exact H
     have Ny500 := Aside0.mk hy500; clear hy500; replace H := Option.bind_eq_some_iff.mp H; obtain ⟨t503, A190, H⟩ := H; (try dsimp only at H); have A19 := Aside0.mk A190; clear A190
     by_cases c20 : t503 = true
     ·subst c20; rw [if_pos rfl] at H
      simp only [Option.some.injEq, Prod.mk.injEq] at H
      obtain ⟨rfl, rfl⟩ := H
      have hcz21_0 : wc.cell? ⟨gb481, 0, none⟩ = some (.int .i64 a3_0) := (blk_cell BK481.out 0).trans rfl
      have hcz21_1 : wc.cell? ⟨gb481, 1, none⟩ = some (.int .i64 a3_1) := (blk_cell BK481.out 1).trans rfl
      have hcz21_2 : wc.cell? ⟨gb481, 2, none⟩ = some (.int .i64 a3_2) := (blk_cell BK481.out 2).trans rfl
      have hcz21_3 : wc.cell? ⟨gb481, 3, none⟩ = some (.int .i64 a3_3) := (blk_cell BK481.out 3).trans rfl
      have hfz21_0 := blk_frozen BK481.out 0; have hfz21_1 := blk_frozen BK481.out 1; have hfz21_2 := blk_frozen BK481.out 2; have hfz21_3 := blk_frozen BK481.out 3
      try go_wp2_with (first | ((with_reducible refine gate_callee (f := 45) rfl ?_); refine goesL_ (some 27) rfl rfl Try.func45 (by kernel_rfl) rfl #[.agg #[.int .i64 a3_0, .int .i64 a3_1, .int .i64 a3_2, .int .i64 a3_3]] rfl Cmp.q ?_; (with_reducible refine (impl_DevicePublic.calls kj4 a3_0 a3_1 a3_2 a3_3 t486 _ A13.out).mono ?_); rintro e w22 ⟨rfl, hb⟩; refine ⟨_, rfl, ?_⟩; have n0_ := Aside0.mk (blk_below (Cmp.b BK481.out) hb); have n1_ := Aside0.mk (below_step (Cmp.g HB.out) hb); clear BK481; clear HB; have BK481 := n0_; have HB := n1_; clear n0_ n1_; (try clear hb); (try clear hb2); (try clear hk); (try clear hi)) | ((with_reducible refine gate_callee (f := 46) rfl ?_); refine goesL_ (some 29) rfl rfl Try.func46 (by kernel_rfl) rfl #[.slice A0 l0.length c0] rfl Cmp.q ?_; (with_reducible refine (impl_LogHead.calls kj4 _ _ l0 t487 _ ?side1 ?side2 A14.out).mono ?_); (case side1 => exact Cmp.rc (Kd.C_below HR0.out HB.out)); (case side2 => exact HC0.out); rintro e w23 ⟨rfl, hb⟩; refine ⟨_, rfl, ?_⟩; have n0_ := Aside0.mk (blk_below (Cmp.b BK481.out) hb); have n1_ := Aside0.mk (below_step (Cmp.g HB.out) hb); clear BK481; clear HB; have BK481 := n0_; have HB := n1_; clear n0_ n1_; (try clear hb); (try clear hb2); (try clear hk); (try clear hi)) | ((with_reducible refine gate_dst (N := 10) rfl ?_); refine box_event ?hg (N := 10) ?hd (cs := #[.int .i64 0, .int .i64 0, .int .i64 0, .int .i64 0, .int .i64 0, .int .i64 0]) (t := 74) ?hr ?_; (case hd => rfl); (case hg => rfl); (case hr => first | (go_simp; done) | (go_simp; rfl)); intro gb488 hg w24 hbox hb; have n0_ := Aside0.mk (blk_below (Cmp.b BK481.out) hb); have n1_ := Aside0.mk (below_step (Cmp.g HB.out) hb); have n2_ := Aside0.mk (hbox); have n3_ := Aside0.mk ((by rw [hg]; exact (below_size (Cmp.g HB.out)) : w.heap.size ≤ gb488)); have n4_ := Aside0.mk ((by rw [hg]; exact (below_size (Cmp.g HB.out)) : w.heap.size ≤ gb488)); have n5_ := Aside0.mk ((by rw [hg]; exact Nat.ne_of_lt (blk_lt (Cmp.b BK481.out)) : gb481 ≠ gb488)); have n6_ := Aside0.mk ((by rw [hg]; exact Nat.ne_of_gt (blk_lt (Cmp.b BK481.out)) : gb488 ≠ gb481)); clear BK481; clear HB; have BK481 := n0_; have HB := n1_; have BK488 := n2_; have GW488 := n3_; have GE488 := n4_; have NB481_488 := n5_; have NB488_481 := n6_; clear n0_ n1_ n2_ n3_ n4_ n5_ n6_; clear hb hbox hg; have hnb25 := NB488_481.out; have hnc25 := NB481_488.out; have hcz26_0 : w24.cell? ⟨gb488, 0, none⟩ = some (.int .i64 0) := (blk_cell BK488.out 0).trans rfl; have hcz26_1 : w24.cell? ⟨gb488, 1, none⟩ = some (.int .i64 0) := (blk_cell BK488.out 1).trans rfl; have hcz26_2 : w24.cell? ⟨gb488, 2, none⟩ = some (.int .i64 0) := (blk_cell BK488.out 2).trans rfl; have hcz26_3 : w24.cell? ⟨gb488, 3, none⟩ = some (.int .i64 0) := (blk_cell BK488.out 3).trans rfl; have hcz26_4 : w24.cell? ⟨gb488, 4, none⟩ = some (.int .i64 0) := (blk_cell BK488.out 4).trans rfl; have hcz26_5 : w24.cell? ⟨gb488, 5, none⟩ = some (.int .i64 0) := (blk_cell BK488.out 5).trans rfl; have hfz26_0 := blk_frozen BK488.out 0; have hfz26_1 := blk_frozen BK488.out 1; have hfz26_2 := blk_frozen BK488.out 2; have hfz26_3 := blk_frozen BK488.out 3; have hfz26_4 := blk_frozen BK488.out 4; have hfz26_5 := blk_frozen BK488.out 5))
      have n0_ : Aside0 (((((((w24.setCell ⟨gb488, 0, none⟩ (.int .i64 (l0.length : Int))).setCell ⟨gb488, 1, none⟩ (.int .i64 a1)).setCell ⟨gb488, 2, none⟩ (.int .i64 a2)).setCell ⟨gb488, 3, none⟩ (.int .i64 t486)).setCell ⟨gb488, 4, none⟩ (.int .i64 t487)).setCell ⟨gb488, 5, none⟩ (.int .i64 0)).heap[gb481]? = some (.cells #[.int .i64 a3_0, .int .i64 a3_1, .int .i64 a3_2, .int .i64 a3_3] 26 (0, 0))) := ⟨by (with_reducible repeat (first | refine blk_drewN ?_ _ | refine blk_drew ?_ | refine blk_alloc ?_ _)); refine blk_far ?_ NB481_488.out _; (with_reducible repeat (first | refine blk_drewN ?_ _ | refine blk_drew ?_ | refine blk_alloc ?_ _)); refine blk_far ?_ NB481_488.out _; (with_reducible repeat (first | refine blk_drewN ?_ _ | refine blk_drew ?_ | refine blk_alloc ?_ _)); refine blk_far ?_ NB481_488.out _; (with_reducible repeat (first | refine blk_drewN ?_ _ | refine blk_drew ?_ | refine blk_alloc ?_ _)); refine blk_far ?_ NB481_488.out _; (with_reducible repeat (first | refine blk_drewN ?_ _ | refine blk_drew ?_ | refine blk_alloc ?_ _)); refine blk_far ?_ NB481_488.out _; (with_reducible repeat (first | refine blk_drewN ?_ _ | refine blk_drew ?_ | refine blk_alloc ?_ _)); refine blk_far ?_ NB481_488.out _; (with_reducible repeat (first | refine blk_drewN ?_ _ | refine blk_drew ?_ | refine blk_alloc ?_ _)); exact BK481.out⟩
      have n1_ : Aside0 (((((((w24.setCell ⟨gb488, 0, none⟩ (.int .i64 (l0.length : Int))).setCell ⟨gb488, 1, none⟩ (.int .i64 a1)).setCell ⟨gb488, 2, none⟩ (.int .i64 a2)).setCell ⟨gb488, 3, none⟩ (.int .i64 t486)).setCell ⟨gb488, 4, none⟩ (.int .i64 t487)).setCell ⟨gb488, 5, none⟩ (.int .i64 0)).heap[gb488]? = some (.cells #[.int .i64 (l0.length : Int), .int .i64 a1, .int .i64 a2, .int .i64 t486, .int .i64 t487, .int .i64 0] 74 (0, 0))) := ⟨by (with_reducible repeat (first | refine blk_drewN ?_ _ | refine blk_drew ?_ | refine blk_alloc ?_ _)); refine blk_put (cs := #[.int .i64 (l0.length : Int), .int .i64 a1, .int .i64 a2, .int .i64 t486, .int .i64 t487, .int .i64 0]) ?_ 5 _ rfl; (with_reducible repeat (first | refine blk_drewN ?_ _ | refine blk_drew ?_ | refine blk_alloc ?_ _)); refine blk_put (cs := #[.int .i64 (l0.length : Int), .int .i64 a1, .int .i64 a2, .int .i64 t486, .int .i64 0, .int .i64 0]) ?_ 4 _ rfl; (with_reducible repeat (first | refine blk_drewN ?_ _ | refine blk_drew ?_ | refine blk_alloc ?_ _)); refine blk_put (cs := #[.int .i64 (l0.length : Int), .int .i64 a1, .int .i64 a2, .int .i64 0, .int .i64 0, .int .i64 0]) ?_ 3 _ rfl; (with_reducible repeat (first | refine blk_drewN ?_ _ | refine blk_drew ?_ | refine blk_alloc ?_ _)); refine blk_put (cs := #[.int .i64 (l0.length : Int), .int .i64 a1, .int .i64 0, .int .i64 0, .int .i64 0, .int .i64 0]) ?_ 2 _ rfl; (with_reducible repeat (first | refine blk_drewN ?_ _ | refine blk_drew ?_ | refine blk_alloc ?_ _)); refine blk_put (cs := #[.int .i64 (l0.length : Int), .int .i64 0, .int .i64 0, .int .i64 0, .int .i64 0, .int .i64 0]) ?_ 1 _ rfl; (with_reducible repeat (first | refine blk_drewN ?_ _ | refine blk_drew ?_ | refine blk_alloc ?_ _)); refine blk_put (cs := #[.int .i64 0, .int .i64 0, .int .i64 0, .int .i64 0, .int .i64 0, .int .i64 0]) ?_ 0 _ rfl; (with_reducible repeat (first | refine blk_drewN ?_ _ | refine blk_drew ?_ | refine blk_alloc ?_ _)); exact BK488.out⟩
      have n2_ : Aside0 (Below w.heap.size w ((((((w24.setCell ⟨gb488, 0, none⟩ (.int .i64 (l0.length : Int))).setCell ⟨gb488, 1, none⟩ (.int .i64 a1)).setCell ⟨gb488, 2, none⟩ (.int .i64 a2)).setCell ⟨gb488, 3, none⟩ (.int .i64 t486)).setCell ⟨gb488, 4, none⟩ (.int .i64 t487)).setCell ⟨gb488, 5, none⟩ (.int .i64 0))) := ⟨Cmp.g HB.out⟩
      (try clear BK481); (try clear BK488); (try clear HB)
      generalize ((((((w24.setCell ⟨gb488, 0, none⟩ (.int .i64 (l0.length : Int))).setCell ⟨gb488, 1, none⟩ (.int .i64 a1)).setCell ⟨gb488, 2, none⟩ (.int .i64 a2)).setCell ⟨gb488, 3, none⟩ (.int .i64 t486)).setCell ⟨gb488, 4, none⟩ (.int .i64 t487)).setCell ⟨gb488, 5, none⟩ (.int .i64 0)) = w27 at n0_ n1_ n2_ ⊢
      have BK481 := n0_; have BK488 := n1_; have HB := n2_; clear n0_ n1_ n2_; have n0_ := Aside0.mk (blk_drew BK481.out); have n1_ := Aside0.mk (blk_drew BK488.out); have n2_ := Aside0.mk (below_drew1 HB.out); clear BK481; clear BK488; clear HB; have BK481 := n0_; have BK488 := n1_; have HB := n2_; clear n0_ n1_ n2_
      refine start_ (n := 7) (S := fun w' => w'.cell? ⟨gb481, 0, none⟩ = some (.int .i64 a3_0) ∧ w'.cell? ⟨gb481, 1, none⟩ = some (.int .i64 a3_1) ∧ w'.cell? ⟨gb481, 2, none⟩ = some (.int .i64 a3_2) ∧ w'.cell? ⟨gb481, 3, none⟩ = some (.int .i64 a3_3) ∧ w'.cell? ⟨gb488, 0, none⟩ = some (.int .i64 (l0.length : Int)) ∧ w'.cell? ⟨gb488, 1, none⟩ = some (.int .i64 a1) ∧ w'.cell? ⟨gb488, 2, none⟩ = some (.int .i64 a2) ∧ w'.cell? ⟨gb488, 3, none⟩ = some (.int .i64 t486) ∧ w'.cell? ⟨gb488, 4, none⟩ = some (.int .i64 t487) ∧ w'.cell? ⟨gb488, 5, none⟩ = some (.int .i64 0)) (ds := [6]) (Cmp.bm 0 7) (by kernel_rfl) rfl rfl ⟨(blk_cell BK481.out 0).trans rfl, (blk_cell BK481.out 1).trans rfl, (blk_cell BK481.out 2).trans rfl, (blk_cell BK481.out 3).trans rfl, (blk_cell BK488.out 0).trans rfl, (blk_cell BK488.out 1).trans rfl, (blk_cell BK488.out 2).trans rfl, (blk_cell BK488.out 3).trans rfl, (blk_cell BK488.out 4).trans rfl, (blk_cell BK488.out 5).trans rfl⟩ (fun hHeld => ?_)
      generalize w27.drew = w28 at BK481 BK488 HB hHeld ⊢
      refine take_ (i := 0) (N := some 31) (v := ?_) (a' := ?_) (Cmp.bm 1 6) rfl rfl (by kernel_rfl) (fun _ _ _ h => h) (Or.inl ⟨by rfl, ?_⟩) hHeld ?_ ?_
      rotate_left
      ·rintro w' ⟨s0, s1, s2, s3, s4, s5, s6, s7, s8, s9⟩; go_simp; with_reducible rfl
      rotate_left
      ·simp only [Act.put, Cmp.s, Cmp.z, Cmp.c, i64_w, i32_w]; rfl
      refine take_ (i := 1) (N := some 32) (v := ?_) (a' := ?_) (Cmp.bm 2 5) rfl rfl (by kernel_rfl) (fun _ _ _ h => h) (Or.inl ⟨by rfl, ?_⟩) hHeld ?_ ?_
      rotate_left
      ·rintro w' ⟨s0, s1, s2, s3, s4, s5, s6, s7, s8, s9⟩; go_simp; with_reducible rfl
      rotate_left
      ·simp only [Act.put, Cmp.s, Cmp.z, Cmp.c, i64_w, i32_w]; rfl
      refine one_ (i := 2) (N := some 33) (Cmp.bm 3 4) rfl rfl (by kernel_rfl) (by decide) (fun K hK => ?_)
      refine goes_ Try.func48 (by kernel_rfl) rfl #[.agg #[.int .i64 (l0.length : Int), .int .i64 a1, .int .i64 a2, .int .i64 t486, .int .i64 t487, .int .i64 0]] (by rfl) rfl rfl Cmp.q ?_
      with_reducible refine (impl_EntryHash.calls kj4 (l0.length : Int) a1 a2 t486 t487 0 t489 _ A15.out).mono ?_
      rintro e w29 ⟨rfl, hb⟩; refine ⟨_, rfl, ?_⟩
      have n0_ := Aside0.mk (blk_below (Cmp.b BK481.out) hb)
      have n1_ := Aside0.mk (blk_below (Cmp.b BK488.out) hb)
      have n2_ := Aside0.mk (below_step (Cmp.g HB.out) hb)
      clear BK481; clear BK488; clear HB; have BK481 := n0_; have BK488 := n1_; have HB := n2_; clear n0_ n1_ n2_; (try clear hb); (try clear hb2); (try clear hk); (try clear hi)
      refine hK.out _ _ ⟨(blk_cell BK481.out 0).trans rfl, (blk_cell BK481.out 1).trans rfl, (blk_cell BK481.out 2).trans rfl, (blk_cell BK481.out 3).trans rfl, (blk_cell BK488.out 0).trans rfl, (blk_cell BK488.out 1).trans rfl, (blk_cell BK488.out 2).trans rfl, (blk_cell BK488.out 3).trans rfl, (blk_cell BK488.out 4).trans rfl, (blk_cell BK488.out 5).trans rfl⟩ (fun hHeld => ?_)
      clear hK K
      refine norm_ (a' := ?_) ?_ ?_
      rotate_left
      ·show Act.put _ (some 33) _ = _
       simp only [Act.put, Cmp.s, Cmp.z, Cmp.c, i64_w, i32_w]; rfl
      refine one_ (i := 3) (N := some 34) (Cmp.bm 4 3) rfl rfl (by kernel_rfl) (by decide) (fun K hK => ?_)
      refine Kd.R_lit_step (Kd.int .i64) _ 3 ?hg (N := 34) ?hd (xs := ([t489] : List Int)) (inner := [.int .i64 t489]) (ok := fun _ => True) (okp := fun _ => True) ?hr ?hp (fun _ hk => hk) trivial (Below.refl _ _) (Nat.le_refl _) (by simp) ?_; (case hd => rfl); (case hg => rfl); (case hr => first | (go_simp; done) | (go_simp; rfl)); (case hp => exact (Reps.one (show Kd.M (Kd.int .i64) _ _ _ t489 [.int .i64 t489] from rfl) (Reps.none _ _)))
      intro v491 w30 ho31 hb hg_ hnew_
      clear hg_ hnew_
      (first | rw [← Ny490.out] at ho31 | (simp only [Int.reduceToNat] at ho31; rw [← Ny490.out] at ho31))
      have n0_ := Aside0.mk (Kd.R_lower ho31 (below_size (Cmp.g HB.out)))
      have n1_ := Aside0.mk (blk_below (Cmp.b BK481.out) hb)
      have n2_ := Aside0.mk (blk_below (Cmp.b BK488.out) hb)
      have n3_ := Aside0.mk (below_step (Cmp.g HB.out) hb)
      clear BK481; clear BK488; clear HB; have HO492 := n0_; have BK481 := n1_; have BK488 := n2_; have HB := n3_; clear n0_ n1_ n2_ n3_; clear hb ho31
      obtain ⟨Ao32, co32, eo32⟩ := Kd.R_slice HO492.out
      (first | subst eo32 | (injection eo32 with f1_ f2_ f3_; have f4_ := f1_.symm; have f5_ := f3_.symm; clear f1_ f2_ f3_; subst f4_; subst f5_))
      refine hK.out _ _ ⟨(blk_cell BK481.out 0).trans rfl, (blk_cell BK481.out 1).trans rfl, (blk_cell BK481.out 2).trans rfl, (blk_cell BK481.out 3).trans rfl, (blk_cell BK488.out 0).trans rfl, (blk_cell BK488.out 1).trans rfl, (blk_cell BK488.out 2).trans rfl, (blk_cell BK488.out 3).trans rfl, (blk_cell BK488.out 4).trans rfl, (blk_cell BK488.out 5).trans rfl⟩ (fun hHeld => ?_)
      clear hK K
      refine norm_ (a' := ?_) ?_ ?_
      rotate_left
      ·show Act.put _ (some 34) _ = _
       simp only [Act.put, Cmp.s, Cmp.z, Cmp.c, i64_w, i32_w]; rfl
      refine one_ (i := 4) (N := some 35) (Cmp.bm 5 2) rfl rfl (by kernel_rfl) (by decide) (fun K hK => ?_)
      refine goes_ Try.func47 (by kernel_rfl) rfl #[.agg #[.int .i64 a3_0, .int .i64 a3_1, .int .i64 a3_2, .int .i64 a3_3], .slice Ao32 y490.length co32] (by rfl) rfl rfl Cmp.q ?_
      with_reducible refine (impl_SignAsDevice.calls kj4 a3_0 a3_1 a3_2 a3_3 _ _ y490 t493 _ ?side1 ?side2 A16.out).mono ?_
      (case side1 => exact Cmp.rc (Kd.R_reads' HO492.out).2.2)
      (case side2 => exact (Kd.R_reads' HO492.out).2.1)
      rintro e w33 ⟨rfl, hb⟩; refine ⟨_, rfl, ?_⟩
      have n0_ := Aside0.mk (Kd.R_below (Cmp.rr HO492.out) hb)
      have n1_ := Aside0.mk (blk_below (Cmp.b BK481.out) hb)
      have n2_ := Aside0.mk (blk_below (Cmp.b BK488.out) hb)
      have n3_ := Aside0.mk (below_step (Cmp.g HB.out) hb)
      clear HO492; clear BK481; clear BK488; clear HB; have HO492 := n0_; have BK481 := n1_; have BK488 := n2_; have HB := n3_; clear n0_ n1_ n2_ n3_; (try clear hb); (try clear hb2); (try clear hk); (try clear hi)
      refine hK.out _ _ ⟨(blk_cell BK481.out 0).trans rfl, (blk_cell BK481.out 1).trans rfl, (blk_cell BK481.out 2).trans rfl, (blk_cell BK481.out 3).trans rfl, (blk_cell BK488.out 0).trans rfl, (blk_cell BK488.out 1).trans rfl, (blk_cell BK488.out 2).trans rfl, (blk_cell BK488.out 3).trans rfl, (blk_cell BK488.out 4).trans rfl, (blk_cell BK488.out 5).trans rfl⟩ (fun hHeld => ?_)
      clear hK K
      refine norm_ (a' := ?_) ?_ ?_
      rotate_left
      ·show Act.put _ (some 35) _ = _
       simp only [Act.put, Cmp.s, Cmp.z, Cmp.c, i64_w, i32_w]; rfl
      refine pure_ (i := 5) (N := some 36) (v := ?_) (a' := ?_) (Cmp.bm 6 1) rfl rfl (by kernel_rfl) (fun _ _ _ h => h) (Or.inl ⟨by rfl, ?_⟩) ?_ ?_
      rotate_left
      ·intro w'; go_simp; with_reducible rfl
      rotate_left
      ·simp only [Act.put, Cmp.s, Cmp.z, Cmp.c, i64_w, i32_w]; rfl
      refine last_ (i := 6) (N := none) (Cmp.bm 7 0) rfl rfl (by kernel_rfl) (by decide) (fun K hK => ?_)
      have hs34 : w33.cell? ⟨gb488, 5, none⟩ = some (.int .i64 0) := (blk_cell BK488.out 5).trans rfl
      have hfs34 := blk_frozen BK488.out 5; have hns34_0 := NB481_488.out; have hms34_0 := NB488_481.out
      refine skip_ (w1 := ?_) (by rfl) rfl ?_ ?_
      rotate_left
      ·go_simp; rfl
      refine hK.out _ _ ?_
      clear hK K
      refine done_ (by kernel_rfl) ?_
      try go_wp2
      have n0_ : Aside0 (Kd.R (Kd.int .i64) 3 (w33.setCell ⟨gb488, 5, none⟩ (.int .i64 t493)) w.heap.size (fun _ => True) (.slice Ao32 y490.length co32) y490) := ⟨by (with_reducible repeat (first | apply Kd.R_alloc | apply Kd.R_drewN | apply Kd.R_drew)); exact Kd.R_mono (Kd.R_far (p := ⟨gb488, 5, none⟩) (Kd.R_types HO492.out BK488.out (by decide)) (fun _ hk => hk.2) (.int .i64 t493)) (fun _ hk => trivial)⟩
      have n1_ : Aside0 ((w33.setCell ⟨gb488, 5, none⟩ (.int .i64 t493)).heap[gb481]? = some (.cells #[.int .i64 a3_0, .int .i64 a3_1, .int .i64 a3_2, .int .i64 a3_3] 26 (0, 0))) := ⟨by (with_reducible repeat (first | refine blk_drewN ?_ _ | refine blk_drew ?_ | refine blk_alloc ?_ _)); refine blk_far ?_ NB481_488.out _; (with_reducible repeat (first | refine blk_drewN ?_ _ | refine blk_drew ?_ | refine blk_alloc ?_ _)); exact BK481.out⟩
      have n2_ : Aside0 ((w33.setCell ⟨gb488, 5, none⟩ (.int .i64 t493)).heap[gb488]? = some (.cells #[.int .i64 (l0.length : Int), .int .i64 a1, .int .i64 a2, .int .i64 t486, .int .i64 t487, .int .i64 t493] 74 (0, 0))) := ⟨by (with_reducible repeat (first | refine blk_drewN ?_ _ | refine blk_drew ?_ | refine blk_alloc ?_ _)); refine blk_put (cs := #[.int .i64 (l0.length : Int), .int .i64 a1, .int .i64 a2, .int .i64 t486, .int .i64 t487, .int .i64 0]) ?_ 5 _ rfl; (with_reducible repeat (first | refine blk_drewN ?_ _ | refine blk_drew ?_ | refine blk_alloc ?_ _)); exact BK488.out⟩
      have n3_ : Aside0 (Below w.heap.size w (w33.setCell ⟨gb488, 5, none⟩ (.int .i64 t493))) := ⟨Cmp.g HB.out⟩
      (try clear HO492); (try clear BK481); (try clear BK488); (try clear HB)
      generalize (w33.setCell ⟨gb488, 5, none⟩ (.int .i64 t493)) = w35 at n0_ n1_ n2_ n3_ ⊢
      have HO492 := n0_; have BK481 := n1_; have BK488 := n2_; have HB := n3_; clear n0_ n1_ n2_ n3_; have n0_ := Aside0.mk (Kd.R_drew HO492.out); have n1_ := Aside0.mk (blk_drew BK481.out); have n2_ := Aside0.mk (blk_drew BK488.out); have n3_ := Aside0.mk (below_drew1 HB.out); clear HO492; clear BK481; clear BK488; clear HB; have HO492 := n0_; have BK481 := n1_; have BK488 := n2_; have HB := n3_; clear n0_ n1_ n2_ n3_
      refine start_ (n := 6) (S := fun w' => w'.cell? ⟨gb488, 0, none⟩ = some (.int .i64 (l0.length : Int)) ∧ w'.cell? ⟨gb488, 1, none⟩ = some (.int .i64 a1) ∧ w'.cell? ⟨gb488, 2, none⟩ = some (.int .i64 a2) ∧ w'.cell? ⟨gb488, 3, none⟩ = some (.int .i64 t486) ∧ w'.cell? ⟨gb488, 4, none⟩ = some (.int .i64 t487) ∧ w'.cell? ⟨gb488, 5, none⟩ = some (.int .i64 t493)) (ds := []) (Cmp.bm 0 6) (by kernel_rfl) rfl rfl ⟨(blk_cell BK488.out 0).trans rfl, (blk_cell BK488.out 1).trans rfl, (blk_cell BK488.out 2).trans rfl, (blk_cell BK488.out 3).trans rfl, (blk_cell BK488.out 4).trans rfl, (blk_cell BK488.out 5).trans rfl⟩ (fun hHeld => ?_)
      generalize w35.drew = w36 at HO492 BK481 BK488 HB hHeld ⊢
      refine pure_ (i := 0) (N := some 37) (v := ?_) (a' := ?_) (Cmp.bm 1 5) rfl rfl (by kernel_rfl) (fun _ _ _ h => h) (Or.inl ⟨by rfl, ?_⟩) ?_ ?_
      rotate_left
      ·intro w'; go_simp; with_reducible rfl
      rotate_left
      ·simp only [Act.put, Cmp.s, Cmp.z, Cmp.c, i64_w, i32_w]; rfl
      refine take_ (i := 2) (N := some 39) (v := ?_) (a' := ?_) (Cmp.bb 6 5) rfl rfl (by kernel_rfl) (fun _ _ _ h => h) (Or.inl ⟨by rfl, ?_⟩) hHeld ?_ ?_
      rotate_left
      ·rintro w' ⟨s0, s1, s2, s3, s4, s5⟩; go_simp; with_reducible rfl
      rotate_left
      ·simp only [Act.put, Cmp.s, Cmp.z, Cmp.c, i64_w, i32_w]; rfl
      refine join_ (σ := Value × Value) 2 (Cmp.bm 4 2) (fun s_ => [(38, s_.1), (40, s_.2)]) (fun s_ w' => (w'.cell? ⟨gb488, 0, none⟩ = some (.int .i64 (l0.length : Int)) ∧ w'.cell? ⟨gb488, 1, none⟩ = some (.int .i64 a1) ∧ w'.cell? ⟨gb488, 2, none⟩ = some (.int .i64 a2) ∧ w'.cell? ⟨gb488, 3, none⟩ = some (.int .i64 t486) ∧ w'.cell? ⟨gb488, 4, none⟩ = some (.int .i64 t487) ∧ w'.cell? ⟨gb488, 5, none⟩ = some (.int .i64 t493)) ∧ (Kd.R (Kd.int .i64) 3 w' w.heap.size (fun _ => True) (.slice Ao32 y490.length co32) y490) ∧ (Kd.R k74 74 w' w.heap.size (fun k_ => some k_ ≠ (s_.2 : Value).ownBlock ∧ k_ ≠ gb488) s_.1 t494) ∧ (Kd.R k74 74 w' w.heap.size (fun k_ => some k_ ≠ (s_.1 : Value).ownBlock ∧ k_ ≠ gb488) s_.2 y497) ∧ (w'.heap[gb481]? = some (.cells #[.int .i64 a3_0, .int .i64 a3_1, .int .i64 a3_2, .int .i64 a3_3] 26 (0, 0))) ∧ (w'.heap[gb488]? = some (.cells #[.int .i64 (l0.length : Int), .int .i64 a1, .int .i64 a2, .int .i64 t486, .int .i64 t487, .int .i64 t493] 74 (0, 0))) ∧ (Below w.heap.size w w')) ?_ ?_
      rotate_left
      ·intro hCont
       refine two_ (i := 1) (j := 3) (Ni := some 38) (Nj := some 40) (Cmp.bm 3 3) (Cmp.bb 6 13) rfl rfl rfl rfl (by kernel_rfl) (by decide) (by decide) (fun K hK => ?_) (fun K hK => ?_)
       ·skip
        refine goes_ Try.func44 (by kernel_rfl) rfl #[.slice A0 l0.length c0] (by rfl) rfl rfl Cmp.q ?_
        with_reducible refine (impl_copyLog.calls _ _ l0 t494 _ ?side1 ?side2 A17.out).mono ?_
        (case side1 => exact Cmp.rc (Kd.C_below HR0.out HB.out))
        (case side2 => exact HC0.out)
        rintro e w37 ⟨v495, rfl, ho0, hb⟩; refine ⟨_, rfl, ?_⟩
        have n0_ := Aside0.mk (Kd.R_below (Cmp.rr HO492.out) hb)
        have n1_ := Aside0.mk (Kd.R_lower (Kd.R_newB ho0 (g := gb488) (o := .cells #[.int .i64 (l0.length : Int), .int .i64 a1, .int .i64 a2, .int .i64 t486, .int .i64 t487, .int .i64 t493] 74 (0, 0)) (Cmp.b BK488.out)) (below_size (Cmp.g HB.out)))
        have n2_ := Aside0.mk (blk_below (Cmp.b BK481.out) hb)
        have n3_ := Aside0.mk (blk_below (Cmp.b BK488.out) hb)
        have n4_ := Aside0.mk (below_step (Cmp.g HB.out) hb)
        clear HO492; clear BK481; clear BK488; clear HB; have HO492 := n0_; have HO496 := n1_; have BK481 := n2_; have BK488 := n3_; have HB := n4_; clear n0_ n1_ n2_ n3_ n4_; (try clear hb); (try clear hb2); (try clear hk); (try clear hi); (try clear ho0)
        refine hK.out _ _ ⟨(blk_cell BK488.out 0).trans rfl, (blk_cell BK488.out 1).trans rfl, (blk_cell BK488.out 2).trans rfl, (blk_cell BK488.out 3).trans rfl, (blk_cell BK488.out 4).trans rfl, (blk_cell BK488.out 5).trans rfl⟩ (fun hHeld => ?_)
        clear hK K
        refine norm_ (a' := ?_) ?_ ?_
        rotate_left
        ·show Act.put _ (some 38) _ = _
         simp only [Act.put, Cmp.s, Cmp.z, Cmp.c, i64_w, i32_w]; rfl
        refine one_ (i := 3) (N := some 40) (Cmp.bm 4 2) rfl rfl (by kernel_rfl) (by decide) (fun K hK => ?_)
        refine Kd.R_lit_step k74 _ 74 ?hg (N := 40) ?hd (xs := ([(⟨(l0.length : Int), a1, a2, t486, t487, t493⟩ : S74)] : List (S74))) (inner := [.int .i64 (l0.length : Int), .int .i64 a1, .int .i64 a2, .int .i64 t486, .int .i64 t487, .int .i64 t493]) (ok := fun _ => True) (okp := fun _ => True) ?hr ?hp (fun _ hk => hk) trivial (Below.refl _ _) (Nat.le_refl _) (by simp) ?_; (case hd => rfl); (case hg => rfl); (case hr => first | (go_simp; done) | (go_simp; rfl)); (case hp => exact (Reps.c6 (show Kd.M k74 _ _ _ (⟨(l0.length : Int), a1, a2, t486, t487, t493⟩ : S74) [.int .i64 (l0.length : Int), .int .i64 a1, .int .i64 a2, .int .i64 t486, .int .i64 t487, .int .i64 t493] from (k74_mkM _ _ _ (⟨(l0.length : Int), a1, a2, t486, t487, t493⟩ : S74) )) (Reps.none _ _)))
        intro v498 w38 ho39 hb hg_ hnew_
        clear hg_ hnew_
        (first | rw [← Ny497.out] at ho39 | (simp only [Int.reduceToNat] at ho39; rw [← Ny497.out] at ho39))
        have n0_ := Aside0.mk (Kd.R_below (Cmp.rr HO492.out) hb)
        have n1_ := Aside0.mk (Kd.R_elder' (Cmp.rr HO496.out) (Kd.R_base ho39) hb)
        have n2_ := Aside0.mk (Kd.R_lower (Kd.R_newB (Kd.R_new' ho39 (Kd.R_lt (Cmp.rr HO496.out))) (g := gb488) (o := .cells #[.int .i64 (l0.length : Int), .int .i64 a1, .int .i64 a2, .int .i64 t486, .int .i64 t487, .int .i64 t493] 74 (0, 0)) (Cmp.b BK488.out)) (below_size (Cmp.g HB.out)))
        have n3_ := Aside0.mk (blk_below (Cmp.b BK481.out) hb)
        have n4_ := Aside0.mk (blk_below (Cmp.b BK488.out) hb)
        have n5_ := Aside0.mk (below_step (Cmp.g HB.out) hb)
        clear HO492; clear HO496; clear BK481; clear BK488; clear HB; have HO492 := n0_; have HO496 := n1_; have HO499 := n2_; have BK481 := n3_; have BK488 := n4_; have HB := n5_; clear n0_ n1_ n2_ n3_ n4_ n5_; clear hb ho39
        refine hK.out _ _ ⟨(blk_cell BK488.out 0).trans rfl, (blk_cell BK488.out 1).trans rfl, (blk_cell BK488.out 2).trans rfl, (blk_cell BK488.out 3).trans rfl, (blk_cell BK488.out 4).trans rfl, (blk_cell BK488.out 5).trans rfl⟩ (fun hHeld => ?_)
        clear hK K
        refine norm_ (a' := ?_) ?_ ?_
        rotate_left
        ·show Act.put _ (some 40) _ = _
         simp only [Act.put, Cmp.s, Cmp.z, Cmp.c, i64_w, i32_w]; rfl
        exact norm_ (by simp only [putAll, Act.put, List.setIfInBounds_toArray, List.set_cons_zero, List.set_cons_succ]) (hCont (v495, v498) _ ⟨hHeld, (Cmp.rr HO492.out), (by (with_reducible repeat (first | apply Kd.R_alloc | apply Kd.R_drewN | apply Kd.R_drew)); exact Kd.R_mono HO496.out (fun _ hk => ⟨hk.2, hk.1.2⟩)), (by (with_reducible repeat (first | apply Kd.R_alloc | apply Kd.R_drewN | apply Kd.R_drew)); exact Kd.R_mono HO499.out (fun _ hk => ⟨hk.1.2, hk.2⟩)), (Cmp.b BK481.out), (Cmp.b BK488.out), (Cmp.g HB.out)⟩)
       ·skip
        refine Kd.R_lit_step k74 _ 74 ?hg (N := 40) ?hd (xs := ([(⟨(l0.length : Int), a1, a2, t486, t487, t493⟩ : S74)] : List (S74))) (inner := [.int .i64 (l0.length : Int), .int .i64 a1, .int .i64 a2, .int .i64 t486, .int .i64 t487, .int .i64 t493]) (ok := fun _ => True) (okp := fun _ => True) ?hr ?hp (fun _ hk => hk) trivial (Below.refl _ _) (Nat.le_refl _) (by simp) ?_; (case hd => rfl); (case hg => rfl); (case hr => first | (go_simp; done) | (go_simp; rfl)); (case hp => exact (Reps.c6 (show Kd.M k74 _ _ _ (⟨(l0.length : Int), a1, a2, t486, t487, t493⟩ : S74) [.int .i64 (l0.length : Int), .int .i64 a1, .int .i64 a2, .int .i64 t486, .int .i64 t487, .int .i64 t493] from (k74_mkM _ _ _ (⟨(l0.length : Int), a1, a2, t486, t487, t493⟩ : S74) )) (Reps.none _ _)))
        intro v498 w37 ho38 hb hg_ hnew_
        clear hg_ hnew_
        (first | rw [← Ny497.out] at ho38 | (simp only [Int.reduceToNat] at ho38; rw [← Ny497.out] at ho38))
        have n0_ := Aside0.mk (Kd.R_below (Cmp.rr HO492.out) hb)
        have n1_ := Aside0.mk (Kd.R_lower (Kd.R_newB ho38 (g := gb488) (o := .cells #[.int .i64 (l0.length : Int), .int .i64 a1, .int .i64 a2, .int .i64 t486, .int .i64 t487, .int .i64 t493] 74 (0, 0)) (Cmp.b BK488.out)) (below_size (Cmp.g HB.out)))
        have n2_ := Aside0.mk (blk_below (Cmp.b BK481.out) hb)
        have n3_ := Aside0.mk (blk_below (Cmp.b BK488.out) hb)
        have n4_ := Aside0.mk (below_step (Cmp.g HB.out) hb)
        clear HO492; clear BK481; clear BK488; clear HB; have HO492 := n0_; have HO499 := n1_; have BK481 := n2_; have BK488 := n3_; have HB := n4_; clear n0_ n1_ n2_ n3_ n4_; clear hb ho38
        refine hK.out _ _ ⟨(blk_cell BK488.out 0).trans rfl, (blk_cell BK488.out 1).trans rfl, (blk_cell BK488.out 2).trans rfl, (blk_cell BK488.out 3).trans rfl, (blk_cell BK488.out 4).trans rfl, (blk_cell BK488.out 5).trans rfl⟩ (fun hHeld => ?_)
        clear hK K
        refine norm_ (a' := ?_) ?_ ?_
        rotate_left
        ·show Act.put _ (some 40) _ = _
         simp only [Act.put, Cmp.s, Cmp.z, Cmp.c, i64_w, i32_w]; rfl
        refine one_ (i := 1) (N := some 38) (Cmp.bm 4 2) rfl rfl (by kernel_rfl) (by decide) (fun K hK => ?_)
        refine goes_ Try.func44 (by kernel_rfl) rfl #[.slice A0 l0.length c0] (by rfl) rfl rfl Cmp.q ?_
        with_reducible refine (impl_copyLog.calls _ _ l0 t494 _ ?side1 ?side2 A17.out).mono ?_
        (case side1 => exact Cmp.rc (Kd.C_below HR0.out HB.out))
        (case side2 => exact HC0.out)
        rintro e w39 ⟨v495, rfl, ho0, hb⟩; refine ⟨_, rfl, ?_⟩
        have n0_ := Aside0.mk (Kd.R_below (Cmp.rr HO492.out) hb)
        have n1_ := Aside0.mk (Kd.R_elder' (Cmp.rr HO499.out) (Kd.R_base ho0) hb)
        have n2_ := Aside0.mk (Kd.R_lower (Kd.R_newB (Kd.R_new' ho0 (Kd.R_lt (Cmp.rr HO499.out))) (g := gb488) (o := .cells #[.int .i64 (l0.length : Int), .int .i64 a1, .int .i64 a2, .int .i64 t486, .int .i64 t487, .int .i64 t493] 74 (0, 0)) (Cmp.b BK488.out)) (below_size (Cmp.g HB.out)))
        have n3_ := Aside0.mk (blk_below (Cmp.b BK481.out) hb)
        have n4_ := Aside0.mk (blk_below (Cmp.b BK488.out) hb)
        have n5_ := Aside0.mk (below_step (Cmp.g HB.out) hb)
        clear HO492; clear HO499; clear BK481; clear BK488; clear HB; have HO492 := n0_; have HO499 := n1_; have HO496 := n2_; have BK481 := n3_; have BK488 := n4_; have HB := n5_; clear n0_ n1_ n2_ n3_ n4_ n5_; (try clear hb); (try clear hb2); (try clear hk); (try clear hi); (try clear ho0)
        refine hK.out _ _ ⟨(blk_cell BK488.out 0).trans rfl, (blk_cell BK488.out 1).trans rfl, (blk_cell BK488.out 2).trans rfl, (blk_cell BK488.out 3).trans rfl, (blk_cell BK488.out 4).trans rfl, (blk_cell BK488.out 5).trans rfl⟩ (fun hHeld => ?_)
        clear hK K
        refine norm_ (a' := ?_) ?_ ?_
        rotate_left
        ·show Act.put _ (some 38) _ = _
         simp only [Act.put, Cmp.s, Cmp.z, Cmp.c, i64_w, i32_w]; rfl
        exact norm_ (by simp only [putAll, Act.put, List.setIfInBounds_toArray, List.set_cons_zero, List.set_cons_succ]) (hCont (v495, v498) _ ⟨hHeld, (Cmp.rr HO492.out), (by (with_reducible repeat (first | apply Kd.R_alloc | apply Kd.R_drewN | apply Kd.R_drew)); exact Kd.R_mono HO496.out (fun _ hk => ⟨hk.1.2, hk.2⟩)), (by (with_reducible repeat (first | apply Kd.R_alloc | apply Kd.R_drewN | apply Kd.R_drew)); exact Kd.R_mono HO499.out (fun _ hk => ⟨hk.2, hk.1.2⟩)), (Cmp.b BK481.out), (Cmp.b BK488.out), (Cmp.g HB.out)⟩)
      rintro ⟨v495, v498⟩ w40 ⟨hS_, h0_, h1_, h2_, h3_, h4_, h5_⟩
      have n0_ : Aside0 (Kd.R (Kd.int .i64) 3 w40 w.heap.size (fun _ => True) (.slice Ao32 y490.length co32) y490) := ⟨h0_⟩
      have n1_ : Aside0 (Kd.R k74 74 w40 w.heap.size (fun k_ => some k_ ≠ (v498 : Value).ownBlock ∧ k_ ≠ gb488) v495 t494) := ⟨h1_⟩
      have n2_ : Aside0 (Kd.R k74 74 w40 w.heap.size (fun k_ => some k_ ≠ (v495 : Value).ownBlock ∧ k_ ≠ gb488) v498 y497) := ⟨h2_⟩
      have n3_ : Aside0 (w40.heap[gb481]? = some (.cells #[.int .i64 a3_0, .int .i64 a3_1, .int .i64 a3_2, .int .i64 a3_3] 26 (0, 0))) := ⟨h3_⟩
      have n4_ : Aside0 (w40.heap[gb488]? = some (.cells #[.int .i64 (l0.length : Int), .int .i64 a1, .int .i64 a2, .int .i64 t486, .int .i64 t487, .int .i64 t493] 74 (0, 0))) := ⟨h4_⟩
      have n5_ : Aside0 (Below w.heap.size w w40) := ⟨h5_⟩
      clear HO492; clear BK481; clear BK488; clear HB; clear h0_ h1_ h2_ h3_ h4_ h5_; have HO492 := n0_; have HO496 := n1_; have HO499 := n2_; have BK481 := n3_; have BK488 := n4_; have HB := n5_; clear n0_ n1_ n2_ n3_ n4_ n5_
      have hHeld : w40.cell? ⟨gb488, 0, none⟩ = some (.int .i64 (l0.length : Int)) ∧ w40.cell? ⟨gb488, 1, none⟩ = some (.int .i64 a1) ∧ w40.cell? ⟨gb488, 2, none⟩ = some (.int .i64 a2) ∧ w40.cell? ⟨gb488, 3, none⟩ = some (.int .i64 t486) ∧ w40.cell? ⟨gb488, 4, none⟩ = some (.int .i64 t487) ∧ w40.cell? ⟨gb488, 5, none⟩ = some (.int .i64 t493) := hS_
      obtain ⟨Ao42, co42, eo42⟩ := Kd.R_slice HO499.out
      (first | subst eo42 | (injection eo42 with f1_ f2_ f3_; have f4_ := f1_.symm; have f5_ := f3_.symm; clear f1_ f2_ f3_; subst f4_; subst f5_))
      refine norm_ (a' := ?_) ?_ ?_
      rotate_left
      ·simp only [putAll, Act.put, List.setIfInBounds_toArray, List.set_cons_zero, List.set_cons_succ]; rfl
      refine one_ (i := 4) (N := some 41) (Cmp.bm 5 1) rfl rfl (by kernel_rfl) (by decide) (fun K hK => ?_)
      refine Kd.R_append_rows_step k74 (w0 := w) w.heap.size (by rfl) (.tmp 38) (.tmp 40) 24 74 (.agg #[(.int .i64 0), (.int .i64 0), (.int .i64 0), (.int .i64 0), (.int .i64 0), (.int .i64 0)]) 48 rfl Try.underlying24 info74 rfl (by decide) (by omega) v495 t494 y497 _ _ _ (fun k_ => some k_ ≠ (.slice Ao42 y497.length co42 : Value).ownBlock ∧ k_ ≠ gb488) (fun _ => False) rfl rfl ?aO ?aR (fun _ _ h => h) (fun _ h => h.elim) ?aF ?aB ?aS ?aL ?_
      (case aR => repeat (first | exact (Kd.R_reads' HO499.out).2.2 | (with_reducible refine Kd.C_alloc ?_ _) | (with_reducible refine Kd.C_drewN ?_ _) | (with_reducible refine Kd.C_drew ?_)))
      (case aB => exact (Cmp.g HB.out))
      (case aF => exact (fun k_ hk => ⟨Kd.fresh' (Kd.R_lt (Cmp.rr HO499.out)) k_ hk, Kd.freshB (g := gb488) (o := .cells #[.int .i64 (l0.length : Int), .int .i64 a1, .int .i64 a2, .int .i64 t486, .int .i64 t487, .int .i64 t493] 74 (0, 0)) (Cmp.b BK488.out) k_ hk⟩))
      (case aO => exact (Cmp.rr HO496.out))
      (case aS => exact (below_size (Cmp.g HB.out)))
      (case aL => have := LMc18.out; omega)
      intro v501 w41 ho hb hg hat
      rw [← Ny500.out] at ho
      have n0_ := Aside0.mk (blk_grown (g := gb481) (o := .cells #[.int .i64 a3_0, .int .i64 a3_1, .int .i64 a3_2, .int .i64 a3_3] 26 (0, 0)) (Cmp.b BK481.out) hg (Kd.R_ne HO496.out BK481.out (by decide)))
      have n1_ := Aside0.mk (blk_grown (g := gb488) (o := .cells #[.int .i64 (l0.length : Int), .int .i64 a1, .int .i64 a2, .int .i64 t486, .int .i64 t487, .int .i64 t493] 74 (0, 0)) (Cmp.b BK488.out) hg (Kd.R_away HO496.out (fun _ hk => hk.2)))
      have n2_ := Aside0.mk (Kd.R_over' (Cmp.rr HO492.out) (Kd.R_typed (Cmp.rr HO496.out)) (by decide) hg)
      have n3_ := Aside0.mk (Kd.R_after (ok := (fun k_ => k_ ≠ gb488)) (by (with_reducible repeat (first | apply Kd.R_alloc | apply Kd.R_drewN | apply Kd.R_drew)); exact Kd.R_mono HO499.out (fun _ hk => ⟨hk.2, hk.1⟩)) hg hat)
      have n4_ := Aside0.mk (hb)
      have n5_ := Aside0.mk (ho)
      clear BK481; clear BK488; clear HO492; clear HO499; clear HB; clear HO496; have BK481 := n0_; have BK488 := n1_; have HO492 := n2_; have HO499 := n3_; have HB := n4_; have HO502 := n5_; clear n0_ n1_ n2_ n3_ n4_ n5_; clear ho hb hg hat
      refine hK.out _ _ ⟨(blk_cell BK488.out 0).trans rfl, (blk_cell BK488.out 1).trans rfl, (blk_cell BK488.out 2).trans rfl, (blk_cell BK488.out 3).trans rfl, (blk_cell BK488.out 4).trans rfl, (blk_cell BK488.out 5).trans rfl⟩ (fun hHeld => ?_)
      clear hK K
      refine norm_ (a' := ?_) ?_ ?_
      rotate_left
      ·show Act.put _ (some 41) _ = _
       simp only [Act.put, Cmp.s, Cmp.z, Cmp.c, i64_w, i32_w]; rfl
      refine pure_ (i := 5) (N := some 11) (v := ?_) (a' := ?_) (Cmp.bm 6 0) rfl rfl (by kernel_rfl) (fun _ _ _ h => h) (Or.inl ⟨by rfl, ?_⟩) ?_ ?_
      rotate_left
      ·intro w'; go_simp; with_reducible rfl
      rotate_left
      ·simp only [Act.put, Cmp.s, Cmp.z, Cmp.c, i64_w, i32_w]; rfl
      refine done_ (by kernel_rfl) ?_
      obtain ⟨Ao43, co43, eo43⟩ := Kd.R_slice HO502.out
      subst eo43
      try go_wp2_with (first | ((with_reducible refine gate_callee (f := 43) rfl ?_); refine goesL_ (some 43) rfl rfl Try.func43 (by kernel_rfl) rfl #[.slice Ao43 y500.length co43] rfl Cmp.q ?_; (with_reducible refine (impl_VerifyLog.calls kj4 _ _ y500 true _ ?side1 ?side2 A19.out).mono ?_); (case side1 => exact Cmp.rc (Kd.R_reads' HO502.out).2.2); (case side2 => exact (Kd.R_reads' HO502.out).2.1); rintro e w44 ⟨rfl, hb⟩; refine ⟨_, rfl, ?_⟩; have n0_ := Aside0.mk (Kd.R_below (Cmp.rr HO492.out) hb); have n1_ := Aside0.mk (Kd.R_below (Cmp.rr HO499.out) hb); have n2_ := Aside0.mk (Kd.R_below (Cmp.rr HO502.out) hb); have n3_ := Aside0.mk (blk_below (Cmp.b BK481.out) hb); have n4_ := Aside0.mk (blk_below (Cmp.b BK488.out) hb); have n5_ := Aside0.mk (below_step (Cmp.g HB.out) hb); clear HO492; clear HO499; clear HO502; clear BK481; clear BK488; clear HB; have HO492 := n0_; have HO499 := n1_; have HO502 := n2_; have BK481 := n3_; have BK488 := n4_; have HB := n5_; clear n0_ n1_ n2_ n3_ n4_ n5_; (try clear hb); (try clear hb2); (try clear hk); (try clear hi)))
      go_ret2
      exact ⟨_, by first | rfl | (simp [errW_none, errW_some] <;> rfl) | (simp [*, errW_none, errW_some] <;> rfl), by (with_reducible repeat (first | apply Kd.R_alloc | apply Kd.R_drewN | apply Kd.R_drew)); exact Kd.R_mono HO502.out (fun _ hk => trivial), Cmp.g HB.out⟩
     ·replace c20 := Bool.eq_false_iff.mpr c20
      subst c20
      have H1 : ((impl_copyLog.f l0).bind fun t504 => (some (t504, false))) = some (r1, r2) := by rw [if_neg (show ¬ (false = true) by decide)] at H; exact H
      clear H; have H := H1; clear H1; replace H := Option.bind_eq_some_iff.mp H; obtain ⟨t504, A450, H⟩ := H; (try dsimp only at H); have A45 := Aside0.mk A450; clear A450
      simp only [Option.some.injEq, Prod.mk.injEq] at H
      obtain ⟨rfl, rfl⟩ := H
      have hcz46_0 : wc.cell? ⟨gb481, 0, none⟩ = some (.int .i64 a3_0) := (blk_cell BK481.out 0).trans rfl
      have hcz46_1 : wc.cell? ⟨gb481, 1, none⟩ = some (.int .i64 a3_1) := (blk_cell BK481.out 1).trans rfl
      have hcz46_2 : wc.cell? ⟨gb481, 2, none⟩ = some (.int .i64 a3_2) := (blk_cell BK481.out 2).trans rfl
      have hcz46_3 : wc.cell? ⟨gb481, 3, none⟩ = some (.int .i64 a3_3) := (blk_cell BK481.out 3).trans rfl
      have hfz46_0 := blk_frozen BK481.out 0; have hfz46_1 := blk_frozen BK481.out 1; have hfz46_2 := blk_frozen BK481.out 2; have hfz46_3 := blk_frozen BK481.out 3
      try go_wp2_with (first | ((with_reducible refine gate_callee (f := 45) rfl ?_); refine goesL_ (some 27) rfl rfl Try.func45 (by kernel_rfl) rfl #[.agg #[.int .i64 a3_0, .int .i64 a3_1, .int .i64 a3_2, .int .i64 a3_3]] rfl Cmp.q ?_; (with_reducible refine (impl_DevicePublic.calls kj4 a3_0 a3_1 a3_2 a3_3 t486 _ A13.out).mono ?_); rintro e w47 ⟨rfl, hb⟩; refine ⟨_, rfl, ?_⟩; have n0_ := Aside0.mk (blk_below (Cmp.b BK481.out) hb); have n1_ := Aside0.mk (below_step (Cmp.g HB.out) hb); clear BK481; clear HB; have BK481 := n0_; have HB := n1_; clear n0_ n1_; (try clear hb); (try clear hb2); (try clear hk); (try clear hi)) | ((with_reducible refine gate_callee (f := 46) rfl ?_); refine goesL_ (some 29) rfl rfl Try.func46 (by kernel_rfl) rfl #[.slice A0 l0.length c0] rfl Cmp.q ?_; (with_reducible refine (impl_LogHead.calls kj4 _ _ l0 t487 _ ?side1 ?side2 A14.out).mono ?_); (case side1 => exact Cmp.rc (Kd.C_below HR0.out HB.out)); (case side2 => exact HC0.out); rintro e w48 ⟨rfl, hb⟩; refine ⟨_, rfl, ?_⟩; have n0_ := Aside0.mk (blk_below (Cmp.b BK481.out) hb); have n1_ := Aside0.mk (below_step (Cmp.g HB.out) hb); clear BK481; clear HB; have BK481 := n0_; have HB := n1_; clear n0_ n1_; (try clear hb); (try clear hb2); (try clear hk); (try clear hi)) | ((with_reducible refine gate_dst (N := 10) rfl ?_); refine box_event ?hg (N := 10) ?hd (cs := #[.int .i64 0, .int .i64 0, .int .i64 0, .int .i64 0, .int .i64 0, .int .i64 0]) (t := 74) ?hr ?_; (case hd => rfl); (case hg => rfl); (case hr => first | (go_simp; done) | (go_simp; rfl)); intro gb488 hg w49 hbox hb; have n0_ := Aside0.mk (blk_below (Cmp.b BK481.out) hb); have n1_ := Aside0.mk (below_step (Cmp.g HB.out) hb); have n2_ := Aside0.mk (hbox); have n3_ := Aside0.mk ((by rw [hg]; exact (below_size (Cmp.g HB.out)) : w.heap.size ≤ gb488)); have n4_ := Aside0.mk ((by rw [hg]; exact (below_size (Cmp.g HB.out)) : w.heap.size ≤ gb488)); have n5_ := Aside0.mk ((by rw [hg]; exact Nat.ne_of_lt (blk_lt (Cmp.b BK481.out)) : gb481 ≠ gb488)); have n6_ := Aside0.mk ((by rw [hg]; exact Nat.ne_of_gt (blk_lt (Cmp.b BK481.out)) : gb488 ≠ gb481)); clear BK481; clear HB; have BK481 := n0_; have HB := n1_; have BK488 := n2_; have GW488 := n3_; have GE488 := n4_; have NB481_488 := n5_; have NB488_481 := n6_; clear n0_ n1_ n2_ n3_ n4_ n5_ n6_; clear hb hbox hg; have hnb50 := NB488_481.out; have hnc50 := NB481_488.out; have hcz51_0 : w49.cell? ⟨gb488, 0, none⟩ = some (.int .i64 0) := (blk_cell BK488.out 0).trans rfl; have hcz51_1 : w49.cell? ⟨gb488, 1, none⟩ = some (.int .i64 0) := (blk_cell BK488.out 1).trans rfl; have hcz51_2 : w49.cell? ⟨gb488, 2, none⟩ = some (.int .i64 0) := (blk_cell BK488.out 2).trans rfl; have hcz51_3 : w49.cell? ⟨gb488, 3, none⟩ = some (.int .i64 0) := (blk_cell BK488.out 3).trans rfl; have hcz51_4 : w49.cell? ⟨gb488, 4, none⟩ = some (.int .i64 0) := (blk_cell BK488.out 4).trans rfl; have hcz51_5 : w49.cell? ⟨gb488, 5, none⟩ = some (.int .i64 0) := (blk_cell BK488.out 5).trans rfl; have hfz51_0 := blk_frozen BK488.out 0; have hfz51_1 := blk_frozen BK488.out 1; have hfz51_2 := blk_frozen BK488.out 2; have hfz51_3 := blk_frozen BK488.out 3; have hfz51_4 := blk_frozen BK488.out 4; have hfz51_5 := blk_frozen BK488.out 5))
      have n0_ : Aside0 (((((((w49.setCell ⟨gb488, 0, none⟩ (.int .i64 (l0.length : Int))).setCell ⟨gb488, 1, none⟩ (.int .i64 a1)).setCell ⟨gb488, 2, none⟩ (.int .i64 a2)).setCell ⟨gb488, 3, none⟩ (.int .i64 t486)).setCell ⟨gb488, 4, none⟩ (.int .i64 t487)).setCell ⟨gb488, 5, none⟩ (.int .i64 0)).heap[gb481]? = some (.cells #[.int .i64 a3_0, .int .i64 a3_1, .int .i64 a3_2, .int .i64 a3_3] 26 (0, 0))) := ⟨by (with_reducible repeat (first | refine blk_drewN ?_ _ | refine blk_drew ?_ | refine blk_alloc ?_ _)); refine blk_far ?_ NB481_488.out _; (with_reducible repeat (first | refine blk_drewN ?_ _ | refine blk_drew ?_ | refine blk_alloc ?_ _)); refine blk_far ?_ NB481_488.out _; (with_reducible repeat (first | refine blk_drewN ?_ _ | refine blk_drew ?_ | refine blk_alloc ?_ _)); refine blk_far ?_ NB481_488.out _; (with_reducible repeat (first | refine blk_drewN ?_ _ | refine blk_drew ?_ | refine blk_alloc ?_ _)); refine blk_far ?_ NB481_488.out _; (with_reducible repeat (first | refine blk_drewN ?_ _ | refine blk_drew ?_ | refine blk_alloc ?_ _)); refine blk_far ?_ NB481_488.out _; (with_reducible repeat (first | refine blk_drewN ?_ _ | refine blk_drew ?_ | refine blk_alloc ?_ _)); refine blk_far ?_ NB481_488.out _; (with_reducible repeat (first | refine blk_drewN ?_ _ | refine blk_drew ?_ | refine blk_alloc ?_ _)); exact BK481.out⟩
      have n1_ : Aside0 (((((((w49.setCell ⟨gb488, 0, none⟩ (.int .i64 (l0.length : Int))).setCell ⟨gb488, 1, none⟩ (.int .i64 a1)).setCell ⟨gb488, 2, none⟩ (.int .i64 a2)).setCell ⟨gb488, 3, none⟩ (.int .i64 t486)).setCell ⟨gb488, 4, none⟩ (.int .i64 t487)).setCell ⟨gb488, 5, none⟩ (.int .i64 0)).heap[gb488]? = some (.cells #[.int .i64 (l0.length : Int), .int .i64 a1, .int .i64 a2, .int .i64 t486, .int .i64 t487, .int .i64 0] 74 (0, 0))) := ⟨by (with_reducible repeat (first | refine blk_drewN ?_ _ | refine blk_drew ?_ | refine blk_alloc ?_ _)); refine blk_put (cs := #[.int .i64 (l0.length : Int), .int .i64 a1, .int .i64 a2, .int .i64 t486, .int .i64 t487, .int .i64 0]) ?_ 5 _ rfl; (with_reducible repeat (first | refine blk_drewN ?_ _ | refine blk_drew ?_ | refine blk_alloc ?_ _)); refine blk_put (cs := #[.int .i64 (l0.length : Int), .int .i64 a1, .int .i64 a2, .int .i64 t486, .int .i64 0, .int .i64 0]) ?_ 4 _ rfl; (with_reducible repeat (first | refine blk_drewN ?_ _ | refine blk_drew ?_ | refine blk_alloc ?_ _)); refine blk_put (cs := #[.int .i64 (l0.length : Int), .int .i64 a1, .int .i64 a2, .int .i64 0, .int .i64 0, .int .i64 0]) ?_ 3 _ rfl; (with_reducible repeat (first | refine blk_drewN ?_ _ | refine blk_drew ?_ | refine blk_alloc ?_ _)); refine blk_put (cs := #[.int .i64 (l0.length : Int), .int .i64 a1, .int .i64 0, .int .i64 0, .int .i64 0, .int .i64 0]) ?_ 2 _ rfl; (with_reducible repeat (first | refine blk_drewN ?_ _ | refine blk_drew ?_ | refine blk_alloc ?_ _)); refine blk_put (cs := #[.int .i64 (l0.length : Int), .int .i64 0, .int .i64 0, .int .i64 0, .int .i64 0, .int .i64 0]) ?_ 1 _ rfl; (with_reducible repeat (first | refine blk_drewN ?_ _ | refine blk_drew ?_ | refine blk_alloc ?_ _)); refine blk_put (cs := #[.int .i64 0, .int .i64 0, .int .i64 0, .int .i64 0, .int .i64 0, .int .i64 0]) ?_ 0 _ rfl; (with_reducible repeat (first | refine blk_drewN ?_ _ | refine blk_drew ?_ | refine blk_alloc ?_ _)); exact BK488.out⟩
      have n2_ : Aside0 (Below w.heap.size w ((((((w49.setCell ⟨gb488, 0, none⟩ (.int .i64 (l0.length : Int))).setCell ⟨gb488, 1, none⟩ (.int .i64 a1)).setCell ⟨gb488, 2, none⟩ (.int .i64 a2)).setCell ⟨gb488, 3, none⟩ (.int .i64 t486)).setCell ⟨gb488, 4, none⟩ (.int .i64 t487)).setCell ⟨gb488, 5, none⟩ (.int .i64 0))) := ⟨Cmp.g HB.out⟩
      (try clear BK481); (try clear BK488); (try clear HB)
      generalize ((((((w49.setCell ⟨gb488, 0, none⟩ (.int .i64 (l0.length : Int))).setCell ⟨gb488, 1, none⟩ (.int .i64 a1)).setCell ⟨gb488, 2, none⟩ (.int .i64 a2)).setCell ⟨gb488, 3, none⟩ (.int .i64 t486)).setCell ⟨gb488, 4, none⟩ (.int .i64 t487)).setCell ⟨gb488, 5, none⟩ (.int .i64 0)) = w52 at n0_ n1_ n2_ ⊢
      have BK481 := n0_; have BK488 := n1_; have HB := n2_; clear n0_ n1_ n2_; have n0_ := Aside0.mk (blk_drew BK481.out); have n1_ := Aside0.mk (blk_drew BK488.out); have n2_ := Aside0.mk (below_drew1 HB.out); clear BK481; clear BK488; clear HB; have BK481 := n0_; have BK488 := n1_; have HB := n2_; clear n0_ n1_ n2_
      refine start_ (n := 7) (S := fun w' => w'.cell? ⟨gb481, 0, none⟩ = some (.int .i64 a3_0) ∧ w'.cell? ⟨gb481, 1, none⟩ = some (.int .i64 a3_1) ∧ w'.cell? ⟨gb481, 2, none⟩ = some (.int .i64 a3_2) ∧ w'.cell? ⟨gb481, 3, none⟩ = some (.int .i64 a3_3) ∧ w'.cell? ⟨gb488, 0, none⟩ = some (.int .i64 (l0.length : Int)) ∧ w'.cell? ⟨gb488, 1, none⟩ = some (.int .i64 a1) ∧ w'.cell? ⟨gb488, 2, none⟩ = some (.int .i64 a2) ∧ w'.cell? ⟨gb488, 3, none⟩ = some (.int .i64 t486) ∧ w'.cell? ⟨gb488, 4, none⟩ = some (.int .i64 t487) ∧ w'.cell? ⟨gb488, 5, none⟩ = some (.int .i64 0)) (ds := [6]) (Cmp.bm 0 7) (by kernel_rfl) rfl rfl ⟨(blk_cell BK481.out 0).trans rfl, (blk_cell BK481.out 1).trans rfl, (blk_cell BK481.out 2).trans rfl, (blk_cell BK481.out 3).trans rfl, (blk_cell BK488.out 0).trans rfl, (blk_cell BK488.out 1).trans rfl, (blk_cell BK488.out 2).trans rfl, (blk_cell BK488.out 3).trans rfl, (blk_cell BK488.out 4).trans rfl, (blk_cell BK488.out 5).trans rfl⟩ (fun hHeld => ?_)
      generalize w52.drew = w53 at BK481 BK488 HB hHeld ⊢
      refine take_ (i := 0) (N := some 31) (v := ?_) (a' := ?_) (Cmp.bm 1 6) rfl rfl (by kernel_rfl) (fun _ _ _ h => h) (Or.inl ⟨by rfl, ?_⟩) hHeld ?_ ?_
      rotate_left
      ·rintro w' ⟨s0, s1, s2, s3, s4, s5, s6, s7, s8, s9⟩; go_simp; with_reducible rfl
      rotate_left
      ·simp only [Act.put, Cmp.s, Cmp.z, Cmp.c, i64_w, i32_w]; rfl
      refine take_ (i := 1) (N := some 32) (v := ?_) (a' := ?_) (Cmp.bm 2 5) rfl rfl (by kernel_rfl) (fun _ _ _ h => h) (Or.inl ⟨by rfl, ?_⟩) hHeld ?_ ?_
      rotate_left
      ·rintro w' ⟨s0, s1, s2, s3, s4, s5, s6, s7, s8, s9⟩; go_simp; with_reducible rfl
      rotate_left
      ·simp only [Act.put, Cmp.s, Cmp.z, Cmp.c, i64_w, i32_w]; rfl
      refine one_ (i := 2) (N := some 33) (Cmp.bm 3 4) rfl rfl (by kernel_rfl) (by decide) (fun K hK => ?_)
      refine goes_ Try.func48 (by kernel_rfl) rfl #[.agg #[.int .i64 (l0.length : Int), .int .i64 a1, .int .i64 a2, .int .i64 t486, .int .i64 t487, .int .i64 0]] (by rfl) rfl rfl Cmp.q ?_
      with_reducible refine (impl_EntryHash.calls kj4 (l0.length : Int) a1 a2 t486 t487 0 t489 _ A15.out).mono ?_
      rintro e w54 ⟨rfl, hb⟩; refine ⟨_, rfl, ?_⟩
      have n0_ := Aside0.mk (blk_below (Cmp.b BK481.out) hb)
      have n1_ := Aside0.mk (blk_below (Cmp.b BK488.out) hb)
      have n2_ := Aside0.mk (below_step (Cmp.g HB.out) hb)
      clear BK481; clear BK488; clear HB; have BK481 := n0_; have BK488 := n1_; have HB := n2_; clear n0_ n1_ n2_; (try clear hb); (try clear hb2); (try clear hk); (try clear hi)
      refine hK.out _ _ ⟨(blk_cell BK481.out 0).trans rfl, (blk_cell BK481.out 1).trans rfl, (blk_cell BK481.out 2).trans rfl, (blk_cell BK481.out 3).trans rfl, (blk_cell BK488.out 0).trans rfl, (blk_cell BK488.out 1).trans rfl, (blk_cell BK488.out 2).trans rfl, (blk_cell BK488.out 3).trans rfl, (blk_cell BK488.out 4).trans rfl, (blk_cell BK488.out 5).trans rfl⟩ (fun hHeld => ?_)
      clear hK K
      refine norm_ (a' := ?_) ?_ ?_
      rotate_left
      ·show Act.put _ (some 33) _ = _
       simp only [Act.put, Cmp.s, Cmp.z, Cmp.c, i64_w, i32_w]; rfl
      refine one_ (i := 3) (N := some 34) (Cmp.bm 4 3) rfl rfl (by kernel_rfl) (by decide) (fun K hK => ?_)
      refine Kd.R_lit_step (Kd.int .i64) _ 3 ?hg (N := 34) ?hd (xs := ([t489] : List Int)) (inner := [.int .i64 t489]) (ok := fun _ => True) (okp := fun _ => True) ?hr ?hp (fun _ hk => hk) trivial (Below.refl _ _) (Nat.le_refl _) (by simp) ?_; (case hd => rfl); (case hg => rfl); (case hr => first | (go_simp; done) | (go_simp; rfl)); (case hp => exact (Reps.one (show Kd.M (Kd.int .i64) _ _ _ t489 [.int .i64 t489] from rfl) (Reps.none _ _)))
      intro v491 w55 ho56 hb hg_ hnew_
      clear hg_ hnew_
      (first | rw [← Ny490.out] at ho56 | (simp only [Int.reduceToNat] at ho56; rw [← Ny490.out] at ho56))
      have n0_ := Aside0.mk (Kd.R_lower ho56 (below_size (Cmp.g HB.out)))
      have n1_ := Aside0.mk (blk_below (Cmp.b BK481.out) hb)
      have n2_ := Aside0.mk (blk_below (Cmp.b BK488.out) hb)
      have n3_ := Aside0.mk (below_step (Cmp.g HB.out) hb)
      clear BK481; clear BK488; clear HB; have HO492 := n0_; have BK481 := n1_; have BK488 := n2_; have HB := n3_; clear n0_ n1_ n2_ n3_; clear hb ho56
      obtain ⟨Ao57, co57, eo57⟩ := Kd.R_slice HO492.out
      (first | subst eo57 | (injection eo57 with f1_ f2_ f3_; have f4_ := f1_.symm; have f5_ := f3_.symm; clear f1_ f2_ f3_; subst f4_; subst f5_))
      refine hK.out _ _ ⟨(blk_cell BK481.out 0).trans rfl, (blk_cell BK481.out 1).trans rfl, (blk_cell BK481.out 2).trans rfl, (blk_cell BK481.out 3).trans rfl, (blk_cell BK488.out 0).trans rfl, (blk_cell BK488.out 1).trans rfl, (blk_cell BK488.out 2).trans rfl, (blk_cell BK488.out 3).trans rfl, (blk_cell BK488.out 4).trans rfl, (blk_cell BK488.out 5).trans rfl⟩ (fun hHeld => ?_)
      clear hK K
      refine norm_ (a' := ?_) ?_ ?_
      rotate_left
      ·show Act.put _ (some 34) _ = _
       simp only [Act.put, Cmp.s, Cmp.z, Cmp.c, i64_w, i32_w]; rfl
      refine one_ (i := 4) (N := some 35) (Cmp.bm 5 2) rfl rfl (by kernel_rfl) (by decide) (fun K hK => ?_)
      refine goes_ Try.func47 (by kernel_rfl) rfl #[.agg #[.int .i64 a3_0, .int .i64 a3_1, .int .i64 a3_2, .int .i64 a3_3], .slice Ao57 y490.length co57] (by rfl) rfl rfl Cmp.q ?_
      with_reducible refine (impl_SignAsDevice.calls kj4 a3_0 a3_1 a3_2 a3_3 _ _ y490 t493 _ ?side1 ?side2 A16.out).mono ?_
      (case side1 => exact Cmp.rc (Kd.R_reads' HO492.out).2.2)
      (case side2 => exact (Kd.R_reads' HO492.out).2.1)
      rintro e w58 ⟨rfl, hb⟩; refine ⟨_, rfl, ?_⟩
      have n0_ := Aside0.mk (Kd.R_below (Cmp.rr HO492.out) hb)
      have n1_ := Aside0.mk (blk_below (Cmp.b BK481.out) hb)
      have n2_ := Aside0.mk (blk_below (Cmp.b BK488.out) hb)
      have n3_ := Aside0.mk (below_step (Cmp.g HB.out) hb)
      clear HO492; clear BK481; clear BK488; clear HB; have HO492 := n0_; have BK481 := n1_; have BK488 := n2_; have HB := n3_; clear n0_ n1_ n2_ n3_; (try clear hb); (try clear hb2); (try clear hk); (try clear hi)
      refine hK.out _ _ ⟨(blk_cell BK481.out 0).trans rfl, (blk_cell BK481.out 1).trans rfl, (blk_cell BK481.out 2).trans rfl, (blk_cell BK481.out 3).trans rfl, (blk_cell BK488.out 0).trans rfl, (blk_cell BK488.out 1).trans rfl, (blk_cell BK488.out 2).trans rfl, (blk_cell BK488.out 3).trans rfl, (blk_cell BK488.out 4).trans rfl, (blk_cell BK488.out 5).trans rfl⟩ (fun hHeld => ?_)
      clear hK K
      refine norm_ (a' := ?_) ?_ ?_
      rotate_left
      ·show Act.put _ (some 35) _ = _
       simp only [Act.put, Cmp.s, Cmp.z, Cmp.c, i64_w, i32_w]; rfl
      refine pure_ (i := 5) (N := some 36) (v := ?_) (a' := ?_) (Cmp.bm 6 1) rfl rfl (by kernel_rfl) (fun _ _ _ h => h) (Or.inl ⟨by rfl, ?_⟩) ?_ ?_
      rotate_left
      ·intro w'; go_simp; with_reducible rfl
      rotate_left
      ·simp only [Act.put, Cmp.s, Cmp.z, Cmp.c, i64_w, i32_w]; rfl
      refine last_ (i := 6) (N := none) (Cmp.bm 7 0) rfl rfl (by kernel_rfl) (by decide) (fun K hK => ?_)
      have hs59 : w58.cell? ⟨gb488, 5, none⟩ = some (.int .i64 0) := (blk_cell BK488.out 5).trans rfl
      have hfs59 := blk_frozen BK488.out 5; have hns59_0 := NB481_488.out; have hms59_0 := NB488_481.out
      refine skip_ (w1 := ?_) (by rfl) rfl ?_ ?_
      rotate_left
      ·go_simp; rfl
      refine hK.out _ _ ?_
      clear hK K
      refine done_ (by kernel_rfl) ?_
      try go_wp2
      have n0_ : Aside0 (Kd.R (Kd.int .i64) 3 (w58.setCell ⟨gb488, 5, none⟩ (.int .i64 t493)) w.heap.size (fun _ => True) (.slice Ao57 y490.length co57) y490) := ⟨by (with_reducible repeat (first | apply Kd.R_alloc | apply Kd.R_drewN | apply Kd.R_drew)); exact Kd.R_mono (Kd.R_far (p := ⟨gb488, 5, none⟩) (Kd.R_types HO492.out BK488.out (by decide)) (fun _ hk => hk.2) (.int .i64 t493)) (fun _ hk => trivial)⟩
      have n1_ : Aside0 ((w58.setCell ⟨gb488, 5, none⟩ (.int .i64 t493)).heap[gb481]? = some (.cells #[.int .i64 a3_0, .int .i64 a3_1, .int .i64 a3_2, .int .i64 a3_3] 26 (0, 0))) := ⟨by (with_reducible repeat (first | refine blk_drewN ?_ _ | refine blk_drew ?_ | refine blk_alloc ?_ _)); refine blk_far ?_ NB481_488.out _; (with_reducible repeat (first | refine blk_drewN ?_ _ | refine blk_drew ?_ | refine blk_alloc ?_ _)); exact BK481.out⟩
      have n2_ : Aside0 ((w58.setCell ⟨gb488, 5, none⟩ (.int .i64 t493)).heap[gb488]? = some (.cells #[.int .i64 (l0.length : Int), .int .i64 a1, .int .i64 a2, .int .i64 t486, .int .i64 t487, .int .i64 t493] 74 (0, 0))) := ⟨by (with_reducible repeat (first | refine blk_drewN ?_ _ | refine blk_drew ?_ | refine blk_alloc ?_ _)); refine blk_put (cs := #[.int .i64 (l0.length : Int), .int .i64 a1, .int .i64 a2, .int .i64 t486, .int .i64 t487, .int .i64 0]) ?_ 5 _ rfl; (with_reducible repeat (first | refine blk_drewN ?_ _ | refine blk_drew ?_ | refine blk_alloc ?_ _)); exact BK488.out⟩
      have n3_ : Aside0 (Below w.heap.size w (w58.setCell ⟨gb488, 5, none⟩ (.int .i64 t493))) := ⟨Cmp.g HB.out⟩
      (try clear HO492); (try clear BK481); (try clear BK488); (try clear HB)
      generalize (w58.setCell ⟨gb488, 5, none⟩ (.int .i64 t493)) = w60 at n0_ n1_ n2_ n3_ ⊢
      have HO492 := n0_; have BK481 := n1_; have BK488 := n2_; have HB := n3_; clear n0_ n1_ n2_ n3_; have n0_ := Aside0.mk (Kd.R_drew HO492.out); have n1_ := Aside0.mk (blk_drew BK481.out); have n2_ := Aside0.mk (blk_drew BK488.out); have n3_ := Aside0.mk (below_drew1 HB.out); clear HO492; clear BK481; clear BK488; clear HB; have HO492 := n0_; have BK481 := n1_; have BK488 := n2_; have HB := n3_; clear n0_ n1_ n2_ n3_
      refine start_ (n := 6) (S := fun w' => w'.cell? ⟨gb488, 0, none⟩ = some (.int .i64 (l0.length : Int)) ∧ w'.cell? ⟨gb488, 1, none⟩ = some (.int .i64 a1) ∧ w'.cell? ⟨gb488, 2, none⟩ = some (.int .i64 a2) ∧ w'.cell? ⟨gb488, 3, none⟩ = some (.int .i64 t486) ∧ w'.cell? ⟨gb488, 4, none⟩ = some (.int .i64 t487) ∧ w'.cell? ⟨gb488, 5, none⟩ = some (.int .i64 t493)) (ds := []) (Cmp.bm 0 6) (by kernel_rfl) rfl rfl ⟨(blk_cell BK488.out 0).trans rfl, (blk_cell BK488.out 1).trans rfl, (blk_cell BK488.out 2).trans rfl, (blk_cell BK488.out 3).trans rfl, (blk_cell BK488.out 4).trans rfl, (blk_cell BK488.out 5).trans rfl⟩ (fun hHeld => ?_)
      generalize w60.drew = w61 at HO492 BK481 BK488 HB hHeld ⊢
      refine pure_ (i := 0) (N := some 37) (v := ?_) (a' := ?_) (Cmp.bm 1 5) rfl rfl (by kernel_rfl) (fun _ _ _ h => h) (Or.inl ⟨by rfl, ?_⟩) ?_ ?_
      rotate_left
      ·intro w'; go_simp; with_reducible rfl
      rotate_left
      ·simp only [Act.put, Cmp.s, Cmp.z, Cmp.c, i64_w, i32_w]; rfl
      refine take_ (i := 2) (N := some 39) (v := ?_) (a' := ?_) (Cmp.bb 6 5) rfl rfl (by kernel_rfl) (fun _ _ _ h => h) (Or.inl ⟨by rfl, ?_⟩) hHeld ?_ ?_
      rotate_left
      ·rintro w' ⟨s0, s1, s2, s3, s4, s5⟩; go_simp; with_reducible rfl
      rotate_left
      ·simp only [Act.put, Cmp.s, Cmp.z, Cmp.c, i64_w, i32_w]; rfl
      refine join_ (σ := Value × Value) 2 (Cmp.bm 4 2) (fun s_ => [(38, s_.1), (40, s_.2)]) (fun s_ w' => (w'.cell? ⟨gb488, 0, none⟩ = some (.int .i64 (l0.length : Int)) ∧ w'.cell? ⟨gb488, 1, none⟩ = some (.int .i64 a1) ∧ w'.cell? ⟨gb488, 2, none⟩ = some (.int .i64 a2) ∧ w'.cell? ⟨gb488, 3, none⟩ = some (.int .i64 t486) ∧ w'.cell? ⟨gb488, 4, none⟩ = some (.int .i64 t487) ∧ w'.cell? ⟨gb488, 5, none⟩ = some (.int .i64 t493)) ∧ (Kd.R (Kd.int .i64) 3 w' w.heap.size (fun _ => True) (.slice Ao57 y490.length co57) y490) ∧ (Kd.R k74 74 w' w.heap.size (fun k_ => some k_ ≠ (s_.2 : Value).ownBlock ∧ k_ ≠ gb488) s_.1 t494) ∧ (Kd.R k74 74 w' w.heap.size (fun k_ => some k_ ≠ (s_.1 : Value).ownBlock ∧ k_ ≠ gb488) s_.2 y497) ∧ (w'.heap[gb481]? = some (.cells #[.int .i64 a3_0, .int .i64 a3_1, .int .i64 a3_2, .int .i64 a3_3] 26 (0, 0))) ∧ (w'.heap[gb488]? = some (.cells #[.int .i64 (l0.length : Int), .int .i64 a1, .int .i64 a2, .int .i64 t486, .int .i64 t487, .int .i64 t493] 74 (0, 0))) ∧ (Below w.heap.size w w')) ?_ ?_
      rotate_left
      ·intro hCont
       refine two_ (i := 1) (j := 3) (Ni := some 38) (Nj := some 40) (Cmp.bm 3 3) (Cmp.bb 6 13) rfl rfl rfl rfl (by kernel_rfl) (by decide) (by decide) (fun K hK => ?_) (fun K hK => ?_)
       ·skip
        refine goes_ Try.func44 (by kernel_rfl) rfl #[.slice A0 l0.length c0] (by rfl) rfl rfl Cmp.q ?_
        with_reducible refine (impl_copyLog.calls _ _ l0 t494 _ ?side1 ?side2 A17.out).mono ?_
        (case side1 => exact Cmp.rc (Kd.C_below HR0.out HB.out))
        (case side2 => exact HC0.out)
        rintro e w62 ⟨v495, rfl, ho0, hb⟩; refine ⟨_, rfl, ?_⟩
        have n0_ := Aside0.mk (Kd.R_below (Cmp.rr HO492.out) hb)
        have n1_ := Aside0.mk (Kd.R_lower (Kd.R_newB ho0 (g := gb488) (o := .cells #[.int .i64 (l0.length : Int), .int .i64 a1, .int .i64 a2, .int .i64 t486, .int .i64 t487, .int .i64 t493] 74 (0, 0)) (Cmp.b BK488.out)) (below_size (Cmp.g HB.out)))
        have n2_ := Aside0.mk (blk_below (Cmp.b BK481.out) hb)
        have n3_ := Aside0.mk (blk_below (Cmp.b BK488.out) hb)
        have n4_ := Aside0.mk (below_step (Cmp.g HB.out) hb)
        clear HO492; clear BK481; clear BK488; clear HB; have HO492 := n0_; have HO496 := n1_; have BK481 := n2_; have BK488 := n3_; have HB := n4_; clear n0_ n1_ n2_ n3_ n4_; (try clear hb); (try clear hb2); (try clear hk); (try clear hi); (try clear ho0)
        refine hK.out _ _ ⟨(blk_cell BK488.out 0).trans rfl, (blk_cell BK488.out 1).trans rfl, (blk_cell BK488.out 2).trans rfl, (blk_cell BK488.out 3).trans rfl, (blk_cell BK488.out 4).trans rfl, (blk_cell BK488.out 5).trans rfl⟩ (fun hHeld => ?_)
        clear hK K
        refine norm_ (a' := ?_) ?_ ?_
        rotate_left
        ·show Act.put _ (some 38) _ = _
         simp only [Act.put, Cmp.s, Cmp.z, Cmp.c, i64_w, i32_w]; rfl
        refine one_ (i := 3) (N := some 40) (Cmp.bm 4 2) rfl rfl (by kernel_rfl) (by decide) (fun K hK => ?_)
        refine Kd.R_lit_step k74 _ 74 ?hg (N := 40) ?hd (xs := ([(⟨(l0.length : Int), a1, a2, t486, t487, t493⟩ : S74)] : List (S74))) (inner := [.int .i64 (l0.length : Int), .int .i64 a1, .int .i64 a2, .int .i64 t486, .int .i64 t487, .int .i64 t493]) (ok := fun _ => True) (okp := fun _ => True) ?hr ?hp (fun _ hk => hk) trivial (Below.refl _ _) (Nat.le_refl _) (by simp) ?_; (case hd => rfl); (case hg => rfl); (case hr => first | (go_simp; done) | (go_simp; rfl)); (case hp => exact (Reps.c6 (show Kd.M k74 _ _ _ (⟨(l0.length : Int), a1, a2, t486, t487, t493⟩ : S74) [.int .i64 (l0.length : Int), .int .i64 a1, .int .i64 a2, .int .i64 t486, .int .i64 t487, .int .i64 t493] from (k74_mkM _ _ _ (⟨(l0.length : Int), a1, a2, t486, t487, t493⟩ : S74) )) (Reps.none _ _)))
        intro v498 w63 ho64 hb hg_ hnew_
        clear hg_ hnew_
        (first | rw [← Ny497.out] at ho64 | (simp only [Int.reduceToNat] at ho64; rw [← Ny497.out] at ho64))
        have n0_ := Aside0.mk (Kd.R_below (Cmp.rr HO492.out) hb)
        have n1_ := Aside0.mk (Kd.R_elder' (Cmp.rr HO496.out) (Kd.R_base ho64) hb)
        have n2_ := Aside0.mk (Kd.R_lower (Kd.R_newB (Kd.R_new' ho64 (Kd.R_lt (Cmp.rr HO496.out))) (g := gb488) (o := .cells #[.int .i64 (l0.length : Int), .int .i64 a1, .int .i64 a2, .int .i64 t486, .int .i64 t487, .int .i64 t493] 74 (0, 0)) (Cmp.b BK488.out)) (below_size (Cmp.g HB.out)))
        have n3_ := Aside0.mk (blk_below (Cmp.b BK481.out) hb)
        have n4_ := Aside0.mk (blk_below (Cmp.b BK488.out) hb)
        have n5_ := Aside0.mk (below_step (Cmp.g HB.out) hb)
        clear HO492; clear HO496; clear BK481; clear BK488; clear HB; have HO492 := n0_; have HO496 := n1_; have HO499 := n2_; have BK481 := n3_; have BK488 := n4_; have HB := n5_; clear n0_ n1_ n2_ n3_ n4_ n5_; clear hb ho64
        refine hK.out _ _ ⟨(blk_cell BK488.out 0).trans rfl, (blk_cell BK488.out 1).trans rfl, (blk_cell BK488.out 2).trans rfl, (blk_cell BK488.out 3).trans rfl, (blk_cell BK488.out 4).trans rfl, (blk_cell BK488.out 5).trans rfl⟩ (fun hHeld => ?_)
        clear hK K
        refine norm_ (a' := ?_) ?_ ?_
        rotate_left
        ·show Act.put _ (some 40) _ = _
         simp only [Act.put, Cmp.s, Cmp.z, Cmp.c, i64_w, i32_w]; rfl
        exact norm_ (by simp only [putAll, Act.put, List.setIfInBounds_toArray, List.set_cons_zero, List.set_cons_succ]) (hCont (v495, v498) _ ⟨hHeld, (Cmp.rr HO492.out), (by (with_reducible repeat (first | apply Kd.R_alloc | apply Kd.R_drewN | apply Kd.R_drew)); exact Kd.R_mono HO496.out (fun _ hk => ⟨hk.2, hk.1.2⟩)), (by (with_reducible repeat (first | apply Kd.R_alloc | apply Kd.R_drewN | apply Kd.R_drew)); exact Kd.R_mono HO499.out (fun _ hk => ⟨hk.1.2, hk.2⟩)), (Cmp.b BK481.out), (Cmp.b BK488.out), (Cmp.g HB.out)⟩)
       ·skip
        refine Kd.R_lit_step k74 _ 74 ?hg (N := 40) ?hd (xs := ([(⟨(l0.length : Int), a1, a2, t486, t487, t493⟩ : S74)] : List (S74))) (inner := [.int .i64 (l0.length : Int), .int .i64 a1, .int .i64 a2, .int .i64 t486, .int .i64 t487, .int .i64 t493]) (ok := fun _ => True) (okp := fun _ => True) ?hr ?hp (fun _ hk => hk) trivial (Below.refl _ _) (Nat.le_refl _) (by simp) ?_; (case hd => rfl); (case hg => rfl); (case hr => first | (go_simp; done) | (go_simp; rfl)); (case hp => exact (Reps.c6 (show Kd.M k74 _ _ _ (⟨(l0.length : Int), a1, a2, t486, t487, t493⟩ : S74) [.int .i64 (l0.length : Int), .int .i64 a1, .int .i64 a2, .int .i64 t486, .int .i64 t487, .int .i64 t493] from (k74_mkM _ _ _ (⟨(l0.length : Int), a1, a2, t486, t487, t493⟩ : S74) )) (Reps.none _ _)))
        intro v498 w62 ho63 hb hg_ hnew_
        clear hg_ hnew_
        (first | rw [← Ny497.out] at ho63 | (simp only [Int.reduceToNat] at ho63; rw [← Ny497.out] at ho63))
        have n0_ := Aside0.mk (Kd.R_below (Cmp.rr HO492.out) hb)
        have n1_ := Aside0.mk (Kd.R_lower (Kd.R_newB ho63 (g := gb488) (o := .cells #[.int .i64 (l0.length : Int), .int .i64 a1, .int .i64 a2, .int .i64 t486, .int .i64 t487, .int .i64 t493] 74 (0, 0)) (Cmp.b BK488.out)) (below_size (Cmp.g HB.out)))
        have n2_ := Aside0.mk (blk_below (Cmp.b BK481.out) hb)
        have n3_ := Aside0.mk (blk_below (Cmp.b BK488.out) hb)
        have n4_ := Aside0.mk (below_step (Cmp.g HB.out) hb)
        clear HO492; clear BK481; clear BK488; clear HB; have HO492 := n0_; have HO499 := n1_; have BK481 := n2_; have BK488 := n3_; have HB := n4_; clear n0_ n1_ n2_ n3_ n4_; clear hb ho63
        refine hK.out _ _ ⟨(blk_cell BK488.out 0).trans rfl, (blk_cell BK488.out 1).trans rfl, (blk_cell BK488.out 2).trans rfl, (blk_cell BK488.out 3).trans rfl, (blk_cell BK488.out 4).trans rfl, (blk_cell BK488.out 5).trans rfl⟩ (fun hHeld => ?_)
        clear hK K
        refine norm_ (a' := ?_) ?_ ?_
        rotate_left
        ·show Act.put _ (some 40) _ = _
         simp only [Act.put, Cmp.s, Cmp.z, Cmp.c, i64_w, i32_w]; rfl
        refine one_ (i := 1) (N := some 38) (Cmp.bm 4 2) rfl rfl (by kernel_rfl) (by decide) (fun K hK => ?_)
        refine goes_ Try.func44 (by kernel_rfl) rfl #[.slice A0 l0.length c0] (by rfl) rfl rfl Cmp.q ?_
        with_reducible refine (impl_copyLog.calls _ _ l0 t494 _ ?side1 ?side2 A17.out).mono ?_
        (case side1 => exact Cmp.rc (Kd.C_below HR0.out HB.out))
        (case side2 => exact HC0.out)
        rintro e w64 ⟨v495, rfl, ho0, hb⟩; refine ⟨_, rfl, ?_⟩
        have n0_ := Aside0.mk (Kd.R_below (Cmp.rr HO492.out) hb)
        have n1_ := Aside0.mk (Kd.R_elder' (Cmp.rr HO499.out) (Kd.R_base ho0) hb)
        have n2_ := Aside0.mk (Kd.R_lower (Kd.R_newB (Kd.R_new' ho0 (Kd.R_lt (Cmp.rr HO499.out))) (g := gb488) (o := .cells #[.int .i64 (l0.length : Int), .int .i64 a1, .int .i64 a2, .int .i64 t486, .int .i64 t487, .int .i64 t493] 74 (0, 0)) (Cmp.b BK488.out)) (below_size (Cmp.g HB.out)))
        have n3_ := Aside0.mk (blk_below (Cmp.b BK481.out) hb)
        have n4_ := Aside0.mk (blk_below (Cmp.b BK488.out) hb)
        have n5_ := Aside0.mk (below_step (Cmp.g HB.out) hb)
        clear HO492; clear HO499; clear BK481; clear BK488; clear HB; have HO492 := n0_; have HO499 := n1_; have HO496 := n2_; have BK481 := n3_; have BK488 := n4_; have HB := n5_; clear n0_ n1_ n2_ n3_ n4_ n5_; (try clear hb); (try clear hb2); (try clear hk); (try clear hi); (try clear ho0)
        refine hK.out _ _ ⟨(blk_cell BK488.out 0).trans rfl, (blk_cell BK488.out 1).trans rfl, (blk_cell BK488.out 2).trans rfl, (blk_cell BK488.out 3).trans rfl, (blk_cell BK488.out 4).trans rfl, (blk_cell BK488.out 5).trans rfl⟩ (fun hHeld => ?_)
        clear hK K
        refine norm_ (a' := ?_) ?_ ?_
        rotate_left
        ·show Act.put _ (some 38) _ = _
         simp only [Act.put, Cmp.s, Cmp.z, Cmp.c, i64_w, i32_w]; rfl
        exact norm_ (by simp only [putAll, Act.put, List.setIfInBounds_toArray, List.set_cons_zero, List.set_cons_succ]) (hCont (v495, v498) _ ⟨hHeld, (Cmp.rr HO492.out), (by (with_reducible repeat (first | apply Kd.R_alloc | apply Kd.R_drewN | apply Kd.R_drew)); exact Kd.R_mono HO496.out (fun _ hk => ⟨hk.1.2, hk.2⟩)), (by (with_reducible repeat (first | apply Kd.R_alloc | apply Kd.R_drewN | apply Kd.R_drew)); exact Kd.R_mono HO499.out (fun _ hk => ⟨hk.2, hk.1.2⟩)), (Cmp.b BK481.out), (Cmp.b BK488.out), (Cmp.g HB.out)⟩)
      rintro ⟨v495, v498⟩ w65 ⟨hS_, h0_, h1_, h2_, h3_, h4_, h5_⟩
      have n0_ : Aside0 (Kd.R (Kd.int .i64) 3 w65 w.heap.size (fun _ => True) (.slice Ao57 y490.length co57) y490) := ⟨h0_⟩
      have n1_ : Aside0 (Kd.R k74 74 w65 w.heap.size (fun k_ => some k_ ≠ (v498 : Value).ownBlock ∧ k_ ≠ gb488) v495 t494) := ⟨h1_⟩
      have n2_ : Aside0 (Kd.R k74 74 w65 w.heap.size (fun k_ => some k_ ≠ (v495 : Value).ownBlock ∧ k_ ≠ gb488) v498 y497) := ⟨h2_⟩
      have n3_ : Aside0 (w65.heap[gb481]? = some (.cells #[.int .i64 a3_0, .int .i64 a3_1, .int .i64 a3_2, .int .i64 a3_3] 26 (0, 0))) := ⟨h3_⟩
      have n4_ : Aside0 (w65.heap[gb488]? = some (.cells #[.int .i64 (l0.length : Int), .int .i64 a1, .int .i64 a2, .int .i64 t486, .int .i64 t487, .int .i64 t493] 74 (0, 0))) := ⟨h4_⟩
      have n5_ : Aside0 (Below w.heap.size w w65) := ⟨h5_⟩
      clear HO492; clear BK481; clear BK488; clear HB; clear h0_ h1_ h2_ h3_ h4_ h5_; have HO492 := n0_; have HO496 := n1_; have HO499 := n2_; have BK481 := n3_; have BK488 := n4_; have HB := n5_; clear n0_ n1_ n2_ n3_ n4_ n5_
      have hHeld : w65.cell? ⟨gb488, 0, none⟩ = some (.int .i64 (l0.length : Int)) ∧ w65.cell? ⟨gb488, 1, none⟩ = some (.int .i64 a1) ∧ w65.cell? ⟨gb488, 2, none⟩ = some (.int .i64 a2) ∧ w65.cell? ⟨gb488, 3, none⟩ = some (.int .i64 t486) ∧ w65.cell? ⟨gb488, 4, none⟩ = some (.int .i64 t487) ∧ w65.cell? ⟨gb488, 5, none⟩ = some (.int .i64 t493) := hS_
      obtain ⟨Ao67, co67, eo67⟩ := Kd.R_slice HO499.out
      (first | subst eo67 | (injection eo67 with f1_ f2_ f3_; have f4_ := f1_.symm; have f5_ := f3_.symm; clear f1_ f2_ f3_; subst f4_; subst f5_))
      refine norm_ (a' := ?_) ?_ ?_
      rotate_left
      ·simp only [putAll, Act.put, List.setIfInBounds_toArray, List.set_cons_zero, List.set_cons_succ]; rfl
      refine one_ (i := 4) (N := some 41) (Cmp.bm 5 1) rfl rfl (by kernel_rfl) (by decide) (fun K hK => ?_)
      refine Kd.R_append_rows_step k74 (w0 := w) w.heap.size (by rfl) (.tmp 38) (.tmp 40) 24 74 (.agg #[(.int .i64 0), (.int .i64 0), (.int .i64 0), (.int .i64 0), (.int .i64 0), (.int .i64 0)]) 48 rfl Try.underlying24 info74 rfl (by decide) (by omega) v495 t494 y497 _ _ _ (fun k_ => some k_ ≠ (.slice Ao67 y497.length co67 : Value).ownBlock ∧ k_ ≠ gb488) (fun _ => False) rfl rfl ?aO ?aR (fun _ _ h => h) (fun _ h => h.elim) ?aF ?aB ?aS ?aL ?_
      (case aR => repeat (first | exact (Kd.R_reads' HO499.out).2.2 | (with_reducible refine Kd.C_alloc ?_ _) | (with_reducible refine Kd.C_drewN ?_ _) | (with_reducible refine Kd.C_drew ?_)))
      (case aB => exact (Cmp.g HB.out))
      (case aF => exact (fun k_ hk => ⟨Kd.fresh' (Kd.R_lt (Cmp.rr HO499.out)) k_ hk, Kd.freshB (g := gb488) (o := .cells #[.int .i64 (l0.length : Int), .int .i64 a1, .int .i64 a2, .int .i64 t486, .int .i64 t487, .int .i64 t493] 74 (0, 0)) (Cmp.b BK488.out) k_ hk⟩))
      (case aO => exact (Cmp.rr HO496.out))
      (case aS => exact (below_size (Cmp.g HB.out)))
      (case aL => have := LMc18.out; omega)
      intro v501 w66 ho hb hg hat
      rw [← Ny500.out] at ho
      have n0_ := Aside0.mk (blk_grown (g := gb481) (o := .cells #[.int .i64 a3_0, .int .i64 a3_1, .int .i64 a3_2, .int .i64 a3_3] 26 (0, 0)) (Cmp.b BK481.out) hg (Kd.R_ne HO496.out BK481.out (by decide)))
      have n1_ := Aside0.mk (blk_grown (g := gb488) (o := .cells #[.int .i64 (l0.length : Int), .int .i64 a1, .int .i64 a2, .int .i64 t486, .int .i64 t487, .int .i64 t493] 74 (0, 0)) (Cmp.b BK488.out) hg (Kd.R_away HO496.out (fun _ hk => hk.2)))
      have n2_ := Aside0.mk (Kd.R_over' (Cmp.rr HO492.out) (Kd.R_typed (Cmp.rr HO496.out)) (by decide) hg)
      have n3_ := Aside0.mk (Kd.R_after (ok := (fun k_ => k_ ≠ gb488)) (by (with_reducible repeat (first | apply Kd.R_alloc | apply Kd.R_drewN | apply Kd.R_drew)); exact Kd.R_mono HO499.out (fun _ hk => ⟨hk.2, hk.1⟩)) hg hat)
      have n4_ := Aside0.mk (hb)
      have n5_ := Aside0.mk (ho)
      clear BK481; clear BK488; clear HO492; clear HO499; clear HB; clear HO496; have BK481 := n0_; have BK488 := n1_; have HO492 := n2_; have HO499 := n3_; have HB := n4_; have HO502 := n5_; clear n0_ n1_ n2_ n3_ n4_ n5_; clear ho hb hg hat
      refine hK.out _ _ ⟨(blk_cell BK488.out 0).trans rfl, (blk_cell BK488.out 1).trans rfl, (blk_cell BK488.out 2).trans rfl, (blk_cell BK488.out 3).trans rfl, (blk_cell BK488.out 4).trans rfl, (blk_cell BK488.out 5).trans rfl⟩ (fun hHeld => ?_)
      clear hK K
      refine norm_ (a' := ?_) ?_ ?_
      rotate_left
      ·show Act.put _ (some 41) _ = _
       simp only [Act.put, Cmp.s, Cmp.z, Cmp.c, i64_w, i32_w]; rfl
      refine pure_ (i := 5) (N := some 11) (v := ?_) (a' := ?_) (Cmp.bm 6 0) rfl rfl (by kernel_rfl) (fun _ _ _ h => h) (Or.inl ⟨by rfl, ?_⟩) ?_ ?_
      rotate_left
      ·intro w'; go_simp; with_reducible rfl
      rotate_left
      ·simp only [Act.put, Cmp.s, Cmp.z, Cmp.c, i64_w, i32_w]; rfl
      refine done_ (by kernel_rfl) ?_
      obtain ⟨Ao68, co68, eo68⟩ := Kd.R_slice HO502.out
      subst eo68
      try go_wp2_with (first | ((with_reducible refine gate_callee (f := 43) rfl ?_); refine goesL_ (some 43) rfl rfl Try.func43 (by kernel_rfl) rfl #[.slice Ao68 y500.length co68] rfl Cmp.q ?_; (with_reducible refine (impl_VerifyLog.calls kj4 _ _ y500 false _ ?side1 ?side2 A19.out).mono ?_); (case side1 => exact Cmp.rc (Kd.R_reads' HO502.out).2.2); (case side2 => exact (Kd.R_reads' HO502.out).2.1); rintro e w69 ⟨rfl, hb⟩; refine ⟨_, rfl, ?_⟩; have n0_ := Aside0.mk (Kd.R_below (Cmp.rr HO492.out) hb); have n1_ := Aside0.mk (Kd.R_below (Cmp.rr HO499.out) hb); have n2_ := Aside0.mk (Kd.R_below (Cmp.rr HO502.out) hb); have n3_ := Aside0.mk (blk_below (Cmp.b BK481.out) hb); have n4_ := Aside0.mk (blk_below (Cmp.b BK488.out) hb); have n5_ := Aside0.mk (below_step (Cmp.g HB.out) hb); clear HO492; clear HO499; clear HO502; clear BK481; clear BK488; clear HB; have HO492 := n0_; have HO499 := n1_; have HO502 := n2_; have BK481 := n3_; have BK488 := n4_; have HB := n5_; clear n0_ n1_ n2_ n3_ n4_ n5_; (try clear hb); (try clear hb2); (try clear hk); (try clear hi)) | ((with_reducible refine gate_callee (f := 44) rfl ?_); refine goesL_ (some 46) rfl rfl Try.func44 (by kernel_rfl) rfl #[.slice A0 l0.length c0] rfl Cmp.q ?_; (with_reducible refine (impl_copyLog.calls _ _ l0 t504 _ ?side1 ?side2 A45.out).mono ?_); (case side1 => exact Cmp.rc (Kd.C_below HR0.out HB.out)); (case side2 => exact HC0.out); rintro e w70 ⟨v505, rfl, ho0, hb⟩; refine ⟨_, rfl, ?_⟩; have n0_ := Aside0.mk (Kd.R_below (Cmp.rr HO492.out) hb); have n1_ := Aside0.mk (Kd.R_elder' (Cmp.rr HO499.out) (Kd.R_base ho0) hb); have n2_ := Aside0.mk (Kd.R_elder' (Cmp.rr HO502.out) (Kd.R_base ho0) hb); have n3_ := Aside0.mk (Kd.R_lower (Kd.R_newB (Kd.R_new' (Kd.R_new' ho0 (Kd.R_lt (Cmp.rr HO499.out))) (Kd.R_lt (Cmp.rr HO502.out))) (g := gb488) (o := .cells #[.int .i64 (l0.length : Int), .int .i64 a1, .int .i64 a2, .int .i64 t486, .int .i64 t487, .int .i64 t493] 74 (0, 0)) (Cmp.b BK488.out)) (below_size (Cmp.g HB.out))); have n4_ := Aside0.mk (blk_below (Cmp.b BK481.out) hb); have n5_ := Aside0.mk (blk_below (Cmp.b BK488.out) hb); have n6_ := Aside0.mk (below_step (Cmp.g HB.out) hb); clear HO492; clear HO499; clear HO502; clear BK481; clear BK488; clear HB; have HO492 := n0_; have HO499 := n1_; have HO502 := n2_; have HO506 := n3_; have BK481 := n4_; have BK488 := n5_; have HB := n6_; clear n0_ n1_ n2_ n3_ n4_ n5_ n6_; (try clear hb); (try clear hb2); (try clear hk); (try clear hi); (try clear ho0)))
      go_ret2
      exact ⟨_, by first | rfl | (simp [errW_none, errW_some] <;> rfl) | (simp [*, errW_none, errW_some] <;> rfl), by (with_reducible repeat (first | apply Kd.R_alloc | apply Kd.R_drewN | apply Kd.R_drew)); exact Kd.R_mono HO506.out (fun _ hk => trivial), Cmp.g HB.out⟩
    ·rw [if_neg c18] at H; exact absurd H (by simp)

end Go.Proofs.Ytpgjecknkmmnhaa.PFnRemoved

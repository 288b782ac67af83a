/- Printed functions of the program (by a changed copy of the printer). No condition. -/
import Derived.Test.YtnifeegdkhmakaaCmp
import Derived.Test.YtnifeegdkhmakaaPFnExactPutEntryx0
import Derived.Test.YtnifeegdkhmakaaPFnExactPutEntryx6
import Derived.Test.YtnifeegdkhmakaaPFnExactPutEntryx7
import Derived.Test.YtnifeegdkhmakaaPFnExactPutEntryx8
namespace Go.Proofs.Ytnifeegdkhmakaa.PFnExactPutEntry
open Go.Proofs.Ytnifeegdkhmakaa
open Go.RowKit Go.Proofs.YtnifeegdkhmakaaW.PrintWords Go.Proofs.YtnifeegdkhmakaaW.PrintLast Go.Proofs.YtnifeegdkhmakaaW.PrintMore
attribute [local go_sem] max2_int min2_int max_two min_two max_three min_three max_four min_four   -- for this text's walks alone
set_option linter.unusedVariables false
set_option linter.unusedSimpArgs false

/-! ### impl_PutEntry: function 29 -/
mutual
def impl_PutEntry.j1 : Nat → List (S64) → List (S64) → Option ((List (S64)) × Bool)
  | 0, _, _ => none
  | k + 1, x262000, x271000 => (impl_IsBundle.f k x271000).bind fun t328 => (if t328 = true then (some (x271000, true)) else ((impl_copyBundle.f x262000).bind fun t329 => (some (t329, false))))
def impl_PutEntry.l0 : Nat → Int → List (S64) → Int → Int → Int → Bool → Option ((List (S64)) × Bool)
  | 0, _, _, _, _, _, _ => none
  | k + 1, x11, x262000, x280000, x280001, x280002, x280003 => if x11 < (x262000.length : Int) then (if 0 ≤ x11 then ((impl_entryBefore.f ((rd_T64 x262000 x11).f0) ((rd_T64 x262000 x11).f1) ((rd_T64 x262000 x11).f2) ((rd_T64 x262000 x11).f3) x280000 x280001 x280002 x280003).bind fun t281 => (if t281 = true then (impl_PutEntry.l0 k (wrap64 (x11 + 1)) x262000 x280000 x280001 x280002 x280003) else ((some (([] : List (S64)) : List (S64))).bind fun y282 => (if x11 ≤ (x262000.length : Int) then ((some (x262000.take (x11 : Int).toNat : List (S64))).bind fun y285 => (if y282.length + y285.length < 4398046511104 then ((some (y282 ++ y285 : List (S64))).bind fun y289 => ((some (([(⟨x280000, x280001, x280002, x280003⟩ : S64)] : List (S64)) : List (S64))).bind fun y292 => (if y289.length + y292.length < 4398046511104 then ((some (y289 ++ y292 : List (S64))).bind fun y295 => ((some (x262000.drop (x11 : Int).toNat : List (S64))).bind fun y298 => (if y295.length + y298.length < 4398046511104 then (impl_PutEntry.j1 k x262000 (y295 ++ y298)) else (none)))) else (none)))) else (none))) else (none))))) else (none)) else ((some (([] : List (S64)) : List (S64))).bind fun y305 => (if 0 ≤ x11 then (if x11 ≤ (x262000.length : Int) then ((some (x262000.take (x11 : Int).toNat : List (S64))).bind fun y308 => (if y305.length + y308.length < 4398046511104 then ((some (y305 ++ y308 : List (S64))).bind fun y312 => ((some (([(⟨x280000, x280001, x280002, x280003⟩ : S64)] : List (S64)) : List (S64))).bind fun y315 => (if y312.length + y315.length < 4398046511104 then ((some (y312 ++ y315 : List (S64))).bind fun y318 => ((some (x262000.drop (x11 : Int).toNat : List (S64))).bind fun y321 => (if y318.length + y321.length < 4398046511104 then (impl_PutEntry.j1 k x262000 (y318 ++ y321)) else (none)))) else (none)))) else (none))) else (none)) else (none)))
end
def impl_PutEntry.f (k : Nat) (l0_0 : List (S64)) (a1 : Int) (a2 : Int) : Option ((List (S64)) × Bool) := (impl_IsBundle.f k l0_0).bind fun t263 => (if t263 = true then ((impl_copyBundle.f l0_0).bind fun t267 => ((impl_FindEntry.f k l0_0 a1 a2).bind fun t271 => (if t271 ≥ 0 then (if 0 ≤ t271 then (if t271 < (l0_0.length : Int) then (if ((rd_T64 l0_0 t271).f3 = true) then (if t271 < (t267.length : Int) then ((some (t267.set (t271 : Int).toNat (⟨(rd_T64 t267 t271).f0, (rd_T64 t267 t271).f1, (rd_T64 t267 t271).f2, false⟩ : S64) : List (S64))).bind fun y273 => (impl_PutEntry.j1 k l0_0 (y273.set (t271 : Int).toNat (⟨(rd_T64 y273 t271).f0, (rd_T64 y273 t271).f1, wrap64 (((rd_T64 y273 t271).f2) + 1), (rd_T64 y273 t271).f3⟩ : S64)))) else (none)) else ((impl_copyBundle.f l0_0).bind fun t276 => (some (t276, false)))) else (none)) else (none)) else (impl_PutEntry.l0 k 0 l0_0 a1 a2 1 false)))) else ((impl_copyBundle.f l0_0).bind fun t264 => (some (t264, false))))
theorem impl_PutEntry.mono_l : ∀ k, (∀ y0 y1, LeO (impl_PutEntry.j1 k y0 y1) (impl_PutEntry.j1 (k + 1) y0 y1)) ∧ (∀ y0 y1 y2 y3 y4 y5, LeO (impl_PutEntry.l0 k y0 y1 y2 y3 y4 y5) (impl_PutEntry.l0 (k + 1) y0 y1 y2 y3 y4 y5))
  | 0 => ⟨fun _ _ r h => by simp [impl_PutEntry.j1] at h, fun _ _ _ _ _ _ r h => by simp [impl_PutEntry.l0] at h⟩
  | k + 1 => by
    obtain ⟨ih0, ih1⟩ := impl_PutEntry.mono_l k
    refine ⟨?_, ?_⟩
    · intro y0 y1
      unfold impl_PutEntry.j1
      repeat' first
      | (with_reducible exact ih0 _ _)
      | (with_reducible exact ih1 _ _ _ _ _ _)
      | (with_reducible exact impl_FindEntry.mono _ _ _ _)
      | (with_reducible exact impl_IsBundle.mono _ _)
      | (with_reducible exact LeO.refl _)
      | (with_reducible exact LeO.none _)
      | (with_reducible refine LeO.ite ?_ ?_)
      | (with_reducible refine LeO.bind ?_ (fun _ => ?_))
      | exact ih0 _ _
      | exact ih1 _ _ _ _ _ _
      | exact impl_FindEntry.mono _ _ _ _
      | exact impl_IsBundle.mono _ _
      | exact LeO.none _
      | refine LeO.ite ?_ ?_
      | refine LeO.bind ?_ (fun _ => ?_)
    · intro y0 y1 y2 y3 y4 y5
      unfold impl_PutEntry.l0
      repeat' first
      | (with_reducible exact ih0 _ _)
      | (with_reducible exact ih1 _ _ _ _ _ _)
      | (with_reducible exact impl_FindEntry.mono _ _ _ _)
      | (with_reducible exact impl_IsBundle.mono _ _)
      | (with_reducible exact LeO.refl _)
      | (with_reducible exact LeO.none _)
      | (with_reducible refine LeO.ite ?_ ?_)
      | (with_reducible refine LeO.bind ?_ (fun _ => ?_))
      | exact ih0 _ _
      | exact ih1 _ _ _ _ _ _
      | exact impl_FindEntry.mono _ _ _ _
      | exact impl_IsBundle.mono _ _
      | exact LeO.none _
      | refine LeO.ite ?_ ?_
      | refine LeO.bind ?_ (fun _ => ?_)
theorem impl_PutEntry.mono : ∀ a0 a1 a2 k, LeO (impl_PutEntry.f k a0 a1 a2) (impl_PutEntry.f (k + 1) a0 a1 a2) := by
  intro a0 a1 a2 k
  obtain ⟨ih0, ih1⟩ := impl_PutEntry.mono_l k
  unfold impl_PutEntry.f
  repeat' first
      | (with_reducible exact ih0 _ _)
      | (with_reducible exact ih1 _ _ _ _ _ _)
      | (with_reducible exact impl_FindEntry.mono _ _ _ _)
      | (with_reducible exact impl_IsBundle.mono _ _)
      | (with_reducible exact LeO.refl _)
      | (with_reducible exact LeO.none _)
      | (with_reducible refine LeO.ite ?_ ?_)
      | (with_reducible refine LeO.bind ?_ (fun _ => ?_))
      | exact ih0 _ _
      | exact ih1 _ _ _ _ _ _
      | exact impl_FindEntry.mono _ _ _ _
      | exact impl_IsBundle.mono _ _
      | exact LeO.none _
      | refine LeO.ite ?_ ?_
      | refine LeO.bind ?_ (fun _ => ?_)
def impl_PutEntry.T12 : Bool × List (List Nat × List Nat) := (true, [([], []), ([], []), ([1], [1]), ([2], [2]), ([0, 3], [0, 3]), ([4], [4]), ([5], [5]), ([6, 5], [5, 6]), ([5], [5]), ([7, 8, 5], [5, 7, 8]), ([9, 5], [5, 9]), ([5], [5]), ([10, 11, 5, 5], [5, 10, 11]), ([5, 12], [5, 12])])
def impl_PutEntry.B12 : List Nat := [0, 0, 2, 6, 15, 31, 63, 127, 63, 511, 1023, 63, 4095, 8191]
theorem impl_PutEntry.tab12 : rtab .any (opsOf Try.f29 12) = impl_PutEntry.T12 := by kernel_rfl
theorem impl_PutEntry.bits12 : waitsOk impl_PutEntry.T12.2 impl_PutEntry.B12 = true := by kernel_rfl
def impl_PutEntry.T14 : Bool × List (List Nat × List Nat) := (true, [([], []), ([], []), ([1], [1]), ([], []), ([2, 3], [2, 3]), ([0, 4], [0, 4]), ([], []), ([6], [6]), ([5, 7, 5], [5, 7]), ([], []), ([9], [9]), ([], []), ([10, 11], [10, 11]), ([8, 12, 8], [8, 12]), ([0, 1, 2, 3, 4, 5, 6, 7, 8, 9, 10, 11, 12, 13], []), ([14, 13, 13, 0, 1, 2, 3, 4, 5, 6, 7, 8, 9, 10, 11, 12, 13], [13, 14])])
def impl_PutEntry.B14 : List Nat := [0, 0, 2, 0, 14, 31, 0, 64, 255, 0, 512, 0, 3584, 8191, 16383, 32767]
theorem impl_PutEntry.tab14 : rtab .any (opsOf Try.f29 14) = impl_PutEntry.T14 := by kernel_rfl
theorem impl_PutEntry.bits14 : waitsOk impl_PutEntry.T14.2 impl_PutEntry.B14 = true := by kernel_rfl
set_option maxHeartbeats 8000000 in
set_option maxRecDepth 100000 in
theorem impl_PutEntry.calls (k : Nat) (A0_0 : Option Addr) (c0_0 : Nat) (l0_0 : List (S64)) (a1 : Int) (a2 : Int) (r1 : List (S64)) (r2 : Bool) (w : World) (hr0_0 : Kd.C k64 w A0_0 l0_0.length l0_0) (hc0_0 : l0_0.length ≤ c0_0) (h : impl_PutEntry.f k l0_0 a1 a2 = some (r1, r2)) :
    Calls Try.prog 29 #[.agg #[.slice A0_0 l0_0.length c0_0], .int .i64 a1, .int .i64 a2] w fun e w' => ∃ v0_ : Value, e = .returned (.tuple #[.agg #[v0_], .bool r2]) ∧ Kd.R k64 64 w' w.heap.size (fun _ => True) v0_ r1 ∧ Below w.heap.size w w' := by
 have hu39 := Try.underlying39; have hu64 := Try.underlying64; have HR0_0 := Aside0.mk hr0_0; have HC0_0 := Aside0.mk hc0_0; clear hr0_0 hc0_0
 have HB := Aside0.mk (Below.refl w.heap.size w)
 have H : ((impl_IsBundle.f k l0_0).bind fun t263 => (if t263 = true then ((impl_copyBundle.f l0_0).bind fun t267 => ((impl_FindEntry.f k l0_0 a1 a2).bind fun t271 => (if t271 ≥ 0 then (if 0 ≤ t271 then (if t271 < (l0_0.length : Int) then (if ((rd_T64 l0_0 t271).f3 = true) then (if t271 < (t267.length : Int) then ((some (t267.set (t271 : Int).toNat (⟨(rd_T64 t267 t271).f0, (rd_T64 t267 t271).f1, (rd_T64 t267 t271).f2, false⟩ : S64) : List (S64))).bind fun y273 => (impl_PutEntry.j1 k l0_0 (y273.set (t271 : Int).toNat (⟨(rd_T64 y273 t271).f0, (rd_T64 y273 t271).f1, wrap64 (((rd_T64 y273 t271).f2) + 1), (rd_T64 y273 t271).f3⟩ : S64)))) else (none)) else ((impl_copyBundle.f l0_0).bind fun t276 => (some (t276, false)))) else (none)) else (none)) else (impl_PutEntry.l0 k 0 l0_0 a1 a2 1 false)))) else ((impl_copyBundle.f l0_0).bind fun t264 => (some (t264, false))))) = some (r1, r2) := h
 clear h; replace H := Option.bind_eq_some_iff.mp H; obtain ⟨t263, A40, H⟩ := H; (try dsimp only at H); have A4 := Aside0.mk A40; clear A40
 by_cases c5 : t263 = true
 ·subst c5; rw [if_pos rfl] at H; replace H := Option.bind_eq_some_iff.mp H; obtain ⟨t267, A60, H⟩ := H; (try dsimp only at H); have A6 := Aside0.mk A60; clear A60; replace H := Option.bind_eq_some_iff.mp H; obtain ⟨t271, A70, H⟩ := H; (try dsimp only at H); have A7 := Aside0.mk A70; clear A70; have HC8 := Aside0.mk H; clear H
  go_enter Try.func29, Try.ntmps29
  go_upto_if 24 with (first | ((with_reducible refine gate_dst (N := 3) rfl ?_); refine box_event ?hg (N := 3) ?hd (cs := #[.slice A0_0 l0_0.length c0_0]) (t := 39) ?hr ?_; (case hd => rfl); (case hg => rfl); (case hr => first | (go_simp; done) | (go_simp; rfl)); intro gb261 hg w9 hbox hb; have n0_ := Aside0.mk (below_step (Cmp.g HB.out) hb); have n1_ := Aside0.mk (hbox); have n2_ := Aside0.mk ((by rw [hg]; exact (below_size (Cmp.g HB.out)) : w.heap.size ≤ gb261)); have n3_ := Aside0.mk ((by rw [hg]; exact (below_size (Cmp.g HB.out)) : w.heap.size ≤ gb261)); clear HB; have HB := n0_; have BK261 := n1_; have GW261 := n2_; have GE261 := n3_; clear n0_ n1_ n2_ n3_; clear hb hbox hg) | ((with_reducible refine gate_dst (N := 6) rfl ?_); refine box_event ?hg (N := 6) ?hd (cs := #[.slice none 0 0]) (t := 39) ?hr ?_; (case hd => rfl); (case hg => rfl); (case hr => first | (go_simp; done) | (go_simp; rfl)); intro gb262 hg w10 hbox hb; have n0_ := Aside0.mk (blk_below (Cmp.b BK261.out) hb); have n1_ := Aside0.mk (below_step (Cmp.g HB.out) hb); have n2_ := Aside0.mk (hbox); have n3_ := Aside0.mk ((by rw [hg]; exact (below_size (Cmp.g HB.out)) : w.heap.size ≤ gb262)); have n4_ := Aside0.mk ((by rw [hg]; exact (below_size (Cmp.g HB.out)) : w.heap.size ≤ gb262)); have n5_ := Aside0.mk ((by rw [hg]; exact Nat.ne_of_lt (blk_lt (Cmp.b BK261.out)) : gb261 ≠ gb262)); have n6_ := Aside0.mk ((by rw [hg]; exact Nat.ne_of_gt (blk_lt (Cmp.b BK261.out)) : gb262 ≠ gb261)); clear BK261; clear HB; have BK261 := n0_; have HB := n1_; have BK262 := n2_; have GW262 := n3_; have GE262 := n4_; have NB261_262 := n5_; have NB262_261 := n6_; clear n0_ n1_ n2_ n3_ n4_ n5_ n6_; clear hb hbox hg; have hnb11 := NB261_262.out; have hnc11 := NB262_261.out; have hcz12_0 : w10.cell? ⟨gb261, 0, none⟩ = some (.slice A0_0 l0_0.length c0_0) := (blk_cell BK261.out 0).trans rfl; have hfz12_0 := blk_frozen BK261.out 0) | ((with_reducible refine gate_callee (f := 46) rfl ?_); refine goesL_ (some 13) rfl rfl Try.func46 (by kernel_rfl) rfl #[.agg #[.slice A0_0 l0_0.length c0_0]] rfl Cmp.q ?_; (with_reducible refine (impl_IsBundle.calls k _ _ l0_0 true _ ?side1 ?side2 A4.out).mono ?_); (case side1 => exact Cmp.rc (Kd.C_below HR0_0.out HB.out)); (case side2 => exact HC0_0.out); rintro e w13 ⟨rfl, hb⟩; refine ⟨_, rfl, ?_⟩; have n0_ := Aside0.mk (blk_below (Cmp.b BK261.out) hb); have n1_ := Aside0.mk (blk_below (Cmp.b BK262.out) hb); have n2_ := Aside0.mk (below_step (Cmp.g HB.out) hb); clear BK261; clear BK262; clear HB; have BK261 := n0_; have BK262 := n1_; have HB := n2_; clear n0_ n1_ n2_; (try clear hb); (try clear hb2); (try clear hk); (try clear hi); have hcz14_0 : w13.cell? ⟨gb261, 0, none⟩ = some (.slice A0_0 l0_0.length c0_0) := (blk_cell BK261.out 0).trans rfl; have hfz14_0 := blk_frozen BK261.out 0) | ((with_reducible refine gate_callee (f := 47) rfl ?_); refine goesL_ (some 18) rfl rfl Try.func47 (by kernel_rfl) rfl #[.agg #[.slice A0_0 l0_0.length c0_0]] rfl Cmp.q ?_; (with_reducible refine (impl_copyBundle.calls _ _ l0_0 t267 _ ?side1 ?side2 A6.out).mono ?_); (case side1 => exact Cmp.rc (Kd.C_below HR0_0.out HB.out)); (case side2 => exact HC0_0.out); rintro e w15 ⟨v268, rfl, ho0, hb⟩; refine ⟨_, rfl, ?_⟩; have n0_ := Aside0.mk (Kd.R_lower ho0 (below_size (Cmp.g HB.out))); have n1_ := Aside0.mk (blk_below (Cmp.b BK261.out) hb); have n2_ := Aside0.mk (blk_below (Cmp.b BK262.out) hb); have n3_ := Aside0.mk (below_step (Cmp.g HB.out) hb); clear BK261; clear BK262; clear HB; have HO269 := n0_; have BK261 := n1_; have BK262 := n2_; have HB := n3_; clear n0_ n1_ n2_ n3_; (try clear hb); (try clear hb2); (try clear hk); (try clear hi); (try clear ho0)) | ((with_reducible refine gate_dst (N := 8) rfl ?_); refine box_event ?hg (N := 8) ?hd (cs := #[.slice none 0 0]) (t := 39) ?hr ?_; (case hd => rfl); (case hg => rfl); (case hr => first | (go_simp; done) | (go_simp; rfl)); intro gb270 hg w16 hbox hb; have n0_ := Aside0.mk (Kd.R_below (Cmp.rr HO269.out) hb); have n1_ := Aside0.mk (blk_below (Cmp.b BK261.out) hb); have n2_ := Aside0.mk (blk_below (Cmp.b BK262.out) hb); have n3_ := Aside0.mk (below_step (Cmp.g HB.out) hb); have n4_ := Aside0.mk (hbox); have n5_ := Aside0.mk ((by rw [hg]; exact (below_size (Cmp.g HB.out)) : w.heap.size ≤ gb270)); have n6_ := Aside0.mk ((by rw [hg]; exact (below_size (Cmp.g HB.out)) : w.heap.size ≤ gb270)); have n7_ := Aside0.mk ((by rw [hg]; exact Nat.ne_of_lt (blk_lt (Cmp.b BK261.out)) : gb261 ≠ gb270)); have n8_ := Aside0.mk ((by rw [hg]; exact Nat.ne_of_gt (blk_lt (Cmp.b BK261.out)) : gb270 ≠ gb261)); have n9_ := Aside0.mk ((by rw [hg]; exact Nat.ne_of_lt (blk_lt (Cmp.b BK262.out)) : gb262 ≠ gb270)); have n10_ := Aside0.mk ((by rw [hg]; exact Nat.ne_of_gt (blk_lt (Cmp.b BK262.out)) : gb270 ≠ gb262)); clear HO269; clear BK261; clear BK262; clear HB; have HO269 := n0_; have BK261 := n1_; have BK262 := n2_; have HB := n3_; have BK270 := n4_; have GW270 := n5_; have GE270 := n6_; have NB261_270 := n7_; have NB270_261 := n8_; have NB262_270 := n9_; have NB270_262 := n10_; clear n0_ n1_ n2_ n3_ n4_ n5_ n6_ n7_ n8_ n9_ n10_; clear hb hbox hg; obtain ⟨Ao17, co17, eo17⟩ := Kd.R_slice HO269.out; subst eo17; have hnb18 := NB270_261.out; have hnc18 := NB261_270.out; have hnb19 := NB270_262.out; have hnc19 := NB262_270.out; have hcz20_0 : w16.cell? ⟨gb270, 0, none⟩ = some (.slice none 0 0) := (blk_cell BK270.out 0).trans rfl; have hfz20_0 := blk_frozen BK270.out 0; have hcz21_0 : w16.cell? ⟨gb261, 0, none⟩ = some (.slice A0_0 l0_0.length c0_0) := (blk_cell BK261.out 0).trans rfl; have hfz21_0 := blk_frozen BK261.out 0) | ((with_reducible refine gate_callee (f := 45) rfl ?_); refine goesL_ (some 22) rfl rfl Try.func45 (by kernel_rfl) rfl #[.agg #[.slice A0_0 l0_0.length c0_0], .int .i64 a1, .int .i64 a2] rfl Cmp.q ?_; (with_reducible refine (impl_FindEntry.calls k _ _ l0_0 a1 a2 t271 _ ?side1 ?side2 A7.out).mono ?_); (case side1 => exact Kd.C_below HR0_0.out (Cmp.g HB.out)); (case side2 => exact HC0_0.out); rintro e w22 ⟨rfl, hb⟩; refine ⟨_, rfl, ?_⟩; have n0_ := Aside0.mk (Kd.R_below (by (with_reducible repeat (first | apply Kd.R_alloc | apply Kd.R_drewN | apply Kd.R_drew)); exact (Kd.R_mono (Kd.R_far (p := ⟨gb270, 0, none⟩) (Kd.R_types HO269.out BK270.out (by decide)) (fun _ hk => hk.2) (.slice Ao17 t267.length co17)) (fun _ h_ => h_.1))) hb); have n1_ := Aside0.mk (blk_below (g := gb261) (o := .cells #[.slice A0_0 l0_0.length c0_0] 39 (0, 0)) (by (with_reducible repeat (first | refine blk_drewN ?_ _ | refine blk_drew ?_ | refine blk_alloc ?_ _)); refine blk_far ?_ NB261_270.out _; (with_reducible repeat (first | refine blk_drewN ?_ _ | refine blk_drew ?_ | refine blk_alloc ?_ _)); exact BK261.out) hb); have n2_ := Aside0.mk (blk_below (g := gb262) (o := .cells #[.slice none 0 0] 39 (0, 0)) (by (with_reducible repeat (first | refine blk_drewN ?_ _ | refine blk_drew ?_ | refine blk_alloc ?_ _)); refine blk_far ?_ NB262_270.out _; (with_reducible repeat (first | refine blk_drewN ?_ _ | refine blk_drew ?_ | refine blk_alloc ?_ _)); exact BK262.out) hb); have n3_ := Aside0.mk (blk_below (g := gb270) (o := .cells #[.slice Ao17 t267.length co17] 39 (0, 0)) (by (with_reducible repeat (first | refine blk_drewN ?_ _ | refine blk_drew ?_ | refine blk_alloc ?_ _)); refine blk_put (cs := #[.slice none 0 0]) ?_ 0 _ rfl; (with_reducible repeat (first | refine blk_drewN ?_ _ | refine blk_drew ?_ | refine blk_alloc ?_ _)); exact BK270.out) hb); have n4_ := Aside0.mk (below_step (Cmp.g HB.out) hb); clear HO269; clear BK261; clear BK262; clear BK270; clear HB; have HO269 := n0_; have BK261 := n1_; have BK262 := n2_; have BK270 := n3_; have HB := n4_; clear n0_ n1_ n2_ n3_ n4_; (try clear hb); (try clear hb2); (try clear hk); (try clear hi)))
  (try simp only [Act.put, List.setIfInBounds_toArray, List.set_cons_zero, List.set_cons_succ])
  go_cut [] (fun wc => ∃ (kq : Nat) (x271000_7 : List (S64)) (u271000 : Value), Aside0 (impl_PutEntry.j1 kq l0_0 x271000_7 = some (r1, r2)) ∧ Aside0 (kq ≤ k) ∧ Aside0 (Kd.R k64 64 wc w.heap.size (fun _ => True) u271000 x271000_7) ∧ Aside0 (wc.heap[gb261]? = some (.cells #[(.slice A0_0 l0_0.length c0_0)] 39 (0, 0))) ∧ Aside0 (wc.heap[gb262]? = some (.cells #[(.slice none 0 0)] 39 (0, 0))) ∧ Aside0 (wc.heap[gb270]? = some (.cells #[u271000] 39 (0, 0))) ∧ Aside0 (Below w.heap.size w wc))
  case first =>
   have H := HC8.out; clear HC8
   by_cases c23 : t271 ≥ 0
   ·rw [if_pos c23] at H; have c23b0 : decide (0 ≤ t271) = true := decide_eq_true c23; clear c23
    (first | rw [c23b0] | (simp only [i64_w, i32_w]; rw [c23b0]) | skip)
    by_cases c24 : 0 ≤ t271
    ·rw [if_pos c24] at H; have c24b0 : decide (0 ≤ t271) = true := decide_eq_true c24; clear c24
     by_cases c25 : t271 < (l0_0.length : Int)
     ·rw [if_pos c25] at H
      have c25b0 : decide (t271 < (l0_0.length : Int)) = true := decide_eq_true c25
      clear c25
      obtain ⟨bq26, hbq26⟩ : ∃ b_ : Bool, b_ = ((rd_T64 l0_0 t271).f3) := ⟨_, rfl⟩
      replace H : (if (bq26 = true) then (if t271 < (t267.length : Int) then ((some (t267.set (t271 : Int).toNat (⟨(rd_T64 t267 t271).f0, (rd_T64 t267 t271).f1, (rd_T64 t267 t271).f2, false⟩ : S64) : List (S64))).bind fun y273 => (impl_PutEntry.j1 k l0_0 (y273.set (t271 : Int).toNat (⟨(rd_T64 y273 t271).f0, (rd_T64 y273 t271).f1, wrap64 (((rd_T64 y273 t271).f2) + 1), (rd_T64 y273 t271).f3⟩ : S64)))) else (none)) else ((impl_copyBundle.f l0_0).bind fun t276 => (some (t276, false)))) = some (r1, r2) := by rw [← hbq26] at H; exact H
      have Nbq26 := Aside0.mk hbq26; clear hbq26
      by_cases c27 : (bq26 = true)
      ·subst c27; rw [if_pos rfl] at H
       by_cases c28 : t271 < (t267.length : Int)
       ·rw [if_pos c28] at H
        have c28b0 : decide (t271 < (t267.length : Int)) = true := decide_eq_true c28
        clear c28
        obtain ⟨y273, hy273⟩ : ∃ y_ : List (S64), y_ = (t267.set (t271 : Int).toNat (⟨(rd_T64 t267 t271).f0, (rd_T64 t267 t271).f1, (rd_T64 t267 t271).f2, false⟩ : S64)) := ⟨_, rfl⟩
        replace H : (impl_PutEntry.j1 k l0_0 (y273.set (t271 : Int).toNat (⟨(rd_T64 y273 t271).f0, (rd_T64 y273 t271).f1, wrap64 (((rd_T64 y273 t271).f2) + 1), (rd_T64 y273 t271).f3⟩ : S64))) = some (r1, r2) := by first | (rw [hy273]; with_reducible exact H) | (have H2_ := (Option.bind_some _ _).symm.trans H; rw [hy273]; with_reducible exact H2_) | (have H2_ := (Option.bind_some _ _).symm.trans H; with_reducible exact H2_) | with_reducible exact H | (rw [hy273]; exact H) | exact H
        have Ny273 := Aside0.mk hy273; clear hy273
        obtain ⟨y275, hy275⟩ : ∃ y_ : List (S64), y_ = (y273.set (t271 : Int).toNat (⟨(rd_T64 y273 t271).f0, (rd_T64 y273 t271).f1, wrap64 (((rd_T64 y273 t271).f2) + 1), (rd_T64 y273 t271).f3⟩ : S64)) := ⟨_, rfl⟩
        replace H : (impl_PutEntry.j1 k l0_0 y275) = some (r1, r2) := by first | (rw [hy275]; with_reducible exact H) | (have H2_ := (Option.bind_some _ _).symm.trans H; rw [hy275]; with_reducible exact H2_) | (have H2_ := (Option.bind_some _ _).symm.trans H; with_reducible exact H2_) | with_reducible exact H | (rw [hy275]; exact H) | exact H
        have Ny275 := Aside0.mk hy275; clear hy275
        have H' := Aside0.mk H
        clear H; have hnb31 := NB261_262.out; have hnc31 := NB262_261.out; have hnb32 := NB261_270.out; have hnc32 := NB270_261.out
        have hcz33_0 : w22.cell? ⟨gb261, 0, none⟩ = some (.slice A0_0 l0_0.length c0_0) := (blk_cell BK261.out 0).trans rfl
        have hfz33_0 := blk_frozen BK261.out 0
        have p272 : 0 ≤ (t271 : Int) := of_decide_eq_true Cmp.d
        have q272 : t271 < (l0_0.length : Int) := of_decide_eq_true Cmp.d
        obtain ⟨ad272, e272, hx272_0, hx272_1, hx272_2, hx272_3⟩ := at_T64 HR0_0.out t271 p272 q272
        (try rw [← Nbq26.out] at hx272_3)
        cases e272
        replace hx272_0 := (HB.out.cell (World.block_lt_of_cell? w _ hx272_0)).trans hx272_0
        replace hx272_1 := (HB.out.cell (World.block_lt_of_cell? w _ hx272_1)).trans hx272_1
        replace hx272_2 := (HB.out.cell (World.block_lt_of_cell? w _ hx272_2)).trans hx272_2
        replace hx272_3 := (HB.out.cell (World.block_lt_of_cell? w _ hx272_3)).trans hx272_3
        replace p272 := eq_true p272; replace q272 := eq_true q272; have hnb34 := NB270_262.out; have hnc34 := NB262_270.out
        have hcz35_0 : w22.cell? ⟨gb270, 0, none⟩ = some (.slice Ao17 t267.length co17) := (blk_cell BK270.out 0).trans rfl
        have hfz35_0 := blk_frozen BK270.out 0
        have p29 : 0 ≤ (t271 : Int) := of_decide_eq_true Cmp.d
        have q29 : (t271 : Int) < ((t267.length : Int) : Int) := of_decide_eq_true Cmp.d
        obtain ⟨go29, co29, eo29, gb29, gl29, cl29, HG29⟩ := Kd.R_form HO269.out (by omega)
        (first | cases eo29 | (injection eo29 with ea_ en_ ec_; (first | subst ea_ | (injection ea_ with ea_; subst ea_)); subst ec_; clear en_))
        have GB29 := Aside0.mk gb29; have GG29 := Aside0.mk HG29; clear gb29 gl29 HG29
        obtain ⟨ce29, hcl29, hM29, hcc29, hfr29⟩ := Kd.R_elem HO269.out z64 (t271 : Int) p29 q29
        obtain rfl := k64_openM hM29
        have hx29_0 : w22.cell? ⟨go29, (t271 : Int).toNat * 4, none⟩ = some (.int .i64 ((rd_T64 t267 t271).f0)) := hcc29 0 _ rfl
        have hx29_1 : w22.cell? ⟨go29, (t271 : Int).toNat * 4 + 1, none⟩ = some (.int .i64 ((rd_T64 t267 t271).f1)) := hcc29 1 _ rfl
        have hx29_2 : w22.cell? ⟨go29, (t271 : Int).toNat * 4 + 2, none⟩ = some (.int .i64 ((rd_T64 t267 t271).f2)) := hcc29 2 _ rfl
        have hx29_3 : w22.cell? ⟨go29, (t271 : Int).toNat * 4 + 3, none⟩ = some (.bool ((rd_T64 t267 t271).f3)) := hcc29 3 _ rfl
        have hf29_0 : w22.frozen? ⟨go29, (t271 : Int).toNat * 4, none⟩ = false := hfr29 0
        have hf29_1 : w22.frozen? ⟨go29, (t271 : Int).toNat * 4 + 1, none⟩ = false := hfr29 1
        have hf29_2 : w22.frozen? ⟨go29, (t271 : Int).toNat * 4 + 2, none⟩ = false := hfr29 2
        have hf29_3 : w22.frozen? ⟨go29, (t271 : Int).toNat * 4 + 3, none⟩ = false := hfr29 3
        clear hcl29 hcc29 hfr29 hM29; replace p29 := eq_true p29; replace q29 := eq_true q29
        have HX36 := Aside0.mk (show Kd.R k64 64 w22 w.heap.size (fun _ => True) (.slice (some ⟨go29, 0, none⟩) t267.length co17) t267 from (Cmp.rr HO269.out))
        obtain ⟨ce36, hcl36, hM36, hcc36, hfr36⟩ := Kd.R_elem HX36.out z64 (t271 : Int) (of_decide_eq_true Cmp.d) (by have h_ : (t271 : Int) < ((t267.length : Int) : Int) := of_decide_eq_true Cmp.d; first | exact h_ | (have e_ := (Kd.R_reads' HO269.out).1; omega) | simpa using h_)
        obtain rfl := k64_openM hM36
        have HP36 := Kd.R_seg HX36.out (t271 : Int) (of_decide_eq_true Cmp.d) (by have h_ : (t271 : Int) < ((t267.length : Int) : Int) := of_decide_eq_true Cmp.d; first | exact h_ | (have e_ := (Kd.R_reads' HO269.out).1; omega) | simpa using h_) (seg := [.bool false]) (j := 3) hcl36 hcc36 (show 4 ≤ 4 from by decide) (x' := (⟨(rd_T64 t267 t271).f0, (rd_T64 t267 t271).f1, (rd_T64 t267 t271).f2, false⟩ : S64)) (k64_mkM _ _ _ (⟨(rd_T64 t267 t271).f0, (rd_T64 t267 t271).f1, (rd_T64 t267 t271).f2, false⟩ : S64) ) (fun _ hk => hk)
        have hx36_3 := hcc36 3 _ rfl
        (try simp only [show (k64).sz = 4 from rfl, Nat.mul_one, Nat.add_zero] at hx36_3)
        have hf36_3 := hfr36 3
        (try simp only [show (k64).sz = 4 from rfl, Nat.mul_one, Nat.add_zero] at hf36_3)
        clear hcl36 hcc36 hfr36 hM36
        go_wp2_with (first | ((with_reducible refine gate_store (t := 4) (p := 38) rfl ?_); refine store_event (t := 4) (p := 38) (v := ?vo_w37) (w1 := (w22.setCell ⟨go29, (t271 : Int).toNat * 4 + 3, none⟩ (.bool false))) ?hg ?ho ?hn ?hr ?_; (case ho => rfl); (case hg => rfl); (case hn => rfl); (case hr => first | (go_simp; done) | (go_simp; rfl)); intro w37 hw; have hg : w22.grownBy w37 (some go29) := (by rw [hw]; exact HP36.2); have hp_ : Kd.R k64 64 w37 w.heap.size (fun _ => True) (.slice (some ⟨go29, 0, none⟩) t267.length co17) y273 := (by rw [hw, Ny273.out]; exact HP36.1); clear HP36; have n0_ := Aside0.mk (blk_grown (g := gb261) (o := .cells #[.slice (some ad272) l0_0.length c0_0] 39 (0, 0)) (Cmp.b BK261.out) hg (Kd.R_ne HO269.out BK261.out (by decide))); have n1_ := Aside0.mk (blk_grown (g := gb262) (o := .cells #[.slice none 0 0] 39 (0, 0)) (Cmp.b BK262.out) hg (Kd.R_ne HO269.out BK262.out (by decide))); have n2_ := Aside0.mk (hp_); have n3_ := Aside0.mk (blk_grown (g := gb270) (o := .cells #[.slice (some ⟨go29, 0, none⟩) t267.length co17] 39 (0, 0)) (Cmp.b BK270.out) hg (Kd.R_ne HO269.out BK270.out (by decide))); have n4_ := Aside0.mk ((by rw [hw]; exact below_set (HB.out) GB29.out : Below w.heap.size w w37)); clear BK261; clear BK262; clear HO269; clear BK270; clear HB; have BK261 := n0_; have BK262 := n1_; have HO269 := n2_; have BK270 := n3_; have HB := n4_; clear n0_ n1_ n2_ n3_ n4_; clear hg hw hp_; have hcz38_0 : w37.cell? ⟨gb270, 0, none⟩ = some (.slice (some ⟨go29, 0, none⟩) t267.length co17) := (blk_cell BK270.out 0).trans rfl; have hfz38_0 := blk_frozen BK270.out 0; have p274 : 0 ≤ (t271 : Int) := of_decide_eq_true Cmp.d; have q274 : t271 < (y273.length : Int) := (by have h_ : (t271 : Int) < ((t267.length : Int) : Int) := of_decide_eq_true Cmp.d; first | (have e_ := (Kd.R_reads' HO269.out).1; omega) | simpa only [Ny273.out, List.length_set] using h_); have ql274 : ((t271 : Int) < ((t267.length : Int) : Int)) = True := eq_true (of_decide_eq_true Cmp.d); obtain ⟨ad274, e274, hx274_0, hx274_1, hx274_2, hx274_3⟩ := at_T64 (Kd.R_reads' HO269.out).2.2 t271 p274 q274; (try rw [← Nbq26.out] at hx274_3); obtain rfl : (⟨go29, 0, none⟩ : Addr) = ad274 := (by injection e274); (first | simp only [add_plain] at hx274_0 | simp only [add_at] at hx274_0 | simp only [Addr.add, Nat.zero_add] at hx274_0 | skip); (first | simp only [add_plain] at hx274_1 | simp only [add_at] at hx274_1 | simp only [Addr.add, Nat.zero_add] at hx274_1 | skip); (first | simp only [add_plain] at hx274_2 | simp only [add_at] at hx274_2 | simp only [Addr.add, Nat.zero_add] at hx274_2 | skip); (first | simp only [add_plain] at hx274_3 | simp only [add_at] at hx274_3 | simp only [Addr.add, Nat.zero_add] at hx274_3 | skip); replace p274 := eq_true p274; replace q274 := eq_true q274; have p30 : 0 ≤ (t271 : Int) := of_decide_eq_true Cmp.d; have q30 : (t271 : Int) < ((t267.length : Int) : Int) := of_decide_eq_true Cmp.d; obtain ⟨ce30, hcl30, hM30, hcc30, hfr30⟩ := Kd.R_elem HO269.out z64 (t271 : Int) p30 q30; obtain rfl := k64_openM hM30; have hx30_0 : w37.cell? ⟨go29, (t271 : Int).toNat * 4, none⟩ = some (.int .i64 ((rd_T64 y273 t271).f0)) := hcc30 0 _ rfl; have hx30_1 : w37.cell? ⟨go29, (t271 : Int).toNat * 4 + 1, none⟩ = some (.int .i64 ((rd_T64 y273 t271).f1)) := hcc30 1 _ rfl; have hx30_2 : w37.cell? ⟨go29, (t271 : Int).toNat * 4 + 2, none⟩ = some (.int .i64 ((rd_T64 y273 t271).f2)) := hcc30 2 _ rfl; have hx30_3 : w37.cell? ⟨go29, (t271 : Int).toNat * 4 + 3, none⟩ = some (.bool ((rd_T64 y273 t271).f3)) := hcc30 3 _ rfl; have hf30_0 : w37.frozen? ⟨go29, (t271 : Int).toNat * 4, none⟩ = false := hfr30 0; have hf30_1 : w37.frozen? ⟨go29, (t271 : Int).toNat * 4 + 1, none⟩ = false := hfr30 1; have hf30_2 : w37.frozen? ⟨go29, (t271 : Int).toNat * 4 + 2, none⟩ = false := hfr30 2; have hf30_3 : w37.frozen? ⟨go29, (t271 : Int).toNat * 4 + 3, none⟩ = false := hfr30 3; clear hcl30 hcc30 hfr30 hM30; replace p30 := eq_true p30; replace q30 := eq_true q30; have HX39 := Aside0.mk (show Kd.R k64 64 w37 w.heap.size (fun _ => True) (.slice (some ⟨go29, 0, none⟩) t267.length co17) y273 from (Cmp.rr HO269.out)); obtain ⟨ce39, hcl39, hM39, hcc39, hfr39⟩ := Kd.R_elem HX39.out z64 (t271 : Int) (of_decide_eq_true Cmp.d) (by have h_ : (t271 : Int) < ((t267.length : Int) : Int) := of_decide_eq_true Cmp.d; first | exact h_ | (have e_ := (Kd.R_reads' HO269.out).1; omega) | simpa using h_); obtain rfl := k64_openM hM39; have HP39 := Kd.R_seg HX39.out (t271 : Int) (of_decide_eq_true Cmp.d) (by have h_ : (t271 : Int) < ((t267.length : Int) : Int) := of_decide_eq_true Cmp.d; first | exact h_ | (have e_ := (Kd.R_reads' HO269.out).1; omega) | simpa using h_) (seg := [.int .i64 (wrap64 (((rd_T64 y273 t271).f2) + 1))]) (j := 2) hcl39 hcc39 (show 3 ≤ 4 from by decide) (x' := (⟨(rd_T64 y273 t271).f0, (rd_T64 y273 t271).f1, wrap64 (((rd_T64 y273 t271).f2) + 1), (rd_T64 y273 t271).f3⟩ : S64)) (k64_mkM _ _ _ (⟨(rd_T64 y273 t271).f0, (rd_T64 y273 t271).f1, wrap64 (((rd_T64 y273 t271).f2) + 1), (rd_T64 y273 t271).f3⟩ : S64) ) (fun _ hk => hk); have hx39_2 := hcc39 2 _ rfl; (try simp only [show (k64).sz = 4 from rfl, Nat.mul_one, Nat.add_zero] at hx39_2); have hf39_2 := hfr39 2; (try simp only [show (k64).sz = 4 from rfl, Nat.mul_one, Nat.add_zero] at hf39_2); clear hcl39 hcc39 hfr39 hM39) | ((with_reducible refine gate_store (t := 3) (p := 47) rfl ?_); refine store_event (t := 3) (p := 47) (v := ?vo_w40) (w1 := (w37.setCell ⟨go29, (t271 : Int).toNat * 4 + 2, none⟩ (.int .i64 (wrap64 (((rd_T64 y273 t271).f2) + 1))))) ?hg ?ho ?hn ?hr ?_; (case ho => rfl); (case hg => rfl); (case hn => rfl); (case hr => first | (go_simp; done) | (go_simp; rfl)); intro w40 hw; have hg : w37.grownBy w40 (some go29) := (by rw [hw]; exact HP39.2); have hp_ : Kd.R k64 64 w40 w.heap.size (fun _ => True) (.slice (some ⟨go29, 0, none⟩) t267.length co17) y275 := (by rw [hw, Ny275.out]; exact HP39.1); clear HP39; have n0_ := Aside0.mk (blk_grown (g := gb261) (o := .cells #[.slice (some ad272) l0_0.length c0_0] 39 (0, 0)) (Cmp.b BK261.out) hg (Kd.R_ne HO269.out BK261.out (by decide))); have n1_ := Aside0.mk (blk_grown (g := gb262) (o := .cells #[.slice none 0 0] 39 (0, 0)) (Cmp.b BK262.out) hg (Kd.R_ne HO269.out BK262.out (by decide))); have n2_ := Aside0.mk (hp_); have n3_ := Aside0.mk (blk_grown (g := gb270) (o := .cells #[.slice (some ⟨go29, 0, none⟩) t267.length co17] 39 (0, 0)) (Cmp.b BK270.out) hg (Kd.R_ne HO269.out BK270.out (by decide))); have n4_ := Aside0.mk ((by rw [hw]; exact below_set (HB.out) GB29.out : Below w.heap.size w w40)); clear BK261; clear BK262; clear HO269; clear BK270; clear HB; have BK261 := n0_; have BK262 := n1_; have HO269 := n2_; have BK270 := n3_; have HB := n4_; clear n0_ n1_ n2_ n3_ n4_; clear hg hw hp_))
        go_meet
        case rel => exact ⟨_, (y275), (.slice (some ⟨go29, 0, none⟩) t267.length co17), H', ⟨by first | omega | exact Nat.le_refl _⟩, ⟨by (with_reducible repeat (first | apply Kd.R_alloc | apply Kd.R_drewN | apply Kd.R_drew)); exact HO269.out⟩, ⟨by (with_reducible repeat (first | refine blk_drewN ?_ _ | refine blk_drew ?_ | refine blk_alloc ?_ _)); exact BK261.out⟩, ⟨by (with_reducible repeat (first | refine blk_drewN ?_ _ | refine blk_drew ?_ | refine blk_alloc ?_ _)); exact BK262.out⟩, ⟨by (with_reducible repeat (first | refine blk_drewN ?_ _ | refine blk_drew ?_ | refine blk_alloc ?_ _)); exact BK270.out⟩, ⟨Cmp.g HB.out⟩⟩
       ·rw [if_neg c28] at H; exact absurd H (by simp)
      ·replace c27 := Bool.eq_false_iff.mpr c27
       subst c27
       have H1 : ((impl_copyBundle.f l0_0).bind fun t276 => (some (t276, false))) = some (r1, r2) := by rw [if_neg (show ¬ (false = true) by decide)] at H; exact H
       clear H; have H := H1; clear H1; replace H := Option.bind_eq_some_iff.mp H; obtain ⟨t276, A410, H⟩ := H; (try dsimp only at H); have A41 := Aside0.mk A410; clear A410
       simp only [Option.some.injEq, Prod.mk.injEq] at H
       obtain ⟨rfl, rfl⟩ := H; have hnb42 := NB261_262.out; have hnc42 := NB262_261.out; have hnb43 := NB261_270.out; have hnc43 := NB270_261.out
       have hcz44_0 : w22.cell? ⟨gb261, 0, none⟩ = some (.slice A0_0 l0_0.length c0_0) := (blk_cell BK261.out 0).trans rfl
       have hfz44_0 := blk_frozen BK261.out 0
       have p272 : 0 ≤ (t271 : Int) := of_decide_eq_true Cmp.d
       have q272 : t271 < (l0_0.length : Int) := of_decide_eq_true Cmp.d
       obtain ⟨ad272, e272, hx272_0, hx272_1, hx272_2, hx272_3⟩ := at_T64 HR0_0.out t271 p272 q272
       (try rw [← Nbq26.out] at hx272_3)
       cases e272
       replace hx272_0 := (HB.out.cell (World.block_lt_of_cell? w _ hx272_0)).trans hx272_0
       replace hx272_1 := (HB.out.cell (World.block_lt_of_cell? w _ hx272_1)).trans hx272_1
       replace hx272_2 := (HB.out.cell (World.block_lt_of_cell? w _ hx272_2)).trans hx272_2
       replace hx272_3 := (HB.out.cell (World.block_lt_of_cell? w _ hx272_3)).trans hx272_3
       replace p272 := eq_true p272; replace q272 := eq_true q272
       go_wp2_with (first | ((with_reducible refine gate_callee (f := 47) rfl ?_); refine goesL_ (some 33) rfl rfl Try.func47 (by kernel_rfl) rfl #[.agg #[.slice (some ad272) l0_0.length c0_0]] rfl Cmp.q ?_; (with_reducible refine (impl_copyBundle.calls _ _ l0_0 t276 _ ?side1 ?side2 A41.out).mono ?_); (case side1 => exact Cmp.rc (Kd.C_below HR0_0.out HB.out)); (case side2 => exact HC0_0.out); rintro e w45 ⟨v277, rfl, ho0, hb⟩; refine ⟨_, rfl, ?_⟩; have n0_ := Aside0.mk (Kd.R_elder' (Cmp.rr HO269.out) (Kd.R_base ho0) hb); have n1_ := Aside0.mk (Kd.R_lower (Kd.R_new' ho0 (Kd.R_lt (Cmp.rr HO269.out))) (below_size (Cmp.g HB.out))); have n2_ := Aside0.mk (blk_below (Cmp.b BK261.out) hb); have n3_ := Aside0.mk (blk_below (Cmp.b BK262.out) hb); have n4_ := Aside0.mk (blk_below (Cmp.b BK270.out) hb); have n5_ := Aside0.mk (below_step (Cmp.g HB.out) hb); clear HO269; clear BK261; clear BK262; clear BK270; clear HB; have HO269 := n0_; have HO278 := n1_; have BK261 := n2_; have BK262 := n3_; have BK270 := n4_; have HB := n5_; clear n0_ n1_ n2_ n3_ n4_ n5_; (try clear hb); (try clear hb2); (try clear hk); (try clear hi); (try clear ho0); obtain ⟨Ao46, co46, eo46⟩ := Kd.R_slice HO278.out; subst eo46; have hnb47 := NB262_270.out; have hnc47 := NB270_262.out; have hcz48_0 : w45.cell? ⟨gb262, 0, none⟩ = some (.slice none 0 0) := (blk_cell BK262.out 0).trans rfl; have hfz48_0 := blk_frozen BK262.out 0))
       refine bodyPost_ret (results_ct rfl _ _ gb262 39 #[.slice Ao46 t276.length co46] (0, 0) _ rfl (by (with_reducible repeat (first | refine blk_drewN ?_ _ | refine blk_drew ?_ | refine blk_alloc ?_ _)); refine blk_put (cs := #[.slice none 0 0]) ?_ 0 _ rfl; (with_reducible repeat (first | refine blk_drewN ?_ _ | refine blk_drew ?_ | refine blk_alloc ?_ _)); exact BK262.out) Try.underlying39 rfl (by kernel_rfl)) rfl ?_
       exact ⟨_, by first | rfl | (simp [errW_none, errW_some] <;> rfl) | (simp [*, errW_none, errW_some] <;> rfl), by (with_reducible repeat (first | apply Kd.R_alloc | apply Kd.R_drewN | apply Kd.R_drew)); exact Kd.R_mono (Kd.R_far (p := ⟨gb262, 0, none⟩) (Kd.R_types HO278.out BK262.out (by decide)) (fun _ hk => hk.2) (.slice Ao46 t276.length co46)) (fun _ hk => trivial), Cmp.g HB.out⟩
     ·rw [if_neg c25] at H; exact absurd H (by simp)
    ·rw [if_neg c24] at H; exact absurd H (by simp)
   ·rw [if_neg c23] at H; have c23b0 : decide (0 ≤ t271) = false := decide_eq_false c23; clear c23
    (first | rw [c23b0] | (simp only [i64_w, i32_w]; rw [c23b0]) | skip)
    have H' := Aside0.mk H
    clear H
    go_wp2_with (first | ((with_reducible refine gate_dst (N := 10) rfl ?_); refine box_event ?hg (N := 10) ?hd (cs := #[.int .i64 0, .int .i64 0, .int .i64 0, .bool false]) (t := 64) ?hr ?_; (case hd => rfl); (case hg => rfl); (case hr => first | (go_simp; done) | (go_simp; rfl)); intro gb279 hg w49 hbox hb; have n0_ := Aside0.mk (Kd.R_below (Kd.R_elderB (Cmp.rr HO269.out) gb279 (Nat.le_of_eq hg.symm)) hb); have n1_ := Aside0.mk (blk_below (Cmp.b BK261.out) hb); have n2_ := Aside0.mk (blk_below (Cmp.b BK262.out) hb); have n3_ := Aside0.mk (blk_below (Cmp.b BK270.out) hb); have n4_ := Aside0.mk (below_step (Cmp.g HB.out) hb); have n5_ := Aside0.mk (hbox); have n6_ := Aside0.mk ((by rw [hg]; exact (below_size (Cmp.g HB.out)) : w.heap.size ≤ gb279)); have n7_ := Aside0.mk ((by rw [hg]; exact (below_size (Cmp.g HB.out)) : w.heap.size ≤ gb279)); have n8_ := Aside0.mk ((by rw [hg]; exact Nat.ne_of_lt (blk_lt (Cmp.b BK261.out)) : gb261 ≠ gb279)); have n9_ := Aside0.mk ((by rw [hg]; exact Nat.ne_of_gt (blk_lt (Cmp.b BK261.out)) : gb279 ≠ gb261)); have n10_ := Aside0.mk ((by rw [hg]; exact Nat.ne_of_lt (blk_lt (Cmp.b BK262.out)) : gb262 ≠ gb279)); have n11_ := Aside0.mk ((by rw [hg]; exact Nat.ne_of_gt (blk_lt (Cmp.b BK262.out)) : gb279 ≠ gb262)); have n12_ := Aside0.mk ((by rw [hg]; exact Nat.ne_of_lt (blk_lt (Cmp.b BK270.out)) : gb270 ≠ gb279)); have n13_ := Aside0.mk ((by rw [hg]; exact Nat.ne_of_gt (blk_lt (Cmp.b BK270.out)) : gb279 ≠ gb270)); clear HO269; clear BK261; clear BK262; clear BK270; clear HB; have HO269 := n0_; have BK261 := n1_; have BK262 := n2_; have BK270 := n3_; have HB := n4_; have BK279 := n5_; have GW279 := n6_; have GE279 := n7_; have NB261_279 := n8_; have NB279_261 := n9_; have NB262_279 := n10_; have NB279_262 := n11_; have NB270_279 := n12_; have NB279_270 := n13_; clear n0_ n1_ n2_ n3_ n4_ n5_ n6_ n7_ n8_ n9_ n10_ n11_ n12_ n13_; clear hb hbox hg; have hnb50 := NB279_261.out; have hnc50 := NB261_279.out; have hnb51 := NB279_262.out; have hnc51 := NB262_279.out; have hnb52 := NB279_270.out; have hnc52 := NB270_279.out; have hcz53_0 : w49.cell? ⟨gb279, 0, none⟩ = some (.int .i64 0) := (blk_cell BK279.out 0).trans rfl; have hcz53_1 : w49.cell? ⟨gb279, 1, none⟩ = some (.int .i64 0) := (blk_cell BK279.out 1).trans rfl; have hcz53_2 : w49.cell? ⟨gb279, 2, none⟩ = some (.int .i64 0) := (blk_cell BK279.out 2).trans rfl; have hcz53_3 : w49.cell? ⟨gb279, 3, none⟩ = some (.bool false) := (blk_cell BK279.out 3).trans rfl; have hfz53_0 := blk_frozen BK279.out 0; have hfz53_1 := blk_frozen BK279.out 1; have hfz53_2 := blk_frozen BK279.out 2; have hfz53_3 := blk_frozen BK279.out 3))
    go_loopg [11] k (fun kq v11 w' => ∃ (x11_1 : Int), v11 = .int .i64 x11_1 ∧ Aside0 (impl_PutEntry.l0 kq x11_1 l0_0 a1 a2 1 false = some (r1, r2)) ∧ Aside0 (kq ≤ k) ∧ Aside0 (Kd.R k64 64 w' w.heap.size (fun k_ => k_ ≠ gb279) (.slice Ao17 t267.length co17) t267) ∧ Aside0 (w'.heap[gb261]? = some (.cells #[(.slice A0_0 l0_0.length c0_0)] 39 (0, 0))) ∧ Aside0 (w'.heap[gb262]? = some (.cells #[(.slice none 0 0)] 39 (0, 0))) ∧ Aside0 (w'.heap[gb270]? = some (.cells #[(.slice Ao17 t267.length co17)] 39 (0, 0))) ∧ Aside0 (w'.heap[gb279]? = some (.cells #[.int .i64 a1, .int .i64 a2, .int .i64 1, .bool false] 64 (0, 0))) ∧ Aside0 (Below w.heap.size w w'))
    case atStart => exact ⟨(0), (by first | rfl | simp | simp [*]), H', ⟨Nat.le_refl _⟩, ⟨by (with_reducible repeat (first | apply Kd.R_alloc | apply Kd.R_drewN | apply Kd.R_drew)); exact Kd.R_mono (Kd.R_far (p := ⟨gb279, 3, none⟩) (Kd.R_far (p := ⟨gb279, 2, none⟩) (Kd.R_far (p := ⟨gb279, 1, none⟩) (Kd.R_far (p := ⟨gb279, 0, none⟩) (Kd.R_mono HO269.out (fun k_ hk => (⟨hk, hk.2⟩ : _ ∧ k_ ≠ gb279))) (fun _ hk => hk.2) (.int .i64 a1)) (fun _ hk => hk.2) (.int .i64 a2)) (fun _ hk => hk.2) (.int .i64 1)) (fun _ hk => hk.2) (.bool false)) (fun _ hk => hk.1.2)⟩, ⟨by (with_reducible repeat (first | refine blk_drewN ?_ _ | refine blk_drew ?_ | refine blk_alloc ?_ _)); refine blk_far ?_ NB261_279.out _; (with_reducible repeat (first | refine blk_drewN ?_ _ | refine blk_drew ?_ | refine blk_alloc ?_ _)); refine blk_far ?_ NB261_279.out _; (with_reducible repeat (first | refine blk_drewN ?_ _ | refine blk_drew ?_ | refine blk_alloc ?_ _)); refine blk_far ?_ NB261_279.out _; (with_reducible repeat (first | refine blk_drewN ?_ _ | refine blk_drew ?_ | refine blk_alloc ?_ _)); refine blk_far ?_ NB261_279.out _; (with_reducible repeat (first | refine blk_drewN ?_ _ | refine blk_drew ?_ | refine blk_alloc ?_ _)); exact BK261.out⟩, ⟨by (with_reducible repeat (first | refine blk_drewN ?_ _ | refine blk_drew ?_ | refine blk_alloc ?_ _)); refine blk_far ?_ NB262_279.out _; (with_reducible repeat (first | refine blk_drewN ?_ _ | refine blk_drew ?_ | refine blk_alloc ?_ _)); refine blk_far ?_ NB262_279.out _; (with_reducible repeat (first | refine blk_drewN ?_ _ | refine blk_drew ?_ | refine blk_alloc ?_ _)); refine blk_far ?_ NB262_279.out _; (with_reducible repeat (first | refine blk_drewN ?_ _ | refine blk_drew ?_ | refine blk_alloc ?_ _)); refine blk_far ?_ NB262_279.out _; (with_reducible repeat (first | refine blk_drewN ?_ _ | refine blk_drew ?_ | refine blk_alloc ?_ _)); exact BK262.out⟩, ⟨by (with_reducible repeat (first | refine blk_drewN ?_ _ | refine blk_drew ?_ | refine blk_alloc ?_ _)); refine blk_far ?_ NB270_279.out _; (with_reducible repeat (first | refine blk_drewN ?_ _ | refine blk_drew ?_ | refine blk_alloc ?_ _)); refine blk_far ?_ NB270_279.out _; (with_reducible repeat (first | refine blk_drewN ?_ _ | refine blk_drew ?_ | refine blk_alloc ?_ _)); refine blk_far ?_ NB270_279.out _; (with_reducible repeat (first | refine blk_drewN ?_ _ | refine blk_drew ?_ | refine blk_alloc ?_ _)); refine blk_far ?_ NB270_279.out _; (with_reducible repeat (first | refine blk_drewN ?_ _ | refine blk_drew ?_ | refine blk_alloc ?_ _)); exact BK270.out⟩, ⟨by (with_reducible repeat (first | refine blk_drewN ?_ _ | refine blk_drew ?_ | refine blk_alloc ?_ _)); refine blk_put (cs := #[.int .i64 a1, .int .i64 a2, .int .i64 1, .bool false]) ?_ 3 _ rfl; (with_reducible repeat (first | refine blk_drewN ?_ _ | refine blk_drew ?_ | refine blk_alloc ?_ _)); refine blk_put (cs := #[.int .i64 a1, .int .i64 a2, .int .i64 0, .bool false]) ?_ 2 _ rfl; (with_reducible repeat (first | refine blk_drewN ?_ _ | refine blk_drew ?_ | refine blk_alloc ?_ _)); refine blk_put (cs := #[.int .i64 a1, .int .i64 0, .int .i64 0, .bool false]) ?_ 1 _ rfl; (with_reducible repeat (first | refine blk_drewN ?_ _ | refine blk_drew ?_ | refine blk_alloc ?_ _)); refine blk_put (cs := #[.int .i64 0, .int .i64 0, .int .i64 0, .bool false]) ?_ 0 _ rfl; (with_reducible repeat (first | refine blk_drewN ?_ _ | refine blk_drew ?_ | refine blk_alloc ?_ _)); exact BK279.out⟩, ⟨Cmp.g HB.out⟩⟩
    case round =>
     clear H'
     (try clear c1); (try clear c2); (try clear p2); (try clear q2); (try clear hx2); (try clear c3); (try clear p3); (try clear q3); (try clear hx3); (try clear hf3); (try clear c4); (try clear c5); (try clear p6); (try clear c11); (try clear c18); (try clear c19); (try clear c23); (try clear c23b0); (try clear c24); (try clear c24b0); (try clear c25); (try clear c25b0); (try clear q26); (try clear c27); (try clear p27); (try clear q27); (try clear hx27); (try clear c28); (try clear c28b0); (try clear c29); (try clear p29); (try clear q29); (try clear hx29); (try clear hf29); (try clear c30); (try clear p30); (try clear q30); (try clear hx30); (try clear hf30); (try clear c31); (try clear c32); (try clear c34); (try clear c36); (try clear hx36); (try clear hf36); (try clear c39); (try clear hx39); (try clear hf39); (try clear c42); (try clear c43); (try clear c45); (try clear c46); (try clear c47); (try clear c50); (try clear c51); (try clear c52); (try clear hcz12_0); (try clear hcz14_0); (try clear hcz20_0); (try clear hcz21_0); (try clear hcz33_0); (try clear hcz35_0); (try clear hcz38_0); (try clear hcz44_0); (try clear hcz48_0); (try clear hcz53_0); (try clear hcz53_1); (try clear hcz53_2); (try clear hcz53_3); (try clear hfz12_0); (try clear hfz14_0); (try clear hfz20_0); (try clear hfz21_0); (try clear hfz33_0); (try clear hfz35_0); (try clear hfz38_0); (try clear hfz44_0); (try clear hfz48_0); (try clear hfz53_0); (try clear hfz53_1); (try clear hfz53_2); (try clear hfz53_3); (try clear hx272_0); (try clear hx272_1); (try clear hx272_2); (try clear hx272_3); (try clear hx274_0); (try clear hx274_1); (try clear hx274_2); (try clear hx274_3); (try clear hx29_0); (try clear hx29_1); (try clear hx29_2); (try clear hx29_3); (try clear hx30_0); (try clear hx30_1); (try clear hx30_2); (try clear hx30_3); (try clear hx36_3); (try clear hx39_2); (try clear p272); (try clear p274); (try clear p29); (try clear p30); (try clear q272); (try clear q274); (try clear q29); (try clear q30)
     obtain ⟨x11_1, rfl, HA, HK1, HO_271000, BK261, BK262, BK270, BK279, HB⟩ := hrel
     cases gk with
     | zero => exact absurd HA.out (by simp [impl_PutEntry.l0])
     | succ k1 =>
      have H := HA.out; clear HA
      simp only [impl_PutEntry.l0] at H
      by_cases c54 : x11_1 < (l0_0.length : Int)
      ·rw [if_pos c54] at H
       have c54b0 : decide (x11_1 < (l0_0.length : Int)) = true := decide_eq_true c54
       clear c54
       by_cases c55 : 0 ≤ x11_1
       ·rw [if_pos c55] at H; have c55b0 : decide (0 ≤ x11_1) = true := decide_eq_true c55; clear c55; replace H := Option.bind_eq_some_iff.mp H; obtain ⟨t281, A560, H⟩ := H; (try dsimp only at H); have A56 := Aside0.mk A560; clear A560
        by_cases c57 : t281 = true
        ·subst c57; rw [if_pos rfl] at H
         have H' := Aside0.mk H
         clear H
         try go_wp2
         have n0_ := Aside0.mk (Kd.R_drew HO_271000.out); have n1_ := Aside0.mk (blk_drew BK261.out); have n2_ := Aside0.mk (blk_drew BK262.out); have n3_ := Aside0.mk (blk_drew BK270.out); have n4_ := Aside0.mk (blk_drew BK279.out); have n5_ := Aside0.mk (below_drew1 HB.out); clear HO_271000; clear BK261; clear BK262; clear BK270; clear BK279; clear HB; have HO_271000 := n0_; have BK261 := n1_; have BK262 := n2_; have BK270 := n3_; have BK279 := n4_; have HB := n5_; clear n0_ n1_ n2_ n3_ n4_ n5_
         have p280 : 0 ≤ (x11_1 : Int) := of_decide_eq_true Cmp.d
         have q280 : x11_1 < (l0_0.length : Int) := of_decide_eq_true Cmp.d
         obtain ⟨ad280, e280, hx280_0, hx280_1, hx280_2, hx280_3⟩ := at_T64 HR0_0.out x11_1 p280 q280
         have hw280_3 := hx280_3; have hw280_2 := hx280_2; have hw280_1 := hx280_1; have hw280_0 := hx280_0; cases e280
         replace hx280_0 := (HB.out.cell (World.block_lt_of_cell? w _ hx280_0)).trans hx280_0
         replace hx280_1 := (HB.out.cell (World.block_lt_of_cell? w _ hx280_1)).trans hx280_1
         replace hx280_2 := (HB.out.cell (World.block_lt_of_cell? w _ hx280_2)).trans hx280_2
         replace hx280_3 := (HB.out.cell (World.block_lt_of_cell? w _ hx280_3)).trans hx280_3
         replace p280 := eq_true p280; replace q280 := eq_true q280
         refine start_ (n := 14) (S := fun w' => w'.cell? ⟨gb261, 0, none⟩ = some (.slice (some ad280) l0_0.length c0_0) ∧ w'.cell? ⟨gb279, 0, none⟩ = some (.int .i64 a1) ∧ w'.cell? ⟨gb279, 1, none⟩ = some (.int .i64 a2) ∧ w'.cell? ⟨gb279, 2, none⟩ = some (.int .i64 1) ∧ w'.cell? ⟨gb279, 3, none⟩ = some (.bool false) ∧ w'.cell? (ad280.add ((x11_1).toNat * 4)) = some (.int .i64 ((rd_T64 l0_0 x11_1).f0)) ∧ w'.cell? ⟨(ad280.add ((x11_1).toNat * 4)).block, (ad280.add ((x11_1).toNat * 4)).off + 1, none⟩ = some (.int .i64 ((rd_T64 l0_0 x11_1).f1)) ∧ w'.cell? ⟨(ad280.add ((x11_1).toNat * 4)).block, (ad280.add ((x11_1).toNat * 4)).off + 2, none⟩ = some (.int .i64 ((rd_T64 l0_0 x11_1).f2)) ∧ w'.cell? ⟨(ad280.add ((x11_1).toNat * 4)).block, (ad280.add ((x11_1).toNat * 4)).off + 3, none⟩ = some (.bool ((rd_T64 l0_0 x11_1).f3))) (ds := []) (Cmp.bm 0 14) (by kernel_rfl) rfl rfl ⟨(blk_cell BK261.out 0).trans rfl, (blk_cell BK279.out 0).trans rfl, (blk_cell BK279.out 1).trans rfl, (blk_cell BK279.out 2).trans rfl, (blk_cell BK279.out 3).trans rfl, ((HB.out.cell (World.block_lt_of_cell? w _ hw280_0)).trans hw280_0), ((HB.out.cell (World.block_lt_of_cell? w _ hw280_1)).trans hw280_1), ((HB.out.cell (World.block_lt_of_cell? w _ hw280_2)).trans hw280_2), ((HB.out.cell (World.block_lt_of_cell? w _ hw280_3)).trans hw280_3)⟩ (fun hHeld => ?_); refine with_tabW impl_PutEntry.tab12 impl_PutEntry.bits12 (fun HT_ HW_ => ?_)
         generalize wr.drew = w58 at HO_271000 BK261 BK262 BK270 BK279 HB hx280_0 hx280_1 hx280_2 hx280_3 hHeld ⊢
         refine Cmp.pu HT_ 0 51 (Cmp.bm 1 13) ?_; refine Cmp.pu HT_ 1 52 (Cmp.bm 2 12) ?_; refine Cmp.tk HT_ HW_ hHeld 2 53 (Cmp.bm 3 11) ?_; refine Cmp.pu HT_ 3 54 (Cmp.bm 4 10) ?_; refine Cmp.pu HT_ 4 55 (Cmp.bm 5 9) ?_; refine Cmp.pu HT_ 5 56 (Cmp.bm 6 8) ?_; refine Cmp.pu HT_ 6 57 (Cmp.bm 7 7) ?_; refine Cmp.pu HT_ 8 59 (Cmp.bb 14 383) ?_; refine Cmp.tk HT_ HW_ hHeld 7 58 (Cmp.bm 9 5) ?_; refine Cmp.pu HT_ 9 60 (Cmp.bm 10 4) ?_; refine Cmp.tk HT_ HW_ hHeld 10 61 (Cmp.bm 11 3) ?_; refine Cmp.tk HT_ HW_ hHeld 11 62 (Cmp.bm 12 2) ?_
         refine one_ (i := 12) (N := some 63) (Cmp.bm 13 1) rfl rfl (one_of HT_.out (by kernel_rfl)) (by decide) (fun K hK => ?_)
         refine goes_ Try.func56 (by kernel_rfl) rfl #[.agg #[.int .i64 ((rd_T64 l0_0 x11_1).f0), .int .i64 ((rd_T64 l0_0 x11_1).f1), .int .i64 ((rd_T64 l0_0 x11_1).f2), .bool ((rd_T64 l0_0 x11_1).f3)], .agg #[.int .i64 a1, .int .i64 a2, .int .i64 1, .bool false]] (by rfl) rfl rfl Cmp.q ?_
         with_reducible refine (impl_entryBefore.calls ((rd_T64 l0_0 x11_1).f0) ((rd_T64 l0_0 x11_1).f1) ((rd_T64 l0_0 x11_1).f2) ((rd_T64 l0_0 x11_1).f3) a1 a2 1 false true _ A56.out).mono ?_
         rintro e w59 ⟨rfl, hb⟩; refine ⟨_, rfl, ?_⟩
         have n0_ := Aside0.mk (Kd.R_below (Cmp.rr HO_271000.out) hb)
         have n1_ := Aside0.mk (blk_below (Cmp.b BK261.out) hb)
         have n2_ := Aside0.mk (blk_below (Cmp.b BK262.out) hb)
         have n3_ := Aside0.mk (blk_below (Cmp.b BK270.out) hb)
         have n4_ := Aside0.mk (blk_below (Cmp.b BK279.out) hb)
         have n5_ := Aside0.mk (below_step (Cmp.g HB.out) hb)
         clear HO_271000; clear BK261; clear BK262; clear BK270; clear BK279; clear HB; have HO_271000 := n0_; have BK261 := n1_; have BK262 := n2_; have BK270 := n3_; have BK279 := n4_; have HB := n5_; clear n0_ n1_ n2_ n3_ n4_ n5_; (try clear hb); (try clear hb2); (try clear hk); (try clear hi)
         refine hK.out _ _ ⟨(blk_cell BK261.out 0).trans rfl, (blk_cell BK279.out 0).trans rfl, (blk_cell BK279.out 1).trans rfl, (blk_cell BK279.out 2).trans rfl, (blk_cell BK279.out 3).trans rfl, ((HB.out.cell (World.block_lt_of_cell? w _ hw280_0)).trans hw280_0), ((HB.out.cell (World.block_lt_of_cell? w _ hw280_1)).trans hw280_1), ((HB.out.cell (World.block_lt_of_cell? w _ hw280_2)).trans hw280_2), ((HB.out.cell (World.block_lt_of_cell? w _ hw280_3)).trans hw280_3)⟩ (fun hHeld => ?_)
         clear hK K
         refine norm_ (a' := ?_) ?_ ?_
         rotate_left
         ·show Act.put _ (some 63) _ = _
          simp only [Act.put, Cmp.s, Cmp.z, Cmp.c, i64_w, i32_w]; rfl
         refine Cmp.pu HT_ 13 64 (Cmp.bm 14 0) ?_
         refine done_ (done_of HT_.out (by kernel_rfl)) ?_
         try go_wp2
         go_roundg k1
         case measure => have := HK1.out; omega
         case rel => exact ⟨(wrap64 (x11_1 + 1)), (by first | rfl | simp | simp [*]), H', ⟨by have := HK1.out; omega⟩, ⟨by (with_reducible repeat (first | apply Kd.R_alloc | apply Kd.R_drewN | apply Kd.R_drew)); exact HO_271000.out⟩, ⟨by (with_reducible repeat (first | refine blk_drewN ?_ _ | refine blk_drew ?_ | refine blk_alloc ?_ _)); exact BK261.out⟩, ⟨by (with_reducible repeat (first | refine blk_drewN ?_ _ | refine blk_drew ?_ | refine blk_alloc ?_ _)); exact BK262.out⟩, ⟨by (with_reducible repeat (first | refine blk_drewN ?_ _ | refine blk_drew ?_ | refine blk_alloc ?_ _)); exact BK270.out⟩, ⟨by (with_reducible repeat (first | refine blk_drewN ?_ _ | refine blk_drew ?_ | refine blk_alloc ?_ _)); exact BK279.out⟩, ⟨Cmp.g HB.out⟩⟩
        ·replace c57 := Bool.eq_false_iff.mpr c57
         subst c57
         have H1 : ((some (([] : List (S64)) : List (S64))).bind fun y282 => (if x11_1 ≤ (l0_0.length : Int) then ((some (l0_0.take (x11_1 : Int).toNat : List (S64))).bind fun y285 => (if y282.length + y285.length < 4398046511104 then ((some (y282 ++ y285 : List (S64))).bind fun y289 => ((some (([(⟨a1, a2, 1, false⟩ : S64)] : List (S64)) : List (S64))).bind fun y292 => (if y289.length + y292.length < 4398046511104 then ((some (y289 ++ y292 : List (S64))).bind fun y295 => ((some (l0_0.drop (x11_1 : Int).toNat : List (S64))).bind fun y298 => (if y295.length + y298.length < 4398046511104 then (impl_PutEntry.j1 k1 l0_0 (y295 ++ y298)) else (none)))) else (none)))) else (none))) else (none))) = some (r1, r2) := by rw [if_neg (show ¬ (false = true) by decide)] at H; exact H
         clear H; have H := H1; clear H1
         obtain ⟨y282, hy282⟩ : ∃ y_ : List (S64), y_ = (([] : List (S64))) := ⟨_, rfl⟩
         replace H : (if x11_1 ≤ (l0_0.length : Int) then ((some (l0_0.take (x11_1 : Int).toNat : List (S64))).bind fun y285 => (if y282.length + y285.length < 4398046511104 then ((some (y282 ++ y285 : List (S64))).bind fun y289 => ((some (([(⟨a1, a2, 1, false⟩ : S64)] : List (S64)) : List (S64))).bind fun y292 => (if y289.length + y292.length < 4398046511104 then ((some (y289 ++ y292 : List (S64))).bind fun y295 => ((some (l0_0.drop (x11_1 : Int).toNat : List (S64))).bind fun y298 => (if y295.length + y298.length < 4398046511104 then (impl_PutEntry.j1 k1 l0_0 (y295 ++ y298)) else (none)))) else (none)))) else (none))) else (none)) = some (r1, r2) := by first | (rw [hy282]; with_reducible exact H) | (have H2_ := (Option.bind_some _ _).symm.trans H; rw [hy282]; with_reducible exact H2_) | (have H2_ := (Option.bind_some _ _).symm.trans H; with_reducible exact H2_) | with_reducible exact H | (rw [hy282]; exact H) | exact H
         have Ny282 := Aside0.mk hy282; clear hy282
         have c60b0 := eq_true (of_decide_eq_true Cmp.d : 0 ≤ x11_1)
         by_cases c61 : x11_1 ≤ (l0_0.length : Int)
         ·rw [if_pos c61] at H
          have c61b0 := eq_true c61
          have c61b1 : decide (x11_1 ≤ (l0_0.length : Int)) = true := decide_eq_true c61
          clear c61
          obtain ⟨y285, hy285⟩ : ∃ y_ : List (S64), y_ = (l0_0.take (x11_1 : Int).toNat) := ⟨_, rfl⟩
          replace H : (if y282.length + y285.length < 4398046511104 then ((some (y282 ++ y285 : List (S64))).bind fun y289 => ((some (([(⟨a1, a2, 1, false⟩ : S64)] : List (S64)) : List (S64))).bind fun y292 => (if y289.length + y292.length < 4398046511104 then ((some (y289 ++ y292 : List (S64))).bind fun y295 => ((some (l0_0.drop (x11_1 : Int).toNat : List (S64))).bind fun y298 => (if y295.length + y298.length < 4398046511104 then (impl_PutEntry.j1 k1 l0_0 (y295 ++ y298)) else (none)))) else (none)))) else (none)) = some (r1, r2) := by first | (rw [hy285]; with_reducible exact H) | (have H2_ := (Option.bind_some _ _).symm.trans H; rw [hy285]; with_reducible exact H2_) | (have H2_ := (Option.bind_some _ _).symm.trans H; with_reducible exact H2_) | with_reducible exact H | (rw [hy285]; exact H) | exact H
          have Ny285 := Aside0.mk hy285; clear hy285
          by_cases c62 : y282.length + y285.length < 4398046511104
          ·rw [if_pos c62] at H; have LMc62 := Aside0.mk c62; clear c62
           obtain ⟨y289, hy289⟩ : ∃ y_ : List (S64), y_ = (y282 ++ y285) := ⟨_, rfl⟩
           replace H : ((some (([(⟨a1, a2, 1, false⟩ : S64)] : List (S64)) : List (S64))).bind fun y292 => (if y289.length + y292.length < 4398046511104 then ((some (y289 ++ y292 : List (S64))).bind fun y295 => ((some (l0_0.drop (x11_1 : Int).toNat : List (S64))).bind fun y298 => (if y295.length + y298.length < 4398046511104 then (impl_PutEntry.j1 k1 l0_0 (y295 ++ y298)) else (none)))) else (none))) = some (r1, r2) := by first | (rw [hy289]; with_reducible exact H) | (have H2_ := (Option.bind_some _ _).symm.trans H; rw [hy289]; with_reducible exact H2_) | (have H2_ := (Option.bind_some _ _).symm.trans H; with_reducible exact H2_) | with_reducible exact H | (rw [hy289]; exact H) | exact H
           have Ny289 := Aside0.mk hy289; clear hy289
           obtain ⟨y292, hy292⟩ : ∃ y_ : List (S64), y_ = (([(⟨a1, a2, 1, false⟩ : S64)] : List (S64))) := ⟨_, rfl⟩
           replace H : (if y289.length + y292.length < 4398046511104 then ((some (y289 ++ y292 : List (S64))).bind fun y295 => ((some (l0_0.drop (x11_1 : Int).toNat : List (S64))).bind fun y298 => (if y295.length + y298.length < 4398046511104 then (impl_PutEntry.j1 k1 l0_0 (y295 ++ y298)) else (none)))) else (none)) = some (r1, r2) := by first | (rw [hy292]; with_reducible exact H) | (have H2_ := (Option.bind_some _ _).symm.trans H; rw [hy292]; with_reducible exact H2_) | (have H2_ := (Option.bind_some _ _).symm.trans H; with_reducible exact H2_) | with_reducible exact H | (rw [hy292]; exact H) | exact H
           have Ny292 := Aside0.mk hy292; clear hy292
           by_cases c63 : y289.length + y292.length < 4398046511104
           ·rw [if_pos c63] at H; have LMc63 := Aside0.mk c63; clear c63
            obtain ⟨y295, hy295⟩ : ∃ y_ : List (S64), y_ = (y289 ++ y292) := ⟨_, rfl⟩
            replace H : ((some (l0_0.drop (x11_1 : Int).toNat : List (S64))).bind fun y298 => (if y295.length + y298.length < 4398046511104 then (impl_PutEntry.j1 k1 l0_0 (y295 ++ y298)) else (none))) = some (r1, r2) := by first | (rw [hy295]; with_reducible exact H) | (have H2_ := (Option.bind_some _ _).symm.trans H; rw [hy295]; with_reducible exact H2_) | (have H2_ := (Option.bind_some _ _).symm.trans H; with_reducible exact H2_) | with_reducible exact H | (rw [hy295]; exact H) | exact H
            have Ny295 := Aside0.mk hy295; clear hy295
            have c64b0 := eq_true (of_decide_eq_true Cmp.d : 0 ≤ x11_1)
            have c65b0 := eq_true (of_decide_eq_true Cmp.d : x11_1 ≤ (l0_0.length : Int))
            obtain ⟨y298, hy298⟩ : ∃ y_ : List (S64), y_ = (l0_0.drop (x11_1 : Int).toNat) := ⟨_, rfl⟩
            replace H : (if y295.length + y298.length < 4398046511104 then (impl_PutEntry.j1 k1 l0_0 (y295 ++ y298)) else (none)) = some (r1, r2) := by first | (rw [hy298]; with_reducible exact H) | (have H2_ := (Option.bind_some _ _).symm.trans H; rw [hy298]; with_reducible exact H2_) | (have H2_ := (Option.bind_some _ _).symm.trans H; with_reducible exact H2_) | with_reducible exact H | (rw [hy298]; exact H) | exact H
            have Ny298 := Aside0.mk hy298; clear hy298
            by_cases c66 : y295.length + y298.length < 4398046511104
            ·rw [if_pos c66] at H; have LMc66 := Aside0.mk c66; clear c66
             obtain ⟨y302, hy302⟩ : ∃ y_ : List (S64), y_ = (y295 ++ y298) := ⟨_, rfl⟩
             replace H : (impl_PutEntry.j1 k1 l0_0 y302) = some (r1, r2) := by first | (rw [hy302]; with_reducible exact H) | (have H2_ := (Option.bind_some _ _).symm.trans H; rw [hy302]; with_reducible exact H2_) | (have H2_ := (Option.bind_some _ _).symm.trans H; with_reducible exact H2_) | with_reducible exact H | (rw [hy302]; exact H) | exact H
             have Ny302 := Aside0.mk hy302; clear hy302
             have H' := Aside0.mk H
             clear H
             try go_wp2
             have n0_ := Aside0.mk (Kd.R_drew HO_271000.out); have n1_ := Aside0.mk (blk_drew BK261.out); have n2_ := Aside0.mk (blk_drew BK262.out); have n3_ := Aside0.mk (blk_drew BK270.out); have n4_ := Aside0.mk (blk_drew BK279.out); have n5_ := Aside0.mk (below_drew1 HB.out); clear HO_271000; clear BK261; clear BK262; clear BK270; clear BK279; clear HB; have HO_271000 := n0_; have BK261 := n1_; have BK262 := n2_; have BK270 := n3_; have BK279 := n4_; have HB := n5_; clear n0_ n1_ n2_ n3_ n4_ n5_
             have p280 : 0 ≤ (x11_1 : Int) := of_decide_eq_true Cmp.d
             have q280 : x11_1 < (l0_0.length : Int) := of_decide_eq_true Cmp.d
             obtain ⟨ad280, e280, hx280_0, hx280_1, hx280_2, hx280_3⟩ := at_T64 HR0_0.out x11_1 p280 q280
             have hw280_3 := hx280_3; have hw280_2 := hx280_2; have hw280_1 := hx280_1; have hw280_0 := hx280_0; cases e280
             replace hx280_0 := (HB.out.cell (World.block_lt_of_cell? w _ hx280_0)).trans hx280_0
             replace hx280_1 := (HB.out.cell (World.block_lt_of_cell? w _ hx280_1)).trans hx280_1
             replace hx280_2 := (HB.out.cell (World.block_lt_of_cell? w _ hx280_2)).trans hx280_2
             replace hx280_3 := (HB.out.cell (World.block_lt_of_cell? w _ hx280_3)).trans hx280_3
             replace p280 := eq_true p280; replace q280 := eq_true q280
             refine start_ (n := 14) (S := fun w' => w'.cell? ⟨gb261, 0, none⟩ = some (.slice (some ad280) l0_0.length c0_0) ∧ w'.cell? ⟨gb279, 0, none⟩ = some (.int .i64 a1) ∧ w'.cell? ⟨gb279, 1, none⟩ = some (.int .i64 a2) ∧ w'.cell? ⟨gb279, 2, none⟩ = some (.int .i64 1) ∧ w'.cell? ⟨gb279, 3, none⟩ = some (.bool false) ∧ w'.cell? (ad280.add ((x11_1).toNat * 4)) = some (.int .i64 ((rd_T64 l0_0 x11_1).f0)) ∧ w'.cell? ⟨(ad280.add ((x11_1).toNat * 4)).block, (ad280.add ((x11_1).toNat * 4)).off + 1, none⟩ = some (.int .i64 ((rd_T64 l0_0 x11_1).f1)) ∧ w'.cell? ⟨(ad280.add ((x11_1).toNat * 4)).block, (ad280.add ((x11_1).toNat * 4)).off + 2, none⟩ = some (.int .i64 ((rd_T64 l0_0 x11_1).f2)) ∧ w'.cell? ⟨(ad280.add ((x11_1).toNat * 4)).block, (ad280.add ((x11_1).toNat * 4)).off + 3, none⟩ = some (.bool ((rd_T64 l0_0 x11_1).f3))) (ds := []) (Cmp.bm 0 14) (by kernel_rfl) rfl rfl ⟨(blk_cell BK261.out 0).trans rfl, (blk_cell BK279.out 0).trans rfl, (blk_cell BK279.out 1).trans rfl, (blk_cell BK279.out 2).trans rfl, (blk_cell BK279.out 3).trans rfl, ((HB.out.cell (World.block_lt_of_cell? w _ hw280_0)).trans hw280_0), ((HB.out.cell (World.block_lt_of_cell? w _ hw280_1)).trans hw280_1), ((HB.out.cell (World.block_lt_of_cell? w _ hw280_2)).trans hw280_2), ((HB.out.cell (World.block_lt_of_cell? w _ hw280_3)).trans hw280_3)⟩ (fun hHeld => ?_); refine with_tabW impl_PutEntry.tab12 impl_PutEntry.bits12 (fun HT_ HW_ => ?_)
             generalize wr.drew = w67 at HO_271000 BK261 BK262 BK270 BK279 HB hx280_0 hx280_1 hx280_2 hx280_3 hHeld ⊢
             refine Cmp.pu HT_ 0 51 (Cmp.bm 1 13) ?_; refine Cmp.pu HT_ 1 52 (Cmp.bm 2 12) ?_; refine Cmp.tk HT_ HW_ hHeld 2 53 (Cmp.bm 3 11) ?_; refine Cmp.pu HT_ 3 54 (Cmp.bm 4 10) ?_; refine Cmp.pu HT_ 4 55 (Cmp.bm 5 9) ?_; refine Cmp.pu HT_ 5 56 (Cmp.bm 6 8) ?_; refine Cmp.pu HT_ 6 57 (Cmp.bm 7 7) ?_; refine Cmp.pu HT_ 8 59 (Cmp.bb 14 383) ?_; refine Cmp.tk HT_ HW_ hHeld 7 58 (Cmp.bm 9 5) ?_; refine Cmp.pu HT_ 9 60 (Cmp.bm 10 4) ?_; refine Cmp.tk HT_ HW_ hHeld 10 61 (Cmp.bm 11 3) ?_; refine Cmp.tk HT_ HW_ hHeld 11 62 (Cmp.bm 12 2) ?_
             refine one_ (i := 12) (N := some 63) (Cmp.bm 13 1) rfl rfl (one_of HT_.out (by kernel_rfl)) (by decide) (fun K hK => ?_)
             refine goes_ Try.func56 (by kernel_rfl) rfl #[.agg #[.int .i64 ((rd_T64 l0_0 x11_1).f0), .int .i64 ((rd_T64 l0_0 x11_1).f1), .int .i64 ((rd_T64 l0_0 x11_1).f2), .bool ((rd_T64 l0_0 x11_1).f3)], .agg #[.int .i64 a1, .int .i64 a2, .int .i64 1, .bool false]] (by rfl) rfl rfl Cmp.q ?_
             with_reducible refine (impl_entryBefore.calls ((rd_T64 l0_0 x11_1).f0) ((rd_T64 l0_0 x11_1).f1) ((rd_T64 l0_0 x11_1).f2) ((rd_T64 l0_0 x11_1).f3) a1 a2 1 false false _ A56.out).mono ?_
             rintro e w68 ⟨rfl, hb⟩; refine ⟨_, rfl, ?_⟩
             have n0_ := Aside0.mk (Kd.R_below (Cmp.rr HO_271000.out) hb)
             have n1_ := Aside0.mk (blk_below (Cmp.b BK261.out) hb)
             have n2_ := Aside0.mk (blk_below (Cmp.b BK262.out) hb)
             have n3_ := Aside0.mk (blk_below (Cmp.b BK270.out) hb)
             have n4_ := Aside0.mk (blk_below (Cmp.b BK279.out) hb)
             have n5_ := Aside0.mk (below_step (Cmp.g HB.out) hb)
             clear HO_271000; clear BK261; clear BK262; clear BK270; clear BK279; clear HB; have HO_271000 := n0_; have BK261 := n1_; have BK262 := n2_; have BK270 := n3_; have BK279 := n4_; have HB := n5_; clear n0_ n1_ n2_ n3_ n4_ n5_; (try clear hb); (try clear hb2); (try clear hk); (try clear hi)
             refine hK.out _ _ ⟨(blk_cell BK261.out 0).trans rfl, (blk_cell BK279.out 0).trans rfl, (blk_cell BK279.out 1).trans rfl, (blk_cell BK279.out 2).trans rfl, (blk_cell BK279.out 3).trans rfl, ((HB.out.cell (World.block_lt_of_cell? w _ hw280_0)).trans hw280_0), ((HB.out.cell (World.block_lt_of_cell? w _ hw280_1)).trans hw280_1), ((HB.out.cell (World.block_lt_of_cell? w _ hw280_2)).trans hw280_2), ((HB.out.cell (World.block_lt_of_cell? w _ hw280_3)).trans hw280_3)⟩ (fun hHeld => ?_)
             clear hK K
             refine norm_ (a' := ?_) ?_ ?_
             rotate_left
             ·show Act.put _ (some 63) _ = _
              simp only [Act.put, Cmp.s, Cmp.z, Cmp.c, i64_w, i32_w]; rfl
             refine Cmp.pu HT_ 13 64 (Cmp.bm 14 0) ?_
             refine done_ (done_of HT_.out (by kernel_rfl)) ?_
             try go_wp2
             have n0_ := Aside0.mk (Kd.R_drew HO_271000.out); have n1_ := Aside0.mk (blk_drew BK261.out); have n2_ := Aside0.mk (blk_drew BK262.out); have n3_ := Aside0.mk (blk_drew BK270.out); have n4_ := Aside0.mk (blk_drew BK279.out); have n5_ := Aside0.mk (below_drew1 HB.out); clear HO_271000; clear BK261; clear BK262; clear BK270; clear BK279; clear HB; have HO_271000 := n0_; have BK261 := n1_; have BK262 := n2_; have BK270 := n3_; have BK279 := n4_; have HB := n5_; clear n0_ n1_ n2_ n3_ n4_ n5_
             have q70 : (x11_1 : Int) ≤ ((l0_0.length : Int) : Int) := of_decide_eq_true Cmp.d
             obtain ⟨i070, hi070, _, hsz70, _⟩ := info_parts info64
             have hroom70 : l0_0.length ≤ c0_0 := HC0_0.out
             have hC70 : Kd.C k64 _ (some ad280) l0_0.length l0_0 := HR0_0.out
             have hcut70 := cut_to (P := Try.prog) 37 64 .i64 Try.underlying37 hi070 (some ad280) l0_0.length c0_0 x11_1 (of_decide_eq_true Cmp.d) q70 hroom70
             have hr70 := Kd.C_take (m := (x11_1 : Int).toNat) hC70 (by omega)
             have hy70 : y285.length = (x11_1 : Int).toNat := (by rw [Ny285.out, List.length_take]; omega)
             rw [← Ny285.out] at hr70
             rw [← hy70] at hcut70
             have HR288 := Aside0.mk hr70
             have HC288 := Aside0.mk (show y285.length ≤ c0_0 from by omega)
             clear hr70 hC70 hroom70 hi070 hsz70; have KY70 := Aside0.mk hy70; clear hy70; replace q70 := eq_true q70
             have q71 : (x11_1 : Int) ≤ ((l0_0.length : Int) : Int) := of_decide_eq_true Cmp.d
             obtain ⟨i071, hi071, _, hsz71, _⟩ := info_parts info64
             have hroom71 : l0_0.length ≤ c0_0 := HC0_0.out
             have hC71 : Kd.C k64 _ (some ad280) l0_0.length l0_0 := HR0_0.out
             have q071 : (0 : Int) ≤ (x11_1 : Int) := of_decide_eq_true Cmp.d
             have hcut71 := cut_from (P := Try.prog) 37 64 .i64 Try.underlying37 hi071 4 hsz71 (some ad280) l0_0.length c0_0 x11_1 q071 q71
             have hr71 := Kd.C_drop (m := (x11_1 : Int).toNat) (c := c0_0) hC71 (by omega) hroom71
             obtain ⟨A71, hA71⟩ : ∃ A1, A1 = (if c0_0 = (x11_1 : Int).toNat then (some ad280) else ((some ad280) : Option Addr).map (·.add ((x11_1 : Int).toNat * 4))) := ⟨_, rfl⟩
             obtain ⟨c71, hc71⟩ : ∃ c1, c1 = c0_0 - (x11_1 : Int).toNat := ⟨_, rfl⟩
             have hy71 : y298.length = l0_0.length - (x11_1 : Int).toNat := (by rw [Ny298.out, List.length_drop] <;> omega)
             rw [show (l0_0).drop (x11_1 : Int).toNat = y298 from Ny298.out.symm] at hr71
             replace hr71 : Kd.C k64 _ A71 y298.length y298 := (by rw [hA71]; exact hr71)
             rw [← hy71, ← hA71, ← hc71] at hcut71
             have HR301 := Aside0.mk hr71
             have HC301 := Aside0.mk (show y298.length ≤ c71 from by rw [hy71, hc71]; exact Nat.sub_le_sub_right hroom71 _)
             clear hr71 hC71 hroom71 hi071 hsz71 hc71; have KY71 := Aside0.mk hy71; have KA71 := Aside0.mk hA71; clear hy71 hA71; replace q71 := eq_true q71
             refine start_ (n := 16) (S := fun w' => w'.cell? ⟨gb261, 0, none⟩ = some (.slice (some ad280) l0_0.length c0_0) ∧ w'.cell? ⟨gb279, 0, none⟩ = some (.int .i64 a1) ∧ w'.cell? ⟨gb279, 1, none⟩ = some (.int .i64 a2) ∧ w'.cell? ⟨gb279, 2, none⟩ = some (.int .i64 1) ∧ w'.cell? ⟨gb279, 3, none⟩ = some (.bool false)) (ds := []) (Cmp.bm 0 16) (by kernel_rfl) rfl rfl ⟨(blk_cell BK261.out 0).trans rfl, (blk_cell BK279.out 0).trans rfl, (blk_cell BK279.out 1).trans rfl, (blk_cell BK279.out 2).trans rfl, (blk_cell BK279.out 3).trans rfl⟩ (fun hHeld => ?_); refine with_tabW impl_PutEntry.tab14 impl_PutEntry.bits14 (fun HT_ HW_ => ?_)
             generalize w68.drew = w69 at HO_271000 BK261 BK262 BK270 BK279 HB HR288 HR301 hHeld ⊢
             refine Cmp.pu HT_ 1 68 (Cmp.bb 16 2) ?_; refine Cmp.pu HT_ 3 70 (Cmp.bb 16 10) ?_; refine Cmp.pu HT_ 9 76 (Cmp.bb 16 522) ?_; refine Cmp.pu HT_ 11 78 (Cmp.bb 16 2570) ?_; refine Cmp.tk HT_ HW_ hHeld 2 69 (Cmp.bb 16 2574) ?_; refine Cmp.pu HT_ 4 71 (Cmp.bb 16 2590) ?_; refine Cmp.tk HT_ HW_ hHeld 6 73 (Cmp.bb 16 2654) ?_; refine Cmp.tk HT_ HW_ hHeld 10 77 (Cmp.bb 16 3678) ?_; refine Cmp.pu HT_ 12 79 (Cmp.bb 16 7774) ?_
             refine join_ (σ := Value × Value × Value) 4 (Cmp.bb 16 7935) (fun s_ => [(67, s_.1), (72, s_.2.1), (74, s_.2.2)]) (fun s_ w' => (w'.cell? ⟨gb261, 0, none⟩ = some (.slice (some ad280) l0_0.length c0_0) ∧ w'.cell? ⟨gb279, 0, none⟩ = some (.int .i64 a1) ∧ w'.cell? ⟨gb279, 1, none⟩ = some (.int .i64 a2) ∧ w'.cell? ⟨gb279, 2, none⟩ = some (.int .i64 1) ∧ w'.cell? ⟨gb279, 3, none⟩ = some (.bool false)) ∧ (Kd.R k64 64 w' w.heap.size (fun k_ => some k_ ≠ (s_.2.2 : Value).ownBlock ∧ some k_ ≠ (.slice Ao17 t267.length co17 : Value).ownBlock ∧ k_ ≠ gb279) s_.2.1 y289) ∧ (Kd.R k64 64 w' w.heap.size (fun k_ => some k_ ≠ (s_.2.1 : Value).ownBlock ∧ some k_ ≠ (.slice Ao17 t267.length co17 : Value).ownBlock ∧ k_ ≠ gb279) s_.2.2 y292) ∧ (Kd.R k64 64 w' w.heap.size (fun k_ => some k_ ≠ (s_.2.1 : Value).ownBlock ∧ some k_ ≠ (s_.2.2 : Value).ownBlock ∧ k_ ≠ gb279) (.slice Ao17 t267.length co17) t267) ∧ (w'.heap[gb261]? = some (.cells #[.slice (some ad280) l0_0.length c0_0] 39 (0, 0))) ∧ (w'.heap[gb262]? = some (.cells #[.slice none 0 0] 39 (0, 0))) ∧ (w'.heap[gb270]? = some (.cells #[.slice Ao17 t267.length co17] 39 (0, 0))) ∧ (w'.heap[gb279]? = some (.cells #[.int .i64 a1, .int .i64 a2, .int .i64 1, .bool false] 64 (0, 0))) ∧ (Below w.heap.size w w')) ?_ ?_
             rotate_left
             ·intro hCont
              refine two_ (i := 0) (j := 7) (Ni := some 67) (Nj := some 74) (Cmp.bb 16 7775) (Cmp.bb 16 7902) rfl rfl rfl rfl (two_of HT_.out (by kernel_rfl)) (by decide) (by decide) (fun K hK => ?_) (fun K hK => ?_)
              ·skip
               refine Kd.R_lit_step k64 _ 64 ?hg (N := 67) ?hd (xs := ([] : List (S64))) (inner := []) (ok := fun _ => True) (okp := fun _ => True) ?hr ?hp (fun _ hk => hk) trivial (Below.refl _ _) (Nat.le_refl _) (by simp) ?_; (case hd => rfl); (case hg => rfl); (case hr => first | (go_simp; done) | (go_simp; rfl)); (case hp => exact (Reps.none _ _))
               intro v283 w72 ho73 hb hg_ hnew_
               clear hg_ hnew_
               (first | rw [← Ny282.out] at ho73 | (simp only [Int.reduceToNat] at ho73; rw [← Ny282.out] at ho73))
               have n0_ := Aside0.mk (Kd.R_elder' (Cmp.rr HO_271000.out) (Kd.R_base ho73) hb)
               have n1_ := Aside0.mk (Kd.R_lower (Kd.R_newB (Kd.R_new' ho73 (Kd.R_lt (Cmp.rr HO_271000.out))) (g := gb279) (o := .cells #[.int .i64 a1, .int .i64 a2, .int .i64 1, .bool false] 64 (0, 0)) (Cmp.b BK279.out)) (below_size (Cmp.g HB.out)))
               have n2_ := Aside0.mk (blk_below (Cmp.b BK261.out) hb)
               have n3_ := Aside0.mk (blk_below (Cmp.b BK262.out) hb)
               have n4_ := Aside0.mk (blk_below (Cmp.b BK270.out) hb)
               have n5_ := Aside0.mk (blk_below (Cmp.b BK279.out) hb)
               have n6_ := Aside0.mk (below_step (Cmp.g HB.out) hb)
               clear HO_271000; clear BK261; clear BK262; clear BK270; clear BK279; clear HB; have HO_271000 := n0_; have HO284 := n1_; have BK261 := n2_; have BK262 := n3_; have BK270 := n4_; have BK279 := n5_; have HB := n6_; clear n0_ n1_ n2_ n3_ n4_ n5_ n6_; clear hb ho73
               refine hK.out _ _ ⟨(blk_cell BK261.out 0).trans rfl, (blk_cell BK279.out 0).trans rfl, (blk_cell BK279.out 1).trans rfl, (blk_cell BK279.out 2).trans rfl, (blk_cell BK279.out 3).trans rfl⟩ (fun hHeld => ?_)
               clear hK K
               refine norm_ (a' := ?_) ?_ ?_
               rotate_left
               ·show Act.put _ (some 67) _ = _
                simp only [Act.put, Cmp.s, Cmp.z, Cmp.c, i64_w, i32_w]; rfl
               refine two_ (i := 5) (j := 7) (Ni := some 72) (Nj := some 74) (Cmp.bb 16 7807) (Cmp.bb 16 7903) rfl rfl rfl rfl (two_of HT_.out (by kernel_rfl)) (by decide) (by decide) (fun K hK => ?_) (fun K hK => ?_)
               ·skip
                refine Kd.R_append_rows_step k64 (w0 := w) w.heap.size (by rfl) (.tmp 67) (.tmp 71) 37 64 (.agg #[(.int .i64 0), (.int .i64 0), (.int .i64 0), (.bool false)]) 32 rfl Try.underlying37 info64 rfl (by decide) (by omega) v283 y282 y285 _ _ _ (fun k_ => some k_ ≠ (.slice Ao17 t267.length co17 : Value).ownBlock ∧ k_ ≠ gb279) (fun _ => False) rfl rfl ?aO ?aR (fun _ _ h => h) (fun _ h => h.elim) ?aF ?aB ?aS ?aL ?_
                (case aR => repeat (first | exact (Kd.C_below HR288.out HB.out) | (with_reducible refine Kd.C_alloc ?_ _) | (with_reducible refine Kd.C_drewN ?_ _) | (with_reducible refine Kd.C_drew ?_)))
                (case aB => exact (Cmp.g HB.out))
                (case aF => exact (fun k_ hk => ⟨Kd.fresh' (Kd.R_lt (Cmp.rr HO_271000.out)) k_ hk, Kd.freshB (g := gb279) (o := .cells #[.int .i64 a1, .int .i64 a2, .int .i64 1, .bool false] 64 (0, 0)) (Cmp.b BK279.out) k_ hk⟩))
                (case aO => exact (by (with_reducible repeat (first | apply Kd.R_alloc | apply Kd.R_drewN | apply Kd.R_drew)); exact Kd.R_mono HO284.out (fun _ hk => ⟨hk.1.2, hk.2⟩)))
                (case aS => exact (below_size (Cmp.g HB.out)))
                (case aL => have := LMc62.out; omega)
                intro v290 w74 ho hb hg hat
                rw [← Ny289.out] at ho
                have n0_ := Aside0.mk (Kd.R_after (ok := (fun k_ => k_ ≠ gb279)) (Cmp.rr HO_271000.out) hg hat)
                have n1_ := Aside0.mk (blk_grown (g := gb261) (o := .cells #[.slice (some ad280) l0_0.length c0_0] 39 (0, 0)) (Cmp.b BK261.out) hg (Kd.R_ne HO284.out BK261.out (by decide)))
                have n2_ := Aside0.mk (blk_grown (g := gb262) (o := .cells #[.slice none 0 0] 39 (0, 0)) (Cmp.b BK262.out) hg (Kd.R_ne HO284.out BK262.out (by decide)))
                have n3_ := Aside0.mk (blk_grown (g := gb270) (o := .cells #[.slice Ao17 t267.length co17] 39 (0, 0)) (Cmp.b BK270.out) hg (Kd.R_ne HO284.out BK270.out (by decide)))
                have n4_ := Aside0.mk (blk_grown (g := gb279) (o := .cells #[.int .i64 a1, .int .i64 a2, .int .i64 1, .bool false] 64 (0, 0)) (Cmp.b BK279.out) hg (Kd.R_away HO284.out (fun _ hk => hk.2)))
                have n5_ := Aside0.mk (hb)
                have n6_ := Aside0.mk (ho)
                clear HO_271000; clear BK261; clear BK262; clear BK270; clear BK279; clear HB; clear HO284; have HO_271000 := n0_; have BK261 := n1_; have BK262 := n2_; have BK270 := n3_; have BK279 := n4_; have HB := n5_; have HO291 := n6_; clear n0_ n1_ n2_ n3_ n4_ n5_ n6_; clear ho hb hg hat
                refine hK.out _ _ ⟨(blk_cell BK261.out 0).trans rfl, (blk_cell BK279.out 0).trans rfl, (blk_cell BK279.out 1).trans rfl, (blk_cell BK279.out 2).trans rfl, (blk_cell BK279.out 3).trans rfl⟩ (fun hHeld => ?_)
                clear hK K
                refine norm_ (a' := ?_) ?_ ?_
                rotate_left
                ·show Act.put _ (some 72) _ = _
                 simp only [Act.put, Cmp.s, Cmp.z, Cmp.c, i64_w, i32_w]; rfl
                refine one_ (i := 7) (N := some 74) (Cmp.bb 16 7935) rfl rfl (one_of HT_.out (by kernel_rfl)) (by decide) (fun K hK => ?_)
                refine Kd.R_lit_step k64 _ 64 ?hg (N := 74) ?hd (xs := ([(⟨a1, a2, 1, false⟩ : S64)] : List (S64))) (inner := [.int .i64 a1, .int .i64 a2, .int .i64 1, .bool false]) (ok := fun _ => True) (okp := fun _ => True) ?hr ?hp (fun _ hk => hk) trivial (Below.refl _ _) (Nat.le_refl _) (by simp) ?_; (case hd => rfl); (case hg => rfl); (case hr => first | (go_simp; done) | (go_simp; rfl)); (case hp => exact (Reps.c4 (show Kd.M k64 _ _ _ (⟨a1, a2, 1, false⟩ : S64) [.int .i64 a1, .int .i64 a2, .int .i64 1, .bool false] from (k64_mkM _ _ _ (⟨a1, a2, 1, false⟩ : S64) )) (Reps.none _ _)))
                intro v293 w75 ho76 hb hg_ hnew_
                clear hg_ hnew_
                (first | rw [← Ny292.out] at ho76 | (simp only [Int.reduceToNat] at ho76; rw [← Ny292.out] at ho76))
                have n0_ := Aside0.mk (Kd.R_elder' (Cmp.rr HO_271000.out) (Kd.R_base ho76) hb)
                have n1_ := Aside0.mk (Kd.R_elder' (Cmp.rr HO291.out) (Kd.R_base ho76) hb)
                have n2_ := Aside0.mk (Kd.R_lower (Kd.R_newB (Kd.R_new' (Kd.R_new' ho76 (Kd.R_lt (Cmp.rr HO_271000.out))) (Kd.R_lt (Cmp.rr HO291.out))) (g := gb279) (o := .cells #[.int .i64 a1, .int .i64 a2, .int .i64 1, .bool false] 64 (0, 0)) (Cmp.b BK279.out)) (below_size (Cmp.g HB.out)))
                have n3_ := Aside0.mk (blk_below (Cmp.b BK261.out) hb)
                have n4_ := Aside0.mk (blk_below (Cmp.b BK262.out) hb)
                have n5_ := Aside0.mk (blk_below (Cmp.b BK270.out) hb)
                have n6_ := Aside0.mk (blk_below (Cmp.b BK279.out) hb)
                have n7_ := Aside0.mk (below_step (Cmp.g HB.out) hb)
                clear HO_271000; clear HO291; clear BK261; clear BK262; clear BK270; clear BK279; clear HB; have HO_271000 := n0_; have HO291 := n1_; have HO294 := n2_; have BK261 := n3_; have BK262 := n4_; have BK270 := n5_; have BK279 := n6_; have HB := n7_; clear n0_ n1_ n2_ n3_ n4_ n5_ n6_ n7_; clear hb ho76
                refine hK.out _ _ ⟨(blk_cell BK261.out 0).trans rfl, (blk_cell BK279.out 0).trans rfl, (blk_cell BK279.out 1).trans rfl, (blk_cell BK279.out 2).trans rfl, (blk_cell BK279.out 3).trans rfl⟩ (fun hHeld => ?_)
                clear hK K
                refine norm_ (a' := ?_) ?_ ?_
                rotate_left
                ·show Act.put _ (some 74) _ = _
                 simp only [Act.put, Cmp.s, Cmp.z, Cmp.c, i64_w, i32_w]; rfl
                exact norm_ (by simp only [putAll, Act.put, List.setIfInBounds_toArray, List.set_cons_zero, List.set_cons_succ]) (hCont (v283, v290, v293) _ ⟨hHeld, (by (with_reducible repeat (first | apply Kd.R_alloc | apply Kd.R_drewN | apply Kd.R_drew)); exact Kd.R_mono HO291.out (fun _ hk => ⟨hk.2, ⟨hk.1.1, hk.1.2⟩⟩)), (by (with_reducible repeat (first | apply Kd.R_alloc | apply Kd.R_drewN | apply Kd.R_drew)); exact Kd.R_mono HO294.out (fun _ hk => ⟨hk.1.2, ⟨hk.1.1.2, hk.2⟩⟩)), (by (with_reducible repeat (first | apply Kd.R_alloc | apply Kd.R_drewN | apply Kd.R_drew)); exact Kd.R_mono HO_271000.out (fun _ hk => ⟨hk.1.2, ⟨hk.2, hk.1.1⟩⟩)), (Cmp.b BK261.out), (Cmp.b BK262.out), (Cmp.b BK270.out), (Cmp.b BK279.out), (Cmp.g HB.out)⟩)
               ·skip
                refine Kd.R_lit_step k64 _ 64 ?hg (N := 74) ?hd (xs := ([(⟨a1, a2, 1, false⟩ : S64)] : List (S64))) (inner := [.int .i64 a1, .int .i64 a2, .int .i64 1, .bool false]) (ok := fun _ => True) (okp := fun _ => True) ?hr ?hp (fun _ hk => hk) trivial (Below.refl _ _) (Nat.le_refl _) (by simp) ?_; (case hd => rfl); (case hg => rfl); (case hr => first | (go_simp; done) | (go_simp; rfl)); (case hp => exact (Reps.c4 (show Kd.M k64 _ _ _ (⟨a1, a2, 1, false⟩ : S64) [.int .i64 a1, .int .i64 a2, .int .i64 1, .bool false] from (k64_mkM _ _ _ (⟨a1, a2, 1, false⟩ : S64) )) (Reps.none _ _)))
                intro v293 w74 ho75 hb hg_ hnew_
                clear hg_ hnew_
                (first | rw [← Ny292.out] at ho75 | (simp only [Int.reduceToNat] at ho75; rw [← Ny292.out] at ho75))
                have n0_ := Aside0.mk (Kd.R_elder' (Cmp.rr HO_271000.out) (Kd.R_base ho75) hb)
                have n1_ := Aside0.mk (Kd.R_elder' (Cmp.rr HO284.out) (Kd.R_base ho75) hb)
                have n2_ := Aside0.mk (Kd.R_lower (Kd.R_newB (Kd.R_new' (Kd.R_new' ho75 (Kd.R_lt (Cmp.rr HO_271000.out))) (Kd.R_lt (Cmp.rr HO284.out))) (g := gb279) (o := .cells #[.int .i64 a1, .int .i64 a2, .int .i64 1, .bool false] 64 (0, 0)) (Cmp.b BK279.out)) (below_size (Cmp.g HB.out)))
                have n3_ := Aside0.mk (blk_below (Cmp.b BK261.out) hb)
                have n4_ := Aside0.mk (blk_below (Cmp.b BK262.out) hb)
                have n5_ := Aside0.mk (blk_below (Cmp.b BK270.out) hb)
                have n6_ := Aside0.mk (blk_below (Cmp.b BK279.out) hb)
                have n7_ := Aside0.mk (below_step (Cmp.g HB.out) hb)
                clear HO_271000; clear HO284; clear BK261; clear BK262; clear BK270; clear BK279; clear HB; have HO_271000 := n0_; have HO284 := n1_; have HO294 := n2_; have BK261 := n3_; have BK262 := n4_; have BK270 := n5_; have BK279 := n6_; have HB := n7_; clear n0_ n1_ n2_ n3_ n4_ n5_ n6_ n7_; clear hb ho75
                refine hK.out _ _ ⟨(blk_cell BK261.out 0).trans rfl, (blk_cell BK279.out 0).trans rfl, (blk_cell BK279.out 1).trans rfl, (blk_cell BK279.out 2).trans rfl, (blk_cell BK279.out 3).trans rfl⟩ (fun hHeld => ?_)
                clear hK K
                refine norm_ (a' := ?_) ?_ ?_
                rotate_left
                ·show Act.put _ (some 74) _ = _
                 simp only [Act.put, Cmp.s, Cmp.z, Cmp.c, i64_w, i32_w]; rfl
                refine one_ (i := 5) (N := some 72) (Cmp.bb 16 7935) rfl rfl (one_of HT_.out (by kernel_rfl)) (by decide) (fun K hK => ?_)
                refine Kd.R_append_rows_step k64 (w0 := w) w.heap.size (by rfl) (.tmp 67) (.tmp 71) 37 64 (.agg #[(.int .i64 0), (.int .i64 0), (.int .i64 0), (.bool false)]) 32 rfl Try.underlying37 info64 rfl (by decide) (by omega) v283 y282 y285 _ _ _ (fun k_ => some k_ ≠ (.slice Ao17 t267.length co17 : Value).ownBlock ∧ some k_ ≠ (v293 : Value).ownBlock ∧ k_ ≠ gb279) (fun _ => False) rfl rfl ?aO ?aR (fun _ _ h => h) (fun _ h => h.elim) ?aF ?aB ?aS ?aL ?_
                (case aR => repeat (first | exact (Kd.C_below HR288.out HB.out) | (with_reducible refine Kd.C_alloc ?_ _) | (with_reducible refine Kd.C_drewN ?_ _) | (with_reducible refine Kd.C_drew ?_)))
                (case aB => exact (Cmp.g HB.out))
                (case aF => exact (fun k_ hk => ⟨Kd.fresh' (Kd.R_lt (Cmp.rr HO_271000.out)) k_ hk, Kd.fresh' (Kd.R_lt (Cmp.rr HO294.out)) k_ hk, Kd.freshB (g := gb279) (o := .cells #[.int .i64 a1, .int .i64 a2, .int .i64 1, .bool false] 64 (0, 0)) (Cmp.b BK279.out) k_ hk⟩))
                (case aO => exact (by (with_reducible repeat (first | apply Kd.R_alloc | apply Kd.R_drewN | apply Kd.R_drew)); exact Kd.R_mono HO284.out (fun _ hk => ⟨hk.1.1.2, ⟨hk.2, hk.1.2⟩⟩)))
                (case aS => exact (below_size (Cmp.g HB.out)))
                (case aL => have := LMc62.out; omega)
                intro v290 w76 ho hb hg hat
                rw [← Ny289.out] at ho
                have n0_ := Aside0.mk (Kd.R_after (ok := (fun k_ => some k_ ≠ (v293 : Value).ownBlock ∧ k_ ≠ gb279)) (by (with_reducible repeat (first | apply Kd.R_alloc | apply Kd.R_drewN | apply Kd.R_drew)); exact Kd.R_mono HO_271000.out (fun _ hk => ⟨⟨hk.2, hk.1.1⟩, hk.1.2⟩)) hg hat)
                have n1_ := Aside0.mk (blk_grown (g := gb261) (o := .cells #[.slice (some ad280) l0_0.length c0_0] 39 (0, 0)) (Cmp.b BK261.out) hg (Kd.R_ne HO284.out BK261.out (by decide)))
                have n2_ := Aside0.mk (blk_grown (g := gb262) (o := .cells #[.slice none 0 0] 39 (0, 0)) (Cmp.b BK262.out) hg (Kd.R_ne HO284.out BK262.out (by decide)))
                have n3_ := Aside0.mk (blk_grown (g := gb270) (o := .cells #[.slice Ao17 t267.length co17] 39 (0, 0)) (Cmp.b BK270.out) hg (Kd.R_ne HO284.out BK270.out (by decide)))
                have n4_ := Aside0.mk (blk_grown (g := gb279) (o := .cells #[.int .i64 a1, .int .i64 a2, .int .i64 1, .bool false] 64 (0, 0)) (Cmp.b BK279.out) hg (Kd.R_away HO284.out (fun _ hk => hk.1.2)))
                have n5_ := Aside0.mk (Kd.R_after (ok := (fun k_ => some k_ ≠ (.slice Ao17 t267.length co17 : Value).ownBlock ∧ k_ ≠ gb279)) (by (with_reducible repeat (first | apply Kd.R_alloc | apply Kd.R_drewN | apply Kd.R_drew)); exact Kd.R_mono HO294.out (fun _ hk => ⟨⟨hk.1.1.2, hk.2⟩, hk.1.2⟩)) hg hat)
                have n6_ := Aside0.mk (hb)
                have n7_ := Aside0.mk (ho)
                clear HO_271000; clear BK261; clear BK262; clear BK270; clear BK279; clear HO294; clear HB; clear HO284; have HO_271000 := n0_; have BK261 := n1_; have BK262 := n2_; have BK270 := n3_; have BK279 := n4_; have HO294 := n5_; have HB := n6_; have HO291 := n7_; clear n0_ n1_ n2_ n3_ n4_ n5_ n6_ n7_; clear ho hb hg hat
                refine hK.out _ _ ⟨(blk_cell BK261.out 0).trans rfl, (blk_cell BK279.out 0).trans rfl, (blk_cell BK279.out 1).trans rfl, (blk_cell BK279.out 2).trans rfl, (blk_cell BK279.out 3).trans rfl⟩ (fun hHeld => ?_)
                clear hK K
                refine norm_ (a' := ?_) ?_ ?_
                rotate_left
                ·show Act.put _ (some 72) _ = _
                 simp only [Act.put, Cmp.s, Cmp.z, Cmp.c, i64_w, i32_w]; rfl
                exact norm_ (by simp only [putAll, Act.put, List.setIfInBounds_toArray, List.set_cons_zero, List.set_cons_succ]) (hCont (v283, v290, v293) _ ⟨hHeld, (by (with_reducible repeat (first | apply Kd.R_alloc | apply Kd.R_drewN | apply Kd.R_drew)); exact Kd.R_mono HO291.out (fun _ hk => ⟨hk.2.1, ⟨hk.1, hk.2.2⟩⟩)), (by (with_reducible repeat (first | apply Kd.R_alloc | apply Kd.R_drewN | apply Kd.R_drew)); exact Kd.R_mono HO294.out (fun _ hk => ⟨hk.2, ⟨hk.1.1, hk.1.2⟩⟩)), (by (with_reducible repeat (first | apply Kd.R_alloc | apply Kd.R_drewN | apply Kd.R_drew)); exact Kd.R_mono HO_271000.out (fun _ hk => ⟨hk.2, ⟨hk.1.1, hk.1.2⟩⟩)), (Cmp.b BK261.out), (Cmp.b BK262.out), (Cmp.b BK270.out), (Cmp.b BK279.out), (Cmp.g HB.out)⟩)
              ·skip
               refine Kd.R_lit_step k64 _ 64 ?hg (N := 74) ?hd (xs := ([(⟨a1, a2, 1, false⟩ : S64)] : List (S64))) (inner := [.int .i64 a1, .int .i64 a2, .int .i64 1, .bool false]) (ok := fun _ => True) (okp := fun _ => True) ?hr ?hp (fun _ hk => hk) trivial (Below.refl _ _) (Nat.le_refl _) (by simp) ?_; (case hd => rfl); (case hg => rfl); (case hr => first | (go_simp; done) | (go_simp; rfl)); (case hp => exact (Reps.c4 (show Kd.M k64 _ _ _ (⟨a1, a2, 1, false⟩ : S64) [.int .i64 a1, .int .i64 a2, .int .i64 1, .bool false] from (k64_mkM _ _ _ (⟨a1, a2, 1, false⟩ : S64) )) (Reps.none _ _)))
               intro v293 w72 ho73 hb hg_ hnew_
               clear hg_ hnew_
               (first | rw [← Ny292.out] at ho73 | (simp only [Int.reduceToNat] at ho73; rw [← Ny292.out] at ho73))
               have n0_ := Aside0.mk (Kd.R_elder' (Cmp.rr HO_271000.out) (Kd.R_base ho73) hb)
               have n1_ := Aside0.mk (Kd.R_lower (Kd.R_newB (Kd.R_new' ho73 (Kd.R_lt (Cmp.rr HO_271000.out))) (g := gb279) (o := .cells #[.int .i64 a1, .int .i64 a2, .int .i64 1, .bool false] 64 (0, 0)) (Cmp.b BK279.out)) (below_size (Cmp.g HB.out)))
               have n2_ := Aside0.mk (blk_below (Cmp.b BK261.out) hb)
               have n3_ := Aside0.mk (blk_below (Cmp.b BK262.out) hb)
               have n4_ := Aside0.mk (blk_below (Cmp.b BK270.out) hb)
               have n5_ := Aside0.mk (blk_below (Cmp.b BK279.out) hb)
               have n6_ := Aside0.mk (below_step (Cmp.g HB.out) hb)
               clear HO_271000; clear BK261; clear BK262; clear BK270; clear BK279; clear HB; have HO_271000 := n0_; have HO294 := n1_; have BK261 := n2_; have BK262 := n3_; have BK270 := n4_; have BK279 := n5_; have HB := n6_; clear n0_ n1_ n2_ n3_ n4_ n5_ n6_; clear hb ho73
               refine hK.out _ _ ⟨(blk_cell BK261.out 0).trans rfl, (blk_cell BK279.out 0).trans rfl, (blk_cell BK279.out 1).trans rfl, (blk_cell BK279.out 2).trans rfl, (blk_cell BK279.out 3).trans rfl⟩ (fun hHeld => ?_)
               clear hK K
               refine norm_ (a' := ?_) ?_ ?_
               rotate_left
               ·show Act.put _ (some 74) _ = _
                simp only [Act.put, Cmp.s, Cmp.z, Cmp.c, i64_w, i32_w]; rfl
               refine one_ (i := 0) (N := some 67) (Cmp.bb 16 7903) rfl rfl (one_of HT_.out (by kernel_rfl)) (by decide) (fun K hK => ?_)
               refine Kd.R_lit_step k64 _ 64 ?hg (N := 67) ?hd (xs := ([] : List (S64))) (inner := []) (ok := fun _ => True) (okp := fun _ => True) ?hr ?hp (fun _ hk => hk) trivial (Below.refl _ _) (Nat.le_refl _) (by simp) ?_; (case hd => rfl); (case hg => rfl); (case hr => first | (go_simp; done) | (go_simp; rfl)); (case hp => exact (Reps.none _ _))
               intro v283 w74 ho75 hb hg_ hnew_
               clear hg_ hnew_
               (first | rw [← Ny282.out] at ho75 | (simp only [Int.reduceToNat] at ho75; rw [← Ny282.out] at ho75))
               have n0_ := Aside0.mk (Kd.R_elder' (Cmp.rr HO_271000.out) (Kd.R_base ho75) hb)
               have n1_ := Aside0.mk (Kd.R_elder' (Cmp.rr HO294.out) (Kd.R_base ho75) hb)
               have n2_ := Aside0.mk (Kd.R_lower (Kd.R_newB (Kd.R_new' (Kd.R_new' ho75 (Kd.R_lt (Cmp.rr HO_271000.out))) (Kd.R_lt (Cmp.rr HO294.out))) (g := gb279) (o := .cells #[.int .i64 a1, .int .i64 a2, .int .i64 1, .bool false] 64 (0, 0)) (Cmp.b BK279.out)) (below_size (Cmp.g HB.out)))
               have n3_ := Aside0.mk (blk_below (Cmp.b BK261.out) hb)
               have n4_ := Aside0.mk (blk_below (Cmp.b BK262.out) hb)
               have n5_ := Aside0.mk (blk_below (Cmp.b BK270.out) hb)
               have n6_ := Aside0.mk (blk_below (Cmp.b BK279.out) hb)
               have n7_ := Aside0.mk (below_step (Cmp.g HB.out) hb)
               clear HO_271000; clear HO294; clear BK261; clear BK262; clear BK270; clear BK279; clear HB; have HO_271000 := n0_; have HO294 := n1_; have HO284 := n2_; have BK261 := n3_; have BK262 := n4_; have BK270 := n5_; have BK279 := n6_; have HB := n7_; clear n0_ n1_ n2_ n3_ n4_ n5_ n6_ n7_; clear hb ho75
               refine hK.out _ _ ⟨(blk_cell BK261.out 0).trans rfl, (blk_cell BK279.out 0).trans rfl, (blk_cell BK279.out 1).trans rfl, (blk_cell BK279.out 2).trans rfl, (blk_cell BK279.out 3).trans rfl⟩ (fun hHeld => ?_)
               clear hK K
               refine norm_ (a' := ?_) ?_ ?_
               rotate_left
               ·show Act.put _ (some 67) _ = _
                simp only [Act.put, Cmp.s, Cmp.z, Cmp.c, i64_w, i32_w]; rfl
               refine one_ (i := 5) (N := some 72) (Cmp.bb 16 7935) rfl rfl (one_of HT_.out (by kernel_rfl)) (by decide) (fun K hK => ?_)
               refine Kd.R_append_rows_step k64 (w0 := w) w.heap.size (by rfl) (.tmp 67) (.tmp 71) 37 64 (.agg #[(.int .i64 0), (.int .i64 0), (.int .i64 0), (.bool false)]) 32 rfl Try.underlying37 info64 rfl (by decide) (by omega) v283 y282 y285 _ _ _ (fun k_ => some k_ ≠ (.slice Ao17 t267.length co17 : Value).ownBlock ∧ some k_ ≠ (v293 : Value).ownBlock ∧ k_ ≠ gb279) (fun _ => False) rfl rfl ?aO ?aR (fun _ _ h => h) (fun _ h => h.elim) ?aF ?aB ?aS ?aL ?_
               (case aR => repeat (first | exact (Kd.C_below HR288.out HB.out) | (with_reducible refine Kd.C_alloc ?_ _) | (with_reducible refine Kd.C_drewN ?_ _) | (with_reducible refine Kd.C_drew ?_)))
               (case aB => exact (Cmp.g HB.out))
               (case aF => exact (fun k_ hk => ⟨Kd.fresh' (Kd.R_lt (Cmp.rr HO_271000.out)) k_ hk, Kd.fresh' (Kd.R_lt (Cmp.rr HO294.out)) k_ hk, Kd.freshB (g := gb279) (o := .cells #[.int .i64 a1, .int .i64 a2, .int .i64 1, .bool false] 64 (0, 0)) (Cmp.b BK279.out) k_ hk⟩))
               (case aO => exact (by (with_reducible repeat (first | apply Kd.R_alloc | apply Kd.R_drewN | apply Kd.R_drew)); exact Kd.R_mono HO284.out (fun _ hk => ⟨hk.1.1.2, ⟨hk.1.2, hk.2⟩⟩)))
               (case aS => exact (below_size (Cmp.g HB.out)))
               (case aL => have := LMc62.out; omega)
               intro v290 w76 ho hb hg hat
               rw [← Ny289.out] at ho
               have n0_ := Aside0.mk (Kd.R_after (ok := (fun k_ => some k_ ≠ (v293 : Value).ownBlock ∧ k_ ≠ gb279)) (by (with_reducible repeat (first | apply Kd.R_alloc | apply Kd.R_drewN | apply Kd.R_drew)); exact Kd.R_mono HO_271000.out (fun _ hk => ⟨⟨hk.1.2, hk.1.1⟩, hk.2⟩)) hg hat)
               have n1_ := Aside0.mk (blk_grown (g := gb261) (o := .cells #[.slice (some ad280) l0_0.length c0_0] 39 (0, 0)) (Cmp.b BK261.out) hg (Kd.R_ne HO284.out BK261.out (by decide)))
               have n2_ := Aside0.mk (blk_grown (g := gb262) (o := .cells #[.slice none 0 0] 39 (0, 0)) (Cmp.b BK262.out) hg (Kd.R_ne HO284.out BK262.out (by decide)))
               have n3_ := Aside0.mk (blk_grown (g := gb270) (o := .cells #[.slice Ao17 t267.length co17] 39 (0, 0)) (Cmp.b BK270.out) hg (Kd.R_ne HO284.out BK270.out (by decide)))
               have n4_ := Aside0.mk (blk_grown (g := gb279) (o := .cells #[.int .i64 a1, .int .i64 a2, .int .i64 1, .bool false] 64 (0, 0)) (Cmp.b BK279.out) hg (Kd.R_away HO284.out (fun _ hk => hk.2)))
               have n5_ := Aside0.mk (Kd.R_after (ok := (fun k_ => some k_ ≠ (.slice Ao17 t267.length co17 : Value).ownBlock ∧ k_ ≠ gb279)) (by (with_reducible repeat (first | apply Kd.R_alloc | apply Kd.R_drewN | apply Kd.R_drew)); exact Kd.R_mono HO294.out (fun _ hk => ⟨⟨hk.1.1.2, hk.1.2⟩, hk.2⟩)) hg hat)
               have n6_ := Aside0.mk (hb)
               have n7_ := Aside0.mk (ho)
               clear HO_271000; clear BK261; clear BK262; clear BK270; clear BK279; clear HO294; clear HB; clear HO284; have HO_271000 := n0_; have BK261 := n1_; have BK262 := n2_; have BK270 := n3_; have BK279 := n4_; have HO294 := n5_; have HB := n6_; have HO291 := n7_; clear n0_ n1_ n2_ n3_ n4_ n5_ n6_ n7_; clear ho hb hg hat
               refine hK.out _ _ ⟨(blk_cell BK261.out 0).trans rfl, (blk_cell BK279.out 0).trans rfl, (blk_cell BK279.out 1).trans rfl, (blk_cell BK279.out 2).trans rfl, (blk_cell BK279.out 3).trans rfl⟩ (fun hHeld => ?_)
               clear hK K
               refine norm_ (a' := ?_) ?_ ?_
               rotate_left
               ·show Act.put _ (some 72) _ = _
                simp only [Act.put, Cmp.s, Cmp.z, Cmp.c, i64_w, i32_w]; rfl
               exact norm_ (by simp only [putAll, Act.put, List.setIfInBounds_toArray, List.set_cons_zero, List.set_cons_succ]) (hCont (v283, v290, v293) _ ⟨hHeld, (by (with_reducible repeat (first | apply Kd.R_alloc | apply Kd.R_drewN | apply Kd.R_drew)); exact Kd.R_mono HO291.out (fun _ hk => ⟨hk.2.1, ⟨hk.1, hk.2.2⟩⟩)), (by (with_reducible repeat (first | apply Kd.R_alloc | apply Kd.R_drewN | apply Kd.R_drew)); exact Kd.R_mono HO294.out (fun _ hk => ⟨hk.2, ⟨hk.1.1, hk.1.2⟩⟩)), (by (with_reducible repeat (first | apply Kd.R_alloc | apply Kd.R_drewN | apply Kd.R_drew)); exact Kd.R_mono HO_271000.out (fun _ hk => ⟨hk.2, ⟨hk.1.1, hk.1.2⟩⟩)), (Cmp.b BK261.out), (Cmp.b BK262.out), (Cmp.b BK270.out), (Cmp.b BK279.out), (Cmp.g HB.out)⟩)
             rintro ⟨v283, v290, v293⟩ w77 ⟨hS_, h0_, h1_, h2_, h3_, h4_, h5_, h6_, h7_⟩
             have n0_ : Aside0 (Kd.R k64 64 w77 w.heap.size (fun k_ => some k_ ≠ (v293 : Value).ownBlock ∧ some k_ ≠ (.slice Ao17 t267.length co17 : Value).ownBlock ∧ k_ ≠ gb279) v290 y289) := ⟨h0_⟩
             have n1_ : Aside0 (Kd.R k64 64 w77 w.heap.size (fun k_ => some k_ ≠ (v290 : Value).ownBlock ∧ some k_ ≠ (.slice Ao17 t267.length co17 : Value).ownBlock ∧ k_ ≠ gb279) v293 y292) := ⟨h1_⟩
             have n2_ : Aside0 (Kd.R k64 64 w77 w.heap.size (fun k_ => some k_ ≠ (v290 : Value).ownBlock ∧ some k_ ≠ (v293 : Value).ownBlock ∧ k_ ≠ gb279) (.slice Ao17 t267.length co17) t267) := ⟨h2_⟩
             have n3_ : Aside0 (w77.heap[gb261]? = some (.cells #[.slice (some ad280) l0_0.length c0_0] 39 (0, 0))) := ⟨h3_⟩
             have n4_ : Aside0 (w77.heap[gb262]? = some (.cells #[.slice none 0 0] 39 (0, 0))) := ⟨h4_⟩
             have n5_ : Aside0 (w77.heap[gb270]? = some (.cells #[.slice Ao17 t267.length co17] 39 (0, 0))) := ⟨h5_⟩
             have n6_ : Aside0 (w77.heap[gb279]? = some (.cells #[.int .i64 a1, .int .i64 a2, .int .i64 1, .bool false] 64 (0, 0))) := ⟨h6_⟩
             have n7_ : Aside0 (Below w.heap.size w w77) := ⟨h7_⟩
             clear HO_271000; clear BK261; clear BK262; clear BK270; clear BK279; clear HB; clear h0_ h1_ h2_ h3_ h4_ h5_ h6_ h7_; have HO291 := n0_; have HO294 := n1_; have HO_271000 := n2_; have BK261 := n3_; have BK262 := n4_; have BK270 := n5_; have BK279 := n6_; have HB := n7_; clear n0_ n1_ n2_ n3_ n4_ n5_ n6_ n7_
             have hHeld : w77.cell? ⟨gb261, 0, none⟩ = some (.slice (some ad280) l0_0.length c0_0) ∧ w77.cell? ⟨gb279, 0, none⟩ = some (.int .i64 a1) ∧ w77.cell? ⟨gb279, 1, none⟩ = some (.int .i64 a2) ∧ w77.cell? ⟨gb279, 2, none⟩ = some (.int .i64 1) ∧ w77.cell? ⟨gb279, 3, none⟩ = some (.bool false) := hS_
             obtain ⟨Ao79, co79, eo79⟩ := Kd.R_slice HO294.out
             (first | subst eo79 | (injection eo79 with f1_ f2_ f3_; have f4_ := f1_.symm; have f5_ := f3_.symm; clear f1_ f2_ f3_; subst f4_; subst f5_))
             refine norm_ (a' := ?_) ?_ ?_
             rotate_left
             ·simp only [putAll, Act.put, List.setIfInBounds_toArray, List.set_cons_zero, List.set_cons_succ]; rfl
             refine one_ (i := 8) (N := some 75) (Cmp.bm 13 3) rfl rfl (one_of HT_.out (by kernel_rfl)) (by decide) (fun K hK => ?_)
             refine Kd.R_append_rows_step k64 (w0 := w) w.heap.size (by rfl) (.tmp 72) (.tmp 74) 37 64 (.agg #[(.int .i64 0), (.int .i64 0), (.int .i64 0), (.bool false)]) 32 rfl Try.underlying37 info64 rfl (by decide) (by omega) v290 y289 y292 _ _ _ (fun k_ => some k_ ≠ (.slice Ao17 t267.length co17 : Value).ownBlock ∧ some k_ ≠ (.slice Ao79 y292.length co79 : Value).ownBlock ∧ k_ ≠ gb279) (fun _ => False) rfl rfl ?aO ?aR (fun _ _ h => h) (fun _ h => h.elim) ?aF ?aB ?aS ?aL ?_
             (case aR => repeat (first | exact (Kd.R_reads' HO294.out).2.2 | (with_reducible refine Kd.C_alloc ?_ _) | (with_reducible refine Kd.C_drewN ?_ _) | (with_reducible refine Kd.C_drew ?_)))
             (case aB => exact (Cmp.g HB.out))
             (case aF => exact (fun k_ hk => ⟨Kd.fresh' (Kd.R_lt (Cmp.rr HO_271000.out)) k_ hk, Kd.fresh' (Kd.R_lt (Cmp.rr HO294.out)) k_ hk, Kd.freshB (g := gb279) (o := .cells #[.int .i64 a1, .int .i64 a2, .int .i64 1, .bool false] 64 (0, 0)) (Cmp.b BK279.out) k_ hk⟩))
             (case aO => exact (by (with_reducible repeat (first | apply Kd.R_alloc | apply Kd.R_drewN | apply Kd.R_drew)); exact Kd.R_mono HO291.out (fun _ hk => ⟨hk.2.1, ⟨hk.1, hk.2.2⟩⟩)))
             (case aS => exact (below_size (Cmp.g HB.out)))
             (case aL => have := LMc63.out; omega)
             intro v296 w78 ho hb hg hat
             rw [← Ny295.out] at ho
             have n0_ := Aside0.mk (Kd.R_after (ok := (fun k_ => some k_ ≠ (.slice Ao79 y292.length co79 : Value).ownBlock ∧ k_ ≠ gb279)) (by (with_reducible repeat (first | apply Kd.R_alloc | apply Kd.R_drewN | apply Kd.R_drew)); exact Kd.R_mono HO_271000.out (fun _ hk => ⟨⟨hk.2.1, hk.2.2⟩, hk.1⟩)) hg hat)
             have n1_ := Aside0.mk (blk_grown (g := gb261) (o := .cells #[.slice (some ad280) l0_0.length c0_0] 39 (0, 0)) (Cmp.b BK261.out) hg (Kd.R_ne HO291.out BK261.out (by decide)))
             have n2_ := Aside0.mk (blk_grown (g := gb262) (o := .cells #[.slice none 0 0] 39 (0, 0)) (Cmp.b BK262.out) hg (Kd.R_ne HO291.out BK262.out (by decide)))
             have n3_ := Aside0.mk (blk_grown (g := gb270) (o := .cells #[.slice Ao17 t267.length co17] 39 (0, 0)) (Cmp.b BK270.out) hg (Kd.R_ne HO291.out BK270.out (by decide)))
             have n4_ := Aside0.mk (blk_grown (g := gb279) (o := .cells #[.int .i64 a1, .int .i64 a2, .int .i64 1, .bool false] 64 (0, 0)) (Cmp.b BK279.out) hg (Kd.R_away HO291.out (fun _ hk => hk.2.2)))
             have n5_ := Aside0.mk (Kd.R_after (ok := (fun k_ => some k_ ≠ (.slice Ao17 t267.length co17 : Value).ownBlock ∧ k_ ≠ gb279)) (by (with_reducible repeat (first | apply Kd.R_alloc | apply Kd.R_drewN | apply Kd.R_drew)); exact Kd.R_mono HO294.out (fun _ hk => ⟨⟨hk.2.1, hk.2.2⟩, hk.1⟩)) hg hat)
             have n6_ := Aside0.mk (hb)
             have n7_ := Aside0.mk (ho)
             clear HO_271000; clear BK261; clear BK262; clear BK270; clear BK279; clear HO294; clear HB; clear HO291; have HO_271000 := n0_; have BK261 := n1_; have BK262 := n2_; have BK270 := n3_; have BK279 := n4_; have HO294 := n5_; have HB := n6_; have HO297 := n7_; clear n0_ n1_ n2_ n3_ n4_ n5_ n6_ n7_; clear ho hb hg hat
             refine hK.out _ _ ⟨(blk_cell BK261.out 0).trans rfl, (blk_cell BK279.out 0).trans rfl, (blk_cell BK279.out 1).trans rfl, (blk_cell BK279.out 2).trans rfl, (blk_cell BK279.out 3).trans rfl⟩ (fun hHeld => ?_)
             clear hK K
             refine norm_ (a' := ?_) ?_ ?_
             rotate_left
             ·show Act.put _ (some 75) _ = _
              simp only [Act.put, Cmp.s, Cmp.z, Cmp.c, i64_w, i32_w]; rfl
             refine one_ (i := 13) (N := some 80) (Cmp.bm 14 2) rfl rfl (one_of HT_.out (by kernel_rfl)) (by decide) (fun K hK => ?_)
             refine Kd.R_append_rows_step k64 (w0 := w) w.heap.size (by rfl) (.tmp 75) (.tmp 79) 37 64 (.agg #[(.int .i64 0), (.int .i64 0), (.int .i64 0), (.bool false)]) 32 rfl Try.underlying37 info64 rfl (by decide) (by omega) v296 y295 y298 _ _ _ (fun k_ => some k_ ≠ (.slice Ao17 t267.length co17 : Value).ownBlock ∧ some k_ ≠ (.slice Ao79 y292.length co79 : Value).ownBlock ∧ k_ ≠ gb279) (fun _ => False) rfl rfl ?aO ?aR (fun _ _ h => h) (fun _ h => h.elim) ?aF ?aB ?aS ?aL ?_
             (case aR => repeat (first | exact (Kd.C_below HR301.out HB.out) | (with_reducible refine Kd.C_alloc ?_ _) | (with_reducible refine Kd.C_drewN ?_ _) | (with_reducible refine Kd.C_drew ?_)))
             (case aB => exact (Cmp.g HB.out))
             (case aF => exact (fun k_ hk => ⟨Kd.fresh' (Kd.R_lt (Cmp.rr HO_271000.out)) k_ hk, Kd.fresh' (Kd.R_lt (Cmp.rr HO294.out)) k_ hk, Kd.freshB (g := gb279) (o := .cells #[.int .i64 a1, .int .i64 a2, .int .i64 1, .bool false] 64 (0, 0)) (Cmp.b BK279.out) k_ hk⟩))
             (case aO => exact (Cmp.rr HO297.out))
             (case aS => exact (below_size (Cmp.g HB.out)))
             (case aL => have := LMc66.out; omega)
             intro v303 w80 ho hb hg hat
             rw [← Ny302.out] at ho
             have n0_ := Aside0.mk (Kd.R_after (ok := (fun k_ => some k_ ≠ (.slice Ao79 y292.length co79 : Value).ownBlock ∧ k_ ≠ gb279)) (Cmp.rr HO_271000.out) hg hat)
             have n1_ := Aside0.mk (blk_grown (g := gb261) (o := .cells #[.slice (some ad280) l0_0.length c0_0] 39 (0, 0)) (Cmp.b BK261.out) hg (Kd.R_ne HO297.out BK261.out (by decide)))
             have n2_ := Aside0.mk (blk_grown (g := gb262) (o := .cells #[.slice none 0 0] 39 (0, 0)) (Cmp.b BK262.out) hg (Kd.R_ne HO297.out BK262.out (by decide)))
             have n3_ := Aside0.mk (blk_grown (g := gb270) (o := .cells #[.slice Ao17 t267.length co17] 39 (0, 0)) (Cmp.b BK270.out) hg (Kd.R_ne HO297.out BK270.out (by decide)))
             have n4_ := Aside0.mk (blk_grown (g := gb279) (o := .cells #[.int .i64 a1, .int .i64 a2, .int .i64 1, .bool false] 64 (0, 0)) (Cmp.b BK279.out) hg (Kd.R_away HO297.out (fun _ hk => hk.2.2)))
             have n5_ := Aside0.mk (Kd.R_after (ok := (fun k_ => some k_ ≠ (.slice Ao17 t267.length co17 : Value).ownBlock ∧ k_ ≠ gb279)) (Cmp.rr HO294.out) hg hat)
             have n6_ := Aside0.mk (hb)
             have n7_ := Aside0.mk (ho)
             clear HO_271000; clear BK261; clear BK262; clear BK270; clear BK279; clear HO294; clear HB; clear HO297; have HO_271000 := n0_; have BK261 := n1_; have BK262 := n2_; have BK270 := n3_; have BK279 := n4_; have HO294 := n5_; have HB := n6_; have HO304 := n7_; clear n0_ n1_ n2_ n3_ n4_ n5_ n6_ n7_; clear ho hb hg hat
             obtain ⟨Ao81, co81, eo81⟩ := Kd.R_slice HO304.out
             (first | subst eo81 | (injection eo81 with f1_ f2_ f3_; have f4_ := f1_.symm; have f5_ := f3_.symm; clear f1_ f2_ f3_; subst f4_; subst f5_))
             refine hK.out _ _ ⟨(blk_cell BK261.out 0).trans rfl, (blk_cell BK279.out 0).trans rfl, (blk_cell BK279.out 1).trans rfl, (blk_cell BK279.out 2).trans rfl, (blk_cell BK279.out 3).trans rfl⟩ (fun hHeld => ?_)
             clear hK K
             refine norm_ (a' := ?_) ?_ ?_
             rotate_left
             ·show Act.put _ (some 80) _ = _
              simp only [Act.put, Cmp.s, Cmp.z, Cmp.c, i64_w, i32_w]; rfl
             refine Cmp.pu HT_ 14 81 (Cmp.bm 15 1) ?_
             refine one_ (i := 15) (N := none) (Cmp.bm 16 0) rfl rfl (one_of HT_.out (by kernel_rfl)) (by decide) (fun K hK => ?_)
             have hs82 : w80.cell? ⟨gb270, 0, none⟩ = some (.slice Ao17 t267.length co17) := (blk_cell BK270.out 0).trans rfl
             have hfs82 := blk_frozen BK270.out 0; have hns82_0 := NB261_270.out; have hns82_1 := NB262_270.out; have hns82_3 := NB279_270.out; have hms82_0 := NB270_261.out; have hms82_1 := NB270_262.out; have hms82_3 := NB270_279.out
             refine skip_ (w1 := ?_) (by rfl) rfl ?_ ?_
             rotate_left
             ·go_simp; rfl
             refine hK.out _ _ ⟨((cell_far (p := ⟨gb270, _, none⟩) NB261_270.out _).trans (hHeld.1)), ((cell_far (p := ⟨gb270, _, none⟩) NB279_270.out _).trans (hHeld.2.1)), ((cell_far (p := ⟨gb270, _, none⟩) NB279_270.out _).trans (hHeld.2.2.1)), ((cell_far (p := ⟨gb270, _, none⟩) NB279_270.out _).trans (hHeld.2.2.2.1)), ((cell_far (p := ⟨gb270, _, none⟩) NB279_270.out _).trans (hHeld.2.2.2.2))⟩ (fun hHeld => ?_)
             clear hK K
             refine done_ (done_of HT_.out (by kernel_rfl)) ?_
             try go_wp2
             go_meet
             case rel => exact ⟨_, (y302), (.slice Ao81 y302.length co81), H', ⟨by have := HK1.out; first | omega | exact Nat.le_refl _⟩, ⟨by (with_reducible repeat (first | apply Kd.R_alloc | apply Kd.R_drewN | apply Kd.R_drew)); exact Kd.R_mono (Kd.R_far (p := ⟨gb270, 0, none⟩) (Kd.R_types HO304.out BK270.out (by decide)) (fun _ hk => hk.2) (.slice Ao81 y302.length co81)) (fun _ hk => trivial)⟩, ⟨by (with_reducible repeat (first | refine blk_drewN ?_ _ | refine blk_drew ?_ | refine blk_alloc ?_ _)); refine blk_far ?_ NB261_270.out _; (with_reducible repeat (first | refine blk_drewN ?_ _ | refine blk_drew ?_ | refine blk_alloc ?_ _)); exact BK261.out⟩, ⟨by (with_reducible repeat (first | refine blk_drewN ?_ _ | refine blk_drew ?_ | refine blk_alloc ?_ _)); refine blk_far ?_ NB262_270.out _; (with_reducible repeat (first | refine blk_drewN ?_ _ | refine blk_drew ?_ | refine blk_alloc ?_ _)); exact BK262.out⟩, ⟨by (with_reducible repeat (first | refine blk_drewN ?_ _ | refine blk_drew ?_ | refine blk_alloc ?_ _)); refine blk_put (cs := #[.slice Ao17 t267.length co17]) ?_ 0 _ rfl; (with_reducible repeat (first | refine blk_drewN ?_ _ | refine blk_drew ?_ | refine blk_alloc ?_ _)); exact BK270.out⟩, ⟨Cmp.g HB.out⟩⟩
            ·rw [if_neg c66] at H; exact absurd H (by simp)
           ·rw [if_neg c63] at H; exact absurd H (by simp)
          ·rw [if_neg c62] at H; exact absurd H (by simp)
         ·rw [if_neg c61] at H; exact absurd H (by simp)
       ·rw [if_neg c55] at H; exact absurd H (by simp)
      ·rw [if_neg c54] at H
       have c54b0 : decide (x11_1 < (l0_0.length : Int)) = false := decide_eq_false c54
       clear c54
       obtain ⟨y305, hy305⟩ : ∃ y_ : List (S64), y_ = (([] : List (S64))) := ⟨_, rfl⟩
       replace H : (if 0 ≤ x11_1 then (if x11_1 ≤ (l0_0.length : Int) then ((some (l0_0.take (x11_1 : Int).toNat : List (S64))).bind fun y308 => (if y305.length + y308.length < 4398046511104 then ((some (y305 ++ y308 : List (S64))).bind fun y312 => ((some (([(⟨a1, a2, 1, false⟩ : S64)] : List (S64)) : List (S64))).bind fun y315 => (if y312.length + y315.length < 4398046511104 then ((some (y312 ++ y315 : List (S64))).bind fun y318 => ((some (l0_0.drop (x11_1 : Int).toNat : List (S64))).bind fun y321 => (if y318.length + y321.length < 4398046511104 then (impl_PutEntry.j1 k1 l0_0 (y318 ++ y321)) else (none)))) else (none)))) else (none))) else (none)) else (none)) = some (r1, r2) := by first | (rw [hy305]; with_reducible exact H) | (have H2_ := (Option.bind_some _ _).symm.trans H; rw [hy305]; with_reducible exact H2_) | (have H2_ := (Option.bind_some _ _).symm.trans H; with_reducible exact H2_) | with_reducible exact H | (rw [hy305]; exact H) | exact H
       have Ny305 := Aside0.mk hy305; clear hy305
       by_cases c83 : 0 ≤ x11_1
       ·rw [if_pos c83] at H
        have c83b0 := eq_true c83
        have c83b1 : decide (0 ≤ x11_1) = true := decide_eq_true c83; clear c83
        by_cases c84 : x11_1 ≤ (l0_0.length : Int)
        ·rw [if_pos c84] at H
         have c84b0 := eq_true c84
         have c84b1 : decide (x11_1 ≤ (l0_0.length : Int)) = true := decide_eq_true c84
         clear c84
         obtain ⟨y308, hy308⟩ : ∃ y_ : List (S64), y_ = (l0_0.take (x11_1 : Int).toNat) := ⟨_, rfl⟩
         replace H : (if y305.length + y308.length < 4398046511104 then ((some (y305 ++ y308 : List (S64))).bind fun y312 => ((some (([(⟨a1, a2, 1, false⟩ : S64)] : List (S64)) : List (S64))).bind fun y315 => (if y312.length + y315.length < 4398046511104 then ((some (y312 ++ y315 : List (S64))).bind fun y318 => ((some (l0_0.drop (x11_1 : Int).toNat : List (S64))).bind fun y321 => (if y318.length + y321.length < 4398046511104 then (impl_PutEntry.j1 k1 l0_0 (y318 ++ y321)) else (none)))) else (none)))) else (none)) = some (r1, r2) := by first | (rw [hy308]; with_reducible exact H) | (have H2_ := (Option.bind_some _ _).symm.trans H; rw [hy308]; with_reducible exact H2_) | (have H2_ := (Option.bind_some _ _).symm.trans H; with_reducible exact H2_) | with_reducible exact H | (rw [hy308]; exact H) | exact H
         have Ny308 := Aside0.mk hy308; clear hy308
         by_cases c85 : y305.length + y308.length < 4398046511104
         ·rw [if_pos c85] at H; have LMc85 := Aside0.mk c85; clear c85
          obtain ⟨y312, hy312⟩ : ∃ y_ : List (S64), y_ = (y305 ++ y308) := ⟨_, rfl⟩
          replace H : ((some (([(⟨a1, a2, 1, false⟩ : S64)] : List (S64)) : List (S64))).bind fun y315 => (if y312.length + y315.length < 4398046511104 then ((some (y312 ++ y315 : List (S64))).bind fun y318 => ((some (l0_0.drop (x11_1 : Int).toNat : List (S64))).bind fun y321 => (if y318.length + y321.length < 4398046511104 then (impl_PutEntry.j1 k1 l0_0 (y318 ++ y321)) else (none)))) else (none))) = some (r1, r2) := by first | (rw [hy312]; with_reducible exact H) | (have H2_ := (Option.bind_some _ _).symm.trans H; rw [hy312]; with_reducible exact H2_) | (have H2_ := (Option.bind_some _ _).symm.trans H; with_reducible exact H2_) | with_reducible exact H | (rw [hy312]; exact H) | exact H
          have Ny312 := Aside0.mk hy312; clear hy312
          obtain ⟨y315, hy315⟩ : ∃ y_ : List (S64), y_ = (([(⟨a1, a2, 1, false⟩ : S64)] : List (S64))) := ⟨_, rfl⟩
          replace H : (if y312.length + y315.length < 4398046511104 then ((some (y312 ++ y315 : List (S64))).bind fun y318 => ((some (l0_0.drop (x11_1 : Int).toNat : List (S64))).bind fun y321 => (if y318.length + y321.length < 4398046511104 then (impl_PutEntry.j1 k1 l0_0 (y318 ++ y321)) else (none)))) else (none)) = some (r1, r2) := by first | (rw [hy315]; with_reducible exact H) | (have H2_ := (Option.bind_some _ _).symm.trans H; rw [hy315]; with_reducible exact H2_) | (have H2_ := (Option.bind_some _ _).symm.trans H; with_reducible exact H2_) | with_reducible exact H | (rw [hy315]; exact H) | exact H
          have Ny315 := Aside0.mk hy315; clear hy315
          by_cases c86 : y312.length + y315.length < 4398046511104
          ·rw [if_pos c86] at H; have LMc86 := Aside0.mk c86; clear c86
           obtain ⟨y318, hy318⟩ : ∃ y_ : List (S64), y_ = (y312 ++ y315) := ⟨_, rfl⟩
           replace H : ((some (l0_0.drop (x11_1 : Int).toNat : List (S64))).bind fun y321 => (if y318.length + y321.length < 4398046511104 then (impl_PutEntry.j1 k1 l0_0 (y318 ++ y321)) else (none))) = some (r1, r2) := by first | (rw [hy318]; with_reducible exact H) | (have H2_ := (Option.bind_some _ _).symm.trans H; rw [hy318]; with_reducible exact H2_) | (have H2_ := (Option.bind_some _ _).symm.trans H; with_reducible exact H2_) | with_reducible exact H | (rw [hy318]; exact H) | exact H
           have Ny318 := Aside0.mk hy318; clear hy318
           have c87b0 := eq_true (of_decide_eq_true Cmp.d : 0 ≤ x11_1)
           have c88b0 := eq_true (of_decide_eq_true Cmp.d : x11_1 ≤ (l0_0.length : Int))
           obtain ⟨y321, hy321⟩ : ∃ y_ : List (S64), y_ = (l0_0.drop (x11_1 : Int).toNat) := ⟨_, rfl⟩
           replace H : (if y318.length + y321.length < 4398046511104 then (impl_PutEntry.j1 k1 l0_0 (y318 ++ y321)) else (none)) = some (r1, r2) := by first | (rw [hy321]; with_reducible exact H) | (have H2_ := (Option.bind_some _ _).symm.trans H; rw [hy321]; with_reducible exact H2_) | (have H2_ := (Option.bind_some _ _).symm.trans H; with_reducible exact H2_) | with_reducible exact H | (rw [hy321]; exact H) | exact H
           have Ny321 := Aside0.mk hy321; clear hy321
           by_cases c89 : y318.length + y321.length < 4398046511104
           ·rw [if_pos c89] at H; have LMc89 := Aside0.mk c89; clear c89
            obtain ⟨y325, hy325⟩ : ∃ y_ : List (S64), y_ = (y318 ++ y321) := ⟨_, rfl⟩
            replace H : (impl_PutEntry.j1 k1 l0_0 y325) = some (r1, r2) := by first | (rw [hy325]; with_reducible exact H) | (have H2_ := (Option.bind_some _ _).symm.trans H; rw [hy325]; with_reducible exact H2_) | (have H2_ := (Option.bind_some _ _).symm.trans H; with_reducible exact H2_) | with_reducible exact H | (rw [hy325]; exact H) | exact H
            have Ny325 := Aside0.mk hy325; clear hy325
            have H' := Aside0.mk H
            clear H
            try go_wp2
            have n0_ := Aside0.mk (Kd.R_drew HO_271000.out); have n1_ := Aside0.mk (blk_drew BK261.out); have n2_ := Aside0.mk (blk_drew BK262.out); have n3_ := Aside0.mk (blk_drew BK270.out); have n4_ := Aside0.mk (blk_drew BK279.out); have n5_ := Aside0.mk (below_drew1 HB.out); clear HO_271000; clear BK261; clear BK262; clear BK270; clear BK279; clear HB; have HO_271000 := n0_; have BK261 := n1_; have BK262 := n2_; have BK270 := n3_; have BK279 := n4_; have HB := n5_; clear n0_ n1_ n2_ n3_ n4_ n5_
            refine start_ (n := 14) (S := fun w' => w'.cell? ⟨gb261, 0, none⟩ = some (.slice A0_0 l0_0.length c0_0)) (ds := []) (Cmp.bm 0 14) (by kernel_rfl) rfl rfl ((blk_cell BK261.out 0).trans rfl) (fun hHeld => ?_); refine with_tabW impl_PutEntry.tab12 impl_PutEntry.bits12 (fun HT_ HW_ => ?_)
            generalize wr.drew = w90 at HO_271000 BK261 BK262 BK270 BK279 HB hHeld ⊢
            refine Cmp.pu HT_ 0 51 (Cmp.bm 1 13) ?_; refine Cmp.pu HT_ 1 52 (Cmp.bm 2 12) ?_
            refine take_ (i := 2) (N := some 53) (v := ?_) (a' := ?_) (Cmp.bm 3 11) rfl rfl (take_ofW HT_.out HW_.out (by kernel_rfl)) (fun _ _ _ h => h) (Or.inl ⟨by rfl, ?_⟩) hHeld ?_ ?_
            rotate_left
            ·intro w' s0
             go_simp; with_reducible rfl
            rotate_left
            ·simp only [Act.put, Cmp.s, Cmp.z, Cmp.c, i64_w, i32_w]; rfl
            refine Cmp.pu HT_ 3 54 (Cmp.bm 4 10) ?_; refine Cmp.pu HT_ 4 55 (Cmp.bm 5 9) ?_; refine Cmp.pu HT_ 5 56 (Cmp.bm 6 8) ?_; refine Cmp.pv HT_ 6 57 (Cmp.bm 7 7) ?_; refine Cmp.pv HT_ 7 58 (Cmp.bm 8 6) ?_; refine Cmp.pv HT_ 8 59 (Cmp.bm 9 5) ?_; refine Cmp.pv HT_ 9 60 (Cmp.bm 10 4) ?_; refine Cmp.pv HT_ 10 61 (Cmp.bm 11 3) ?_; refine Cmp.pv HT_ 11 62 (Cmp.bm 12 2) ?_; refine Cmp.pv HT_ 12 63 (Cmp.bm 13 1) ?_; refine Cmp.pu HT_ 13 64 (Cmp.bm 14 0) ?_
            refine done_ (done_of HT_.out (by kernel_rfl)) ?_
            try go_wp2
            have n0_ := Aside0.mk (Kd.R_drew HO_271000.out); have n1_ := Aside0.mk (blk_drew BK261.out); have n2_ := Aside0.mk (blk_drew BK262.out); have n3_ := Aside0.mk (blk_drew BK270.out); have n4_ := Aside0.mk (blk_drew BK279.out); have n5_ := Aside0.mk (below_drew1 HB.out); clear HO_271000; clear BK261; clear BK262; clear BK270; clear BK279; clear HB; have HO_271000 := n0_; have BK261 := n1_; have BK262 := n2_; have BK270 := n3_; have BK279 := n4_; have HB := n5_; clear n0_ n1_ n2_ n3_ n4_ n5_
            have q92 : (x11_1 : Int) ≤ ((l0_0.length : Int) : Int) := of_decide_eq_true Cmp.d
            obtain ⟨i092, hi092, _, hsz92, _⟩ := info_parts info64
            have hroom92 : l0_0.length ≤ c0_0 := HC0_0.out
            have hC92 : Kd.C k64 _ A0_0 l0_0.length l0_0 := HR0_0.out
            have hcut92 := cut_to (P := Try.prog) 37 64 .i64 Try.underlying37 hi092 A0_0 l0_0.length c0_0 x11_1 (of_decide_eq_true Cmp.d) q92 hroom92
            have hr92 := Kd.C_take (m := (x11_1 : Int).toNat) hC92 (by omega)
            have hy92 : y308.length = (x11_1 : Int).toNat := (by rw [Ny308.out, List.length_take]; omega)
            rw [← Ny308.out] at hr92
            rw [← hy92] at hcut92
            have HR311 := Aside0.mk hr92
            have HC311 := Aside0.mk (show y308.length ≤ c0_0 from by omega)
            clear hr92 hC92 hroom92 hi092 hsz92; have KY92 := Aside0.mk hy92; clear hy92; replace q92 := eq_true q92
            have q93 : (x11_1 : Int) ≤ ((l0_0.length : Int) : Int) := of_decide_eq_true Cmp.d
            obtain ⟨i093, hi093, _, hsz93, _⟩ := info_parts info64
            have hroom93 : l0_0.length ≤ c0_0 := HC0_0.out
            have hC93 : Kd.C k64 _ A0_0 l0_0.length l0_0 := HR0_0.out
            have q093 : (0 : Int) ≤ (x11_1 : Int) := of_decide_eq_true Cmp.d
            have hcut93 := cut_from (P := Try.prog) 37 64 .i64 Try.underlying37 hi093 4 hsz93 A0_0 l0_0.length c0_0 x11_1 q093 q93
            have hr93 := Kd.C_drop (m := (x11_1 : Int).toNat) (c := c0_0) hC93 (by omega) hroom93
            obtain ⟨A93, hA93⟩ : ∃ A1, A1 = (if c0_0 = (x11_1 : Int).toNat then A0_0 else (A0_0 : Option Addr).map (·.add ((x11_1 : Int).toNat * 4))) := ⟨_, rfl⟩
            obtain ⟨c93, hc93⟩ : ∃ c1, c1 = c0_0 - (x11_1 : Int).toNat := ⟨_, rfl⟩
            have hy93 : y321.length = l0_0.length - (x11_1 : Int).toNat := (by rw [Ny321.out, List.length_drop] <;> omega)
            rw [show (l0_0).drop (x11_1 : Int).toNat = y321 from Ny321.out.symm] at hr93
            replace hr93 : Kd.C k64 _ A93 y321.length y321 := (by rw [hA93]; exact hr93)
            rw [← hy93, ← hA93, ← hc93] at hcut93
            have HR324 := Aside0.mk hr93
            have HC324 := Aside0.mk (show y321.length ≤ c93 from by rw [hy93, hc93]; exact Nat.sub_le_sub_right hroom93 _)
            clear hr93 hC93 hroom93 hi093 hsz93 hc93; have KY93 := Aside0.mk hy93; have KA93 := Aside0.mk hA93; clear hy93 hA93; replace q93 := eq_true q93
            refine start_ (n := 16) (S := fun w' => w'.cell? ⟨gb261, 0, none⟩ = some (.slice A0_0 l0_0.length c0_0) ∧ w'.cell? ⟨gb279, 0, none⟩ = some (.int .i64 a1) ∧ w'.cell? ⟨gb279, 1, none⟩ = some (.int .i64 a2) ∧ w'.cell? ⟨gb279, 2, none⟩ = some (.int .i64 1) ∧ w'.cell? ⟨gb279, 3, none⟩ = some (.bool false)) (ds := []) (Cmp.bm 0 16) (by kernel_rfl) rfl rfl ⟨(blk_cell BK261.out 0).trans rfl, (blk_cell BK279.out 0).trans rfl, (blk_cell BK279.out 1).trans rfl, (blk_cell BK279.out 2).trans rfl, (blk_cell BK279.out 3).trans rfl⟩ (fun hHeld => ?_); refine with_tabW impl_PutEntry.tab14 impl_PutEntry.bits14 (fun HT_ HW_ => ?_)
            generalize w90.drew = w91 at HO_271000 BK261 BK262 BK270 BK279 HB HR311 HR324 hHeld ⊢
            refine Cmp.pu HT_ 1 68 (Cmp.bb 16 2) ?_; refine Cmp.pu HT_ 3 70 (Cmp.bb 16 10) ?_; refine Cmp.pu HT_ 9 76 (Cmp.bb 16 522) ?_; refine Cmp.pu HT_ 11 78 (Cmp.bb 16 2570) ?_; refine Cmp.tk HT_ HW_ hHeld 2 69 (Cmp.bb 16 2574) ?_; refine Cmp.pu HT_ 4 71 (Cmp.bb 16 2590) ?_; refine Cmp.tk HT_ HW_ hHeld 6 73 (Cmp.bb 16 2654) ?_; refine Cmp.tk HT_ HW_ hHeld 10 77 (Cmp.bb 16 3678) ?_; refine Cmp.pu HT_ 12 79 (Cmp.bb 16 7774) ?_
            refine join_ (σ := Value × Value × Value) 4 (Cmp.bb 16 7935) (fun s_ => [(67, s_.1), (72, s_.2.1), (74, s_.2.2)]) (fun s_ w' => (w'.cell? ⟨gb261, 0, none⟩ = some (.slice A0_0 l0_0.length c0_0) ∧ w'.cell? ⟨gb279, 0, none⟩ = some (.int .i64 a1) ∧ w'.cell? ⟨gb279, 1, none⟩ = some (.int .i64 a2) ∧ w'.cell? ⟨gb279, 2, none⟩ = some (.int .i64 1) ∧ w'.cell? ⟨gb279, 3, none⟩ = some (.bool false)) ∧ (Kd.R k64 64 w' w.heap.size (fun k_ => some k_ ≠ (s_.2.2 : Value).ownBlock ∧ some k_ ≠ (.slice Ao17 t267.length co17 : Value).ownBlock ∧ k_ ≠ gb279) s_.2.1 y312) ∧ (Kd.R k64 64 w' w.heap.size (fun k_ => some k_ ≠ (s_.2.1 : Value).ownBlock ∧ some k_ ≠ (.slice Ao17 t267.length co17 : Value).ownBlock ∧ k_ ≠ gb279) s_.2.2 y315) ∧ (Kd.R k64 64 w' w.heap.size (fun k_ => some k_ ≠ (s_.2.1 : Value).ownBlock ∧ some k_ ≠ (s_.2.2 : Value).ownBlock ∧ k_ ≠ gb279) (.slice Ao17 t267.length co17) t267) ∧ (w'.heap[gb261]? = some (.cells #[.slice A0_0 l0_0.length c0_0] 39 (0, 0))) ∧ (w'.heap[gb262]? = some (.cells #[.slice none 0 0] 39 (0, 0))) ∧ (w'.heap[gb270]? = some (.cells #[.slice Ao17 t267.length co17] 39 (0, 0))) ∧ (w'.heap[gb279]? = some (.cells #[.int .i64 a1, .int .i64 a2, .int .i64 1, .bool false] 64 (0, 0))) ∧ (Below w.heap.size w w')) ?_ ?_
            rotate_left
            ·intro hCont
             refine two_ (i := 0) (j := 7) (Ni := some 67) (Nj := some 74) (Cmp.bb 16 7775) (Cmp.bb 16 7902) rfl rfl rfl rfl (two_of HT_.out (by kernel_rfl)) (by decide) (by decide) (fun K hK => ?_) (fun K hK => ?_)
             ·skip
              refine Kd.R_lit_step k64 _ 64 ?hg (N := 67) ?hd (xs := ([] : List (S64))) (inner := []) (ok := fun _ => True) (okp := fun _ => True) ?hr ?hp (fun _ hk => hk) trivial (Below.refl _ _) (Nat.le_refl _) (by simp) ?_; (case hd => rfl); (case hg => rfl); (case hr => first | (go_simp; done) | (go_simp; rfl)); (case hp => exact (Reps.none _ _))
              intro v306 w94 ho95 hb hg_ hnew_
              clear hg_ hnew_
              (first | rw [← Ny305.out] at ho95 | (simp only [Int.reduceToNat] at ho95; rw [← Ny305.out] at ho95))
              have n0_ := Aside0.mk (Kd.R_elder' (Cmp.rr HO_271000.out) (Kd.R_base ho95) hb)
              have n1_ := Aside0.mk (Kd.R_lower (Kd.R_newB (Kd.R_new' ho95 (Kd.R_lt (Cmp.rr HO_271000.out))) (g := gb279) (o := .cells #[.int .i64 a1, .int .i64 a2, .int .i64 1, .bool false] 64 (0, 0)) (Cmp.b BK279.out)) (below_size (Cmp.g HB.out)))
              have n2_ := Aside0.mk (blk_below (Cmp.b BK261.out) hb)
              have n3_ := Aside0.mk (blk_below (Cmp.b BK262.out) hb)
              have n4_ := Aside0.mk (blk_below (Cmp.b BK270.out) hb)
              have n5_ := Aside0.mk (blk_below (Cmp.b BK279.out) hb)
              have n6_ := Aside0.mk (below_step (Cmp.g HB.out) hb)
              clear HO_271000; clear BK261; clear BK262; clear BK270; clear BK279; clear HB; have HO_271000 := n0_; have HO307 := n1_; have BK261 := n2_; have BK262 := n3_; have BK270 := n4_; have BK279 := n5_; have HB := n6_; clear n0_ n1_ n2_ n3_ n4_ n5_ n6_; clear hb ho95
              refine hK.out _ _ ⟨(blk_cell BK261.out 0).trans rfl, (blk_cell BK279.out 0).trans rfl, (blk_cell BK279.out 1).trans rfl, (blk_cell BK279.out 2).trans rfl, (blk_cell BK279.out 3).trans rfl⟩ (fun hHeld => ?_)
              clear hK K
              refine norm_ (a' := ?_) ?_ ?_
              rotate_left
              ·show Act.put _ (some 67) _ = _
               simp only [Act.put, Cmp.s, Cmp.z, Cmp.c, i64_w, i32_w]; rfl
              refine two_ (i := 5) (j := 7) (Ni := some 72) (Nj := some 74) (Cmp.bb 16 7807) (Cmp.bb 16 7903) rfl rfl rfl rfl (two_of HT_.out (by kernel_rfl)) (by decide) (by decide) (fun K hK => ?_) (fun K hK => ?_)
              ·skip
               refine Kd.R_append_rows_step k64 (w0 := w) w.heap.size (by rfl) (.tmp 67) (.tmp 71) 37 64 (.agg #[(.int .i64 0), (.int .i64 0), (.int .i64 0), (.bool false)]) 32 rfl Try.underlying37 info64 rfl (by decide) (by omega) v306 y305 y308 _ _ _ (fun k_ => some k_ ≠ (.slice Ao17 t267.length co17 : Value).ownBlock ∧ k_ ≠ gb279) (fun _ => False) rfl rfl ?aO ?aR (fun _ _ h => h) (fun _ h => h.elim) ?aF ?aB ?aS ?aL ?_
               (case aR => repeat (first | exact (Kd.C_below HR311.out HB.out) | (with_reducible refine Kd.C_alloc ?_ _) | (with_reducible refine Kd.C_drewN ?_ _) | (with_reducible refine Kd.C_drew ?_)))
               (case aB => exact (Cmp.g HB.out))
               (case aF => exact (fun k_ hk => ⟨Kd.fresh' (Kd.R_lt (Cmp.rr HO_271000.out)) k_ hk, Kd.freshB (g := gb279) (o := .cells #[.int .i64 a1, .int .i64 a2, .int .i64 1, .bool false] 64 (0, 0)) (Cmp.b BK279.out) k_ hk⟩))
               (case aO => exact (by (with_reducible repeat (first | apply Kd.R_alloc | apply Kd.R_drewN | apply Kd.R_drew)); exact Kd.R_mono HO307.out (fun _ hk => ⟨hk.1.2, hk.2⟩)))
               (case aS => exact (below_size (Cmp.g HB.out)))
               (case aL => have := LMc85.out; omega)
               intro v313 w96 ho hb hg hat
               rw [← Ny312.out] at ho
               have n0_ := Aside0.mk (Kd.R_after (ok := (fun k_ => k_ ≠ gb279)) (Cmp.rr HO_271000.out) hg hat)
               have n1_ := Aside0.mk (blk_grown (g := gb261) (o := .cells #[.slice A0_0 l0_0.length c0_0] 39 (0, 0)) (Cmp.b BK261.out) hg (Kd.R_ne HO307.out BK261.out (by decide)))
               have n2_ := Aside0.mk (blk_grown (g := gb262) (o := .cells #[.slice none 0 0] 39 (0, 0)) (Cmp.b BK262.out) hg (Kd.R_ne HO307.out BK262.out (by decide)))
               have n3_ := Aside0.mk (blk_grown (g := gb270) (o := .cells #[.slice Ao17 t267.length co17] 39 (0, 0)) (Cmp.b BK270.out) hg (Kd.R_ne HO307.out BK270.out (by decide)))
               have n4_ := Aside0.mk (blk_grown (g := gb279) (o := .cells #[.int .i64 a1, .int .i64 a2, .int .i64 1, .bool false] 64 (0, 0)) (Cmp.b BK279.out) hg (Kd.R_away HO307.out (fun _ hk => hk.2)))
               have n5_ := Aside0.mk (hb)
               have n6_ := Aside0.mk (ho)
               clear HO_271000; clear BK261; clear BK262; clear BK270; clear BK279; clear HB; clear HO307; have HO_271000 := n0_; have BK261 := n1_; have BK262 := n2_; have BK270 := n3_; have BK279 := n4_; have HB := n5_; have HO314 := n6_; clear n0_ n1_ n2_ n3_ n4_ n5_ n6_; clear ho hb hg hat
               refine hK.out _ _ ⟨(blk_cell BK261.out 0).trans rfl, (blk_cell BK279.out 0).trans rfl, (blk_cell BK279.out 1).trans rfl, (blk_cell BK279.out 2).trans rfl, (blk_cell BK279.out 3).trans rfl⟩ (fun hHeld => ?_)
               clear hK K
               refine norm_ (a' := ?_) ?_ ?_
               rotate_left
               ·show Act.put _ (some 72) _ = _
                simp only [Act.put, Cmp.s, Cmp.z, Cmp.c, i64_w, i32_w]; rfl
               refine one_ (i := 7) (N := some 74) (Cmp.bb 16 7935) rfl rfl (one_of HT_.out (by kernel_rfl)) (by decide) (fun K hK => ?_)
               refine Kd.R_lit_step k64 _ 64 ?hg (N := 74) ?hd (xs := ([(⟨a1, a2, 1, false⟩ : S64)] : List (S64))) (inner := [.int .i64 a1, .int .i64 a2, .int .i64 1, .bool false]) (ok := fun _ => True) (okp := fun _ => True) ?hr ?hp (fun _ hk => hk) trivial (Below.refl _ _) (Nat.le_refl _) (by simp) ?_; (case hd => rfl); (case hg => rfl); (case hr => first | (go_simp; done) | (go_simp; rfl)); (case hp => exact (Reps.c4 (show Kd.M k64 _ _ _ (⟨a1, a2, 1, false⟩ : S64) [.int .i64 a1, .int .i64 a2, .int .i64 1, .bool false] from (k64_mkM _ _ _ (⟨a1, a2, 1, false⟩ : S64) )) (Reps.none _ _)))
               intro v316 w97 ho98 hb hg_ hnew_
               clear hg_ hnew_
               (first | rw [← Ny315.out] at ho98 | (simp only [Int.reduceToNat] at ho98; rw [← Ny315.out] at ho98))
               have n0_ := Aside0.mk (Kd.R_elder' (Cmp.rr HO_271000.out) (Kd.R_base ho98) hb)
               have n1_ := Aside0.mk (Kd.R_elder' (Cmp.rr HO314.out) (Kd.R_base ho98) hb)
               have n2_ := Aside0.mk (Kd.R_lower (Kd.R_newB (Kd.R_new' (Kd.R_new' ho98 (Kd.R_lt (Cmp.rr HO_271000.out))) (Kd.R_lt (Cmp.rr HO314.out))) (g := gb279) (o := .cells #[.int .i64 a1, .int .i64 a2, .int .i64 1, .bool false] 64 (0, 0)) (Cmp.b BK279.out)) (below_size (Cmp.g HB.out)))
               have n3_ := Aside0.mk (blk_below (Cmp.b BK261.out) hb)
               have n4_ := Aside0.mk (blk_below (Cmp.b BK262.out) hb)
               have n5_ := Aside0.mk (blk_below (Cmp.b BK270.out) hb)
               have n6_ := Aside0.mk (blk_below (Cmp.b BK279.out) hb)
               have n7_ := Aside0.mk (below_step (Cmp.g HB.out) hb)
               clear HO_271000; clear HO314; clear BK261; clear BK262; clear BK270; clear BK279; clear HB; have HO_271000 := n0_; have HO314 := n1_; have HO317 := n2_; have BK261 := n3_; have BK262 := n4_; have BK270 := n5_; have BK279 := n6_; have HB := n7_; clear n0_ n1_ n2_ n3_ n4_ n5_ n6_ n7_; clear hb ho98
               refine hK.out _ _ ⟨(blk_cell BK261.out 0).trans rfl, (blk_cell BK279.out 0).trans rfl, (blk_cell BK279.out 1).trans rfl, (blk_cell BK279.out 2).trans rfl, (blk_cell BK279.out 3).trans rfl⟩ (fun hHeld => ?_)
               clear hK K
               refine norm_ (a' := ?_) ?_ ?_
               rotate_left
               ·show Act.put _ (some 74) _ = _
                simp only [Act.put, Cmp.s, Cmp.z, Cmp.c, i64_w, i32_w]; rfl
               exact norm_ (by simp only [putAll, Act.put, List.setIfInBounds_toArray, List.set_cons_zero, List.set_cons_succ]) (hCont (v306, v313, v316) _ ⟨hHeld, (by (with_reducible repeat (first | apply Kd.R_alloc | apply Kd.R_drewN | apply Kd.R_drew)); exact Kd.R_mono HO314.out (fun _ hk => ⟨hk.2, ⟨hk.1.1, hk.1.2⟩⟩)), (by (with_reducible repeat (first | apply Kd.R_alloc | apply Kd.R_drewN | apply Kd.R_drew)); exact Kd.R_mono HO317.out (fun _ hk => ⟨hk.1.2, ⟨hk.1.1.2, hk.2⟩⟩)), (by (with_reducible repeat (first | apply Kd.R_alloc | apply Kd.R_drewN | apply Kd.R_drew)); exact Kd.R_mono HO_271000.out (fun _ hk => ⟨hk.1.2, ⟨hk.2, hk.1.1⟩⟩)), (Cmp.b BK261.out), (Cmp.b BK262.out), (Cmp.b BK270.out), (Cmp.b BK279.out), (Cmp.g HB.out)⟩)
              ·skip
               refine Kd.R_lit_step k64 _ 64 ?hg (N := 74) ?hd (xs := ([(⟨a1, a2, 1, false⟩ : S64)] : List (S64))) (inner := [.int .i64 a1, .int .i64 a2, .int .i64 1, .bool false]) (ok := fun _ => True) (okp := fun _ => True) ?hr ?hp (fun _ hk => hk) trivial (Below.refl _ _) (Nat.le_refl _) (by simp) ?_; (case hd => rfl); (case hg => rfl); (case hr => first | (go_simp; done) | (go_simp; rfl)); (case hp => exact (Reps.c4 (show Kd.M k64 _ _ _ (⟨a1, a2, 1, false⟩ : S64) [.int .i64 a1, .int .i64 a2, .int .i64 1, .bool false] from (k64_mkM _ _ _ (⟨a1, a2, 1, false⟩ : S64) )) (Reps.none _ _)))
               intro v316 w96 ho97 hb hg_ hnew_
               clear hg_ hnew_
               (first | rw [← Ny315.out] at ho97 | (simp only [Int.reduceToNat] at ho97; rw [← Ny315.out] at ho97))
               have n0_ := Aside0.mk (Kd.R_elder' (Cmp.rr HO_271000.out) (Kd.R_base ho97) hb)
               have n1_ := Aside0.mk (Kd.R_elder' (Cmp.rr HO307.out) (Kd.R_base ho97) hb)
               have n2_ := Aside0.mk (Kd.R_lower (Kd.R_newB (Kd.R_new' (Kd.R_new' ho97 (Kd.R_lt (Cmp.rr HO_271000.out))) (Kd.R_lt (Cmp.rr HO307.out))) (g := gb279) (o := .cells #[.int .i64 a1, .int .i64 a2, .int .i64 1, .bool false] 64 (0, 0)) (Cmp.b BK279.out)) (below_size (Cmp.g HB.out)))
               have n3_ := Aside0.mk (blk_below (Cmp.b BK261.out) hb)
               have n4_ := Aside0.mk (blk_below (Cmp.b BK262.out) hb)
               have n5_ := Aside0.mk (blk_below (Cmp.b BK270.out) hb)
               have n6_ := Aside0.mk (blk_below (Cmp.b BK279.out) hb)
               have n7_ := Aside0.mk (below_step (Cmp.g HB.out) hb)
               clear HO_271000; clear HO307; clear BK261; clear BK262; clear BK270; clear BK279; clear HB; have HO_271000 := n0_; have HO307 := n1_; have HO317 := n2_; have BK261 := n3_; have BK262 := n4_; have BK270 := n5_; have BK279 := n6_; have HB := n7_; clear n0_ n1_ n2_ n3_ n4_ n5_ n6_ n7_; clear hb ho97
               refine hK.out _ _ ⟨(blk_cell BK261.out 0).trans rfl, (blk_cell BK279.out 0).trans rfl, (blk_cell BK279.out 1).trans rfl, (blk_cell BK279.out 2).trans rfl, (blk_cell BK279.out 3).trans rfl⟩ (fun hHeld => ?_)
               clear hK K
               refine norm_ (a' := ?_) ?_ ?_
               rotate_left
               ·show Act.put _ (some 74) _ = _
                simp only [Act.put, Cmp.s, Cmp.z, Cmp.c, i64_w, i32_w]; rfl
               refine one_ (i := 5) (N := some 72) (Cmp.bb 16 7935) rfl rfl (one_of HT_.out (by kernel_rfl)) (by decide) (fun K hK => ?_)
               refine Kd.R_append_rows_step k64 (w0 := w) w.heap.size (by rfl) (.tmp 67) (.tmp 71) 37 64 (.agg #[(.int .i64 0), (.int .i64 0), (.int .i64 0), (.bool false)]) 32 rfl Try.underlying37 info64 rfl (by decide) (by omega) v306 y305 y308 _ _ _ (fun k_ => some k_ ≠ (.slice Ao17 t267.length co17 : Value).ownBlock ∧ some k_ ≠ (v316 : Value).ownBlock ∧ k_ ≠ gb279) (fun _ => False) rfl rfl ?aO ?aR (fun _ _ h => h) (fun _ h => h.elim) ?aF ?aB ?aS ?aL ?_
               (case aR => repeat (first | exact (Kd.C_below HR311.out HB.out) | (with_reducible refine Kd.C_alloc ?_ _) | (with_reducible refine Kd.C_drewN ?_ _) | (with_reducible refine Kd.C_drew ?_)))
               (case aB => exact (Cmp.g HB.out))
               (case aF => exact (fun k_ hk => ⟨Kd.fresh' (Kd.R_lt (Cmp.rr HO_271000.out)) k_ hk, Kd.fresh' (Kd.R_lt (Cmp.rr HO317.out)) k_ hk, Kd.freshB (g := gb279) (o := .cells #[.int .i64 a1, .int .i64 a2, .int .i64 1, .bool false] 64 (0, 0)) (Cmp.b BK279.out) k_ hk⟩))
               (case aO => exact (by (with_reducible repeat (first | apply Kd.R_alloc | apply Kd.R_drewN | apply Kd.R_drew)); exact Kd.R_mono HO307.out (fun _ hk => ⟨hk.1.1.2, ⟨hk.2, hk.1.2⟩⟩)))
               (case aS => exact (below_size (Cmp.g HB.out)))
               (case aL => have := LMc85.out; omega)
               intro v313 w98 ho hb hg hat
               rw [← Ny312.out] at ho
               have n0_ := Aside0.mk (Kd.R_after (ok := (fun k_ => some k_ ≠ (v316 : Value).ownBlock ∧ k_ ≠ gb279)) (by (with_reducible repeat (first | apply Kd.R_alloc | apply Kd.R_drewN | apply Kd.R_drew)); exact Kd.R_mono HO_271000.out (fun _ hk => ⟨⟨hk.2, hk.1.1⟩, hk.1.2⟩)) hg hat)
               have n1_ := Aside0.mk (blk_grown (g := gb261) (o := .cells #[.slice A0_0 l0_0.length c0_0] 39 (0, 0)) (Cmp.b BK261.out) hg (Kd.R_ne HO307.out BK261.out (by decide)))
               have n2_ := Aside0.mk (blk_grown (g := gb262) (o := .cells #[.slice none 0 0] 39 (0, 0)) (Cmp.b BK262.out) hg (Kd.R_ne HO307.out BK262.out (by decide)))
               have n3_ := Aside0.mk (blk_grown (g := gb270) (o := .cells #[.slice Ao17 t267.length co17] 39 (0, 0)) (Cmp.b BK270.out) hg (Kd.R_ne HO307.out BK270.out (by decide)))
               have n4_ := Aside0.mk (blk_grown (g := gb279) (o := .cells #[.int .i64 a1, .int .i64 a2, .int .i64 1, .bool false] 64 (0, 0)) (Cmp.b BK279.out) hg (Kd.R_away HO307.out (fun _ hk => hk.1.2)))
               have n5_ := Aside0.mk (Kd.R_after (ok := (fun k_ => some k_ ≠ (.slice Ao17 t267.length co17 : Value).ownBlock ∧ k_ ≠ gb279)) (by (with_reducible repeat (first | apply Kd.R_alloc | apply Kd.R_drewN | apply Kd.R_drew)); exact Kd.R_mono HO317.out (fun _ hk => ⟨⟨hk.1.1.2, hk.2⟩, hk.1.2⟩)) hg hat)
               have n6_ := Aside0.mk (hb)
               have n7_ := Aside0.mk (ho)
               clear HO_271000; clear BK261; clear BK262; clear BK270; clear BK279; clear HO317; clear HB; clear HO307; have HO_271000 := n0_; have BK261 := n1_; have BK262 := n2_; have BK270 := n3_; have BK279 := n4_; have HO317 := n5_; have HB := n6_; have HO314 := n7_; clear n0_ n1_ n2_ n3_ n4_ n5_ n6_ n7_; clear ho hb hg hat
               refine hK.out _ _ ⟨(blk_cell BK261.out 0).trans rfl, (blk_cell BK279.out 0).trans rfl, (blk_cell BK279.out 1).trans rfl, (blk_cell BK279.out 2).trans rfl, (blk_cell BK279.out 3).trans rfl⟩ (fun hHeld => ?_)
               clear hK K
               refine norm_ (a' := ?_) ?_ ?_
               rotate_left
               ·show Act.put _ (some 72) _ = _
                simp only [Act.put, Cmp.s, Cmp.z, Cmp.c, i64_w, i32_w]; rfl
               exact norm_ (by simp only [putAll, Act.put, List.setIfInBounds_toArray, List.set_cons_zero, List.set_cons_succ]) (hCont (v306, v313, v316) _ ⟨hHeld, (by (with_reducible repeat (first | apply Kd.R_alloc | apply Kd.R_drewN | apply Kd.R_drew)); exact Kd.R_mono HO314.out (fun _ hk => ⟨hk.2.1, ⟨hk.1, hk.2.2⟩⟩)), (by (with_reducible repeat (first | apply Kd.R_alloc | apply Kd.R_drewN | apply Kd.R_drew)); exact Kd.R_mono HO317.out (fun _ hk => ⟨hk.2, ⟨hk.1.1, hk.1.2⟩⟩)), (by (with_reducible repeat (first | apply Kd.R_alloc | apply Kd.R_drewN | apply Kd.R_drew)); exact Kd.R_mono HO_271000.out (fun _ hk => ⟨hk.2, ⟨hk.1.1, hk.1.2⟩⟩)), (Cmp.b BK261.out), (Cmp.b BK262.out), (Cmp.b BK270.out), (Cmp.b BK279.out), (Cmp.g HB.out)⟩)
             ·skip
              refine Kd.R_lit_step k64 _ 64 ?hg (N := 74) ?hd (xs := ([(⟨a1, a2, 1, false⟩ : S64)] : List (S64))) (inner := [.int .i64 a1, .int .i64 a2, .int .i64 1, .bool false]) (ok := fun _ => True) (okp := fun _ => True) ?hr ?hp (fun _ hk => hk) trivial (Below.refl _ _) (Nat.le_refl _) (by simp) ?_; (case hd => rfl); (case hg => rfl); (case hr => first | (go_simp; done) | (go_simp; rfl)); (case hp => exact (Reps.c4 (show Kd.M k64 _ _ _ (⟨a1, a2, 1, false⟩ : S64) [.int .i64 a1, .int .i64 a2, .int .i64 1, .bool false] from (k64_mkM _ _ _ (⟨a1, a2, 1, false⟩ : S64) )) (Reps.none _ _)))
              intro v316 w94 ho95 hb hg_ hnew_
              clear hg_ hnew_
              (first | rw [← Ny315.out] at ho95 | (simp only [Int.reduceToNat] at ho95; rw [← Ny315.out] at ho95))
              have n0_ := Aside0.mk (Kd.R_elder' (Cmp.rr HO_271000.out) (Kd.R_base ho95) hb)
              have n1_ := Aside0.mk (Kd.R_lower (Kd.R_newB (Kd.R_new' ho95 (Kd.R_lt (Cmp.rr HO_271000.out))) (g := gb279) (o := .cells #[.int .i64 a1, .int .i64 a2, .int .i64 1, .bool false] 64 (0, 0)) (Cmp.b BK279.out)) (below_size (Cmp.g HB.out)))
              have n2_ := Aside0.mk (blk_below (Cmp.b BK261.out) hb)
              have n3_ := Aside0.mk (blk_below (Cmp.b BK262.out) hb)
              have n4_ := Aside0.mk (blk_below (Cmp.b BK270.out) hb)
              have n5_ := Aside0.mk (blk_below (Cmp.b BK279.out) hb)
              have n6_ := Aside0.mk (below_step (Cmp.g HB.out) hb)
              clear HO_271000; clear BK261; clear BK262; clear BK270; clear BK279; clear HB; have HO_271000 := n0_; have HO317 := n1_; have BK261 := n2_; have BK262 := n3_; have BK270 := n4_; have BK279 := n5_; have HB := n6_; clear n0_ n1_ n2_ n3_ n4_ n5_ n6_; clear hb ho95
              refine hK.out _ _ ⟨(blk_cell BK261.out 0).trans rfl, (blk_cell BK279.out 0).trans rfl, (blk_cell BK279.out 1).trans rfl, (blk_cell BK279.out 2).trans rfl, (blk_cell BK279.out 3).trans rfl⟩ (fun hHeld => ?_)
              clear hK K
              refine norm_ (a' := ?_) ?_ ?_
              rotate_left
              ·show Act.put _ (some 74) _ = _
               simp only [Act.put, Cmp.s, Cmp.z, Cmp.c, i64_w, i32_w]; rfl
              refine one_ (i := 0) (N := some 67) (Cmp.bb 16 7903) rfl rfl (one_of HT_.out (by kernel_rfl)) (by decide) (fun K hK => ?_)
              refine Kd.R_lit_step k64 _ 64 ?hg (N := 67) ?hd (xs := ([] : List (S64))) (inner := []) (ok := fun _ => True) (okp := fun _ => True) ?hr ?hp (fun _ hk => hk) trivial (Below.refl _ _) (Nat.le_refl _) (by simp) ?_; (case hd => rfl); (case hg => rfl); (case hr => first | (go_simp; done) | (go_simp; rfl)); (case hp => exact (Reps.none _ _))
              intro v306 w96 ho97 hb hg_ hnew_
              clear hg_ hnew_
              (first | rw [← Ny305.out] at ho97 | (simp only [Int.reduceToNat] at ho97; rw [← Ny305.out] at ho97))
              have n0_ := Aside0.mk (Kd.R_elder' (Cmp.rr HO_271000.out) (Kd.R_base ho97) hb)
              have n1_ := Aside0.mk (Kd.R_elder' (Cmp.rr HO317.out) (Kd.R_base ho97) hb)
              have n2_ := Aside0.mk (Kd.R_lower (Kd.R_newB (Kd.R_new' (Kd.R_new' ho97 (Kd.R_lt (Cmp.rr HO_271000.out))) (Kd.R_lt (Cmp.rr HO317.out))) (g := gb279) (o := .cells #[.int .i64 a1, .int .i64 a2, .int .i64 1, .bool false] 64 (0, 0)) (Cmp.b BK279.out)) (below_size (Cmp.g HB.out)))
              have n3_ := Aside0.mk (blk_below (Cmp.b BK261.out) hb)
              have n4_ := Aside0.mk (blk_below (Cmp.b BK262.out) hb)
              have n5_ := Aside0.mk (blk_below (Cmp.b BK270.out) hb)
              have n6_ := Aside0.mk (blk_below (Cmp.b BK279.out) hb)
              have n7_ := Aside0.mk (below_step (Cmp.g HB.out) hb)
              clear HO_271000; clear HO317; clear BK261; clear BK262; clear BK270; clear BK279; clear HB; have HO_271000 := n0_; have HO317 := n1_; have HO307 := n2_; have BK261 := n3_; have BK262 := n4_; have BK270 := n5_; have BK279 := n6_; have HB := n7_; clear n0_ n1_ n2_ n3_ n4_ n5_ n6_ n7_; clear hb ho97
              refine hK.out _ _ ⟨(blk_cell BK261.out 0).trans rfl, (blk_cell BK279.out 0).trans rfl, (blk_cell BK279.out 1).trans rfl, (blk_cell BK279.out 2).trans rfl, (blk_cell BK279.out 3).trans rfl⟩ (fun hHeld => ?_)
              clear hK K
              refine norm_ (a' := ?_) ?_ ?_
              rotate_left
              ·show Act.put _ (some 67) _ = _
               simp only [Act.put, Cmp.s, Cmp.z, Cmp.c, i64_w, i32_w]; rfl
              refine one_ (i := 5) (N := some 72) (Cmp.bb 16 7935) rfl rfl (one_of HT_.out (by kernel_rfl)) (by decide) (fun K hK => ?_)
              refine Kd.R_append_rows_step k64 (w0 := w) w.heap.size (by rfl) (.tmp 67) (.tmp 71) 37 64 (.agg #[(.int .i64 0), (.int .i64 0), (.int .i64 0), (.bool false)]) 32 rfl Try.underlying37 info64 rfl (by decide) (by omega) v306 y305 y308 _ _ _ (fun k_ => some k_ ≠ (.slice Ao17 t267.length co17 : Value).ownBlock ∧ some k_ ≠ (v316 : Value).ownBlock ∧ k_ ≠ gb279) (fun _ => False) rfl rfl ?aO ?aR (fun _ _ h => h) (fun _ h => h.elim) ?aF ?aB ?aS ?aL ?_
              (case aR => repeat (first | exact (Kd.C_below HR311.out HB.out) | (with_reducible refine Kd.C_alloc ?_ _) | (with_reducible refine Kd.C_drewN ?_ _) | (with_reducible refine Kd.C_drew ?_)))
              (case aB => exact (Cmp.g HB.out))
              (case aF => exact (fun k_ hk => ⟨Kd.fresh' (Kd.R_lt (Cmp.rr HO_271000.out)) k_ hk, Kd.fresh' (Kd.R_lt (Cmp.rr HO317.out)) k_ hk, Kd.freshB (g := gb279) (o := .cells #[.int .i64 a1, .int .i64 a2, .int .i64 1, .bool false] 64 (0, 0)) (Cmp.b BK279.out) k_ hk⟩))
              (case aO => exact (by (with_reducible repeat (first | apply Kd.R_alloc | apply Kd.R_drewN | apply Kd.R_drew)); exact Kd.R_mono HO307.out (fun _ hk => ⟨hk.1.1.2, ⟨hk.1.2, hk.2⟩⟩)))
              (case aS => exact (below_size (Cmp.g HB.out)))
              (case aL => have := LMc85.out; omega)
              intro v313 w98 ho hb hg hat
              rw [← Ny312.out] at ho
              have n0_ := Aside0.mk (Kd.R_after (ok := (fun k_ => some k_ ≠ (v316 : Value).ownBlock ∧ k_ ≠ gb279)) (by (with_reducible repeat (first | apply Kd.R_alloc | apply Kd.R_drewN | apply Kd.R_drew)); exact Kd.R_mono HO_271000.out (fun _ hk => ⟨⟨hk.1.2, hk.1.1⟩, hk.2⟩)) hg hat)
              have n1_ := Aside0.mk (blk_grown (g := gb261) (o := .cells #[.slice A0_0 l0_0.length c0_0] 39 (0, 0)) (Cmp.b BK261.out) hg (Kd.R_ne HO307.out BK261.out (by decide)))
              have n2_ := Aside0.mk (blk_grown (g := gb262) (o := .cells #[.slice none 0 0] 39 (0, 0)) (Cmp.b BK262.out) hg (Kd.R_ne HO307.out BK262.out (by decide)))
              have n3_ := Aside0.mk (blk_grown (g := gb270) (o := .cells #[.slice Ao17 t267.length co17] 39 (0, 0)) (Cmp.b BK270.out) hg (Kd.R_ne HO307.out BK270.out (by decide)))
              have n4_ := Aside0.mk (blk_grown (g := gb279) (o := .cells #[.int .i64 a1, .int .i64 a2, .int .i64 1, .bool false] 64 (0, 0)) (Cmp.b BK279.out) hg (Kd.R_away HO307.out (fun _ hk => hk.2)))
              have n5_ := Aside0.mk (Kd.R_after (ok := (fun k_ => some k_ ≠ (.slice Ao17 t267.length co17 : Value).ownBlock ∧ k_ ≠ gb279)) (by (with_reducible repeat (first | apply Kd.R_alloc | apply Kd.R_drewN | apply Kd.R_drew)); exact Kd.R_mono HO317.out (fun _ hk => ⟨⟨hk.1.1.2, hk.1.2⟩, hk.2⟩)) hg hat)
              have n6_ := Aside0.mk (hb)
              have n7_ := Aside0.mk (ho)
              clear HO_271000; clear BK261; clear BK262; clear BK270; clear BK279; clear HO317; clear HB; clear HO307; have HO_271000 := n0_; have BK261 := n1_; have BK262 := n2_; have BK270 := n3_; have BK279 := n4_; have HO317 := n5_; have HB := n6_; have HO314 := n7_; clear n0_ n1_ n2_ n3_ n4_ n5_ n6_ n7_; clear ho hb hg hat
              refine hK.out _ _ ⟨(blk_cell BK261.out 0).trans rfl, (blk_cell BK279.out 0).trans rfl, (blk_cell BK279.out 1).trans rfl, (blk_cell BK279.out 2).trans rfl, (blk_cell BK279.out 3).trans rfl⟩ (fun hHeld => ?_)
              clear hK K
              refine norm_ (a' := ?_) ?_ ?_
              rotate_left
              ·show Act.put _ (some 72) _ = _
               simp only [Act.put, Cmp.s, Cmp.z, Cmp.c, i64_w, i32_w]; rfl
              exact norm_ (by simp only [putAll, Act.put, List.setIfInBounds_toArray, List.set_cons_zero, List.set_cons_succ]) (hCont (v306, v313, v316) _ ⟨hHeld, (by (with_reducible repeat (first | apply Kd.R_alloc | apply Kd.R_drewN | apply Kd.R_drew)); exact Kd.R_mono HO314.out (fun _ hk => ⟨hk.2.1, ⟨hk.1, hk.2.2⟩⟩)), (by (with_reducible repeat (first | apply Kd.R_alloc | apply Kd.R_drewN | apply Kd.R_drew)); exact Kd.R_mono HO317.out (fun _ hk => ⟨hk.2, ⟨hk.1.1, hk.1.2⟩⟩)), (by (with_reducible repeat (first | apply Kd.R_alloc | apply Kd.R_drewN | apply Kd.R_drew)); exact Kd.R_mono HO_271000.out (fun _ hk => ⟨hk.2, ⟨hk.1.1, hk.1.2⟩⟩)), (Cmp.b BK261.out), (Cmp.b BK262.out), (Cmp.b BK270.out), (Cmp.b BK279.out), (Cmp.g HB.out)⟩)
            rintro ⟨v306, v313, v316⟩ w99 ⟨hS_, h0_, h1_, h2_, h3_, h4_, h5_, h6_, h7_⟩
            have n0_ : Aside0 (Kd.R k64 64 w99 w.heap.size (fun k_ => some k_ ≠ (v316 : Value).ownBlock ∧ some k_ ≠ (.slice Ao17 t267.length co17 : Value).ownBlock ∧ k_ ≠ gb279) v313 y312) := ⟨h0_⟩
            have n1_ : Aside0 (Kd.R k64 64 w99 w.heap.size (fun k_ => some k_ ≠ (v313 : Value).ownBlock ∧ some k_ ≠ (.slice Ao17 t267.length co17 : Value).ownBlock ∧ k_ ≠ gb279) v316 y315) := ⟨h1_⟩
            have n2_ : Aside0 (Kd.R k64 64 w99 w.heap.size (fun k_ => some k_ ≠ (v313 : Value).ownBlock ∧ some k_ ≠ (v316 : Value).ownBlock ∧ k_ ≠ gb279) (.slice Ao17 t267.length co17) t267) := ⟨h2_⟩
            have n3_ : Aside0 (w99.heap[gb261]? = some (.cells #[.slice A0_0 l0_0.length c0_0] 39 (0, 0))) := ⟨h3_⟩
            have n4_ : Aside0 (w99.heap[gb262]? = some (.cells #[.slice none 0 0] 39 (0, 0))) := ⟨h4_⟩
            have n5_ : Aside0 (w99.heap[gb270]? = some (.cells #[.slice Ao17 t267.length co17] 39 (0, 0))) := ⟨h5_⟩
            have n6_ : Aside0 (w99.heap[gb279]? = some (.cells #[.int .i64 a1, .int .i64 a2, .int .i64 1, .bool false] 64 (0, 0))) := ⟨h6_⟩
            have n7_ : Aside0 (Below w.heap.size w w99) := ⟨h7_⟩
            clear HO_271000; clear BK261; clear BK262; clear BK270; clear BK279; clear HB; clear h0_ h1_ h2_ h3_ h4_ h5_ h6_ h7_; have HO314 := n0_; have HO317 := n1_; have HO_271000 := n2_; have BK261 := n3_; have BK262 := n4_; have BK270 := n5_; have BK279 := n6_; have HB := n7_; clear n0_ n1_ n2_ n3_ n4_ n5_ n6_ n7_
            have hHeld : w99.cell? ⟨gb261, 0, none⟩ = some (.slice A0_0 l0_0.length c0_0) ∧ w99.cell? ⟨gb279, 0, none⟩ = some (.int .i64 a1) ∧ w99.cell? ⟨gb279, 1, none⟩ = some (.int .i64 a2) ∧ w99.cell? ⟨gb279, 2, none⟩ = some (.int .i64 1) ∧ w99.cell? ⟨gb279, 3, none⟩ = some (.bool false) := hS_
            obtain ⟨Ao101, co101, eo101⟩ := Kd.R_slice HO317.out
            (first | subst eo101 | (injection eo101 with f1_ f2_ f3_; have f4_ := f1_.symm; have f5_ := f3_.symm; clear f1_ f2_ f3_; subst f4_; subst f5_))
            refine norm_ (a' := ?_) ?_ ?_
            rotate_left
            ·simp only [putAll, Act.put, List.setIfInBounds_toArray, List.set_cons_zero, List.set_cons_succ]; rfl
            refine one_ (i := 8) (N := some 75) (Cmp.bm 13 3) rfl rfl (one_of HT_.out (by kernel_rfl)) (by decide) (fun K hK => ?_)
            refine Kd.R_append_rows_step k64 (w0 := w) w.heap.size (by rfl) (.tmp 72) (.tmp 74) 37 64 (.agg #[(.int .i64 0), (.int .i64 0), (.int .i64 0), (.bool false)]) 32 rfl Try.underlying37 info64 rfl (by decide) (by omega) v313 y312 y315 _ _ _ (fun k_ => some k_ ≠ (.slice Ao17 t267.length co17 : Value).ownBlock ∧ some k_ ≠ (.slice Ao101 y315.length co101 : Value).ownBlock ∧ k_ ≠ gb279) (fun _ => False) rfl rfl ?aO ?aR (fun _ _ h => h) (fun _ h => h.elim) ?aF ?aB ?aS ?aL ?_
            (case aR => repeat (first | exact (Kd.R_reads' HO317.out).2.2 | (with_reducible refine Kd.C_alloc ?_ _) | (with_reducible refine Kd.C_drewN ?_ _) | (with_reducible refine Kd.C_drew ?_)))
            (case aB => exact (Cmp.g HB.out))
            (case aF => exact (fun k_ hk => ⟨Kd.fresh' (Kd.R_lt (Cmp.rr HO_271000.out)) k_ hk, Kd.fresh' (Kd.R_lt (Cmp.rr HO317.out)) k_ hk, Kd.freshB (g := gb279) (o := .cells #[.int .i64 a1, .int .i64 a2, .int .i64 1, .bool false] 64 (0, 0)) (Cmp.b BK279.out) k_ hk⟩))
            (case aO => exact (by (with_reducible repeat (first | apply Kd.R_alloc | apply Kd.R_drewN | apply Kd.R_drew)); exact Kd.R_mono HO314.out (fun _ hk => ⟨hk.2.1, ⟨hk.1, hk.2.2⟩⟩)))
            (case aS => exact (below_size (Cmp.g HB.out)))
            (case aL => have := LMc86.out; omega)
            intro v319 w100 ho hb hg hat
            rw [← Ny318.out] at ho
            have n0_ := Aside0.mk (Kd.R_after (ok := (fun k_ => some k_ ≠ (.slice Ao101 y315.length co101 : Value).ownBlock ∧ k_ ≠ gb279)) (by (with_reducible repeat (first | apply Kd.R_alloc | apply Kd.R_drewN | apply Kd.R_drew)); exact Kd.R_mono HO_271000.out (fun _ hk => ⟨⟨hk.2.1, hk.2.2⟩, hk.1⟩)) hg hat)
            have n1_ := Aside0.mk (blk_grown (g := gb261) (o := .cells #[.slice A0_0 l0_0.length c0_0] 39 (0, 0)) (Cmp.b BK261.out) hg (Kd.R_ne HO314.out BK261.out (by decide)))
            have n2_ := Aside0.mk (blk_grown (g := gb262) (o := .cells #[.slice none 0 0] 39 (0, 0)) (Cmp.b BK262.out) hg (Kd.R_ne HO314.out BK262.out (by decide)))
            have n3_ := Aside0.mk (blk_grown (g := gb270) (o := .cells #[.slice Ao17 t267.length co17] 39 (0, 0)) (Cmp.b BK270.out) hg (Kd.R_ne HO314.out BK270.out (by decide)))
            have n4_ := Aside0.mk (blk_grown (g := gb279) (o := .cells #[.int .i64 a1, .int .i64 a2, .int .i64 1, .bool false] 64 (0, 0)) (Cmp.b BK279.out) hg (Kd.R_away HO314.out (fun _ hk => hk.2.2)))
            have n5_ := Aside0.mk (Kd.R_after (ok := (fun k_ => some k_ ≠ (.slice Ao17 t267.length co17 : Value).ownBlock ∧ k_ ≠ gb279)) (by (with_reducible repeat (first | apply Kd.R_alloc | apply Kd.R_drewN | apply Kd.R_drew)); exact Kd.R_mono HO317.out (fun _ hk => ⟨⟨hk.2.1, hk.2.2⟩, hk.1⟩)) hg hat)
            have n6_ := Aside0.mk (hb)
            have n7_ := Aside0.mk (ho)
            clear HO_271000; clear BK261; clear BK262; clear BK270; clear BK279; clear HO317; clear HB; clear HO314; have HO_271000 := n0_; have BK261 := n1_; have BK262 := n2_; have BK270 := n3_; have BK279 := n4_; have HO317 := n5_; have HB := n6_; have HO320 := n7_; clear n0_ n1_ n2_ n3_ n4_ n5_ n6_ n7_; clear ho hb hg hat
            refine hK.out _ _ ⟨(blk_cell BK261.out 0).trans rfl, (blk_cell BK279.out 0).trans rfl, (blk_cell BK279.out 1).trans rfl, (blk_cell BK279.out 2).trans rfl, (blk_cell BK279.out 3).trans rfl⟩ (fun hHeld => ?_)
            clear hK K
            refine norm_ (a' := ?_) ?_ ?_
            rotate_left
            ·show Act.put _ (some 75) _ = _
             simp only [Act.put, Cmp.s, Cmp.z, Cmp.c, i64_w, i32_w]; rfl
            refine one_ (i := 13) (N := some 80) (Cmp.bm 14 2) rfl rfl (one_of HT_.out (by kernel_rfl)) (by decide) (fun K hK => ?_)
            refine Kd.R_append_rows_step k64 (w0 := w) w.heap.size (by rfl) (.tmp 75) (.tmp 79) 37 64 (.agg #[(.int .i64 0), (.int .i64 0), (.int .i64 0), (.bool false)]) 32 rfl Try.underlying37 info64 rfl (by decide) (by omega) v319 y318 y321 _ _ _ (fun k_ => some k_ ≠ (.slice Ao17 t267.length co17 : Value).ownBlock ∧ some k_ ≠ (.slice Ao101 y315.length co101 : Value).ownBlock ∧ k_ ≠ gb279) (fun _ => False) rfl rfl ?aO ?aR (fun _ _ h => h) (fun _ h => h.elim) ?aF ?aB ?aS ?aL ?_
            (case aR => repeat (first | exact (Kd.C_below HR324.out HB.out) | (with_reducible refine Kd.C_alloc ?_ _) | (with_reducible refine Kd.C_drewN ?_ _) | (with_reducible refine Kd.C_drew ?_)))
            (case aB => exact (Cmp.g HB.out))
            (case aF => exact (fun k_ hk => ⟨Kd.fresh' (Kd.R_lt (Cmp.rr HO_271000.out)) k_ hk, Kd.fresh' (Kd.R_lt (Cmp.rr HO317.out)) k_ hk, Kd.freshB (g := gb279) (o := .cells #[.int .i64 a1, .int .i64 a2, .int .i64 1, .bool false] 64 (0, 0)) (Cmp.b BK279.out) k_ hk⟩))
            (case aO => exact (Cmp.rr HO320.out))
            (case aS => exact (below_size (Cmp.g HB.out)))
            (case aL => have := LMc89.out; omega)
            intro v326 w102 ho hb hg hat
            rw [← Ny325.out] at ho
            have n0_ := Aside0.mk (Kd.R_after (ok := (fun k_ => some k_ ≠ (.slice Ao101 y315.length co101 : Value).ownBlock ∧ k_ ≠ gb279)) (Cmp.rr HO_271000.out) hg hat)
            have n1_ := Aside0.mk (blk_grown (g := gb261) (o := .cells #[.slice A0_0 l0_0.length c0_0] 39 (0, 0)) (Cmp.b BK261.out) hg (Kd.R_ne HO320.out BK261.out (by decide)))
            have n2_ := Aside0.mk (blk_grown (g := gb262) (o := .cells #[.slice none 0 0] 39 (0, 0)) (Cmp.b BK262.out) hg (Kd.R_ne HO320.out BK262.out (by decide)))
            have n3_ := Aside0.mk (blk_grown (g := gb270) (o := .cells #[.slice Ao17 t267.length co17] 39 (0, 0)) (Cmp.b BK270.out) hg (Kd.R_ne HO320.out BK270.out (by decide)))
            have n4_ := Aside0.mk (blk_grown (g := gb279) (o := .cells #[.int .i64 a1, .int .i64 a2, .int .i64 1, .bool false] 64 (0, 0)) (Cmp.b BK279.out) hg (Kd.R_away HO320.out (fun _ hk => hk.2.2)))
            have n5_ := Aside0.mk (Kd.R_after (ok := (fun k_ => some k_ ≠ (.slice Ao17 t267.length co17 : Value).ownBlock ∧ k_ ≠ gb279)) (Cmp.rr HO317.out) hg hat)
            have n6_ := Aside0.mk (hb)
            have n7_ := Aside0.mk (ho)
            clear HO_271000; clear BK261; clear BK262; clear BK270; clear BK279; clear HO317; clear HB; clear HO320; have HO_271000 := n0_; have BK261 := n1_; have BK262 := n2_; have BK270 := n3_; have BK279 := n4_; have HO317 := n5_; have HB := n6_; have HO327 := n7_; clear n0_ n1_ n2_ n3_ n4_ n5_ n6_ n7_; clear ho hb hg hat
            obtain ⟨Ao103, co103, eo103⟩ := Kd.R_slice HO327.out
            (first | subst eo103 | (injection eo103 with f1_ f2_ f3_; have f4_ := f1_.symm; have f5_ := f3_.symm; clear f1_ f2_ f3_; subst f4_; subst f5_))
            refine hK.out _ _ ⟨(blk_cell BK261.out 0).trans rfl, (blk_cell BK279.out 0).trans rfl, (blk_cell BK279.out 1).trans rfl, (blk_cell BK279.out 2).trans rfl, (blk_cell BK279.out 3).trans rfl⟩ (fun hHeld => ?_)
            clear hK K
            refine norm_ (a' := ?_) ?_ ?_
            rotate_left
            ·show Act.put _ (some 80) _ = _
             simp only [Act.put, Cmp.s, Cmp.z, Cmp.c, i64_w, i32_w]; rfl
            refine Cmp.pu HT_ 14 81 (Cmp.bm 15 1) ?_
            refine one_ (i := 15) (N := none) (Cmp.bm 16 0) rfl rfl (one_of HT_.out (by kernel_rfl)) (by decide) (fun K hK => ?_)
            have hs104 : w102.cell? ⟨gb270, 0, none⟩ = some (.slice Ao17 t267.length co17) := (blk_cell BK270.out 0).trans rfl
            have hfs104 := blk_frozen BK270.out 0; have hns104_0 := NB261_270.out; have hns104_1 := NB262_270.out; have hns104_3 := NB279_270.out; have hms104_0 := NB270_261.out; have hms104_1 := NB270_262.out; have hms104_3 := NB270_279.out
            refine skip_ (w1 := ?_) (by rfl) rfl ?_ ?_
            rotate_left
            ·go_simp; rfl
            refine hK.out _ _ ⟨((cell_far (p := ⟨gb270, _, none⟩) NB261_270.out _).trans (hHeld.1)), ((cell_far (p := ⟨gb270, _, none⟩) NB279_270.out _).trans (hHeld.2.1)), ((cell_far (p := ⟨gb270, _, none⟩) NB279_270.out _).trans (hHeld.2.2.1)), ((cell_far (p := ⟨gb270, _, none⟩) NB279_270.out _).trans (hHeld.2.2.2.1)), ((cell_far (p := ⟨gb270, _, none⟩) NB279_270.out _).trans (hHeld.2.2.2.2))⟩ (fun hHeld => ?_)
            clear hK K
            refine done_ (done_of HT_.out (by kernel_rfl)) ?_
            try go_wp2
            go_meet
            case rel => exact ⟨_, (y325), (.slice Ao103 y325.length co103), H', ⟨by have := HK1.out; first | omega | exact Nat.le_refl _⟩, ⟨by (with_reducible repeat (first | apply Kd.R_alloc | apply Kd.R_drewN | apply Kd.R_drew)); exact Kd.R_mono (Kd.R_far (p := ⟨gb270, 0, none⟩) (Kd.R_types HO327.out BK270.out (by decide)) (fun _ hk => hk.2) (.slice Ao103 y325.length co103)) (fun _ hk => trivial)⟩, ⟨by (with_reducible repeat (first | refine blk_drewN ?_ _ | refine blk_drew ?_ | refine blk_alloc ?_ _)); refine blk_far ?_ NB261_270.out _; (with_reducible repeat (first | refine blk_drewN ?_ _ | refine blk_drew ?_ | refine blk_alloc ?_ _)); exact BK261.out⟩, ⟨by (with_reducible repeat (first | refine blk_drewN ?_ _ | refine blk_drew ?_ | refine blk_alloc ?_ _)); refine blk_far ?_ NB262_270.out _; (with_reducible repeat (first | refine blk_drewN ?_ _ | refine blk_drew ?_ | refine blk_alloc ?_ _)); exact BK262.out⟩, ⟨by (with_reducible repeat (first | refine blk_drewN ?_ _ | refine blk_drew ?_ | refine blk_alloc ?_ _)); refine blk_put (cs := #[.slice Ao17 t267.length co17]) ?_ 0 _ rfl; (with_reducible repeat (first | refine blk_drewN ?_ _ | refine blk_drew ?_ | refine blk_alloc ?_ _)); exact BK270.out⟩, ⟨Cmp.g HB.out⟩⟩
           ·rw [if_neg c89] at H; exact absurd H (by simp)
          ·rw [if_neg c86] at H; exact absurd H (by simp)
         ·rw [if_neg c85] at H; exact absurd H (by simp)
        ·rw [if_neg c84] at H; exact absurd H (by simp)
       ·rw [if_neg c83] at H; exact absurd H (by simp)
  case rest =>
   clear HC8; (try clear c1); (try clear p2); (try clear c4); (try clear c8); (try clear c9); (try clear q9); (try clear c83); (try clear c84); (try clear c85); (try clear c86); (try clear c89); (try clear q92); (try clear c93); (try clear q93); (try clear q093); (try clear q92); (try clear q93)
   obtain ⟨kq, x271000_7, u271000, HA, HJ7, HO_271000, BK261, BK262, BK270, HB⟩ := hcut
   cases kq with
   | zero => exact absurd HA.out (by simp [impl_PutEntry.j1])
   | succ kj7 =>
    have H := HA.out; clear HA
    simp only [impl_PutEntry.j1] at H
    replace H := Option.bind_eq_some_iff.mp H; obtain ⟨t328, A1050, H⟩ := H; (try dsimp only at H); have A105 := Aside0.mk A1050; clear A1050
    by_cases c106 : t328 = true
    ·subst c106; rw [if_pos rfl] at H
     simp only [Option.some.injEq, Prod.mk.injEq] at H
     obtain ⟨rfl, rfl⟩ := H; have hnb107 := NB270_261.out; have hnc107 := NB261_270.out; have hnb108 := NB270_262.out; have hnc108 := NB262_270.out
     have hcz109_0 : wc.cell? ⟨gb270, 0, none⟩ = some (u271000) := (blk_cell BK270.out 0).trans rfl
     have hfz109_0 := blk_frozen BK270.out 0
     obtain ⟨Ao110, co110, eo110⟩ := Kd.R_slice HO_271000.out
     subst eo110
     go_wp2_with (first | ((with_reducible refine gate_callee (f := 46) rfl ?_); refine goesL_ (some 83) rfl rfl Try.func46 (by kernel_rfl) rfl #[.agg #[.slice Ao110 x271000_7.length co110]] rfl Cmp.q ?_; (with_reducible refine (impl_IsBundle.calls kj7 _ _ x271000_7 true _ ?side1 ?side2 A105.out).mono ?_); (case side1 => exact Cmp.rc (Kd.R_reads' HO_271000.out).2.2); (case side2 => exact (Kd.R_reads' HO_271000.out).2.1); rintro e w111 ⟨rfl, hb⟩; refine ⟨_, rfl, ?_⟩; have n0_ := Aside0.mk (Kd.R_below (Cmp.rr HO_271000.out) hb); have n1_ := Aside0.mk (blk_below (Cmp.b BK261.out) hb); have n2_ := Aside0.mk (blk_below (Cmp.b BK262.out) hb); have n3_ := Aside0.mk (blk_below (Cmp.b BK270.out) hb); have n4_ := Aside0.mk (below_step (Cmp.g HB.out) hb); clear HO_271000; clear BK261; clear BK262; clear BK270; clear HB; have HO_271000 := n0_; have BK261 := n1_; have BK262 := n2_; have BK270 := n3_; have HB := n4_; clear n0_ n1_ n2_ n3_ n4_; (try clear hb); (try clear hb2); (try clear hk); (try clear hi); have hcz112_0 : w111.cell? ⟨gb270, 0, none⟩ = some (.slice Ao110 x271000_7.length co110) := (blk_cell BK270.out 0).trans rfl; have hfz112_0 := blk_frozen BK270.out 0; have hnb113 := NB262_261.out; have hnc113 := NB261_262.out; have hcz114_0 : w111.cell? ⟨gb262, 0, none⟩ = some (.slice none 0 0) := (blk_cell BK262.out 0).trans rfl; have hfz114_0 := blk_frozen BK262.out 0))
     refine bodyPost_ret (results_ct rfl _ _ gb262 39 #[.slice Ao110 x271000_7.length co110] (0, 0) _ rfl (by (with_reducible repeat (first | refine blk_drewN ?_ _ | refine blk_drew ?_ | refine blk_alloc ?_ _)); refine blk_put (cs := #[.slice none 0 0]) ?_ 0 _ rfl; (with_reducible repeat (first | refine blk_drewN ?_ _ | refine blk_drew ?_ | refine blk_alloc ?_ _)); exact BK262.out) Try.underlying39 rfl (by kernel_rfl)) rfl ?_
     exact ⟨_, by first | rfl | (simp [errW_none, errW_some] <;> rfl) | (simp [*, errW_none, errW_some] <;> rfl), by (with_reducible repeat (first | apply Kd.R_alloc | apply Kd.R_drewN | apply Kd.R_drew)); exact Kd.R_mono (Kd.R_far (p := ⟨gb262, 0, none⟩) (Kd.R_types HO_271000.out BK262.out (by decide)) (fun _ hk => hk.2) (.slice Ao110 x271000_7.length co110)) (fun _ hk => trivial), Cmp.g HB.out⟩
    ·replace c106 := Bool.eq_false_iff.mpr c106
     subst c106
     have H1 : ((impl_copyBundle.f l0_0).bind fun t329 => (some (t329, false))) = some (r1, r2) := by rw [if_neg (show ¬ (false = true) by decide)] at H; exact H
     clear H; have H := H1; clear H1; replace H := Option.bind_eq_some_iff.mp H; obtain ⟨t329, A1150, H⟩ := H; (try dsimp only at H); have A115 := Aside0.mk A1150; clear A1150
     simp only [Option.some.injEq, Prod.mk.injEq] at H
     obtain ⟨rfl, rfl⟩ := H; have hnb116 := NB270_261.out; have hnc116 := NB261_270.out; have hnb117 := NB270_262.out; have hnc117 := NB262_270.out
     have hcz118_0 : wc.cell? ⟨gb270, 0, none⟩ = some (u271000) := (blk_cell BK270.out 0).trans rfl
     have hfz118_0 := blk_frozen BK270.out 0
     obtain ⟨Ao119, co119, eo119⟩ := Kd.R_slice HO_271000.out
     subst eo119
     go_wp2_with (first | ((with_reducible refine gate_callee (f := 46) rfl ?_); refine goesL_ (some 83) rfl rfl Try.func46 (by kernel_rfl) rfl #[.agg #[.slice Ao119 x271000_7.length co119]] rfl Cmp.q ?_; (with_reducible refine (impl_IsBundle.calls kj7 _ _ x271000_7 false _ ?side1 ?side2 A105.out).mono ?_); (case side1 => exact Cmp.rc (Kd.R_reads' HO_271000.out).2.2); (case side2 => exact (Kd.R_reads' HO_271000.out).2.1); rintro e w120 ⟨rfl, hb⟩; refine ⟨_, rfl, ?_⟩; have n0_ := Aside0.mk (Kd.R_below (Cmp.rr HO_271000.out) hb); have n1_ := Aside0.mk (blk_below (Cmp.b BK261.out) hb); have n2_ := Aside0.mk (blk_below (Cmp.b BK262.out) hb); have n3_ := Aside0.mk (blk_below (Cmp.b BK270.out) hb); have n4_ := Aside0.mk (below_step (Cmp.g HB.out) hb); clear HO_271000; clear BK261; clear BK262; clear BK270; clear HB; have HO_271000 := n0_; have BK261 := n1_; have BK262 := n2_; have BK270 := n3_; have HB := n4_; clear n0_ n1_ n2_ n3_ n4_; (try clear hb); (try clear hb2); (try clear hk); (try clear hi); have hnb121 := NB261_262.out; have hnc121 := NB262_261.out; have hcz122_0 : w120.cell? ⟨gb261, 0, none⟩ = some (.slice A0_0 l0_0.length c0_0) := (blk_cell BK261.out 0).trans rfl; have hfz122_0 := blk_frozen BK261.out 0) | ((with_reducible refine gate_callee (f := 47) rfl ?_); refine goesL_ (some 86) rfl rfl Try.func47 (by kernel_rfl) rfl #[.agg #[.slice A0_0 l0_0.length c0_0]] rfl Cmp.q ?_; (with_reducible refine (impl_copyBundle.calls _ _ l0_0 t329 _ ?side1 ?side2 A115.out).mono ?_); (case side1 => exact Cmp.rc (Kd.C_below HR0_0.out HB.out)); (case side2 => exact HC0_0.out); rintro e w123 ⟨v330, rfl, ho0, hb⟩; refine ⟨_, rfl, ?_⟩; have n0_ := Aside0.mk (Kd.R_elder' (Cmp.rr HO_271000.out) (Kd.R_base ho0) hb); have n1_ := Aside0.mk (Kd.R_lower (Kd.R_new' ho0 (Kd.R_lt (Cmp.rr HO_271000.out))) (below_size (Cmp.g HB.out))); have n2_ := Aside0.mk (blk_below (Cmp.b BK261.out) hb); have n3_ := Aside0.mk (blk_below (Cmp.b BK262.out) hb); have n4_ := Aside0.mk (blk_below (Cmp.b BK270.out) hb); have n5_ := Aside0.mk (below_step (Cmp.g HB.out) hb); clear HO_271000; clear BK261; clear BK262; clear BK270; clear HB; have HO_271000 := n0_; have HO331 := n1_; have BK261 := n2_; have BK262 := n3_; have BK270 := n4_; have HB := n5_; clear n0_ n1_ n2_ n3_ n4_ n5_; (try clear hb); (try clear hb2); (try clear hk); (try clear hi); (try clear ho0); obtain ⟨Ao124, co124, eo124⟩ := Kd.R_slice HO331.out; subst eo124; have hcz125_0 : w123.cell? ⟨gb262, 0, none⟩ = some (.slice none 0 0) := (blk_cell BK262.out 0).trans rfl; have hfz125_0 := blk_frozen BK262.out 0))
     refine bodyPost_ret (results_ct rfl _ _ gb262 39 #[.slice Ao124 t329.length co124] (0, 0) _ rfl (by (with_reducible repeat (first | refine blk_drewN ?_ _ | refine blk_drew ?_ | refine blk_alloc ?_ _)); refine blk_put (cs := #[.slice none 0 0]) ?_ 0 _ rfl; (with_reducible repeat (first | refine blk_drewN ?_ _ | refine blk_drew ?_ | refine blk_alloc ?_ _)); exact BK262.out) Try.underlying39 rfl (by kernel_rfl)) rfl ?_
     exact ⟨_, by first | rfl | (simp [errW_none, errW_some] <;> rfl) | (simp [*, errW_none, errW_some] <;> rfl), by (with_reducible repeat (first | apply Kd.R_alloc | apply Kd.R_drewN | apply Kd.R_drew)); exact Kd.R_mono (Kd.R_far (p := ⟨gb262, 0, none⟩) (Kd.R_types HO331.out BK262.out (by decide)) (fun _ hk => hk.2) (.slice Ao124 t329.length co124)) (fun _ hk => trivial), Cmp.g HB.out⟩
 ·replace c5 := Bool.eq_false_iff.mpr c5
  subst c5
  have H1 : ((impl_copyBundle.f l0_0).bind fun t264 => (some (t264, false))) = some (r1, r2) := by rw [if_neg (show ¬ (false = true) by decide)] at H; exact H
  clear H; have H := H1; clear H1; replace H := Option.bind_eq_some_iff.mp H; obtain ⟨t264, A1260, H⟩ := H; (try dsimp only at H); have A126 := Aside0.mk A1260; clear A1260
  simp only [Option.some.injEq, Prod.mk.injEq] at H
  obtain ⟨rfl, rfl⟩ := H
  go_enter Try.func29, Try.ntmps29
  go_wp2_with (first | ((with_reducible refine gate_dst (N := 3) rfl ?_); refine box_event ?hg (N := 3) ?hd (cs := #[.slice A0_0 l0_0.length c0_0]) (t := 39) ?hr ?_; (case hd => rfl); (case hg => rfl); (case hr => first | (go_simp; done) | (go_simp; rfl)); intro gb261 hg w127 hbox hb; have n0_ := Aside0.mk (below_step (Cmp.g HB.out) hb); have n1_ := Aside0.mk (hbox); have n2_ := Aside0.mk ((by rw [hg]; exact (below_size (Cmp.g HB.out)) : w.heap.size ≤ gb261)); have n3_ := Aside0.mk ((by rw [hg]; exact (below_size (Cmp.g HB.out)) : w.heap.size ≤ gb261)); clear HB; have HB := n0_; have BK261 := n1_; have GW261 := n2_; have GE261 := n3_; clear n0_ n1_ n2_ n3_; clear hb hbox hg) | ((with_reducible refine gate_dst (N := 6) rfl ?_); refine box_event ?hg (N := 6) ?hd (cs := #[.slice none 0 0]) (t := 39) ?hr ?_; (case hd => rfl); (case hg => rfl); (case hr => first | (go_simp; done) | (go_simp; rfl)); intro gb262 hg w128 hbox hb; have n0_ := Aside0.mk (blk_below (Cmp.b BK261.out) hb); have n1_ := Aside0.mk (below_step (Cmp.g HB.out) hb); have n2_ := Aside0.mk (hbox); have n3_ := Aside0.mk ((by rw [hg]; exact (below_size (Cmp.g HB.out)) : w.heap.size ≤ gb262)); have n4_ := Aside0.mk ((by rw [hg]; exact (below_size (Cmp.g HB.out)) : w.heap.size ≤ gb262)); have n5_ := Aside0.mk ((by rw [hg]; exact Nat.ne_of_lt (blk_lt (Cmp.b BK261.out)) : gb261 ≠ gb262)); have n6_ := Aside0.mk ((by rw [hg]; exact Nat.ne_of_gt (blk_lt (Cmp.b BK261.out)) : gb262 ≠ gb261)); clear BK261; clear HB; have BK261 := n0_; have HB := n1_; have BK262 := n2_; have GW262 := n3_; have GE262 := n4_; have NB261_262 := n5_; have NB262_261 := n6_; clear n0_ n1_ n2_ n3_ n4_ n5_ n6_; clear hb hbox hg; have hnb129 := NB261_262.out; have hnc129 := NB262_261.out; have hcz130_0 : w128.cell? ⟨gb261, 0, none⟩ = some (.slice A0_0 l0_0.length c0_0) := (blk_cell BK261.out 0).trans rfl; have hfz130_0 := blk_frozen BK261.out 0) | ((with_reducible refine gate_callee (f := 46) rfl ?_); refine goesL_ (some 13) rfl rfl Try.func46 (by kernel_rfl) rfl #[.agg #[.slice A0_0 l0_0.length c0_0]] rfl Cmp.q ?_; (with_reducible refine (impl_IsBundle.calls k _ _ l0_0 false _ ?side1 ?side2 A4.out).mono ?_); (case side1 => exact Cmp.rc (Kd.C_below HR0_0.out HB.out)); (case side2 => exact HC0_0.out); rintro e w131 ⟨rfl, hb⟩; refine ⟨_, rfl, ?_⟩; have n0_ := Aside0.mk (blk_below (Cmp.b BK261.out) hb); have n1_ := Aside0.mk (blk_below (Cmp.b BK262.out) hb); have n2_ := Aside0.mk (below_step (Cmp.g HB.out) hb); clear BK261; clear BK262; clear HB; have BK261 := n0_; have BK262 := n1_; have HB := n2_; clear n0_ n1_ n2_; (try clear hb); (try clear hb2); (try clear hk); (try clear hi); have hcz132_0 : w131.cell? ⟨gb261, 0, none⟩ = some (.slice A0_0 l0_0.length c0_0) := (blk_cell BK261.out 0).trans rfl; have hfz132_0 := blk_frozen BK261.out 0) | ((with_reducible refine gate_callee (f := 47) rfl ?_); refine goesL_ (some 16) rfl rfl Try.func47 (by kernel_rfl) rfl #[.agg #[.slice A0_0 l0_0.length c0_0]] rfl Cmp.q ?_; (with_reducible refine (impl_copyBundle.calls _ _ l0_0 t264 _ ?side1 ?side2 A126.out).mono ?_); (case side1 => exact Cmp.rc (Kd.C_below HR0_0.out HB.out)); (case side2 => exact HC0_0.out); rintro e w133 ⟨v265, rfl, ho0, hb⟩; refine ⟨_, rfl, ?_⟩; have n0_ := Aside0.mk (Kd.R_lower ho0 (below_size (Cmp.g HB.out))); have n1_ := Aside0.mk (blk_below (Cmp.b BK261.out) hb); have n2_ := Aside0.mk (blk_below (Cmp.b BK262.out) hb); have n3_ := Aside0.mk (below_step (Cmp.g HB.out) hb); clear BK261; clear BK262; clear HB; have HO266 := n0_; have BK261 := n1_; have BK262 := n2_; have HB := n3_; clear n0_ n1_ n2_ n3_; (try clear hb); (try clear hb2); (try clear hk); (try clear hi); (try clear ho0); obtain ⟨Ao134, co134, eo134⟩ := Kd.R_slice HO266.out; subst eo134; have hcz135_0 : w133.cell? ⟨gb262, 0, none⟩ = some (.slice none 0 0) := (blk_cell BK262.out 0).trans rfl; have hfz135_0 := blk_frozen BK262.out 0))
  refine bodyPost_ret (results_ct rfl _ _ gb262 39 #[.slice Ao134 t264.length co134] (0, 0) _ rfl (by (with_reducible repeat (first | refine blk_drewN ?_ _ | refine blk_drew ?_ | refine blk_alloc ?_ _)); refine blk_put (cs := #[.slice none 0 0]) ?_ 0 _ rfl; (with_reducible repeat (first | refine blk_drewN ?_ _ | refine blk_drew ?_ | refine blk_alloc ?_ _)); exact BK262.out) Try.underlying39 rfl (by kernel_rfl)) rfl ?_
  exact ⟨_, by first | rfl | (simp [errW_none, errW_some] <;> rfl) | (simp [*, errW_none, errW_some] <;> rfl), by (with_reducible repeat (first | apply Kd.R_alloc | apply Kd.R_drewN | apply Kd.R_drew)); exact Kd.R_mono (Kd.R_far (p := ⟨gb262, 0, none⟩) (Kd.R_types HO266.out BK262.out (by decide)) (fun _ hk => hk.2) (.slice Ao134 t264.length co134)) (fun _ hk => trivial), Cmp.g HB.out⟩

end Go.Proofs.Ytnifeegdkhmakaa.PFnExactPutEntry
